import PyProof.Rows.All
import Wide.All
import OpenK.AllK
import Wide.FinOn
import HandS.ForMost
import HandS.Wide
import HandS.WideBits
import HandS.Walk
import HandS.SortInts
import HandS.TupAny
import HandS.Rev
import HandS.Deep
import HandS.Style
import HandS.TupMul
import HandS.IsInst
import HandS.NoneIn
import HandS.Dict
import HandS.DictComp
import HandS.Iter
import HandS.SortRule
import KE.KeyNested
import KE.KDictSum
import KE.KDictCopyH
import KE.DataMinMax
import KE.SortData
import HandS.TupLen
import HandS.DictTup
import HandS.Defaults
import PySem.Challenge.RW_curvetally_k31_whole_killed_points
set_option Elab.async false
set_option linter.all false
set_option maxRecDepth 100000
set_option maxHeartbeats 4000000
/-! DN, part a: dicts whose keys are None, whole numbers and tuples of any depth, all together; at the model's level. -/
namespace DN
open PySem PySem.Spec PyProof.Rows L2

/-- a value that may be a key here -/
structure IsKey (h : Heap) (k : NestedKey) (v : Value) : Prop where
  is : NestedIs h k v
  dp : k.depth ≤ 8
  nt : ∀ x, k ≠ .text x
abbrev Row := NestedKey × Value × Value
def ent (w : World) (x : Row) : DictEntry := ⟨x.1.hash w, x.2.1, x.2.2⟩
/-- the rows, the key's own value kept -/
def rowPut (k : NestedKey) (v : Value) (x : Row) : Row := if x.1 = k then (x.1, x.2.1, v) else x
def rowAt (xs : List Row) (k : NestedKey) : Option Value := (xs.find? fun x => decide (x.1 = k)).map (·.2.2)
def rowSet (xs : List Row) (k : NestedKey) (kv v : Value) : List Row := if (rowAt xs k).isSome = true then xs.map (rowPut k v) else xs ++ [(k, kv, v)]
def Dict (w : World) (h : Heap) (d : Addr) (xs : List Row) : Prop :=
  ∃ o es ep, h.get? d = some o ∧ o.ExactDict ∧ o.data = .dict es ep ∧ es.toList = xs.map (ent w) ∧ (∀ x ∈ xs, IsKey h x.1 x.2.1) ∧ (xs.map (·.1)).Nodup

theorem IsKey.shape {h : Heap} {k : NestedKey} {v : Value} (x : IsKey h k v) : v = .none ∨ (∃ b, v = .bool b) ∨ (∃ i t, v = .int i t) ∨ ∃ a, v = .ref a := by
  obtain ⟨x, _, n⟩ := x
  cases x with
  | none => exact .inl rfl
  | bool e => exact .inr (.inl ⟨_, rfl⟩)
  | int i t => exact .inr (.inr (.inl ⟨_, _, rfl⟩))
  | text y t => exact absurd rfl (n y)
  | tup => exact .inr (.inr (.inr ⟨_, rfl⟩))
theorem IsKey.keep {h h' : Heap} {k : NestedKey} {v : Value} (x : IsKey h k v) (e : ∀ a o vs n, h.get? a = some o → o.data = .seq vs n → h'.get? a = some o) : IsKey h' k v := ⟨NestedIs.at e k v x.is, x.dp, x.nt⟩
theorem IsKey.inj {h : Heap} {k j : NestedKey} {v : Value} (x : IsKey h k v) (y : IsKey h j v) : k = j := NestedIs.inj _ _ _ x.is y.is

theorem at_of_get {xs : List Row} (hn : (xs.map (·.1)).Nodup) {i : Nat} {k : NestedKey} {p : Value × Value} (hx : xs[i]? = some (k, p)) : rowAt xs k = some p.2 := by
  have hm : (k, p) ∈ xs := List.mem_of_getElem? hx
  unfold rowAt
  cases e : xs.find? fun x => decide (x.1 = k) with
  | none => exact absurd (decide_eq_true (rfl : k = k)) (List.find?_eq_none.mp e _ hm)
  | some y =>
    have h1 := List.mem_of_find?_eq_some e
    have h2 : y.1 = k := by simpa using List.find?_some e
    obtain ⟨j, hj⟩ := List.mem_iff_getElem?.mp h1
    have a : (xs.map (·.1))[i]? = some k := by rw [List.getElem?_map, hx]; rfl
    have b : (xs.map (·.1))[j]? = some k := by rw [List.getElem?_map, hj]; exact congrArg some h2
    have : i = j := (List.getElem?_inj (List.getElem?_eq_some_iff.mp a).1 hn).mp (a.trans b.symm)
    rw [← this, hx] at hj
    cases hj
    rfl
theorem at_none {xs : List Row} {k : NestedKey} (h : ∀ (j : Nat) (p : Value × Value), xs[j]? ≠ some (k, p)) : rowAt xs k = none := by
  unfold rowAt
  rw [List.find?_eq_none.mpr, Option.map_none]
  intro x hx hk
  obtain ⟨j, hj⟩ := List.mem_iff_getElem?.mp hx
  have e : x.1 = k := of_decide_eq_true hk
  exact h j x.2 (by rw [hj, ← e])
theorem idx_uniq {xs : List Row} (hn : (xs.map (·.1)).Nodup) {i j : Nat} {k : NestedKey} {p q : Value × Value} (hi : xs[i]? = some (k, p)) (hj : xs[j]? = some (k, q)) : i = j := by
  have a : (xs.map (·.1))[i]? = some k := by rw [List.getElem?_map, hi]; rfl
  have b : (xs.map (·.1))[j]? = some k := by rw [List.getElem?_map, hj]; rfl
  exact (List.getElem?_inj (List.getElem?_eq_some_iff.mp a).1 hn).mp (a.trans b.symm)

section
variable {prog : Program} {w : World} {A : Around} {E : Value → Shared → Prop} {s : Shared}
theorem hash_key {k : NestedKey} {v : Value} {Q : Int → Shared → Prop} (hu : A.units + 8 < cLine) (x : IsKey s.heap k v) (h : Q (k.hash w) { s with toks := s.toks + k.draws }) : wpAny (model prog w) A (pyHash v) Q E s :=
  pyHash_key k v A s Q x.is (by have := x.dp; omega) h
theorem eq_key {x y : NestedKey} {u v : Value} {Q : Bool → Shared → Prop} (hu : A.units + 8 < cLine) (hx : IsKey s.heap x u) (hy : IsKey s.heap y v) (h : Q (decide (x = y)) s) : wpAny (model prog w) A (eqBool u v) Q E s :=
  eqAt_key x y A s _ _ hx.is hy.is (by have := hx.dp; omega) _ _ _ _ (by rw [← NestedKey.decide_eq]; exact h)
theorem quiet {k : NestedKey} {v : Value} {Q : Bool → Shared → Prop} (x : IsKey s.heap k v) (h : Q true s) : wpAny (model prog w) A (eqIsQuiet 8 v) Q E s := quiet_key k v 8 s x.is x.dp A E Q h
theorem tells {v : Value} {k : NestedKey} {stored : List Value} {Q : Bool → Shared → Prop} (x : IsKey s.heap k v) (hst : ∀ v ∈ stored, ∃ k', IsKey s.heap k' v) (h : Q false s) : wpAny (model prog w) A (tableMayTell v stored) Q E s := by
  unfold tableMayTell
  split
  · exact wpAny_pure h
  · refine wpAny_bind (quiet x ?_)
    simp only [Bool.not_true, Bool.false_eq_true, if_false]
    refine wpAny_bind ?_
    refine wpAny_forIn_list _ (fun rest r s' => s' = s ∧ r = (none, ()) ∧ ∀ v ∈ rest, ∃ k', IsKey s.heap k' v) _ ?_ ?_ _ _ ⟨rfl, rfl, hst⟩
    · rintro y rest r s' ⟨rfl, rfl, hr⟩
      obtain ⟨k', hb⟩ := hr y List.mem_cons_self
      refine wpAny_bind (quiet hb ?_)
      simp only [Bool.not_true, Bool.false_eq_true, if_false]
      exact wpAny_pure ⟨rfl, rfl, fun v hv => hr v (List.mem_cons_of_mem _ hv)⟩
    · rintro r s' ⟨rfl, rfl, _⟩
      exact wpAny_pure h
end
end DN
namespace DN
open PySem PySem.Spec PyProof.Rows L2
section
variable {prog : Program} {w : World} {A : Around} {E : Value → Shared → Prop} {s : Shared}
theorem find {d : Addr} {o : Obj} {es : Array DictEntry} {ep : Nat} {xs : List Row} {k : NestedKey} {v : Value} {Q : Option Nat → Shared → Prop} (hu : A.units + 8 < cLine) (hk : IsKey s.heap k v)
    (ho : s.heap.get? d = some o) (hd : o.data = .dict es ep) (he : es.toList = xs.map (ent w)) (his : ∀ x ∈ xs, IsKey s.heap x.1 x.2.1) (hn : (xs.map (·.1)).Nodup)
    (hnone : (∀ (j : Nat) (p : Value × Value), xs[j]? ≠ some (k, p)) → Q none s) (hsome : ∀ (j : Nat) (p : Value × Value), xs[j]? = some (k, p) → Q (some j) s) :
    wpAny (model prog w) A (dictFind d v (k.hash w)) Q E s := by
  have at_ : ∀ j, es[j]? = (xs[j]?).map (ent w) := fun j => by rw [← Array.getElem?_toList, he, List.getElem?_map]
  have hsz : es.size = xs.length := by rw [← Array.length_toList, he, List.length_map]
  have haskey : ∀ (j : Nat) (p : Value × Value), xs[j]? = some (k, p) → ((es[j]?.map (·.hash)) == some (k.hash w)) = true := fun j p hj => by
    rw [at_ j, hj]
    simp [ent]
  have hmem : ∀ e ∈ es, ∃ x ∈ xs, e = ent w x := fun e hin => by
    have : e ∈ xs.map (ent w) := he ▸ Array.mem_toList_iff.mpr hin
    obtain ⟨x, hx, rfl⟩ := List.mem_map.mp this
    exact ⟨x, hx, rfl⟩
  have hst : ∀ v ∈ (placesWithHash es.size (fun i => es[i]?.map (·.hash)) (k.hash w)).filterMap (fun i => es[i]?.map (·.key)), ∃ k', IsKey s.heap k' v := fun v hv => by
    obtain ⟨i, _, hi⟩ := List.mem_filterMap.mp hv
    cases hei : es[i]? with
    | none => rw [hei] at hi; cases hi
    | some e =>
      rw [hei] at hi
      obtain rfl : e.key = v := by simpa using hi
      obtain ⟨x, hx, rfl⟩ := hmem e (Array.mem_of_getElem? hei)
      exact ⟨x.1, his x hx⟩
  -- what is known of the places gone by
  have hyp : (placesWithHash es.size (fun i => es[i]?.map (·.hash)) (k.hash w)) = (List.range' 0 (es.size - 0)).filter (fun i => (es[i]?.map (·.hash)) == some (k.hash w)) := by
    rw [placesWithHash, List.range_eq_range', Nat.sub_zero]
  have next : ∀ {i x : Nat} {rest : List Nat}, (List.range' i (es.size - i)).filter (fun i => (es[i]?.map (·.hash)) == some (k.hash w)) = x :: rest → (∀ j p, j < i → xs[j]? ≠ some (k, p)) →
      x < es.size ∧ rest = (List.range' (x + 1) (es.size - (x + 1))).filter (fun i => (es[i]?.map (·.hash)) == some (k.hash w)) ∧ ∀ j p, j < x → xs[j]? ≠ some (k, p) := fun {i x rest} hr hno => by
    obtain ⟨hix, hxn, hpx, hskip, hrest⟩ := filter_range'_cons _ _ _ _ _ hr
    have hlt : x < es.size := by omega
    refine ⟨hlt, by rw [hrest]; congr 2; omega, fun j p hjx hj => ?_⟩
    rcases Nat.lt_or_ge j i with h | h
    · exact hno j p h hj
    · have := hskip j h hjx
      rw [haskey j p hj] at this
      cases this
  have done : ∀ {i : Nat}, [] = (List.range' i (es.size - i)).filter (fun i => (es[i]?.map (·.hash)) == some (k.hash w)) → (∀ j p, j < i → xs[j]? ≠ some (k, p)) → ∀ (j : Nat) (p : Value × Value), xs[j]? ≠ some (k, p) := fun {i} hr hno j p hj => by
    rcases Nat.lt_or_ge j i with h | h
    · exact hno j p h hj
    · have hjl : j < es.size := by
        rw [hsz]
        rcases Nat.lt_or_ge j xs.length with h' | h'
        · exact h'
        · rw [List.getElem?_eq_none h'] at hj; cases hj
      have := List.filter_eq_nil_iff.mp hr.symm j (List.mem_range'_1.mpr ⟨h, by omega⟩)
      exact this (haskey j p hj)
  have get : ∀ {x : Nat}, x < es.size → ∃ k' b v', xs[x]? = some (k', b, v') ∧ IsKey s.heap k' b ∧ es[x]? = some ⟨k'.hash w, b, v'⟩ := fun {x} hlt => by
    obtain ⟨⟨k', b, v'⟩, hkv⟩ : ∃ y, xs[x]? = some y := ⟨xs[x]'(by rw [← hsz]; exact hlt), List.getElem?_eq_getElem _⟩
    exact ⟨k', b, v', hkv, his _ (List.mem_of_getElem? hkv), by rw [at_ x, hkv]; rfl⟩
  have no1 : ∀ {x : Nat} {k' : NestedKey} {b v' : Value}, xs[x]? = some (k', b, v') → ¬ k' = k → (∀ j p, j < x → xs[j]? ≠ some (k, p)) → ∀ j p, j < x + 1 → xs[j]? ≠ some (k, p) := fun {x k' b v'} hkv hne hno j p hjx hj => by
    rcases Nat.lt_or_ge j x with h | h
    · exact hno j p h hj
    · have : j = x := by omega
      subst this
      rw [hkv] at hj
      injection hj with hj
      injection hj with hj
      exact hne hj
  have plain : wpAny (model prog w) A (dictWalkPlain d v (k.hash w) es (placesWithHash es.size (fun i => es[i]?.map (·.hash)) (k.hash w))) Q E s := by
    unfold dictWalkPlain
    refine wpAny_bind ?_
    refine wpAny_forIn_list _ (fun rest b s' => s' = s ∧ ∃ i, b = (none, ()) ∧ rest = (List.range' i (es.size - i)).filter (fun i => (es[i]?.map (·.hash)) == some (k.hash w)) ∧ ∀ j p, j < i → xs[j]? ≠ some (k, p)) _ ?_ ?_ _ _
      ⟨rfl, 0, rfl, hyp, fun _ _ h => absurd h (Nat.not_lt_zero _)⟩
    · rintro x rest b s' ⟨rfl, i, rfl, hr, hno⟩
      obtain ⟨hlt, hrest, hno'⟩ := next hr.symm hno
      obtain ⟨k', b, v', hkv, hib, hex⟩ := get hlt
      rw [hex]
      dsimp only
      by_cases hh : (k'.hash w == k.hash w) = true
      · rw [if_pos hh]
        refine wpAny_bind (wpAny_dictEpoch ho hd (wpAny_bind (eq_key hu hib hk (wpAny_bind (wpAny_dictEpoch ho hd ?_)))))
        rw [if_neg (by simp)]
        by_cases hkk : k' = k
        · rw [if_pos (decide_eq_true hkk)]
          subst hkk
          exact wpAny_bind (wpAny_rule (wpAny_pure (wpAny_pure (hsome x _ hkv))))
        · rw [if_neg (by rw [decide_eq_false hkk]; decide)]
          exact wpAny_bind (wpAny_rule (wpAny_pure ⟨rfl, x + 1, rfl, hrest, no1 hkv hkk hno'⟩))
      · rw [if_neg hh]
        refine wpAny_pure ⟨rfl, x + 1, rfl, hrest, no1 hkv (fun z => hh ?_) hno'⟩
        rw [z]; exact beq_self_eq_true _
    · rintro b s' ⟨rfl, i, rfl, hr, hno⟩
      exact wpAny_pure (hnone (done hr hno))
  have next2 : ∀ {i x : Nat} {rest : List Nat}, (List.range' i (es.size - i)).filter (fun i => (es[i]?.map (·.hash)) == some (k.hash w)) = x :: rest →
      x < es.size ∧ i ≤ x ∧ rest = (List.range' (x + 1) (es.size - (x + 1))).filter (fun i => (es[i]?.map (·.hash)) == some (k.hash w)) := fun {i x rest} hr => by
    obtain ⟨hix, hxn, _, _, hrest⟩ := filter_range'_cons _ _ _ _ _ hr
    exact ⟨by omega, hix, by rw [hrest]; congr 2; omega⟩
  by_cases hall : (v :: (placesWithHash es.size (fun i => es[i]?.map (·.hash)) (k.hash w)).filterMap (fun i => es[i]?.map (·.key))).all carriedByValue = true
  · rcases hk.shape with rfl | ⟨b, rfl⟩ | ⟨i, t, rfl⟩ | ⟨a, rfl⟩
    all_goals
      unfold dictFind
      refine wpAny_holding ?_
      refine wpAny_bind (wpAny_dictEntries ho hd ?_)
      dsimp only
      rw [if_pos hall]
      exact plain
  by_cases hone : (((placesWithHash es.size (fun i => es[i]?.map (·.hash)) (k.hash w)).filterMap (fun i => es[i]?.map (·.key))) == [v]) = true
  all_goals
    rcases hk.shape with rfl | ⟨b, rfl⟩ | ⟨i, t, rfl⟩ | ⟨a, rfl⟩
  all_goals
    unfold dictFind
    refine wpAny_holding ?_
    refine wpAny_bind (wpAny_dictEntries ho hd ?_)
    dsimp only
    rw [if_neg hall]
  all_goals
    first
      | rw [if_pos hone]
      | rw [if_neg hone]
      | skip
  all_goals
    first
      | rw [if_neg (show ¬ (es.any fun e => e.key == Value.ref a && e.hash != k.hash w) = true by
          rw [← Array.any_toList, List.any_eq_true]
          rintro ⟨e, hin, hc⟩
          obtain ⟨x, hx, rfl⟩ := hmem e (Array.mem_toList_iff.mp hin)
          simp only [ent, Bool.and_eq_true, beq_iff_eq, bne_iff_ne, ne_eq] at hc
          obtain ⟨hxa, hne⟩ := hc
          have := his x hx
          rw [hxa] at this
          exact hne (by rw [this.inj hk]))]
      | skip
  all_goals
    first
      | rw [if_pos hone]
      | rw [if_neg hone]
      | skip
    first
      | refine wpAny_bind (wpAny_pure ?_)
      | refine wpAny_bind (tells hk hst ?_)
    rw [if_neg (by simp)]
    refine wpAny_bind ?_
    refine wpAny_forIn_list _
      (fun rest b s' => s' = s ∧ ∃ i hit, b = (none, hit) ∧ rest = (List.range' i (es.size - i)).filter (fun i => (es[i]?.map (·.hash)) == some (k.hash w)) ∧
        ((hit = none ∧ ∀ j p, j < i → xs[j]? ≠ some (k, p)) ∨ ∃ j p, hit = some j ∧ j < i ∧ xs[j]? = some (k, p))) _ ?_ ?_ _ _
      ⟨rfl, 0, none, rfl, hyp, .inl ⟨rfl, fun _ _ h => absurd h (Nat.not_lt_zero _)⟩⟩
    · rintro x rest b s' ⟨rfl, i, hit, rfl, hr, hH⟩
      obtain ⟨hlt, hix, hrest⟩ := next2 hr.symm
      obtain ⟨k', b, v', hkv, hib, hex⟩ := get hlt
      have stay : ¬ k' = k → ((hit = none ∧ ∀ j p, j < x + 1 → xs[j]? ≠ some (k, p)) ∨ ∃ j p, hit = some j ∧ j < x + 1 ∧ xs[j]? = some (k, p)) := fun hne => by
        rcases hH with ⟨h0, hno⟩ | ⟨j, p, h1, hji, hj⟩
        · exact .inl ⟨h0, no1 hkv hne (next hr.symm hno).2.2⟩
        · exact .inr ⟨j, p, h1, by omega, hj⟩
      rw [hex]
      dsimp only
      by_cases hh : (k'.hash w == k.hash w) = true
      · rw [if_pos hh]
        refine wpAny_bind (wpAny_dictEpoch ho hd (wpAny_bind (eq_key hu hib hk (wpAny_bind (wpAny_dictEpoch ho hd ?_)))))
        rw [if_neg (by simp)]
        by_cases hkk : k' = k
        · rw [if_pos (decide_eq_true hkk)]
          subst hkk
          rcases hH with ⟨rfl, _⟩ | ⟨j, p, _, hji, hj⟩
          · rw [if_neg (by simp)]
            refine wpAny_bind (wpAny_rule ?_)
            split
            · exact wpAny_pure (wpAny_pure (hsome x _ hkv))
            · exact wpAny_pure ⟨rfl, x + 1, some x, rfl, hrest, .inr ⟨x, _, rfl, Nat.lt_succ_self x, hkv⟩⟩
          · exact absurd (idx_uniq hn hj hkv) (by omega)
        · rw [if_neg (by rw [decide_eq_false hkk]; decide)]
          refine wpAny_bind (wpAny_rule ?_)
          rw [if_neg (by simp)]
          exact wpAny_pure ⟨rfl, x + 1, hit, rfl, hrest, stay hkk⟩
      · rw [if_neg hh]
        refine wpAny_pure ⟨rfl, x + 1, hit, rfl, hrest, stay fun z => hh ?_⟩
        rw [z]; exact beq_self_eq_true _
    · rintro b s' ⟨rfl, i, hit, rfl, hr, hH⟩
      rcases hH with ⟨rfl, hno⟩ | ⟨j, p, rfl, _, hj⟩
      · exact wpAny_pure (hnone (done hr hno))
      · exact wpAny_pure (hsome j p hj)
end
end DN
namespace DN
open PySem PySem.Spec PyProof.Rows L2
theorem IsKey.but {h h' : Heap} {k : NestedKey} {v : Value} {d : Addr} {o : Obj} {es : Array DictEntry} {ep : Nat} (x : IsKey h k v) (ho : h.get? d = some o) (hd : o.data = .dict es ep) (hs : Heap.SameBut d h h') : IsKey h' k v :=
  x.keep fun b ob vs n hb hc => by
    refine (hs.2 b fun e => ?_).trans hb
    subst e
    rw [ho] at hb
    cases hb
    rw [hd] at hc
    cases hc
theorem put_notin {k : NestedKey} {v : Value} : ∀ {xs : List Row}, k ∉ xs.map (·.1) → xs.map (rowPut k v) = xs
  | [], _ => rfl
  | x :: xs, h => by
    rw [List.map_cons, List.mem_cons, not_or] at h
    rw [List.map_cons, put_notin h.2, rowPut, if_neg fun e => h.1 e.symm]
theorem put_keys (k : NestedKey) (v : Value) (xs : List Row) : (xs.map (rowPut k v)).map (·.1) = xs.map (·.1) := by
  rw [List.map_map]
  refine List.map_congr_left fun x _ => ?_
  show (rowPut k v x).1 = x.1
  unfold rowPut
  split <;> rfl
theorem modify_put {w : World} {k : NestedKey} {v : Value} : ∀ {xs : List Row} {j : Nat} {p : Value × Value}, (xs.map (·.1)).Nodup → xs[j]? = some (k, p) → (xs.map (ent w)).modify j (fun e : DictEntry => { e with val := v }) = (xs.map (rowPut k v)).map (ent w)
  | [], _, _, _, h => by simp at h
  | x :: xs, 0, p, hn, h => by
    rw [List.getElem?_cons_zero] at h
    cases h
    rw [List.map_cons, List.nodup_cons] at hn
    rw [List.map_cons, List.map_cons, List.map_cons, put_notin hn.1, rowPut, if_pos rfl]
    rfl
  | x :: xs, j + 1, p, hn, h => by
    rw [List.getElem?_cons_succ] at h
    rw [List.map_cons, List.nodup_cons] at hn
    have hne : ¬ x.1 = k := fun e => hn.1 (List.mem_map.mpr ⟨(k, p), List.mem_of_getElem? h, e.symm⟩)
    have e : (xs.map (rowPut k v)).map (ent w) = (xs.map (ent w)).modify j fun e : DictEntry => { e with val := v } := (modify_put (w := w) (v := v) hn.2 h).symm
    rw [List.map_cons, List.map_cons, List.map_cons, e, rowPut, if_neg hne]
    rfl
theorem rowSet_len (xs : List Row) (k : NestedKey) (kv v : Value) : (rowSet xs k kv v).length ≤ xs.length + 1 := by
  unfold rowSet
  split
  · rw [List.length_map]; omega
  · rw [List.length_append]; exact Nat.le_refl _
theorem Dict.typeIs {w : World} {s : Shared} {d : Addr} {xs : List Row} (m : Dict w s.heap d xs) : s.TypeIs (.ref d) "dict" := let ⟨o, _, _, ho, hc, _⟩ := m; ⟨o, ho, hc.1⟩
theorem Dict.new {w : World} (h : Heap) : Dict w (h.push { cls := .type "dict", data := .dict #[] }) h.objs.size [] :=
  ⟨_, #[], 0, Heap.get?_push_size _ rfl, ⟨rfl, rfl, rfl⟩, rfl, rfl, fun _ hx => by simp at hx, List.nodup_nil⟩
section
variable {prog : Program} {w : World} {A : Around} {E : Value → Shared → Prop} {s : Shared} {d : Addr} {k : NestedKey} {v r : Value} {xs : List Row}
theorem getW {Q : Option Value → Shared → Prop} (hu : A.units + 8 < cLine) (hk : IsKey s.heap k v) (m : Dict w s.heap d xs) (h : Q (rowAt xs k) { s with toks := s.toks + k.draws }) : wpAny (model prog w) A (dictGet d v) Q E s := by
  obtain ⟨o, es, ep, ho, _, hd, he, his, hn⟩ := m
  unfold dictGet
  refine wpAny_holding ?_
  refine wpAny_bind (hash_key hu hk (wpAny_bind (find (s := { s with toks := s.toks + k.draws }) hu hk ho hd he his hn ?_ ?_)))
  · intro hno
    rw [at_none hno] at h
    exact wpAny_pure h
  · intro j p hj
    rw [at_of_get hn hj] at h
    refine wpAny_bind (wpAny_dictEntries (s := { s with toks := s.toks + k.draws }) ho hd ?_)
    rw [← Array.getElem?_toList, he, List.getElem?_map, hj]
    exact wpAny_pure h
theorem setH {Q : Unit → Shared → Prop} (hu : A.units + 8 < cLine) (hk : IsKey s.heap k v) (m : Dict w s.heap d xs) (hz : xs.length ≤ sizeLine)
    (h : ∀ h', Dict w h' d (rowSet xs k v r) → Heap.SameBut d s.heap h' → Q () { s with heap := h' }) : wpAny (model prog w) A (dictSetHashed d v (k.hash w) r) Q E s := by
  obtain ⟨o, es, ep, ho, hc, hd, he, his, hn⟩ := m
  have hsz : es.size = xs.length := by rw [← Array.length_toList, he, List.length_map]
  unfold dictSetHashed
  refine wpAny_holding ?_
  refine wpAny_bind (find hu hk ho hd he his hn ?_ ?_)
  · intro hno
    have e : rowSet xs k v r = xs ++ [(k, v, r)] := by unfold rowSet; rw [at_none hno]; rfl
    refine wpAny_bind (wpAny_rule (wpAny_updateDictKeys (hz := by omega) ho hd (h _ ⟨_, _, ep + 1, Heap.get?_update_self _ ho (Obj.isFreed_of_dict (Obj.data_mapDictKeys hd _)),
      hc.mapDictKeys _, Obj.data_mapDictKeys hd _, ?_, ?_, ?_⟩ (Heap.SameBut.update ..))))
    · rw [e]
      simp [he, ent]
    · rw [e]
      intro x hx
      rcases List.mem_append.mp hx with hx | hx
      · exact (his x hx).but ho hd (Heap.SameBut.update ..)
      · rw [List.mem_singleton.mp hx]
        exact hk.but ho hd (Heap.SameBut.update ..)
    · rw [e, List.map_append, List.nodup_append]
      refine ⟨hn, by simp, fun x hx y hy z => ?_⟩
      rw [List.map_cons, List.map_nil, List.mem_singleton] at hy
      subst hy
      subst z
      obtain ⟨q, hq, e⟩ := List.mem_map.mp hx
      obtain ⟨j, hj⟩ := List.mem_iff_getElem?.mp hq
      exact hno j q.2 (by rw [hj, ← e])
  · intro j p hj
    have e : rowSet xs k v r = xs.map (rowPut k r) := by unfold rowSet; rw [at_of_get hn hj]; rfl
    refine wpAny_bind (wpAny_rule (wpAny_bind (wpAny_updateDict ho hd (wpAny_point (h _ ⟨_, _, ep, Heap.get?_update_self _ ho (Obj.isFreed_of_dict (Obj.data_mapDict hd _)),
      hc.mapDict _, Obj.data_mapDict hd _, ?_, ?_, ?_⟩ (Heap.SameBut.update ..))))))
    · rw [e]
      have := modify_put (w := w) (v := r) hn hj
      rw [← he] at this
      obtain ⟨l⟩ := es
      simpa using this
    · rw [e]
      intro x hx
      obtain ⟨y, hy, rfl⟩ := List.mem_map.mp hx
      have : IsKey s.heap (rowPut k r y).1 (rowPut k r y).2.1 := by
        unfold rowPut
        split <;> exact his y hy
      exact this.but ho hd (Heap.SameBut.update ..)
    · rw [e, put_keys]; exact hn
theorem setW {Q : Unit → Shared → Prop} (hu : A.units + 8 < cLine) (hk : IsKey s.heap k v) (m : Dict w s.heap d xs) (hz : xs.length ≤ sizeLine)
    (h : ∀ h', Dict w h' d (rowSet xs k v r) → Heap.SameBut d s.heap h' → Q () { s with heap := h', toks := s.toks + k.draws }) : wpAny (model prog w) A (dictSet d v r) Q E s := by
  unfold dictSet
  refine wpAny_holding ?_
  exact wpAny_bind (hash_key hu hk (setH (s := { s with toks := s.toks + k.draws }) hu hk m hz h))

/-! ### the roads of Python -/
theorem in_ {Q : Value → Shared → Prop} (hu : A.in1.units + 8 < cLine) (hk : IsKey s.heap k v) (hd : (d == sysModules) = false) (m : Dict w s.heap d xs) (h : Q (.bool (rowAt xs k).isSome) { s with toks := s.toks + k.draws }) :
    wpAny (model prog w) A (compareOp .In v (.ref d)) Q E s := by
  show wpAny _ _ (do return .bool (← contains (.ref d) v)) Q E s
  refine wpAny_bind ?_
  unfold contains
  refine wpAny_holding ?_
  refine wpAny_bind (wpAny_specialOf m.typeIs slot_dict_contains.lookup ?_)
  show wpAny _ _ (if (some (Value.builtin "dict.__contains__") == some Value.none) = true then _ else _) _ E s
  rw [if_neg (by rw [beq_builtin_none]; exact Bool.false_ne_true)]
  refine wpAny_bind (wpAny_callSpecialUnlessNone?_slot (name := Str.ofString "__contains__") m.typeIs slot_dict_contains
    (wpAny_call_entry slot_dict_contains m.typeIs entry_dict_contains ?_ (args_dict_contains _ _)))
  show wpAny _ _ (dictGet d v >>= _) _ _ s
  refine wpAny_bind (getW hu hk m ?_)
  cases hf : rowAt xs k with
  | some p =>
    rw [hf] at h
    show wpAny _ _ (ret (.bool true)) _ _ _
    exact wpAny_pure ⟨_, rfl, wpAny_truthy_bool (wpAny_pure h)⟩
  | none =>
    rw [hf] at h
    show wpAny _ _ (Builtin.Dict.pendingKey? d v >>= _) _ _ _
    exact wpAny_bind (wpAny_pendingKey_other hd (wpAny_pure ⟨_, rfl, wpAny_truthy_bool (wpAny_pure h)⟩))
theorem notIn {Q : Value → Shared → Prop} (hu : A.in1.units + 8 < cLine) (hk : IsKey s.heap k v) (hd : (d == sysModules) = false) (m : Dict w s.heap d xs) (h : Q (.bool (!(rowAt xs k).isSome)) { s with toks := s.toks + k.draws }) :
    wpAny (model prog w) A (compareOp .NotIn v (.ref d)) Q E s := by
  show wpAny _ _ (do return .bool (!(← contains (.ref d) v))) Q E s
  refine wpAny_bind ?_
  unfold contains
  refine wpAny_holding ?_
  refine wpAny_bind (wpAny_specialOf m.typeIs slot_dict_contains.lookup ?_)
  show wpAny _ _ (if (some (Value.builtin "dict.__contains__") == some Value.none) = true then _ else _) _ E s
  rw [if_neg (by rw [beq_builtin_none]; exact Bool.false_ne_true)]
  refine wpAny_bind (wpAny_callSpecialUnlessNone?_slot (name := Str.ofString "__contains__") m.typeIs slot_dict_contains
    (wpAny_call_entry slot_dict_contains m.typeIs entry_dict_contains ?_ (args_dict_contains _ _)))
  show wpAny _ _ (dictGet d v >>= _) _ _ s
  refine wpAny_bind (getW hu hk m ?_)
  cases hf : rowAt xs k with
  | some p =>
    rw [hf] at h
    show wpAny _ _ (ret (.bool true)) _ _ _
    exact wpAny_pure ⟨_, rfl, wpAny_truthy_bool (wpAny_pure h)⟩
  | none =>
    rw [hf] at h
    show wpAny _ _ (Builtin.Dict.pendingKey? d v >>= _) _ _ _
    exact wpAny_bind (wpAny_pendingKey_other hd (wpAny_pure ⟨_, rfl, wpAny_truthy_bool (wpAny_pure h)⟩))
theorem item {Q : Value → Shared → Prop} (hu : A.in1.units + 8 < cLine) (hk : IsKey s.heap k v) (m : Dict w s.heap d xs) (hp : rowAt xs k = some r) (h : Q r { s with toks := s.toks + k.draws }) :
    wpAny (model prog w) A (getItem (.ref d) v) Q E s := by
  unfold getItem
  refine wpAny_holding ?_
  refine wpAny_bind (wpAny_sequenceKey m.typeIs (by decide) ?_)
  refine wpAny_bind (wpAny_callSpecial?_slot (name := Str.ofString "__getitem__") m.typeIs slot_dict_getitem
    (wpAny_call_entry slot_dict_getitem m.typeIs entry_dict_getitem ?_ (args_dict_getitem _ _)))
  show wpAny _ _ (dictGet d v >>= _) _ _ s
  refine wpAny_bind (getW hu hk m ?_)
  rw [hp]
  exact wpAny_pure ⟨r, rfl, wpAny_pure h⟩
theorem store {Q : Unit → Shared → Prop} (hu : A.in1.units + 8 < cLine) (hk : IsKey s.heap k v) (m : Dict w s.heap d xs) (hz : xs.length ≤ sizeLine)
    (h : ∀ h', Dict w h' d (rowSet xs k v r) → Heap.SameBut d s.heap h' → Q () { s with heap := h', toks := s.toks + k.draws }) : wpAny (model prog w) A (setItem (.ref d) v r) Q E s := by
  unfold setItem
  refine wpAny_holding ?_
  refine wpAny_bind (wpAny_sequenceKey m.typeIs (by decide) ?_)
  refine wpAny_bind (wpAny_callSpecial?_slot (name := Str.ofString "__setitem__") m.typeIs slot_dict_setitem
    (wpAny_call_entry slot_dict_setitem m.typeIs entry_dict_setitem ?_ (args_dict_setitem _ _ _)))
  show wpAny _ _ (Builtin.Dict.notOrdered "__setitem__" ⟨[.ref d, v, r], []⟩ >>= _) _ _ s
  refine wpAny_bind (wpAny_notOrdered_dict m.typeIs ?_)
  show wpAny _ _ (dictSet d v r >>= _) _ _ s
  exact wpAny_bind (setW hu hk m hz fun h' m' hs' => wpAny_pure ⟨.none, rfl, wpAny_pure (h h' m' hs')⟩)
end
section
variable {prog : Program} {w : World} {d : Addr} {v : Value}
theorem meets_get1 (hd : (d == sysModules) = false) : MeetsIn prog w (Builtin.«dict.get» ⟨[.ref d, v], []⟩) (fun A R s => A.in1.units + 8 < cLine ∧ ∃ k xs, IsKey s.heap k v ∧ Dict w s.heap d xs ∧ R (.ok (.ret ((rowAt xs k).getD .none))) { s with toks := s.toks + k.draws }) :=
  .of_wp fun A R s ⟨hu, k, xs, hk, m, h⟩ => by
    show wpAny _ _ (dictGet d v >>= _) _ _ s
    refine wpAny_bind (getW hu hk m ?_)
    cases hf : rowAt xs k with
    | some x =>
      rw [hf] at h
      exact wpAny_pure ⟨x, rfl, h⟩
    | none =>
      rw [hf] at h
      show wpAny _ _ (Builtin.Dict.missed d v >>= _) _ _ _
      exact wpAny_bind (wpAny_missed_other hd (wpAny_pure ⟨.none, rfl, h⟩))
theorem meets_get2 (hd : (d == sysModules) = false) (y : Value) : MeetsIn prog w (Builtin.«dict.get» ⟨[.ref d, v, y], []⟩) (fun A R s => A.in1.units + 8 < cLine ∧ ∃ k xs, IsKey s.heap k v ∧ Dict w s.heap d xs ∧ R (.ok (.ret ((rowAt xs k).getD y))) { s with toks := s.toks + k.draws }) :=
  .of_wp fun A R s ⟨hu, k, xs, hk, m, h⟩ => by
    show wpAny _ _ (dictGet d v >>= _) _ _ s
    refine wpAny_bind (getW hu hk m ?_)
    cases hf : rowAt xs k with
    | some x =>
      rw [hf] at h
      exact wpAny_pure ⟨x, rfl, h⟩
    | none =>
      rw [hf] at h
      show wpAny _ _ (Builtin.Dict.missed d v >>= _) _ _ _
      exact wpAny_bind (wpAny_missed_other hd (wpAny_pure ⟨y, rfl, h⟩))
end
end DN
/-! DN, part b: such dicts as tracked things; rules of expressions and statements. -/
namespace DN
open PySem PySem.Spec PyProof.Rows L2

mutual
/-- v is the key k, at most n deep -/
inductive NV (K : PySem.W.Frag) (H : Hp) : Nat → NestedKey → V → Prop
  | none (n : Nat) : NV K H n .none .non
  | int (n : Nat) (i : Int) : NV K H n (.num i) (.int i)
  | tup {n : Nat} {a : Addr} {xs : List V} {ks : List NestedKey} : SqT K H a xs → NVs K H n ks xs → NV K H (n + 1) (.tup ks) (.ref a)
inductive NVs (K : PySem.W.Frag) (H : Hp) : Nat → List NestedKey → List V → Prop
  | nil (n : Nat) : NVs K H n [] []
  | cons {n : Nat} {k : NestedKey} {v : V} {ks : List NestedKey} {vs : List V} : NV K H n k v → NVs K H n ks vs → NVs K H n (k :: ks) (v :: vs)
end
mutual
theorem NV.depth {K : PySem.W.Frag} {H : Hp} : ∀ {n : Nat} {k : NestedKey} {v : V}, NV K H n k v → k.depth ≤ n
  | _, _, _, .none n => Nat.zero_le _
  | _, _, _, .int n i => Nat.zero_le _
  | _, _, _, .tup _ r => by rw [NestedKey.depth]; exact Nat.succ_le_succ (NVs.depth r)
theorem NVs.depth {K : PySem.W.Frag} {H : Hp} : ∀ {n : Nat} {ks : List NestedKey} {vs : List V}, NVs K H n ks vs → NestedKey.depthAll ks ≤ n
  | _, _, _, .nil n => Nat.zero_le _
  | _, _, _, .cons h r => by
    rw [NestedKey.depthAll]
    exact Nat.max_le.mpr ⟨NV.depth h, NVs.depth r⟩
end
mutual
theorem NV.hash {K : PySem.W.Frag} {H : Hp} (w w' : World) : ∀ {n : Nat} {k : NestedKey} {v : V}, NV K H n k v → k.hash w = k.hash w'
  | _, _, _, .none n => rfl
  | _, _, _, .int n i => rfl
  | _, _, _, .tup _ r => by rw [NestedKey.hash, NestedKey.hash, NVs.hash w w' r]
theorem NVs.hash {K : PySem.W.Frag} {H : Hp} (w w' : World) : ∀ {n : Nat} {ks : List NestedKey} {vs : List V}, NVs K H n ks vs → NestedKey.hashes w ks = NestedKey.hashes w' ks
  | _, _, _, .nil n => rfl
  | _, _, _, .cons h r => by rw [NestedKey.hashes, NestedKey.hashes, NV.hash w w' h, NVs.hash w w' r]
end
theorem sqT_same {K : PySem.W.Frag} {H H' : Hp} {a : Addr} {xs : List V} (e : ∀ b o, H b = some o → Mut (some o) ∨ H' b = some o) (h : SqT K H a xs) : SqT K H' a xs := by
  rcases h with (h | ⟨o, h⟩) | h
  · rcases e _ _ h with z | z
    · exact z.elim
    · exact .inl (.inl z)
  · rcases e _ _ h with z | z
    · exact z.elim
    · exact .inl (.inr ⟨o, z⟩)
  · exact .inr h
mutual
theorem NV.same {K : PySem.W.Frag} {H H' : Hp} (e : ∀ b o, H b = some o → Mut (some o) ∨ H' b = some o) : ∀ {n : Nat} {k : NestedKey} {v : V}, NV K H n k v → NV K H' n k v
  | _, _, _, .none n => .none n
  | _, _, _, .int n i => .int n i
  | _, _, _, .tup h r => .tup (sqT_same e h) (NVs.same e r)
theorem NVs.same {K : PySem.W.Frag} {H H' : Hp} (e : ∀ b o, H b = some o → Mut (some o) ∨ H' b = some o) : ∀ {n : Nat} {ks : List NestedKey} {vs : List V}, NVs K H n ks vs → NVs K H' n ks vs
  | _, _, _, .nil n => .nil n
  | _, _, _, .cons h r => .cons (NV.same e h) (NVs.same e r)
end
mutual
theorem NV.is {X : Cx} {pins : List (Addr × Obj)} {σ : L2.St} {H : Hp} {s : Shared} (I : Inv X pins σ H s) : ∀ {n : Nat} {k : NestedKey} {v : V}, NV X.K H n k v → ∀ {u : Value}, RelV v u → NestedIs s.heap k u
  | _, _, _, .none n, u, r => by cases r; exact .none
  | _, _, _, .int n i, u, r => by obtain ⟨t, rfl⟩ := r; exact .int i t
  | _, _, _, .tup h q, u, r => by
    cases r
    obtain ⟨its, rv, ⟨o, ho, hc, m, hd⟩, _⟩ := I.tuple h
    exact .tup ho hc hd (NVs.is I q (by simpa using rv))
theorem NVs.is {X : Cx} {pins : List (Addr × Obj)} {σ : L2.St} {H : Hp} {s : Shared} (I : Inv X pins σ H s) : ∀ {n : Nat} {ks : List NestedKey} {vs : List V}, NVs X.K H n ks vs → ∀ {us : List Value}, Vals vs us → NestedAll s.heap ks us
  | _, _, _, .nil n, us, r => by cases r; exact .nil
  | _, _, _, .cons h q, us, r => by
    cases r with
    | cons r1 r2 => exact .cons (NV.is I h r1) (NVs.is I q r2)
end
theorem NV.notext {K : PySem.W.Frag} {H : Hp} {n : Nat} {k : NestedKey} {v : V} (h : NV K H n k v) : ∀ x, k ≠ .text x := fun x e => by subst e; cases h
theorem NV.key {X : Cx} {pins : List (Addr × Obj)} {σ : L2.St} {H : Hp} {s : Shared} (I : Inv X pins σ H s) {k : NestedKey} {v : V} {u : Value} (h : NV X.K H 8 k v) (r : RelV v u) : IsKey s.heap k u := ⟨h.is I r, h.depth, h.notext⟩

/-! ### rows -/
abbrev MRow := NestedKey × V × V
def RowR (x : MRow) (e : DictEntry) : Prop := (∀ w, e.hash = x.1.hash w) ∧ RelV x.2.1 e.key ∧ RelV x.2.2 e.val
/-- the dict at a -/
def dN (a : Addr) (ks : List MRow) : HO := .ext fun h => ∃ o es ep, h.get? a = some o ∧ o.ExactDict ∧ o.data = .dict es ep ∧ Paired RowR ks es.toList ∧ (ks.map (·.1)).Nodup ∧ ks.length ≤ sizeLine ∧ (a == sysModules) = false
def putR (k : NestedKey) (v : V) (x : MRow) : MRow := if x.1 = k then (x.1, x.2.1, v) else x
def valM (ks : List MRow) (k : NestedKey) : Option V := (ks.find? fun x => decide (x.1 = k)).map (·.2.2)
def putM (ks : List MRow) (k : NestedKey) (kv v : V) : List MRow := if (valM ks k).isSome = true then ks.map (putR k v) else ks ++ [(k, kv, v)]
abbrev MR : List MRow → List Row → Prop := Paired fun m r => m.1 = r.1 ∧ RelV m.2.1 r.2.1 ∧ RelV m.2.2 r.2.2
theorem MR.val {k : NestedKey} : ∀ {ks : List MRow} {xs : List Row}, MR ks xs → RelO (valM ks k) (rowAt xs k)
  | _, _, .nil => True.intro
  | _, _, .cons (a := m) (b := r) (l₁ := ms) (l₂ := rs) h t => by
    have ih := MR.val (k := k) t
    obtain ⟨h1, _, h2⟩ := h
    unfold valM rowAt
    by_cases e : m.1 = k
    · rw [List.find?_cons_of_pos (by exact decide_eq_true e), List.find?_cons_of_pos (by exact decide_eq_true (h1.symm.trans e))]
      exact h2
    · rw [List.find?_cons_of_neg (by simpa using e), List.find?_cons_of_neg (by simpa using fun z => e (h1.trans z))]
      exact ih
theorem MR.map {k : NestedKey} {v : V} {u : Value} (ru : RelV v u) : ∀ {ks : List MRow} {xs : List Row}, MR ks xs → MR (ks.map (putR k v)) (xs.map (rowPut k u))
  | _, _, .nil => .nil
  | _, _, .cons (a := m) (b := r) (l₁ := ms) (l₂ := rs) h t => by
    rw [List.map_cons, List.map_cons]
    refine .cons ?_ (MR.map ru t)
    obtain ⟨h1, h2, h3⟩ := h
    unfold putR rowPut
    by_cases e : m.1 = k
    · rw [if_pos e, if_pos (h1.symm.trans e)]; exact ⟨h1, h2, ru⟩
    · rw [if_neg e, if_neg fun z => e (h1.trans z)]; exact ⟨h1, h2, h3⟩
theorem MR.put {k : NestedKey} {kv v : V} {ku u : Value} {ks : List MRow} {xs : List Row} (r : MR ks xs) (rk : RelV kv ku) (rv : RelV v u) : MR (putM ks k kv v) (rowSet xs k ku u) := by
  unfold putM rowSet
  rw [(MR.val (k := k) r).isSome_eq]
  split
  · exact r.map rv
  · exact Paired.snoc r ⟨rfl, rk, rv⟩
theorem MR.keys : ∀ {ks : List MRow} {xs : List Row}, MR ks xs → ks.map (·.1) = xs.map (·.1)
  | _, _, .nil => rfl
  | _, _, .cons h t => by rw [List.map_cons, List.map_cons, h.1, MR.keys t]
theorem rows_of {w : World} : ∀ {ks : List MRow} {es : List DictEntry}, Paired RowR ks es → ∃ xs : List Row, MR ks xs ∧ es = xs.map (ent w)
  | _, _, .nil => ⟨[], .nil, rfl⟩
  | _, _, .cons (a := m) (b := e) h t => by
    obtain ⟨xs, r, e1⟩ := rows_of (w := w) t
    refine ⟨(m.1, e.key, e.val) :: xs, .cons ⟨rfl, h.2.1, h.2.2⟩ r, ?_⟩
    rw [List.map_cons, ← e1]
    obtain ⟨h1, _, _⟩ := h
    show e :: _ = ⟨m.1.hash w, e.key, e.val⟩ :: _
    rw [← h1 w]
theorem rows_to {K : PySem.W.Frag} {H : Hp} {w : World} : ∀ {ks : List MRow} {xs : List Row}, MR ks xs → (∀ x ∈ ks, NV K H 8 x.1 x.2.1) → Paired RowR ks (xs.map (ent w))
  | _, _, .nil, _ => .nil
  | _, _, .cons (a := m) (b := e) h t, hk => by
    rw [List.map_cons]
    refine .cons ⟨fun w' => ?_, h.2.1, h.2.2⟩ (rows_to t fun x hx => hk x (.tail _ hx))
    show e.1.hash w = _
    rw [← h.1]
    exact (hk _ (.head _)).hash w w'
section
variable {X : Cx} {pins : List (Addr × Obj)} {σ : L2.St} {H : Hp} {s : Shared} {a : Addr} {ks : List MRow}
theorem dn_rd (I : Inv X pins σ H s) (e : H a = some (dN a ks)) (hk : ∀ x ∈ ks, NV X.K H 8 x.1 x.2.1) : (a == sysModules) = false ∧ ∃ xs, MR ks xs ∧ xs.length ≤ sizeLine ∧ Dict X.w s.heap a xs := by
  obtain ⟨⟨o, es, ep, ho, hx, hd, hr, hn, hz, hm⟩, _⟩ := (show ObjOk X.prog X.w H s.heap a (dN a ks) from I.hok a _ e)
  obtain ⟨xs, r, e1⟩ := rows_of (w := X.w) hr
  have all : ∀ {ks : List MRow} {xs : List Row}, MR ks xs → (∀ x ∈ ks, NV X.K H 8 x.1 x.2.1) → ∀ x ∈ xs, IsKey s.heap x.1 x.2.1 := by
    intro ks xs r
    induction r with
    | nil => intro _ x hx; cases hx
    | cons h t ih =>
      intro hk x hx
      rcases List.mem_cons.mp hx with rfl | hx
      · rw [← h.1]; exact (hk _ (.head _)).key I h.2.1
      · exact ih (fun y hy => hk y (.tail _ hy)) x hx
  exact ⟨hm, xs, r, by rw [← Paired.length r]; exact hz, o, es, ep, ho, hx, hd, e1, all r hk, by rw [← r.keys]; exact hn⟩
theorem dn_ok {P : Program} {w : World} {K : PySem.W.Frag} {H H' : Hp} {h : Heap} {xs : List Row} (r : MR ks xs) (hk : ∀ x ∈ ks, NV K H' 8 x.1 x.2.1) (hm : (a == sysModules) = false) (hz : ks.length ≤ sizeLine) (m : Dict w h a xs) : ObjOk P w H h a (dN a ks) := by
  obtain ⟨o, es, ep, ho, hx, hd, he, _, hn⟩ := m
  refine ⟨⟨o, es, ep, ho, hx, hd, by rw [he]; exact rows_to r hk, by rw [r.keys]; exact hn, hz, hm⟩, ⟨o, ho⟩, fun h1 h2 p q => ?_⟩
  obtain ⟨o, es, ep, ho, z⟩ := p
  exact ⟨o, es, ep, q o ho, z⟩
theorem putM_len (ks : List MRow) (k : NestedKey) (kv v : V) : (putM ks k kv v).length ≤ ks.length + 1 := by
  unfold putM
  split
  · rw [List.length_map]; omega
  · rw [List.length_append]; exact Nat.le_refl _
theorem putM_keys {K : PySem.W.Frag} {H : Hp} {k : NestedKey} {kv v : V} (hk : ∀ x ∈ ks, NV K H 8 x.1 x.2.1) (h : NV K H 8 k kv) : ∀ x ∈ putM ks k kv v, NV K H 8 x.1 x.2.1 := by
  unfold putM
  intro x hx
  split at hx
  · obtain ⟨y, hy, rfl⟩ := List.mem_map.mp hx
    have := hk y hy
    unfold putR
    split <;> exact this
  · rcases List.mem_append.mp hx with hx | hx
    · exact hk x hx
    · rw [List.mem_singleton.mp hx]; exact h
end
/-- what the dict at a holds at the key y -/
def MGet (K : PySem.W.Frag) (H : Hp) (a : Addr) (y : V) (r : Option V) : Prop := ∃ ks k, H a = some (dN a ks) ∧ (∀ x ∈ ks, NV K H 8 x.1 x.2.1) ∧ NV K H 8 k y ∧ r = valM ks k
def MPut (K : PySem.W.Frag) (H : Hp) (a : Addr) (y v : V) (H' : Hp) : Prop := ∃ ks k, H a = some (dN a ks) ∧ (∀ x ∈ ks, NV K H 8 x.1 x.2.1) ∧ NV K H 8 k y ∧ ks.length < sizeLine ∧ H' = upd H a (dN a (putM ks k y v))
def MIs (K : PySem.W.Frag) (H : Hp) (a : Addr) : Prop := ∃ ks, H a = some (dN a ks) ∧ ∀ x ∈ ks, NV K H 8 x.1 x.2.1
section
variable {X : Cx} {pins : List (Addr × Obj)} {σ : L2.St} {H : Hp} {s : Shared} {a : Addr} {y v : V} {u r : Value} {o : Option V} {E : Value → Shared → Prop}
theorem m_item {Q : Value → Shared → Prop} (hu : X.A.units + 9 < cLine) (I : Inv X pins σ H s) (g : MGet X.K H a y (some v)) (ry : RelV y u) (h : ∀ w' s', Inv X pins σ H s' → RelV v w' → Q w' s') :
    wpAny (model X.prog X.w) X.A (getItem (.ref a) u) Q E s := by
  obtain ⟨ks, k, e, hk, hy, l⟩ := g
  obtain ⟨hd, xs, rel, hz, dd⟩ := dn_rd I e hk
  obtain ⟨w', hw, rw'⟩ := RelO.some_of (v := v) (o := rowAt xs k) (by rw [l]; exact rel.val)
  exact item (by rw [Around.in1_units]; omega) (hy.key I ry) dd hw (h w' _ (I.tok _) rw')
theorem m_in {Q : Value → Shared → Prop} (hu : X.A.units + 9 < cLine) (I : Inv X pins σ H s) (g : MGet X.K H a y o) (ry : RelV y u) (h : ∀ s', Inv X pins σ H s' → Q (.bool o.isSome) s') :
    wpAny (model X.prog X.w) X.A (compareOp .In u (.ref a)) Q E s := by
  obtain ⟨ks, k, e, hk, hy, l⟩ := g
  obtain ⟨hd, xs, rel, hz, dd⟩ := dn_rd I e hk
  refine in_ (by rw [Around.in1_units]; omega) (hy.key I ry) hd dd ?_
  rw [← (rel.val (k := k)).isSome_eq, ← l]
  exact h _ (I.tok _)
theorem m_notIn {Q : Value → Shared → Prop} (hu : X.A.units + 9 < cLine) (I : Inv X pins σ H s) (g : MGet X.K H a y o) (ry : RelV y u) (h : ∀ s', Inv X pins σ H s' → Q (.bool (!o.isSome)) s') :
    wpAny (model X.prog X.w) X.A (compareOp .NotIn u (.ref a)) Q E s := by
  obtain ⟨ks, k, e, hk, hy, l⟩ := g
  obtain ⟨hd, xs, rel, hz, dd⟩ := dn_rd I e hk
  refine notIn (by rw [Around.in1_units]; omega) (hy.key I ry) hd dd ?_
  rw [← (rel.val (k := k)).isSome_eq, ← l]
  exact h _ (I.tok _)
theorem m_put {H' : Hp} {Q : Unit → Shared → Prop} (hu : X.A.units + 9 < cLine) (I : Inv X pins σ H s) (g : MPut X.K H a y v H') (ry : RelV y u) (rv : RelV v r) (h : ∀ s', Inv X pins σ H' s' → Q () s') :
    wpAny (model X.prog X.w) X.A (setItem (.ref a) u r) Q E s := by
  obtain ⟨ks, k, e, hk, hy, hl, rfl⟩ := g
  obtain ⟨hd, xs, rel, hz, dd⟩ := dn_rd I e hk
  refine store (by rw [Around.in1_units]; omega) (hy.key I ry) dd hz fun h' dd' hs => h _ ?_
  have he : ∃ q, h'.get? a = some q := let ⟨q, _, _, hq, _⟩ := dd'; ⟨q, hq⟩
  exact d_write I (by rw [e]; exact True.intro) hs he (dn_ok (rel.put ry rv) (putM_keys hk hy) hd (by have := putM_len ks k y v; omega) dd')
theorem m_get1 {Q : Value → Shared → Prop} (hu : X.A.units + 9 < cLine) (I : Inv X pins σ H s) (g : MGet X.K H a y o) (ry : RelV y u) (h : ∀ w' s', Inv X pins σ H s' → RelV (o.getD .non) w' → Q w' s') :
    wpAny (model X.prog X.w) X.A (call (.builtin "dict.get") [.ref a, u]) Q E s := by
  obtain ⟨ks, k, e, hk, hy, l⟩ := g
  obtain ⟨hd, xs, rel, hz, dd⟩ := dn_rd I e hk
  refine call_meetsIn PySem.F.slot_dict_get dd.typeIs PySem.F.entry_dict_get (PySem.F.args_dict_get_2 _ _) (meets_get1 hd) ⟨by rw [Around.in1_units]; omega, k, xs, hy.key I ry, dd, h _ _ (I.tok _) ?_⟩
  rw [l]
  exact (rel.val (k := k)).getD rfl
theorem m_get2 {d : V} {Q : Value → Shared → Prop} (hu : X.A.units + 9 < cLine) (I : Inv X pins σ H s) (g : MGet X.K H a y o) (ry : RelV y u) (rd : RelV d r) (h : ∀ w' s', Inv X pins σ H s' → RelV (o.getD d) w' → Q w' s') :
    wpAny (model X.prog X.w) X.A (call (.builtin "dict.get") [.ref a, u, r]) Q E s := by
  obtain ⟨ks, k, e, hk, hy, l⟩ := g
  obtain ⟨hd, xs, rel, hz, dd⟩ := dn_rd I e hk
  refine call_meetsIn PySem.F.slot_dict_get dd.typeIs PySem.F.entry_dict_get (PySem.F.args_dict_get_3 _ _ _) (meets_get2 hd r) ⟨by rw [Around.in1_units]; omega, k, xs, hy.key I ry, dd, h _ _ (I.tok _) ?_⟩
  rw [l]
  exact (rel.val (k := k)).getD rd
theorem m_at (I : Inv X pins σ H s) (d : MIs X.K H a) : s.TypeIs (.ref a) "dict" ∧ (∀ b, Value.ref a = .ref b → ∃ ob, s.heap.get? b = some ob ∧ ob.dict = none) := by
  obtain ⟨ks, e, hk⟩ := d
  obtain ⟨hd, xs, rel, hz, dd⟩ := dn_rd I e hk
  refine ⟨dd.typeIs, fun b q => ?_⟩
  cases q
  obtain ⟨ob, _, _, h1, h2, _⟩ := dd
  exact ⟨ob, h1, h2.2.1⟩
theorem MGet.is {K : PySem.W.Frag} (g : MGet K H a y o) : MIs K H a := let ⟨ks, _, e, hk, _⟩ := g; ⟨ks, e, hk⟩
end

/-! ### readings and rules -/
def tMGet (K : PySem.W.Frag) (td ty : TE) : TE := fun σ H Q => td σ H fun x H1 => ty σ H1 fun y H2 => ∃ a v, x = .ref a ∧ MGet K H2 a y (some v) ∧ Q v H2
def tMIn (K : PySem.W.Frag) (ty td : TE) : TE := fun σ H Q => ty σ H fun y H1 => td σ H1 fun x H2 => ∃ a o, x = .ref a ∧ MGet K H2 a y o ∧ Q (.bl o.isSome) H2
def tMNotIn (K : PySem.W.Frag) (ty td : TE) : TE := fun σ H Q => ty σ H fun y H1 => td σ H1 fun x H2 => ∃ a o, x = .ref a ∧ MGet K H2 a y o ∧ Q (.bl (!o.isSome)) H2
def sMPut (K : PySem.W.Frag) (td ty tv : TE) : TS := fun D σ H => tv σ H fun v H1 => td σ H1 fun x H2 => ty σ H2 fun y H3 => ∃ a H4, x = .ref a ∧ MPut K H3 a y v H4 ∧ D.nx σ H4
def tMGet1 (K : PySem.W.Frag) (td ty : TE) : TE := fun σ H Q => td σ H fun x H1 => ∃ a, x = .ref a ∧ MIs K H1 a ∧ ty σ H1 fun y H2 => ∃ o, MGet K H2 a y o ∧ Q (o.getD .non) H2
def tMGet2 (K : PySem.W.Frag) (td ty tx : TE) : TE := fun σ H Q => td σ H fun x H1 => ∃ a, x = .ref a ∧ MIs K H1 a ∧ ty σ H1 fun y H2 => tx σ H2 fun z H3 => ∃ o, MGet K H3 a y o ∧ Q (o.getD z) H3
def tMNew : TE := fun _ H Q => ∀ p, H p = none → Q (.ref p) (upd H p (dN p []))
section
variable {X : Cx} {o i e f value : Expr} {pos pos' tpos apos cpos : Pos} {td ty tv tx : TE}
theorem pe_mget (hu : X.A.units + 9 < cLine) (ho : PE X o td) (hi : PE X i ty) (hs : NoSl i) : PE X (.Subscript o i pos) (tMGet X.K td ty) := by
  refine ⟨fun pins s σ H Q I h => ?_⟩
  refine subD_of PySem.F.slot_dict_getitem.lookup hs (thn (ho.run pins s σ H _ I h) fun u s1 ⟨x, H1, I1, rx, q1⟩ => thn (hi.run pins s1 σ H1 _ I1 q1) fun iv s2 ⟨y, H2, I2, ry, a, v, ex, g, q2⟩ => ?_)
  subst ex
  obtain rfl : u = Value.ref a := rx
  exact ⟨(m_at I2 g.is).1, m_item hu I2 g ry fun w' s3 I3 rw' => ⟨v, H2, I3, rw', q2⟩⟩
theorem pc_min (hu : X.A.units + 9 < cLine) (hi : PE X i ty) (ho : PE X o td) : PC X .In i o (tMIn X.K ty td) := by
  refine ⟨fun pins s σ H Q I h => ?_⟩
  refine thn (hi.run pins s σ H _ I h) fun iv s1 ⟨y, H1, I1, ry, q1⟩ => thn (ho.run pins s1 σ H1 _ I1 q1) fun u s2 ⟨x, H2, I2, rx, a, ov, ex, g, q2⟩ => ?_
  subst ex
  obtain rfl : u = Value.ref a := rx
  exact m_in hu I2 g ry fun s3 I3 => ⟨.bl ov.isSome, H2, I3, rfl, q2⟩
theorem pc_mnotin (hu : X.A.units + 9 < cLine) (hi : PE X i ty) (ho : PE X o td) : PC X .NotIn i o (tMNotIn X.K ty td) := by
  refine ⟨fun pins s σ H Q I h => ?_⟩
  refine thn (hi.run pins s σ H _ I h) fun iv s1 ⟨y, H1, I1, ry, q1⟩ => thn (ho.run pins s1 σ H1 _ I1 q1) fun u s2 ⟨x, H2, I2, rx, a, ov, ex, g, q2⟩ => ?_
  subst ex
  obtain rfl : u = Value.ref a := rx
  exact m_notIn hu I2 g ry fun s3 I3 => ⟨.bl (!ov.isSome), H2, I3, rfl, q2⟩
theorem ps_mput (hu : X.A.units + 9 < cLine) (ho : PE X o td) (hi : PE X i ty) (hv : PE X value tv) (hs : swapsWith value (some (.Subscript o i pos')) pos.line X.env = pure false) :
    PS X (.Assign [.Subscript o i pos'] value pos) (sMPut X.K td ty tv) := by
  refine ⟨fun pins s σ H D I h => ?_⟩
  refine wpAny_Assign_Subscript (thn (hv.run pins s σ H _ I h) fun r s1 ⟨v, H1, I1, rv, q1⟩ => thn (ho.run pins s1 σ H1 _ I1 q1) fun u s2 ⟨x, H2, I2, rx, q2⟩ => thn (hi.run pins s2 σ H2 _ I2 q2) fun iv s3 ⟨y, H3, I3, ry, a, H4, ex, g, q3⟩ => ?_) hs
  subst ex
  obtain rfl : u = Value.ref a := rx
  exact m_put hu I3 g ry rv fun s4 I4 => ⟨σ, H4, I4, q3⟩
theorem pe_mget1 (hu : X.A.units + 9 < cLine) (ho : PE X o td) (he : PE X e ty) (m : M1 X o "get" apos e cpos) : PE X (.Call (.Attribute o "get" apos) [e] [] cpos) (tMGet1 X.K td ty) := by
  refine ⟨fun pins s σ H Q I h => ?_⟩
  refine wpAny_Call_method m.base m.few m.line PySem.F.plainAttrs_dict PySem.F.slot_dict_get PySem.F.type_dict_get (thn (ho.run pins s σ H _ I h) fun u s1 ⟨x, H1, I1, rx, a, ex, d, q1⟩ => ?_)
  subst ex
  obtain rfl : u = Value.ref a := rx
  obtain ⟨t1, t2⟩ := m_at I1 d
  refine ⟨t1, t2, ?_⟩
  rw [m.trees]
  refine Calls.callWith_builtin rfl (Calls.evalArgs_plain (Calls.spliced_cons (thn (he.run pins s1 σ H1 _ I1 q1) fun iv s2 ⟨y, H2, I2, ry, ov, g, q2⟩ => Calls.spliced_nil ?_)))
  exact m_get1 hu I2 g ry fun w' s3 I3 rw' => ⟨_, H2, I3, rw', q2⟩
theorem pe_mget2 (hu : X.A.units + 9 < cLine) (ho : PE X o td) (he : PE X e ty) (hf : PE X f tx) (m : M2 X o "get" apos e f cpos) : PE X (.Call (.Attribute o "get" apos) [e, f] [] cpos) (tMGet2 X.K td ty tx) := by
  refine ⟨fun pins s σ H Q I h => ?_⟩
  refine wpAny_Call_method m.base m.few m.line PySem.F.plainAttrs_dict PySem.F.slot_dict_get PySem.F.type_dict_get (thn (ho.run pins s σ H _ I h) fun u s1 ⟨x, H1, I1, rx, a, ex, d, q1⟩ => ?_)
  subst ex
  obtain rfl : u = Value.ref a := rx
  obtain ⟨t1, t2⟩ := m_at I1 d
  refine ⟨t1, t2, ?_⟩
  rw [m.trees]
  refine Calls.callWith_builtin rfl (Calls.evalArgs_plain (Calls.spliced_cons (thn (he.run pins s1 σ H1 _ I1 q1) fun iv s2 ⟨y, H2, I2, ry, q2⟩ =>
    Calls.spliced_cons (thn (hf.run pins s2 σ H2 _ I2 q2) fun fv s3 ⟨z, H3, I3, rz, ov, g, q3⟩ => Calls.spliced_nil ?_))))
  exact m_get2 hu I3 g ry rz fun w' s4 I4 rw' => ⟨_, H3, I4, rw', q3⟩
theorem pe_mnew : PE X (.Dict [] [] pos) tMNew := ⟨fun pins s σ H Q I h =>
  wpAny_Dict_empty ⟨.ref s.heap.objs.size, _, I.laid (a := s.heap.objs.size) (o := dN s.heap.objs.size []) (t' := s.toks) (fun _ _ q => Heap.get?_push_of_some _ q) (Nat.le_refl _)
    (dn_ok (K := X.K) (H' := H) (xs := []) .nil (fun x hx => by cases hx) (beq_eq_false_iff_ne.mpr (Ne.symm (Nat.ne_of_lt I.big))) (Nat.zero_le _) (Dict.new s.heap)), rfl, h _ (I.hok.fresh (Nat.le_refl _))⟩⟩
end
end DN
/-! DL, part a: data without a heap; slots of a frame; the relation between both. -/
namespace DL
open PySem L2

abbrev D := PyData
open DN (MRow NV)
/-- a dict that is read alone: its keys and its values -/
abbrev dFrz (kvs : List (NestedKey × D)) : D := .dict ((.bool true, .none) :: kvs.map fun kv => (kv.1.data, kv.2))
/-- a key as it stands -/
abbrev keyD : L2.Key → D
  | .inl i => .int i
  | .inr x => .str x
/-- a dict with whole numbers or texts for keys that is read alone, and may be walked -/
abbrev dFri (kvs : List (L2.Key × D)) : D := .dict ((.bool false, .none) :: kvs.map fun kv => (keyD kv.1, kv.2))
/-- a def that is handed on as a value -/
abbrev dFn (x : Str) : D := .dict [(.bool true, .bool true), (.str x, .none)]
/-- an instance of an own class, read alone: its class's name, its fields -/
abbrev dOb (x : Str) (fs : List (Str × D)) : D := .dict ((.bool true, .str x) :: fs.map fun kv => (.str kv.1, kv.2))
/-- the script: a list of ints that is read alone -/
abbrev scr (ns : List Int) : D := .dict [(.none, .list (ns.map PyData.int))]
mutual
inductive Rp (K : PySem.W.Frag) (H : Hp) : V → D → Prop
  | non : Rp K H .non .none
  | bl (b : Bool) : Rp K H (.bl b) (.bool b)
  | int (i : Int) : Rp K H (.int i) (.int i)
  | str (x : Str) : Rp K H (.str x) (.str x)
  | lst {a : Addr} {xs : List V} {ds : List D} : H a = some (.lst xs) → Rps K H xs ds → Rp K H (.ref a) (.list ds)
  | tup {a : Addr} {xs : List V} {ds : List D} : SqT K H a xs → Rps K H xs ds → Rp K H (.ref a) (.tuple ds)
  | scr {a : Addr} {ns : List Int} : SqL K H a (ns.map V.int) → Rp K H (.ref a) (scr ns)
  | dct {a : Addr} {ks : List MRow} {kvs : List (NestedKey × D)} : H a = some (DN.dN a ks) → (∀ x ∈ ks, NV K H 8 x.1 x.2.1) → ks.map (·.1) = kvs.map (·.1) → Rps K H (ks.map (·.2.2)) (kvs.map (·.2)) → Rp K H (.ref a) (dFrz kvs)
  | dci {a : Addr} {o : Obj} {ks : List (L2.Key × V)} {kvs : List (L2.Key × D)} : H a = some (.frz o (.dK ks)) → ks.map (·.1) = kvs.map (·.1) → Rps K H (ks.map (·.2)) (kvs.map (·.2)) → Rp K H (.ref a) (dFri kvs)
  | fn {f : Addr} {x : Str} : PySem.W.nsIn K mainGlobals x = some (some (.ref f)) → Rp K H (.ref f) (dFn x)
  | ob {a dx C : Addr} {fs : List (Str × V)} {x : Str} {kvs : List (Str × D)} : H a = some (.ins C dx fs) → PySem.W.nsIn K mainGlobals x = some (some (.ref C)) → fs.map (·.1) = kvs.map (·.1) → Rps K H (fs.map (·.2)) (kvs.map (·.2)) → Rp K H (.ref a) (dOb x kvs)
inductive Rps (K : PySem.W.Frag) (H : Hp) : List V → List D → Prop
  | nil : Rps K H [] []
  | cons {v : V} {vs : List V} {d : D} {ds : List D} : Rp K H v d → Rps K H vs ds → Rps K H (v :: vs) (d :: ds)
end
theorem Same.tup {K : PySem.W.Frag} {H H' : Hp} {a : Addr} {xs : List V} (e : Same H H') (h : SqT K H a xs) : SqT K H' a xs := by
  rcases h with (h | ⟨o, h⟩) | h
  · exact .inl (.inl (e _ _ h))
  · exact .inl (.inr ⟨o, e _ _ h⟩)
  · exact .inr h
mutual
theorem Rp.mono {K : PySem.W.Frag} {H H' : Hp} (e : Same H H') : ∀ {v : V} {d : D}, Rp K H v d → Rp K H' v d
  | _, _, .non => .non
  | _, _, .bl b => .bl b
  | _, _, .int i => .int i
  | _, _, .str x => .str x
  | _, _, .lst h r => .lst (e _ _ h) (Rps.mono e r)
  | _, _, .tup h r => .tup (Same.tup e h) (Rps.mono e r)
  | _, _, .scr h => .scr (e.seq h)
  | _, _, .dct h k q r => .dct (e _ _ h) (fun x hx => (k x hx).same fun b o z => .inr (e b o z)) q (Rps.mono e r)
  | _, _, .dci h q r => .dci (e _ _ h) q (Rps.mono e r)
  | _, _, .fn h => .fn h
  | _, _, .ob h c q r => .ob (e _ _ h) c q (Rps.mono e r)
theorem Rps.mono {K : PySem.W.Frag} {H H' : Hp} (e : Same H H') : ∀ {vs : List V} {ds : List D}, Rps K H vs ds → Rps K H' vs ds
  | _, _, .nil => .nil
  | _, _, .cons h r => .cons (Rp.mono e h) (Rps.mono e r)
end
mutual
theorem Rp.dp {K : PySem.W.Frag} {H : Hp} : ∀ {v : V} {d : D}, Rp K H v d → d.canLay0 = true → Dp K H v d
  | _, _, .non, _ => .non
  | _, _, .bl b, _ => .bl b
  | _, _, .int i, _ => .int i
  | _, _, .str x, _ => .str x
  | _, _, .lst h r, l => .lst (SqL.of h) (Rps.dp r (by simpa [PyData.canLay0] using l))
  | _, _, .tup h r, l => .tup h (Rps.dp r (by simpa [PyData.canLay0] using l))
  | _, _, .scr h, l => by simp [PyData.canLay0] at l
  | _, _, .dct _ _ _ _, l => by simp [PyData.canLay0] at l
  | _, _, .dci _ _ _, l => by simp [PyData.canLay0] at l
  | _, _, .fn _, l => by simp [PyData.canLay0] at l
  | _, _, .ob _ _ _ _, l => by simp [PyData.canLay0] at l
theorem Rps.dp {K : PySem.W.Frag} {H : Hp} : ∀ {vs : List V} {ds : List D}, Rps K H vs ds → PyData.canLayAll0 ds = true → DpAll K H vs ds
  | _, _, .nil, _ => .nil
  | _, _, .cons h r, l => by
    have l' := Bool.and_eq_true_iff.mp (by simpa [PyData.canLayAll0] using l)
    exact .cons (Rp.dp h l'.1) (Rps.dp r l'.2)
end
theorem Rp.sh {K : PySem.W.Frag} {H : Hp} {v : V} {d : D} (h : Rp K H v d) (s : SeqAt.shaped d = true) : Dp K H v d := h.dp (SeqAt.canLay_of_shaped s)
section
variable {K : PySem.W.Frag} {H : Hp} {vs ws : List V} {ds es : List D}
theorem Rps.length : ∀ {vs : List V} {ds : List D}, Rps K H vs ds → vs.length = ds.length
  | _, _, .nil => rfl
  | _, _, .cons _ r => by rw [List.length_cons, List.length_cons, Rps.length r]
theorem Rps.append : ∀ {vs ws : List V} {ds es : List D}, Rps K H vs ds → Rps K H ws es → Rps K H (vs ++ ws) (ds ++ es)
  | _, _, _, _, .nil, s => s
  | _, _, _, _, .cons h r, s => .cons h (Rps.append r s)
theorem Rps.get : ∀ {vs : List V} {ds : List D} {i : Nat} {d : D}, Rps K H vs ds → ds[i]? = some d → ∃ v, vs[i]? = some v ∧ Rp K H v d
  | _, _, _, _, .nil, e => by simp at e
  | _, _, 0, _, .cons h _, e => by simp at e; subst e; exact ⟨_, rfl, h⟩
  | _, _, i + 1, _, .cons _ r, e => by
    obtain ⟨v, h1, h2⟩ := Rps.get (i := i) r (by simpa using e)
    exact ⟨v, by simpa using h1, h2⟩
theorem Rps.getV : ∀ {vs : List V} {ds : List D} {i : Nat} {v : V}, Rps K H vs ds → vs[i]? = some v → ∃ d, ds[i]? = some d ∧ Rp K H v d
  | _, _, _, _, .nil, e => by simp at e
  | _, _, 0, _, .cons h _, e => by simp at e; subst e; exact ⟨_, rfl, h⟩
  | _, _, i + 1, _, .cons _ r, e => by
    obtain ⟨v, h1, h2⟩ := Rps.getV (i := i) r (by simpa using e)
    exact ⟨v, by simpa using h1, h2⟩
theorem Rps.set {x : V} {d : D} (h : Rp K H x d) : ∀ {vs : List V} {ds : List D} (i : Nat), Rps K H vs ds → Rps K H (vs.set i x) (ds.set i d)
  | _, _, _, .nil => .nil
  | _, _, 0, .cons _ t => .cons h t
  | _, _, i + 1, .cons q t => .cons q (Rps.set h i t)
theorem Rps.take : ∀ {vs : List V} {ds : List D} (n : Nat), Rps K H vs ds → Rps K H (vs.take n) (ds.take n)
  | _, _, 0, _ => .nil
  | _, _, _ + 1, .nil => .nil
  | _, _, n + 1, .cons r t => .cons r (Rps.take n t)
theorem Rps.drop : ∀ {vs : List V} {ds : List D} (n : Nat), Rps K H vs ds → Rps K H (vs.drop n) (ds.drop n)
  | _, _, 0, r => r
  | _, _, _ + 1, .nil => .nil
  | _, _, n + 1, .cons _ t => Rps.drop n t
theorem Rps.rev : ∀ {vs : List V} {ds : List D}, Rps K H vs ds → Rps K H vs.reverse ds.reverse
  | _, _, .nil => .nil
  | _, _, .cons h r => by
    rw [List.reverse_cons, List.reverse_cons]
    exact (Rps.rev r).append (.cons h .nil)
theorem Rps.dropLast (r : Rps K H vs ds) : Rps K H vs.dropLast ds.dropLast := by
  rw [List.dropLast_eq_take, List.dropLast_eq_take, r.length]
  exact r.take _
theorem Rps.rep (r : Rps K H vs ds) : ∀ k : Nat, Rps K H (List.replicate k vs).flatten (List.replicate k ds).flatten
  | 0 => .nil
  | k + 1 => by
    rw [List.replicate_succ, List.replicate_succ, List.flatten_cons, List.flatten_cons]
    exact r.append (Rps.rep r k)
theorem Rps.one {v : V} {d : D} (h : Rp K H v d) : Rps K H [v] [d] := .cons h .nil
theorem Rps.cons_inv {d : D} {ds : List D} {vs : List V} (h : Rps K H vs (d :: ds)) : ∃ v ws, vs = v :: ws ∧ Rp K H v d ∧ Rps K H ws ds := by
  cases h with
  | cons h r => exact ⟨_, _, rfl, h, r⟩
theorem Rps.nil_inv {vs : List V} (h : Rps K H vs []) : vs = [] := by cases h; rfl
end
/-- ints -/
abbrev dints (ns : List Int) : List D := ns.map PyData.int
theorem Rps.ints_inv {K : PySem.W.Frag} {H : Hp} : ∀ {ns : List Int} {vs : List V}, Rps K H vs (dints ns) → vs = ns.map V.int
  | [], _, h => h.nil_inv
  | n :: ns, _, h => by
    obtain ⟨v, ws, rfl, h1, h2⟩ := h.cons_inv
    cases h1
    rw [Rps.ints_inv h2]
    rfl
theorem Rps.of_ints {K : PySem.W.Frag} {H : Hp} : ∀ (ns : List Int), Rps K H (ns.map V.int) (dints ns)
  | [] => .nil
  | n :: ns => .cons (.int n) (Rps.of_ints ns)
theorem Rps.bools_inv {K : PySem.W.Frag} {H : Hp} : ∀ {ns : List Bool} {vs : List V}, Rps K H vs (ns.map PyData.bool) → vs = ns.map V.bl
  | [], _, h => h.nil_inv
  | n :: ns, _, h => by
    obtain ⟨v, ws, rfl, h1, h2⟩ := h.cons_inv
    cases h1
    rw [Rps.bools_inv h2]
    rfl

/-! ### slots -/
/-- what a slot of the frame holds: a value that no longer changes; a list of one's own; a handle (a list of one's own, its contents told by ok alone); a dict of one's own -/
inductive Sl where
  | v (d : D) | own (ds : List D) | hnd | dct (kvs : List (Key × D)) | dcm (kvs : List (NestedKey × D))
abbrev EnvD := List (Option Sl)
def Sl.isOwn : Sl → Bool
  | .v _ => false
  | _ => true
inductive Rt where
  | v (d : D) | own (ds : List D) | two (d : D) (ds : List D)
def Rt.val : Rt → D
  | .v d => d
  | .own ds => .list ds
  | .two d ds => .list [d, .list ds]

structure Ctx where
  He : Hp
  H0e : Hp
  ha : Option Addr
  Kp : Hp

/-- keys and values, row by row -/
def MRps (K : PySem.W.Frag) (H : Hp) (ks : List MRow) (es : List (NestedKey × D)) : Prop := ks.map (·.1) = es.map (·.1) ∧ Rps K H (ks.map (·.2.2)) (es.map (·.2)) ∧ ∀ x ∈ ks, NV K H 8 x.1 x.2.1
theorem MRps.mono {K : PySem.W.Frag} {H H1 : Hp} {ks : List MRow} {es : List (NestedKey × D)} (e : Same H H1) (h : MRps K H ks es) : MRps K H1 ks es := ⟨h.1, h.2.1.mono e, fun x hx => (h.2.2 x hx).same fun b o z => .inr (e b o z)⟩
def KRps (K : PySem.W.Frag) (H : Hp) (ks : List (Key × V)) (es : List (Key × D)) : Prop := ks.map Prod.fst = es.map Prod.fst ∧ Rps K H (ks.map Prod.snd) (es.map Prod.snd)
section
variable (K : PySem.W.Frag) (ok : List D → Prop)
/-- a list of one's own at p: unknown to H0, its items known -/
structure OwnAt (H0 H : Hp) (p : Addr) (ds : List D) : Prop where
  n0 : H0 p = none
  ex : ∃ vs, H p = some (.lst vs) ∧ Rps K H0 vs ds
def SlotOk (C : Ctx) (H0 H : Hp) (x : Option (Option V)) : Sl → Prop
  | .v d => ∃ v, x = some (some v) ∧ Rp K H0 v d
  | .own ds => ∃ p, x = some (some (.ref p)) ∧ C.He p = none ∧ OwnAt K H0 H p ds
  | .hnd => ∃ a ds, x = some (some (.ref a)) ∧ (C.ha = some a ∨ C.He a = none) ∧ OwnAt K H0 H a ds ∧ ok ds
  | .dct kvs => ∃ p ks, x = some (some (.ref p)) ∧ C.He p = none ∧ H0 p = none ∧ H p = some (.dK ks) ∧ KRps K H0 ks kvs
  | .dcm kvs => ∃ p ks, x = some (some (.ref p)) ∧ C.He p = none ∧ H0 p = none ∧ H p = some (DN.dN p ks) ∧ MRps K H0 ks kvs
structure Rel (C : Ctx) (H0 : Hp) (σ : St) (H : Hp) (env : EnvD) : Prop where
  sub : Same H0 H
  grow : Same C.H0e H0
  new : ∀ b o, H0 b = some o → C.H0e b = some o ∨ C.He b = none
  fr : ∀ b o, C.He b = some o → some b ≠ C.ha → H b = some o
  hv : ∀ a, C.ha = some a → (∃ o, C.He a = some o) ∧ ∃ ds, OwnAt K H0 H a ds ∧ ok ds
  len : σ.length = env.length
  slot : ∀ (i : Nat) s, env[i]? = some (some s) → SlotOk K ok C H0 H σ[i]? s
  dis : ∀ (i j : Nat) s t p, i ≠ j → env[i]? = some (some s) → env[j]? = some (some t) → s.isOwn = true → t.isOwn = true → σ[i]? = some (some (.ref p)) → σ[j]? ≠ some (some (.ref p))
  kp : Same C.Kp H
  kn : ∀ (i : Nat) s p, env[i]? = some (some s) → s.isOwn = true → σ[i]? = some (some (.ref p)) → C.Kp p = none
  kh : ∀ a, C.ha = some a → C.Kp a = none
  kz : ∀ b o, C.Kp b = some o → H0 b = none
end
section
variable {K : PySem.W.Frag} {ok : List D → Prop} {C : Ctx} {H0 H01 H H1 : Hp} {σ : St} {env : EnvD}
theorem OwnAt.is {p : Addr} {ds : List D} (h : OwnAt K H0 H p ds) : ∃ vs, H p = some (.lst vs) := let ⟨vs, hp, _⟩ := h.ex; ⟨vs, hp⟩
theorem KRps.mono {ks : List (Key × V)} {es : List (Key × D)} (e : Same H H1) (h : KRps K H ks es) : KRps K H1 ks es := ⟨h.1, h.2.mono e⟩
/-- an own slot's address -/
theorem Rel.own_addr (R : Rel K ok C H0 σ H env) {i : Nat} {s : Sl} (h : env[i]? = some (some s)) (o : s.isOwn = true) : ∃ p u, σ[i]? = some (some (.ref p)) ∧ H0 p = none ∧ H p = some u ∧ (C.ha = some p ∨ C.He p = none) ∧ Mut (some u) := by
  have q := R.slot i s h
  cases s with
  | v d => cases o
  | own ds => obtain ⟨p, e, n, n0, vs, hp, _⟩ := q; exact ⟨p, _, e, n0, hp, .inr n, trivial⟩
  | hnd => obtain ⟨a, ds, e, n, ⟨n0, vs, hp, _⟩, _⟩ := q; exact ⟨a, _, e, n0, hp, n, trivial⟩
  | dct kvs => obtain ⟨p, ks, e, n, n0, hp, _⟩ := q; exact ⟨p, _, e, n0, hp, .inr n, trivial⟩
  | dcm kvs => obtain ⟨p, ks, e, n, n0, hp, _⟩ := q; exact ⟨p, _, e, n0, hp, .inr n, trivial⟩
/-- fresh for the whole: not tracked, so new since the entry too -/
theorem Rel.fresh (R : Rel K ok C H0 σ H env) {p : Addr} (h : H p = none) : C.He p = none := by
  cases e : C.He p with
  | none => rfl
  | some o =>
    by_cases ha : some p = C.ha
    · obtain ⟨_, ds, ⟨_, vs, hp, _⟩, _⟩ := R.hv p ha.symm
      rw [h] at hp; cases hp
    · have := R.fr p o e ha
      rw [h] at this; cases this
theorem OwnAt.keep {p : Addr} {ds : List D} (h : OwnAt K H0 H p ds) (e : Same H0 H01) (n : H01 p = none) (k : ∀ o, H p = some o → H1 p = some o) : OwnAt K H01 H1 p ds := by
  obtain ⟨_, vs, hp, r⟩ := h
  exact ⟨n, vs, k _ hp, r.mono e⟩
/-- THE STEP: all that was tracked is kept, what is known has grown by new objects -/
theorem Rel.step (R : Rel K ok C H0 σ H env) (e0 : Same H0 H01) (sub : Same H01 H1) (new : ∀ b o, H01 b = some o → H0 b = some o ∨ H b = none) (kp : Same H H1) : Rel K ok C H01 σ H1 env := by
  have non : ∀ p u, H0 p = none → H p = some u → H01 p = none := fun p u n h => by
    cases q : H01 p with
    | none => rfl
    | some o =>
      rcases new p o q with z | z
      · rw [n] at z; cases z
      · rw [h] at z; cases z
  refine ⟨sub, fun b o h => e0 _ _ (R.grow b o h), fun b o h => ?_, fun b o h n => kp _ _ (R.fr b o h n), fun a ha => ?_, R.len, fun i s h => ?_, R.dis, fun b o z => kp _ _ (R.kp b o z), R.kn, R.kh, fun b o z => non b o (R.kz b o z) (R.kp b o z)⟩
  · rcases new b o h with z | z
    · exact R.new b o z
    · exact .inr (R.fresh z)
  · obtain ⟨h1, ds, h2, h3⟩ := R.hv a ha
    obtain ⟨vs, hp⟩ := h2.is
    exact ⟨h1, ds, h2.keep e0 (non a _ h2.n0 hp) (kp a), h3⟩
  · have q := R.slot i s h
    cases s with
    | v d => obtain ⟨v, e, r⟩ := q; exact ⟨v, e, r.mono e0⟩
    | own ds =>
      obtain ⟨p, e, n, h2⟩ := q
      obtain ⟨vs, hp⟩ := h2.is
      exact ⟨p, e, n, h2.keep e0 (non p _ h2.n0 hp) (kp p)⟩
    | hnd =>
      obtain ⟨a, ds, e, n, h2, h3⟩ := q
      obtain ⟨vs, hp⟩ := h2.is
      exact ⟨a, ds, e, n, h2.keep e0 (non a _ h2.n0 hp) (kp a), h3⟩
    | dct kvs =>
      obtain ⟨p, ks, e, n, n0, hp, r⟩ := q
      exact ⟨p, ks, e, n, non p _ n0 hp, kp _ _ hp, r.mono e0⟩
    | dcm kvs =>
      obtain ⟨p, ks, e, n, n0, hp, r⟩ := q
      exact ⟨p, ks, e, n, non p _ n0 hp, kp _ _ hp, r.mono e0⟩
theorem same_new {p : Addr} {o : HO} (h : H p = none) : Same H (upd H p o) := fun b x e => by
  rw [upd_ne (ne_of_none e h)]
  exact e
/-- a new object is laid and known -/
theorem Rel.laid (R : Rel K ok C H0 σ H env) {p : Addr} {o : HO} (h : H p = none) : Rel K ok C (upd H0 p o) σ (upd H p o) env ∧ Same H0 (upd H0 p o) := by
  have h0 : H0 p = none := R.sub.free h
  have e0 : Same H0 (upd H0 p o) := same_new h0
  refine ⟨R.step e0 (fun b x e => ?_) (fun b x e => ?_) (same_new h), e0⟩
  · by_cases hb : b = p
    · subst hb; rw [upd_same] at e ⊢; exact e
    · rw [upd_ne hb] at e ⊢; exact R.sub _ _ e
  · by_cases hb : b = p
    · subst hb; exact .inr h
    · rw [upd_ne hb] at e; exact .inl e
/-- a new object is laid, not known -/
theorem Rel.laid0 (R : Rel K ok C H0 σ H env) {p : Addr} {o : HO} (h : H p = none) : Rel K ok C H0 σ (upd H p o) env :=
  R.step (Same.refl _) (fun b x e => by rw [upd_ne (ne_of_none (R.sub b x e) h)]; exact R.sub b x e) (fun b x e => .inl e) (same_new h)
/-- what is unknown, of one's own and in no slot becomes known -/
theorem Rel.know (R : Rel K ok C H0 σ H env) {p : Addr} {o : HO} (h : H p = some o) (n0 : H0 p = none) (n : C.He p = none) (kq : C.Kp p = none) (ns : ∀ (i : Nat) s, env[i]? = some (some s) → s.isOwn = true → σ[i]? ≠ some (some (.ref p))) :
    Rel K ok C (upd H0 p o) σ H env ∧ Same H0 (upd H0 p o) := by
  have e0 : Same H0 (upd H0 p o) := same_new n0
  have non : ∀ q, q ≠ p → H0 q = none → (upd H0 p o) q = none := fun q hq z => by rw [upd_ne hq]; exact z
  refine ⟨⟨fun b x e => ?_, fun b x e => e0 _ _ (R.grow b x e), fun b x e => ?_, R.fr, fun a ha => ?_, R.len, fun i s hs => ?_, R.dis, R.kp, R.kn, R.kh, fun b x z => non b (fun y => by subst y; rw [kq] at z; cases z) (R.kz b x z)⟩, e0⟩
  · by_cases hb : b = p
    · subst hb; rw [upd_same] at e; rw [h]; exact e
    · rw [upd_ne hb] at e; exact R.sub _ _ e
  · by_cases hb : b = p
    · subst hb; exact .inr n
    · rw [upd_ne hb] at e; exact R.new _ _ e
  · obtain ⟨⟨oa, h1⟩, ds, h2, h3⟩ := R.hv a ha
    have hap : a ≠ p := fun z => by subst z; rw [n] at h1; cases h1
    exact ⟨⟨oa, h1⟩, ds, h2.keep e0 (non a hap h2.n0) (fun _ z => z), h3⟩
  · have q := R.slot i s hs
    cases s with
    | v d => obtain ⟨v, e, r⟩ := q; exact ⟨v, e, r.mono e0⟩
    | own ds =>
      obtain ⟨a, e, m, h2⟩ := q
      exact ⟨a, e, m, h2.keep e0 (non a (fun z => by subst z; exact ns i _ hs rfl e) h2.n0) (fun _ z => z)⟩
    | hnd =>
      obtain ⟨a, ds, e, m, h2, h3⟩ := q
      exact ⟨a, ds, e, m, h2.keep e0 (non a (fun z => by subst z; exact ns i _ hs rfl e) h2.n0) (fun _ z => z), h3⟩
    | dct kvs =>
      obtain ⟨a, ks, e, m, m0, hp, r⟩ := q
      exact ⟨a, ks, e, m, non a (fun z => by subst z; exact ns i _ hs rfl e) m0, hp, r.mono e0⟩
    | dcm kvs =>
      obtain ⟨a, ks, e, m, m0, hp, r⟩ := q
      exact ⟨a, ks, e, m, non a (fun z => by subst z; exact ns i _ hs rfl e) m0, hp, r.mono e0⟩
/-- what is not in any own slot: addresses that were untracked -/
theorem Rel.noslot (R : Rel K ok C H0 σ H env) {p : Addr} (h : H p = none) : ∀ (i : Nat) s, env[i]? = some (some s) → s.isOwn = true → σ[i]? ≠ some (some (.ref p)) := fun i s hs o z => by
  obtain ⟨q, u, e, _, hp, _⟩ := R.own_addr hs o
  rw [e] at z
  cases z
  rw [h] at hp; cases hp
/-- a slot is stored: a known value -/
theorem Rel.setV (R : Rel K ok C H0 σ H env) {i : Nat} {x : V} {d : D} (r : Rp K H0 x d) : Rel K ok C H0 (σ.set i (some x)) H (env.set i (some (.v d))) := by
  refine ⟨R.sub, R.grow, R.new, R.fr, R.hv, by rw [List.length_set, List.length_set]; exact R.len, fun j s hs => ?_, fun j k s t p hjk hs ht os ot => ?_, R.kp, fun j s p hs os => ?_, R.kh, R.kz⟩
  · by_cases hj : i = j
    · subst hj
      by_cases hi : i < env.length
      · rw [List.getElem?_set_self hi] at hs
        cases hs
        exact ⟨x, by rw [List.getElem?_set_self (by rw [R.len]; exact hi)], r⟩
      · rw [List.getElem?_eq_none (by rw [List.length_set]; omega)] at hs; cases hs
    · rw [List.getElem?_set_ne hj] at hs ⊢
      exact R.slot j s hs
  · have h1 : i ≠ j := fun z => by
      subst z
      by_cases hi : i < env.length
      · rw [List.getElem?_set_self hi] at hs; cases hs; cases os
      · rw [List.getElem?_eq_none (by rw [List.length_set]; omega)] at hs; cases hs
    have h2 : i ≠ k := fun z => by
      subst z
      by_cases hi : i < env.length
      · rw [List.getElem?_set_self hi] at ht; cases ht; cases ot
      · rw [List.getElem?_eq_none (by rw [List.length_set]; omega)] at ht; cases ht
    rw [List.getElem?_set_ne h1] at hs ⊢
    rw [List.getElem?_set_ne h2] at ht ⊢
    exact R.dis j k s t p hjk hs ht os ot
  · have h1 : i ≠ j := fun z => by
      subst z
      by_cases hi : i < env.length
      · rw [List.getElem?_set_self hi] at hs; cases hs; cases os
      · rw [List.getElem?_eq_none (by rw [List.length_set]; omega)] at hs; cases hs
    rw [List.getElem?_set_ne h1] at hs ⊢
    exact R.kn j s p hs os
/-- a slot is stored: a thing of one's own -/
theorem Rel.setO (R : Rel K ok C H0 σ H env) {i : Nat} {p : Addr} {s : Sl} (q : SlotOk K ok C H0 H (some (some (.ref p))) s) (os : s.isOwn = true) (kq : C.Kp p = none)
    (ns : ∀ (j : Nat) t, j ≠ i → env[j]? = some (some t) → t.isOwn = true → σ[j]? ≠ some (some (.ref p))) : Rel K ok C H0 (σ.set i (some (.ref p))) H (env.set i (some s)) := by
  refine ⟨R.sub, R.grow, R.new, R.fr, R.hv, by rw [List.length_set, List.length_set]; exact R.len, fun j t ht => ?_, fun j k t u a hjk ht hu ot ou e1 e2 => ?_, R.kp, fun j t a ht ot e1 => ?_, R.kh, R.kz⟩
  · by_cases hj : i = j
    · subst hj
      by_cases hi : i < env.length
      · rw [List.getElem?_set_self hi] at ht
        cases ht
        rw [List.getElem?_set_self (by rw [R.len]; exact hi)]
        exact q
      · rw [List.getElem?_eq_none (by rw [List.length_set]; omega)] at ht; cases ht
    · rw [List.getElem?_set_ne hj] at ht ⊢
      exact R.slot j t ht
  · have lt : ∀ {j : Nat} {t : Sl}, (env.set i (some s))[j]? = some (some t) → j < env.length := fun {j t} z => by
      have := (List.getElem?_eq_some_iff.mp z).1
      rw [List.length_set] at this
      exact this
    by_cases h1 : i = j
    · subst h1
      have h2 : i ≠ k := hjk
      rw [List.getElem?_set_ne h2] at hu e2
      rw [List.getElem?_set_self (by rw [R.len]; exact lt ht)] at e1
      cases e1
      exact ns k u (Ne.symm h2) hu ou e2
    · rw [List.getElem?_set_ne h1] at ht e1
      by_cases h2 : i = k
      · subst h2
        rw [List.getElem?_set_self (by rw [R.len]; exact lt hu)] at e2
        cases e2
        exact ns j t (Ne.symm h1) ht ot e1
      · rw [List.getElem?_set_ne h2] at hu e2
        exact R.dis j k t u a hjk ht hu ot ou e1 e2
  · by_cases h1 : i = j
    · subst h1
      by_cases hi : i < env.length
      · rw [List.getElem?_set_self (by rw [R.len]; exact hi)] at e1
        cases e1
        exact kq
      · rw [List.getElem?_eq_none (by rw [List.length_set]; omega)] at ht; cases ht
    · rw [List.getElem?_set_ne h1] at ht e1
      exact R.kn j t a ht ot e1
/-- a slot forgotten -/
theorem Rel.drop (R : Rel K ok C H0 σ H env) {i : Nat} {y : Option V} : Rel K ok C H0 (σ.set i y) H (env.set i none) := by
  refine ⟨R.sub, R.grow, R.new, R.fr, R.hv, by rw [List.length_set, List.length_set]; exact R.len, fun j s hs => ?_, fun j k s t p hjk hs ht os ot => ?_, R.kp, fun j s p hs os => ?_, R.kh, R.kz⟩
  · have hj : i ≠ j := fun z => by
      subst z
      by_cases hi : i < env.length
      · rw [List.getElem?_set_self hi] at hs; cases hs
      · rw [List.getElem?_eq_none (by rw [List.length_set]; omega)] at hs; cases hs
    rw [List.getElem?_set_ne hj] at hs ⊢
    exact R.slot j s hs
  · have ne : ∀ {j : Nat} {t : Sl}, (env.set i none)[j]? = some (some t) → i ≠ j := fun {j t} z q => by
      subst q
      by_cases hi : i < env.length
      · rw [List.getElem?_set_self hi] at z; cases z
      · rw [List.getElem?_eq_none (by rw [List.length_set]; omega)] at z; cases z
    have h1 := ne hs
    have h2 := ne ht
    rw [List.getElem?_set_ne h1] at hs ⊢
    rw [List.getElem?_set_ne h2] at ht ⊢
    exact R.dis j k s t p hjk hs ht os ot
  · have hj : i ≠ j := fun z => by
      subst z
      by_cases hi : i < env.length
      · rw [List.getElem?_set_self hi] at hs; cases hs
      · rw [List.getElem?_eq_none (by rw [List.length_set]; omega)] at hs; cases hs
    rw [List.getElem?_set_ne hj] at hs ⊢
    exact R.kn j s p hs os
/-- a thing of one's own changes -/
theorem Rel.put (R : Rel K ok C H0 σ H env) {i : Nat} {p : Addr} {s t : Sl} {o : HO} (hs : env[i]? = some (some s)) (os : s.isOwn = true) (e : σ[i]? = some (some (.ref p))) (nh : C.ha ≠ some p)
    (ot : t.isOwn = true) (q : SlotOk K ok C H0 (upd H p o) (some (some (.ref p))) t) : Rel K ok C H0 σ (upd H p o) (env.set i (some t)) := by
  obtain ⟨p', u, e', n0, hp, hn, _⟩ := R.own_addr hs os
  rw [e] at e'
  cases e'
  have hn : C.He p = none := hn.resolve_left nh
  have lt : i < env.length := (List.getElem?_eq_some_iff.mp hs).1
  have up : ∀ {b : Addr} {x : HO}, b ≠ p → H b = some x → (upd H p o) b = some x := fun {b x} hb z => by rw [upd_ne hb]; exact z
  refine ⟨fun b x z => up (fun y => by subst y; rw [n0] at z; cases z) (R.sub b x z), R.grow, R.new, fun b x z m => up (fun y => by subst y; rw [hn] at z; cases z) (R.fr b x z m), fun a ha => ?_, ?_, fun j r hr => ?_, fun j k r r' a hjk hr hr' o1 o2 e1 => ?_, fun b x z => up (fun y => by subst y; rw [R.kn i s b hs os e] at z; cases z) (R.kp b x z), fun j r a hr o' e1 => ?_, R.kh, R.kz⟩
  · obtain ⟨h1, ds, h2, h3⟩ := R.hv a ha
    have hap : a ≠ p := fun z => by subst z; exact nh ha
    exact ⟨h1, ds, h2.keep (Same.refl _) h2.n0 (fun x z => up hap z), h3⟩
  · rw [List.length_set]; exact R.len
  · by_cases hj : i = j
    · subst hj
      rw [List.getElem?_set_self lt] at hr
      cases hr
      rw [e]; exact q
    · rw [List.getElem?_set_ne hj] at hr
      have w := R.slot j r hr
      have other : ∀ {a : Addr}, r.isOwn = true → σ[j]? = some (some (.ref a)) → a ≠ p := fun {a} o' z y => by
        subst y
        exact R.dis i j s r a hj hs hr os o' e z
      cases r with
      | v d => exact w
      | own ds => obtain ⟨a, z, m, h2⟩ := w; exact ⟨a, z, m, h2.keep (Same.refl _) h2.n0 (fun x y => up (other rfl z) y)⟩
      | hnd => obtain ⟨a, ds, z, m, h2, h3⟩ := w; exact ⟨a, ds, z, m, h2.keep (Same.refl _) h2.n0 (fun x y => up (other rfl z) y), h3⟩
      | dct kvs => obtain ⟨a, ks, z, m, m0, hq, r'⟩ := w; exact ⟨a, ks, z, m, m0, up (other rfl z) hq, r'⟩
      | dcm kvs => obtain ⟨a, ks, z, m, m0, hq, r'⟩ := w; exact ⟨a, ks, z, m, m0, up (other rfl z) hq, r'⟩
  · have old : ∀ {j : Nat} {r : Sl}, (env.set i (some t))[j]? = some (some r) → r.isOwn = true → ∃ r', env[j]? = some (some r') ∧ r'.isOwn = true := fun {j r} z o' => by
      by_cases hj : i = j
      · subst hj; exact ⟨s, hs, os⟩
      · rw [List.getElem?_set_ne hj] at z; exact ⟨r, z, o'⟩
    obtain ⟨r1, z1, y1⟩ := old hr o1
    obtain ⟨r2, z2, y2⟩ := old hr' o2
    exact R.dis j k r1 r2 a hjk z1 z2 y1 y2 e1
  · by_cases hj : i = j
    · subst hj; rw [e] at e1; cases e1; exact R.kn i s p hs os e
    · rw [List.getElem?_set_ne hj] at hr; exact R.kn j r a hr o' e1
/-- a call has run that may have changed the handle at a -/
theorem Rel.called (R : Rel K ok C H0 σ H env) {i : Nat} {a : Addr} (hs : env[i]? = some (some .hnd)) (ea : σ[i]? = some (some (.ref a))) (e0 : Same H0 H01) (sub : Same H01 H1) (new : ∀ b o, H01 b = some o → H0 b = some o ∨ H b = none)
    (kp : ∀ b o, H b = some o → b ≠ a → H1 b = some o) (na : H01 a = none) {ds' : List D} (ha' : OwnAt K H01 H1 a ds') (ok' : ok ds') : Rel K ok C H01 σ H1 env := by
  have non : ∀ p u, H0 p = none → H p = some u → H01 p = none := fun p u n h => by
    cases q : H01 p with
    | none => rfl
    | some o =>
      rcases new p o q with z | z
      · rw [n] at z; cases z
      · rw [h] at z; cases z
  obtain ⟨a', da, ea', na', ⟨na0, va, hva, _⟩, _⟩ := R.slot i .hnd hs
  rw [ea] at ea'
  cases ea'
  refine ⟨sub, fun b o h => e0 _ _ (R.grow b o h), fun b o h => ?_, fun b o h n => ?_, fun b hb => ?_, R.len, fun j s h => ?_, R.dis, fun b o z => kp _ _ (R.kp b o z) (fun y => by subst y; rw [R.kn i _ b hs rfl ea] at z; cases z), R.kn, R.kh, fun b o z => non b o (R.kz b o z) (R.kp b o z)⟩
  · rcases new b o h with z | z
    · exact R.new b o z
    · exact .inr (R.fresh z)
  · refine kp _ _ (R.fr b o h n) fun z => ?_
    subst z
    rcases na' with z | z
    · exact n z.symm
    · rw [h] at z; cases z
  · obtain ⟨h1, ds, h2, h3⟩ := R.hv b hb
    by_cases hba : b = a
    · subst hba; exact ⟨h1, ds', ha', ok'⟩
    · obtain ⟨vs, hp⟩ := h2.is
      exact ⟨h1, ds, h2.keep e0 (non b _ h2.n0 hp) (fun o z => kp b o z hba), h3⟩
  · have q := R.slot j s h
    have other : ∀ {b : Addr}, i ≠ j → s.isOwn = true → σ[j]? = some (some (.ref b)) → b ≠ a := fun {b} hij o' z y => by
      subst y
      exact R.dis i j .hnd s b hij hs h rfl o' ea z
    by_cases hij : i = j
    · subst hij
      rw [hs] at h
      cases h
      exact ⟨a, ds', ea, na', ha', ok'⟩
    · cases s with
      | v d => obtain ⟨v, e, r⟩ := q; exact ⟨v, e, r.mono e0⟩
      | own ds =>
        obtain ⟨p, e, n, h2⟩ := q
        obtain ⟨vs, hp⟩ := h2.is
        exact ⟨p, e, n, h2.keep e0 (non p _ h2.n0 hp) (fun o z => kp p o z (other hij rfl e))⟩
      | hnd =>
        obtain ⟨b, ds, e, n, h2, h3⟩ := q
        obtain ⟨vs, hp⟩ := h2.is
        exact ⟨b, ds, e, n, h2.keep e0 (non b _ h2.n0 hp) (fun o z => kp b o z (other hij rfl e)), h3⟩
      | dct kvs =>
        obtain ⟨p, ks, e, n, n0, hp, r⟩ := q
        exact ⟨p, ks, e, n, non p _ n0 hp, kp _ _ hp (other hij rfl e), r.mono e0⟩
      | dcm kvs =>
        obtain ⟨p, ks, e, n, n0, hp, r⟩ := q
        exact ⟨p, ks, e, n, non p _ n0 hp, kp _ _ hp (other hij rfl e), r.mono e0⟩
/-- a thing that no slot holds is protected, or no longer -/
theorem Rel.guard (R : Rel K ok C H0 σ H env) {Kq : Hp} (h : Same Kq H) (ns : ∀ p o, Kq p = some o → C.Kp p = some o ∨ ((∀ (i : Nat) s, env[i]? = some (some s) → s.isOwn = true → σ[i]? ≠ some (some (.ref p))) ∧ C.ha ≠ some p ∧ H0 p = none)) : Rel K ok { C with Kp := Kq } H0 σ H env := by
  refine ⟨R.sub, R.grow, R.new, R.fr, R.hv, R.len, fun i s hs => ?_, R.dis, h, fun i s p hs os e => ?_, fun a ha => ?_, fun b o z => ?_⟩
  · have q := R.slot i s hs
    cases s <;> exact q
  · cases q : Kq p with
    | none => exact q
    | some o =>
      rcases ns p o q with z | z
      · rw [R.kn i s p hs os e] at z; cases z
      · exact absurd e (z.1 i s hs os)
  · cases q : Kq a with
    | none => exact q
    | some o =>
      rcases ns a o q with z | z
      · rw [R.kh a ha] at z; cases z
      · exact absurd ha z.2.1
  · rcases ns b o z with z | z
    · exact R.kz b o z
    · exact z.2.2
end
end DL
/-! DL, part b: expressions, tests, arguments: what is asked, without a heap; each rule sound. -/
namespace DL
open PySem L2

abbrev WE := EnvD → (D → Prop) → Prop
abbrev WL := EnvD → (List D → Prop) → Prop
abbrev WT := EnvD → (Bool → Prop) → Prop
inductive Ar where
  | v (d : D) | hnd
abbrev WA := EnvD → (List Ar → Prop) → Prop

/-- a slot by its place -/
def get : EnvD → Nat → Option Sl
  | [], _ => none
  | x :: _, 0 => x
  | _ :: r, n + 1 => get r n
theorem get_eq : ∀ {env : EnvD} {i : Nat} {s : Sl}, get env i = some s → env[i]? = some (some s)
  | [], _, _, h => by cases h
  | x :: _, 0, s, h => by
    have h' : x = some s := h
    subst h'; rfl
  | _ :: r, n + 1, s, h => by
    rw [List.getElem?_cons_succ]
    exact get_eq (env := r) h

structure FreshL (K : PySem.W.Frag) (C : Ctx) (H0 : Hp) (σ : L2.St) (H : Hp) (env : EnvD) (p : Addr) (ds : List D) : Prop where
  he : C.He p = none
  own : OwnAt K H0 H p ds
  ns : ∀ (i : Nat) s, env[i]? = some (some s) → s.isOwn = true → σ[i]? ≠ some (some (.ref p))
  kq : C.Kp p = none

def ArgR (K : PySem.W.Frag) (H0 : Hp) (σ : L2.St) (env : EnvD) : Ar → V → Prop
  | .v d, x => Rp K H0 x d
  | .hnd, x => ∃ (i : Nat) (a : Addr), env[i]? = some (some .hnd) ∧ σ[i]? = some (some (.ref a)) ∧ x = .ref a
inductive ArgsR (K : PySem.W.Frag) (H0 : Hp) (σ : L2.St) (env : EnvD) : List Ar → List V → Prop
  | nil : ArgsR K H0 σ env [] []
  | cons {a : Ar} {as : List Ar} {x : V} {xs : List V} : ArgR K H0 σ env a x → ArgsR K H0 σ env as xs → ArgsR K H0 σ env (a :: as) (x :: xs)
section
variable {K : PySem.W.Frag} {ok : List D → Prop}
theorem ArgR.mono {H0 H01 : Hp} {σ : L2.St} {env : EnvD} (e : Same H0 H01) : ∀ {a : Ar} {x : V}, ArgR K H0 σ env a x → ArgR K H01 σ env a x
  | .v _, _, h => Rp.mono e h
  | .hnd, _, h => h
theorem ArgsR.length {H0 : Hp} {σ : L2.St} {env : EnvD} : ∀ {as : List Ar} {xs : List V}, ArgsR K H0 σ env as xs → as.length = xs.length
  | _, _, .nil => rfl
  | _, _, .cons _ t => by rw [List.length_cons, List.length_cons, ArgsR.length t]
variable (K ok)
def SndE (te : TE) (we : WE) : Prop := ∀ (C : Ctx) (H0 : Hp) (σ : L2.St) (H : Hp) (env : EnvD) (Q : D → Prop) (R : VK), Rel K ok C H0 σ H env → we env Q →
  (∀ d v H1 H01, Q d → Rel K ok C H01 σ H1 env → Same H0 H01 → Rp K H01 v d → R v H1) → te σ H R
def SndL (te : TE) (wl : WL) : Prop := ∀ (C : Ctx) (H0 : Hp) (σ : L2.St) (H : Hp) (env : EnvD) (Q : List D → Prop) (R : VK), Rel K ok C H0 σ H env → wl env Q →
  (∀ ds p H1 H01, Q ds → Rel K ok C H01 σ H1 env → Same H0 H01 → FreshL K C H01 σ H1 env p ds → R (.ref p) H1) → te σ H R
def SndT (tt : TT) (wt : WT) : Prop := ∀ (C : Ctx) (H0 : Hp) (σ : L2.St) (H : Hp) (env : EnvD) (Q : Bool → Prop) (R : Bool → Hp → Prop), Rel K ok C H0 σ H env → wt env Q →
  (∀ b H1 H01, Q b → Rel K ok C H01 σ H1 env → Same H0 H01 → R b H1) → tt σ H R
def SndA (ta : TA) (wa : WA) : Prop := ∀ (C : Ctx) (H0 : Hp) (σ : L2.St) (H : Hp) (env : EnvD) (Q : List Ar → Prop) (R : List V → Hp → Prop), Rel K ok C H0 σ H env → wa env Q →
  (∀ as vs H1 H01, Q as → Rel K ok C H01 σ H1 env → Same H0 H01 → ArgsR K H01 σ env as vs → R vs H1) → ta σ H R
/-- borrowed: a known value, or a list of one's own that stands while the slots do -/
def Bor (H0 H : Hp) (v : V) (d : D) : Prop := Rp K H0 v d ∨ ∃ p ds, v = .ref p ∧ d = .list ds ∧ OwnAt K H0 H p ds
def SndB (te : TE) (wb : WE) : Prop := ∀ (C : Ctx) (H0 : Hp) (σ : L2.St) (H : Hp) (env : EnvD) (Q : D → Prop) (R : VK), Rel K ok C H0 σ H env → wb env Q →
  (∀ d v H1 H01, Q d → Rel K ok C H01 σ H1 env → Same H0 H01 → (∀ H2 H02, Rel K ok C H02 σ H2 env → Same H01 H02 → Bor K H02 H2 v d) → R v H1) → te σ H R
end
section
variable (X : Cx) (ok : List D → Prop)
def PDE (e : Expr) (we : WE) : Prop := ∃ te, PE X e te ∧ SndE X.K ok te we
def PDL (e : Expr) (wl : WL) : Prop := ∃ te, PE X e te ∧ SndL X.K ok te wl
def PDB (e : Expr) (wb : WE) : Prop := ∃ te, PE X e te ∧ SndB X.K ok te wb
def PDT (e : Expr) (wt : WT) : Prop := ∃ tt, PT X e tt ∧ SndT X.K ok tt wt
def PDW (e : Expr) (wt : WT) : Prop := ∃ tt, PW X e tt ∧ SndT X.K ok tt wt
def PDA (es : List Expr) (wa : WA) : Prop := ∃ ta, PA X es ta ∧ SndA X.K ok ta wa
end

/-! ### what is asked -/
def wC (d : D) : WE := fun _ Q => Q d
def wVar (i : Nat) : WE := fun env Q => match get env i with
  | some (.v d) => Q d
  | _ => False
/-- a name as it stands, also a list of one's own -/
def wBor (i : Nat) : WE := fun env Q => match get env i with
  | some (.v d) => Q d
  | some (.own ds) => Q (.list ds)
  | _ => False
def wBin (f : D → D → (D → Prop) → Prop) (a b : WE) : WE := fun env Q => a env fun x => b env fun y => f x y Q
def wUn (f : D → (D → Prop) → Prop) (a : WE) : WE := fun env Q => a env fun x => f x Q
def fI (g : Int → Int → Int) : D → D → (D → Prop) → Prop := fun d e Q => match d, e with
  | .int i, .int j => Q (.int (g i j))
  | _, _ => False
def fIC (c : Int → Int → Prop) (g : Int → Int → Int) : D → D → (D → Prop) → Prop := fun d e Q => match d, e with
  | .int i, .int j => c i j ∧ Q (.int (g i j))
  | _, _ => False
def fB (g : Int → Int → Bool) : D → D → (D → Prop) → Prop := fun d e Q => match d, e with
  | .int i, .int j => Q (.bool (g i j))
  | _, _ => False
def fAdd : D → D → (D → Prop) → Prop := fun d e Q => match d, e with
  | .int i, .int j => Q (.int (i + j))
  | _, _ => False
def fSub : D → D → (D → Prop) → Prop := fun d e Q => match d, e with
  | .int i, .int j => Q (.int (i - j))
  | _, _ => False
def fMul : D → D → (D → Prop) → Prop := fun d e Q => match d, e with
  | .int i, .int j => CMul i j ∧ Q (.int (i * j))
  | _, _ => False
def fMulX : D → D → (D → Prop) → Prop := fun d e Q => match d, e with
  | .int i, .int j => CMulX i j ∧ Q (.int (i * j))
  | _, _ => False
def fMod : D → D → (D → Prop) → Prop := fun d e Q => match d, e with
  | .int i, .int j => 0 < j ∧ Q (.int (i % j))
  | _, _ => False
def fDiv : D → D → (D → Prop) → Prop := fun d e Q => match d, e with
  | .int i, .int j => CDivW i j ∧ Q (.int (i / j))
  | _, _ => False
def fShl : D → D → (D → Prop) → Prop := fun d e Q => match d, e with
  | .int i, .int j => CPow i j ∧ Q (.int (i * 2 ^ j.toNat))
  | _, _ => False
def fPow : D → D → (D → Prop) → Prop := fun d e Q => match d, e with
  | .int i, .int j => CPow i j ∧ Q (.int (i ^ j.toNat))
  | _, _ => False
def fMax2 : D → D → (D → Prop) → Prop := fun d e Q => match d, e with
  | .int i, .int j => Q (.int (if j > i then j else i))
  | _, _ => False
def fMin2 : D → D → (D → Prop) → Prop := fun d e Q => match d, e with
  | .int i, .int j => Q (.int (if j < i then j else i))
  | _, _ => False
def fLt : D → D → (D → Prop) → Prop := fun d e Q => match d, e with
  | .int i, .int j => Q (.bool (decide (i < j)))
  | _, _ => False
def fLe : D → D → (D → Prop) → Prop := fun d e Q => match d, e with
  | .int i, .int j => Q (.bool (decide (i ≤ j)))
  | _, _ => False
def fGt : D → D → (D → Prop) → Prop := fun d e Q => match d, e with
  | .int i, .int j => Q (.bool (decide (j < i)))
  | _, _ => False
def fGe : D → D → (D → Prop) → Prop := fun d e Q => match d, e with
  | .int i, .int j => Q (.bool (decide (j ≤ i)))
  | _, _ => False
def fEq : D → D → (D → Prop) → Prop := fun d e Q => match d, e with
  | .int i, .int j => Q (.bool (decide (i = j)))
  | d, e => SeqAt.shaped d = true ∧ SeqAt.shaped e = true ∧ Q (.bool (PyData.eqv d e))
def fNe : D → D → (D → Prop) → Prop := fun d e Q => match d, e with
  | .int i, .int j => Q (.bool (!decide (i = j)))
  | d, e => SeqAt.shaped d = true ∧ SeqAt.shaped e = true ∧ Q (.bool (!PyData.eqv d e))
def isNone : D → Bool
  | .none => true
  | _ => false
def fNeg : D → (D → Prop) → Prop := fun d Q => match d with
  | .int i => Q (.int (-i))
  | _ => False
def wIsN (a : WE) : WE := fun env Q => a env fun x => Q (.bool (isNone x))
def wNotN (a : WE) : WE := fun env Q => a env fun x => Q (.bool (!isNone x))
def wTest (a : WE) : WT := fun env Q => a env fun x => match x with
  | .bool b => Q b
  | _ => False
def wNot (t : WT) : WT := fun env Q => t env fun b => Q (!b)
/-- both ways -/
def wAnd (t u : WT) : WT := fun env Q => t env fun b => (b = true → u env Q) ∧ (b = false → Q false)
def wOr (t u : WT) : WT := fun env Q => t env fun b => (b = true → Q true) ∧ (b = false → u env Q)
/-- by a told answer of the second -/
def wAndD (t u : WT) : WT := fun env Q => t env fun b => ∃ c : Bool, (b = true → u env fun d => d = c) ∧ Q (b && c)
def wOrD (t u : WT) : WT := fun env Q => t env fun b => ∃ c : Bool, (b = false → u env fun d => d = c) ∧ Q (b || c)
/-- as values -/
def wBl (t : WT) : WE := fun env Q => t env fun b => Q (.bool b)
def wIfE (t : WT) (a b : WE) : WE := fun env Q => t env fun c => (c = true → a env Q) ∧ (c = false → b env Q)
def wNil : WA := fun _ Q => Q []
def wCons (a : WE) (r : WA) : WA := fun env Q => a env fun x => r env fun xs => Q (.v x :: xs)
def wConsH (i : Nat) (r : WA) : WA := fun env Q => match get env i with
  | some .hnd => r env fun xs => Q (.hnd :: xs)
  | _ => False
def vals : List Ar → List D
  | [] => []
  | .v d :: r => d :: vals r
  | .hnd :: r => vals r
def wTup (a : WA) : WE := fun env Q => a env fun as => as.length ≤ 1000 ∧ Q (.tuple (vals as))
def wLst (a : WA) : WL := fun env Q => a env fun as => as.length ≤ 1000 ∧ Q (vals as)
/-- a new list as a value -/
def wFz (l : WL) : WE := fun env Q => l env fun ds => Q (.list ds)
def fIx : D → D → (D → Prop) → Prop := fun d e Q => match d, e with
  | .list ds, .int i => ∃ x, atI ds i = some x ∧ Q x
  | .tuple ds, .int i => ∃ x, atI ds i = some x ∧ Q x
  | .dict [(.none, .list ds)], .int i => ∃ x, atI ds i = some x ∧ Q x
  | _, _ => False
def wIx (a b : WE) : WE := fun env Q => a env fun x => b env fun y => fIx x y Q
def wLen (a : WE) : WE := fun env Q => a env fun x => match x with
  | .list ds => Q (.int ds.length)
  | .tuple ds => Q (.int ds.length)
  | .dict [(.none, .list ds)] => Q (.int ds.length)
  | _ => False
abbrev WM := List Ar → (Rt → Prop) → Prop
def wCall (n : Nat) (M : WM) (a : WA) : WE := fun env Q => a env fun as => as.length = n ∧ M as fun r => Q r.val
def wCallO (n : Nat) (M : WM) (a : WA) : WL := fun env Q => a env fun as => as.length = n ∧ M as fun r => match r with
  | .own ds => Q ds
  | .v _ => False
  | .two _ _ => False

/-! ### soundness -/
section
variable {K : PySem.W.Frag} {ok : List D → Prop} {ta tb te : TE} {wa wb we : WE} {t u : TT} {wt wu : WT}
theorem SndE.b (h : SndE K ok te we) : SndB K ok te we := fun C H0 σ H env Q R rel hw k => h C H0 σ H env Q R rel hw fun d v H1 H01 q r e x => k d v H1 H01 q r e fun H2 H02 _ e2 => .inl (x.mono e2)
theorem SndL.fz {wl : WL} (h : SndL K ok te wl) : SndE K ok te (wFz wl) := fun C H0 σ H env Q R rel hw k => h C H0 σ H env _ R rel hw fun ds p H1 H01 q r e f => by
  obtain ⟨n0, vs, hp, hr⟩ := f.own
  obtain ⟨r2, e2⟩ := r.know hp n0 f.he f.kq f.ns
  exact k _ _ H1 _ q r2 (e.trans e2) (.lst upd_same (hr.mono e2))
theorem snd_c {v : V} {d : D} (h : ∀ H, Rp K H v d) : SndE K ok (tC v) (wC d) := fun C H0 σ H env Q R rel hw k => k d v H H0 hw rel (Same.refl _) (h _)
theorem snd_var {i : Nat} : SndE K ok (tVar i) (wVar i) := fun C H0 σ H env Q R rel hw k => by
  unfold wVar at hw
  split at hw
  · rename_i d hd
    obtain ⟨v, e, r⟩ := rel.slot i _ (get_eq hd)
    exact ⟨v, e, k d v H H0 hw rel (Same.refl _) r⟩
  · exact hw.elim
theorem snd_bor {i : Nat} : SndB K ok (tVar i) (wBor i) := fun C H0 σ H env Q R rel hw k => by
  unfold wBor at hw
  split at hw
  · rename_i d hd
    obtain ⟨v, e, r⟩ := rel.slot i _ (get_eq hd)
    exact ⟨v, e, k d v H H0 hw rel (Same.refl _) fun H2 H02 _ e2 => .inl (r.mono e2)⟩
  · rename_i ds hd
    obtain ⟨p, e, n, o⟩ := rel.slot i _ (get_eq hd)
    refine ⟨_, e, k _ _ H H0 hw rel (Same.refl _) fun H2 H02 r2 e2 => .inr ⟨p, ds, rfl, rfl, ?_⟩⟩
    obtain ⟨p', e', n', o'⟩ := r2.slot i _ (get_eq hd)
    rw [e] at e'
    cases e'
    exact o'
  · exact hw.elim
/-- an operation on values that leaves the heap -/
def OpD (K : PySem.W.Frag) (r : R2) (f : D → D → (D → Prop) → Prop) : Prop := ∀ (H0 H : Hp) (x y : V) (d e : D) (Q : D → Prop) (R : VK), Same H0 H → Rp K H0 x d → Rp K H0 y e → f d e Q → (∀ z v, Q z → Rp K H0 v z → R v H) → r x y H R
theorem snd_bin {r : R2} {f : D → D → (D → Prop) → Prop} (hr : OpD K r f) (ha : SndE K ok ta wa) (hb : SndE K ok tb wb) : SndE K ok (tOp r ta tb) (wBin f wa wb) := fun C H0 σ H env Q R rel hw k =>
  ha C H0 σ H env _ _ rel hw fun d v H1 H01 q r1 e1 x1 => hb C H01 σ H1 env _ _ r1 q fun e u H2 H02 q2 r2 e2 x2 =>
    hr H02 H2 v u d e Q R r2.sub (x1.mono e2) x2 q2 fun z w qz rz => k z w H2 H02 qz r2 (e1.trans e2) rz
theorem opd_I0 {g : Int → Int → Int} : OpD K (rI0 fun i j => .int (g i j)) (fI g) := fun H0 H x y d e Q R _ hx hy h k => by
  unfold fI at h
  split at h
  · cases hx; cases hy
    exact ⟨_, _, rfl, rfl, k _ _ h (.int _)⟩
  · exact h.elim
theorem opd_I {c : Int → Int → Prop} {g : Int → Int → Int} : OpD K (rI c fun i j => .int (g i j)) (fIC c g) := fun H0 H x y d e Q R _ hx hy h k => by
  unfold fIC at h
  split at h
  · cases hx; cases hy
    exact ⟨_, _, rfl, rfl, h.1, k _ _ h.2 (.int _)⟩
  · exact h.elim
theorem opd_B0 {g : Int → Int → Bool} : OpD K (rI0 fun i j => .bl (g i j)) (fB g) := fun H0 H x y d e Q R _ hx hy h k => by
  unfold fB at h
  split at h
  · cases hx; cases hy
    exact ⟨_, _, rfl, rfl, k _ _ h (.bl _)⟩
  · exact h.elim
theorem opd_add : OpD K (rI0 fun i j => .int (i + j)) fAdd := fun H0 H x y d e Q R _ hx hy h k => by
  unfold fAdd at h
  split at h
  · cases hx; cases hy
    exact ⟨_, _, rfl, rfl, k _ _ h (.int _)⟩
  · exact h.elim
theorem opd_sub : OpD K (rI0 fun i j => .int (i - j)) fSub := fun H0 H x y d e Q R _ hx hy h k => by
  unfold fSub at h
  split at h
  · cases hx; cases hy
    exact ⟨_, _, rfl, rfl, k _ _ h (.int _)⟩
  · exact h.elim
theorem opd_mul : OpD K (rI CMul fun i j => .int (i * j)) fMul := fun H0 H x y d e Q R _ hx hy h k => by
  unfold fMul at h
  split at h
  · cases hx; cases hy
    exact ⟨_, _, rfl, rfl, h.1, k _ _ h.2 (.int _)⟩
  · exact h.elim
theorem opd_mulX : OpD K (rI CMulX fun i j => .int (i * j)) fMulX := fun H0 H x y d e Q R _ hx hy h k => by
  unfold fMulX at h
  split at h
  · cases hx; cases hy
    exact ⟨_, _, rfl, rfl, h.1, k _ _ h.2 (.int _)⟩
  · exact h.elim
theorem opd_mod : OpD K (rI (fun _ j => 0 < j) fun i j => .int (i % j)) fMod := fun H0 H x y d e Q R _ hx hy h k => by
  unfold fMod at h
  split at h
  · cases hx; cases hy
    exact ⟨_, _, rfl, rfl, h.1, k _ _ h.2 (.int _)⟩
  · exact h.elim
theorem opd_div : OpD K (rI CDivW fun i j => .int (i / j)) fDiv := fun H0 H x y d e Q R _ hx hy h k => by
  unfold fDiv at h
  split at h
  · cases hx; cases hy
    exact ⟨_, _, rfl, rfl, h.1, k _ _ h.2 (.int _)⟩
  · exact h.elim
theorem opd_shl : OpD K (rI CPow fun i j => .int (i * 2 ^ j.toNat)) fShl := fun H0 H x y d e Q R _ hx hy h k => by
  unfold fShl at h
  split at h
  · cases hx; cases hy
    exact ⟨_, _, rfl, rfl, h.1, k _ _ h.2 (.int _)⟩
  · exact h.elim
theorem opd_pow : OpD K (rI CPow fun i j => .int (i ^ j.toNat)) fPow := fun H0 H x y d e Q R _ hx hy h k => by
  unfold fPow at h
  split at h
  · cases hx; cases hy
    exact ⟨_, _, rfl, rfl, h.1, k _ _ h.2 (.int _)⟩
  · exact h.elim
theorem opd_lt : OpD K (rI0 fun i j => .bl (decide (i < j))) fLt := fun H0 H x y d e Q R _ hx hy h k => by
  unfold fLt at h
  split at h
  · cases hx; cases hy
    exact ⟨_, _, rfl, rfl, k _ _ h (.bl _)⟩
  · exact h.elim
theorem opd_le : OpD K (rI0 fun i j => .bl (decide (i ≤ j))) fLe := fun H0 H x y d e Q R _ hx hy h k => by
  unfold fLe at h
  split at h
  · cases hx; cases hy
    exact ⟨_, _, rfl, rfl, k _ _ h (.bl _)⟩
  · exact h.elim
theorem opd_gt : OpD K (rI0 fun i j => .bl (decide (j < i))) fGt := fun H0 H x y d e Q R _ hx hy h k => by
  unfold fGt at h
  split at h
  · cases hx; cases hy
    exact ⟨_, _, rfl, rfl, k _ _ h (.bl _)⟩
  · exact h.elim
theorem opd_ge : OpD K (rI0 fun i j => .bl (decide (j ≤ i))) fGe := fun H0 H x y d e Q R _ hx hy h k => by
  unfold fGe at h
  split at h
  · cases hx; cases hy
    exact ⟨_, _, rfl, rfl, k _ _ h (.bl _)⟩
  · exact h.elim
theorem eqv_int (i j : Int) : PyData.eqv (.int i) (.int j) = decide (i = j) := by
  rw [PyData.eqv]
  by_cases h : i = j <;> simp [h]
theorem shaped_int (i : Int) : SeqAt.shaped (.int i) = true := by simp [SeqAt.shaped, PyData.canLay0, PyData.depth]
theorem opd_eq : OpD K (rEqD K) fEq := fun H0 H x y d e Q R s hx hy h k => by
  unfold fEq at h
  split at h
  · refine ⟨_, _, (hx.mono s).sh (shaped_int _), (hy.mono s).sh (shaped_int _), shaped_int _, shaped_int _, ?_⟩
    rw [eqv_int]
    exact k _ _ h (.bl _)
  · exact ⟨_, _, (hx.mono s).sh h.1, (hy.mono s).sh h.2.1, h.1, h.2.1, k _ _ h.2.2 (.bl _)⟩
theorem opd_ne : OpD K (rNeD K) fNe := fun H0 H x y d e Q R s hx hy h k => by
  unfold fNe at h
  split at h
  · refine ⟨_, _, (hx.mono s).sh (shaped_int _), (hy.mono s).sh (shaped_int _), shaped_int _, shaped_int _, ?_⟩
    rw [eqv_int]
    exact k _ _ h (.bl _)
  · exact ⟨_, _, (hx.mono s).sh h.1, (hy.mono s).sh h.2.1, h.1, h.2.1, k _ _ h.2.2 (.bl _)⟩
theorem Rp.isNone {H : Hp} {v : V} {d : D} (h : Rp K H v d) : decide (v = .non) = isNone d := by cases h <;> rfl
theorem snd_isN (ha : SndE K ok ta wa) : SndE K ok (tIsN ta) (wIsN wa) := fun C H0 σ H env Q R rel hw k => ha C H0 σ H env _ _ rel hw fun d v H1 H01 q r1 e1 x1 => by
  rw [x1.isNone]
  exact k _ _ H1 H01 q r1 e1 (.bl _)
theorem snd_notN (ha : SndE K ok ta wa) : SndE K ok (tNotN ta) (wNotN wa) := fun C H0 σ H env Q R rel hw k => ha C H0 σ H env _ _ rel hw fun d v H1 H01 q r1 e1 x1 => by
  rw [x1.isNone]
  exact k _ _ H1 H01 q r1 e1 (.bl _)
theorem snd_neg (ha : SndE K ok ta wa) : SndE K ok (tUn (rU fun i => .int (-i)) ta) (wUn fNeg wa) := fun C H0 σ H env Q R rel hw k => ha C H0 σ H env _ _ rel hw fun d v H1 H01 q r1 e1 x1 => by
  unfold fNeg at q
  split at q
  · cases x1
    exact ⟨_, rfl, k _ _ H1 H01 q r1 e1 (.int _)⟩
  · exact q.elim
theorem snd_test (ha : SndE K ok ta wa) : SndT K ok (tTest ta) (wTest wa) := fun C H0 σ H env Q R rel hw k => ha C H0 σ H env _ _ rel hw fun d v H1 H01 q r1 e1 x1 => by
  try dsimp only at q
  split at q
  · cases x1
    exact ⟨_, rfl, k _ H1 H01 q r1 e1⟩
  · exact q.elim
theorem snd_tB (ha : SndE K ok ta wa) : SndT K ok (tB ta) (wTest wa) := snd_test ha
theorem snd_not (h : SndT K ok t wt) : SndT K ok (tNot t) (wNot wt) := fun C H0 σ H env Q R rel hw k => h C H0 σ H env _ _ rel hw fun b H1 H01 q r1 e1 => k _ H1 H01 q r1 e1
theorem snd_and (h : SndT K ok t wt) (h2 : SndT K ok u wu) : SndT K ok (tAnd t u) (wAnd wt wu) := fun C H0 σ H env Q R rel hw k => h C H0 σ H env _ _ rel hw fun b H1 H01 q r1 e1 => by
  cases b with
  | true =>
    refine iteT (h2 C H01 σ H1 env _ _ r1 (q.1 rfl) fun c H2 H02 q2 r2 e2 => k c H2 H02 q2 r2 (e1.trans e2))
  | false => exact iteF (k _ H1 H01 (q.2 rfl) r1 e1)
theorem snd_or (h : SndT K ok t wt) (h2 : SndT K ok u wu) : SndT K ok (tOr t u) (wOr wt wu) := fun C H0 σ H env Q R rel hw k => h C H0 σ H env _ _ rel hw fun b H1 H01 q r1 e1 => by
  cases b with
  | false =>
    refine iteF (h2 C H01 σ H1 env _ _ r1 (q.2 rfl) fun c H2 H02 q2 r2 e2 => k c H2 H02 q2 r2 (e1.trans e2))
  | true => exact iteT (k _ H1 H01 (q.1 rfl) r1 e1)
theorem snd_andD (h : SndT K ok t wt) (h2 : SndT K ok u wu) : SndT K ok (tAnd t u) (wAndD wt wu) := fun C H0 σ H env Q R rel hw k => h C H0 σ H env _ _ rel hw fun b H1 H01 q r1 e1 => by
  obtain ⟨c, q1, q2⟩ := q
  cases b with
  | true => exact iteT (h2 C H01 σ H1 env _ _ r1 (q1 rfl) fun d H2 H02 q3 r2 e2 => by subst q3; exact k _ H2 H02 q2 r2 (e1.trans e2))
  | false => exact iteF (k _ H1 H01 q2 r1 e1)
theorem snd_orD (h : SndT K ok t wt) (h2 : SndT K ok u wu) : SndT K ok (tOr t u) (wOrD wt wu) := fun C H0 σ H env Q R rel hw k => h C H0 σ H env _ _ rel hw fun b H1 H01 q r1 e1 => by
  obtain ⟨c, q1, q2⟩ := q
  cases b with
  | false => exact iteF (h2 C H01 σ H1 env _ _ r1 (q1 rfl) fun d H2 H02 q3 r2 e2 => by subst q3; exact k _ H2 H02 q2 r2 (e1.trans e2))
  | true => exact iteT (k _ H1 H01 q2 r1 e1)
/-- and, or as values of truth values -/
theorem snd_andV (h : SndE K ok ta wa) (h2 : SndE K ok tb wb) : SndE K ok (tAndV ta tb) (wBl (wAndD (wTest wa) (wTest wb))) := fun C H0 σ H env Q R rel hw k => h C H0 σ H env _ _ rel hw fun d v H1 H01 q r1 e1 x1 => by
  try dsimp only at q
  split at q
  · rename_i b
    cases x1
    obtain ⟨c, q1, q2⟩ := q
    refine ⟨b, rfl, ?_⟩
    cases b with
    | true =>
      refine iteT (h2 C H01 σ H1 env _ _ r1 (q1 rfl) fun d v H2 H02 q3 r2 e2 x2 => ?_)
      dsimp only at q3
      split at q3
      · subst q3; cases x2; exact k _ _ H2 H02 q2 r2 (e1.trans e2) (.bl _)
      · exact q3.elim
    | false => exact iteF (k _ _ H1 H01 q2 r1 e1 (.bl _))
  · exact q.elim
theorem snd_orV (h : SndE K ok ta wa) (h2 : SndE K ok tb wb) : SndE K ok (tOrV ta tb) (wBl (wOrD (wTest wa) (wTest wb))) := fun C H0 σ H env Q R rel hw k => h C H0 σ H env _ _ rel hw fun d v H1 H01 q r1 e1 x1 => by
  try dsimp only at q
  split at q
  · rename_i b
    cases x1
    obtain ⟨c, q1, q2⟩ := q
    refine ⟨b, rfl, ?_⟩
    cases b with
    | false =>
      refine iteF (h2 C H01 σ H1 env _ _ r1 (q1 rfl) fun d v H2 H02 q3 r2 e2 x2 => ?_)
      dsimp only at q3
      split at q3
      · subst q3; cases x2; exact k _ _ H2 H02 q2 r2 (e1.trans e2) (.bl _)
      · exact q3.elim
    | true => exact iteT (k _ _ H1 H01 q2 r1 e1 (.bl _))
  · exact q.elim
theorem snd_notV (h : SndE K ok ta wa) : SndE K ok (tNotV ta) (wBl (wNot (wTest wa))) := fun C H0 σ H env Q R rel hw k => h C H0 σ H env _ _ rel hw fun d v H1 H01 q r1 e1 x1 => by
  try dsimp only at q
  split at q
  · cases x1
    exact ⟨_, rfl, k _ _ H1 H01 q r1 e1 (.bl _)⟩
  · exact q.elim
theorem snd_ifE (h : SndT K ok t wt) (ha : SndE K ok ta wa) (hb : SndE K ok tb wb) : SndE K ok (tIf t ta tb) (wIfE wt wa wb) := fun C H0 σ H env Q R rel hw k => h C H0 σ H env _ _ rel hw fun b H1 H01 q r1 e1 => by
  cases b with
  | true => exact iteT (ha C H01 σ H1 env _ _ r1 (q.1 rfl) fun d v H2 H02 q2 r2 e2 x => k d v H2 H02 q2 r2 (e1.trans e2) x)
  | false => exact iteF (hb C H01 σ H1 env _ _ r1 (q.2 rfl) fun d v H2 H02 q2 r2 e2 x => k d v H2 H02 q2 r2 (e1.trans e2) x)
theorem snd_nil : SndA K ok tNil wNil := fun C H0 σ H env Q R rel hw k => k _ _ H H0 hw rel (Same.refl _) .nil
theorem ArgsR.mono {H0 H01 : Hp} {σ : L2.St} {env : EnvD} (e : Same H0 H01) : ∀ {as : List Ar} {xs : List V}, ArgsR K H0 σ env as xs → ArgsR K H01 σ env as xs
  | _, _, .nil => .nil
  | _, _, .cons h t => .cons (ArgR.mono e h) (ArgsR.mono e t)
theorem snd_cons {tr : TA} {wr : WA} (ha : SndE K ok ta wa) (hr : SndA K ok tr wr) : SndA K ok (tCons ta tr) (wCons wa wr) := fun C H0 σ H env Q R rel hw k =>
  ha C H0 σ H env _ _ rel hw fun d v H1 H01 q r1 e1 x1 => hr C H01 σ H1 env _ _ r1 q fun as vs H2 H02 q2 r2 e2 x2 => k _ _ H2 H02 q2 r2 (e1.trans e2) (.cons (show ArgR K H02 σ env (.v d) v from x1.mono e2) x2)
theorem snd_consH {i : Nat} {tr : TA} {wr : WA} (hr : SndA K ok tr wr) : SndA K ok (tCons (tVar i) tr) (wConsH i wr) := fun C H0 σ H env Q R rel hw k => by
  unfold wConsH at hw
  split at hw
  · rename_i hd
    obtain ⟨a, ds, e, _, _, _⟩ := rel.slot i _ (get_eq hd)
    exact ⟨_, e, hr C H0 σ H env _ _ rel hw fun as vs H2 H02 q2 r2 e2 x2 => k _ _ H2 H02 q2 r2 e2 (.cons (show ArgR K H02 σ env .hnd (.ref a) from ⟨i, a, get_eq hd, e, rfl⟩) x2)⟩
  · exact hw.elim
/-- no handle among the arguments -/
def plainA : List Ar → Bool
  | [] => true
  | .v _ :: r => plainA r
  | .hnd :: _ => false
theorem ArgsR.vals {H0 : Hp} {σ : L2.St} {env : EnvD} : ∀ {as : List Ar} {xs : List V}, ArgsR K H0 σ env as xs → plainA as = true → Rps K H0 xs (DL.vals as) ∧ xs.length = as.length
  | _, _, .nil, _ => ⟨.nil, rfl⟩
  | .v d :: _, _, .cons h t, p => let ⟨a, b⟩ := ArgsR.vals t p; ⟨.cons h a, by rw [List.length_cons, List.length_cons, b]⟩
  | .hnd :: _, _, .cons _ _, p => by cases p
end
/-- displays: items that are no handles -/
def wTupP (a : WA) : WE := fun env Q => a env fun as => plainA as = true ∧ as.length ≤ 1000 ∧ Q (.tuple (vals as))
def wLstP (a : WA) : WL := fun env Q => a env fun as => plainA as = true ∧ as.length ≤ 1000 ∧ Q (vals as)
section
variable {K : PySem.W.Frag} {ok : List D → Prop} {ta tb te : TE} {wa wb we : WE} {t u : TT} {wt wu : WT}
theorem le1000 {n : Nat} (h : n ≤ 1000) : n ≤ sizeLine := Nat.le_trans h (by decide)
theorem snd_tup {tr : TA} {wr : WA} (hr : SndA K ok tr wr) : SndE K ok (tTup tr) (wTupP wr) := fun C H0 σ H env Q R rel hw k =>
  hr C H0 σ H env _ _ rel hw fun as vs H1 H01 q r1 e1 x1 => by
    obtain ⟨q1, q2, q3⟩ := q
    obtain ⟨x2, l⟩ := x1.vals q1
    refine ⟨by rw [l]; exact le1000 q2, fun p hp => ?_⟩
    obtain ⟨r2, e2⟩ := r1.laid (o := .tup vs) hp
    exact k _ _ _ _ q3 r2 (e1.trans e2) (.tup (SqT.of upd_same) (x2.mono e2))
theorem snd_lst {tr : TA} {wr : WA} (hr : SndA K ok tr wr) : SndL K ok (tLst tr) (wLstP wr) := fun C H0 σ H env Q R rel hw k =>
  hr C H0 σ H env _ _ rel hw fun as vs H1 H01 q r1 e1 x1 => by
    obtain ⟨q1, q2, q3⟩ := q
    obtain ⟨x2, l⟩ := x1.vals q1
    refine ⟨by rw [l]; exact le1000 q2, fun p hp => ?_⟩
    exact k _ _ _ _ q3 (r1.laid0 hp) e1 ⟨r1.fresh hp, ⟨r1.sub.free hp, vs, upd_same, x2⟩, r1.noslot hp, r1.kp.free hp⟩
/-- a borrowed list or tuple as it is read -/
theorem Bor.seq {H0 H : Hp} {v : V} {d : D} (s : Same H0 H) (h : Bor K H0 H v d) {ds : List D} (e : d = .list ds ∨ d = .tuple ds) : ∃ p vs, v = .ref p ∧ Rps K H0 vs ds ∧ ((d = .list ds ∧ H p = some (.lst vs)) ∨ (d = .tuple ds ∧ SqT K H p vs)) := by
  rcases h with h | ⟨p, es, rfl, rfl, _, vs, hp, r⟩
  · rcases e with rfl | rfl
    · cases h with
      | lst h r => exact ⟨_, _, rfl, r, .inl ⟨rfl, s _ _ h⟩⟩
    · cases h with
      | tup h r => exact ⟨_, _, rfl, r, .inr ⟨rfl, Same.tup s h⟩⟩
  · rcases e with e | e
    · cases e; exact ⟨p, vs, rfl, r, .inl ⟨rfl, hp⟩⟩
    · cases e
theorem atI_rel {H0 : Hp} {vs : List V} {ds : List D} {i : Int} {d : D} (r : Rps K H0 vs ds) (h : atI ds i = some d) : ∃ v, atI vs i = some v ∧ Rp K H0 v d := by
  unfold atI at h ⊢
  rw [r.length]
  cases e : ixN ds.length i with
  | none => rw [e] at h; cases h
  | some j =>
    rw [e] at h
    exact r.get h
theorem snd_ix (ha : SndB K ok ta wa) (hb : SndE K ok tb wb) : SndE K ok (tOp (rIx K) ta tb) (wIx wa wb) := fun C H0 σ H env Q R rel hw k =>
  ha C H0 σ H env _ _ rel hw fun d v H1 H01 q r1 e1 x1 => hb C H01 σ H1 env _ _ r1 q fun e u H2 H02 q2 r2 e2 x2 => by
    unfold fIx at q2
    split at q2
    · rename_i ds i
      obtain ⟨x, hx, q3⟩ := q2
      obtain ⟨p, vs, rfl, r, h⟩ := (x1 H2 H02 r2 e2).seq r2.sub (.inl rfl)
      obtain ⟨w, hw, rw'⟩ := atI_rel r hx
      cases x2
      rcases h with ⟨_, h⟩ | ⟨h, _⟩
      · exact .inl ⟨p, vs, i, w, rfl, rfl, SqL.of h, hw, k _ _ H2 H02 q3 r2 (e1.trans e2) rw'⟩
      · cases h
    · rename_i ds i
      obtain ⟨x, hx, q3⟩ := q2
      obtain ⟨p, vs, rfl, r, h⟩ := (x1 H2 H02 r2 e2).seq r2.sub (.inr rfl)
      obtain ⟨w, hw, rw'⟩ := atI_rel r hx
      cases x2
      rcases h with ⟨h, _⟩ | ⟨_, h⟩
      · cases h
      · exact .inr (.inl ⟨p, vs, i, w, rfl, rfl, h, hw, k _ _ H2 H02 q3 r2 (e1.trans e2) rw'⟩)
    · rename_i ds i
      obtain ⟨x, hx, q3⟩ := q2
      rcases x1 H2 H02 r2 e2 with h | ⟨_, _, _, h, _⟩
      · cases h with
        | @scr a ns h =>
          obtain ⟨w, hw, rw'⟩ := atI_rel (K := K) (H0 := H02) (Rps.of_ints ns) hx
          cases x2
          exact .inl ⟨a, _, i, w, rfl, rfl, r2.sub.seq h, hw, k _ _ H2 H02 q3 r2 (e1.trans e2) rw'⟩
      · cases h
    · exact q2.elim
/-- a call of one argument that is read at once -/
theorem snd_len (ha : SndB K ok ta wa) : SndE K ok (tCB (fun xs H Q => ∃ p ys, xs = [.ref p] ∧ (SqL K H p ys ∨ SqT K H p ys) ∧ Q (.int ys.length) H) (tCons ta tNil)) (wLen wa) := fun C H0 σ H env Q R rel hw k =>
  ha C H0 σ H env _ _ rel hw fun d v H1 H01 q r1 e1 x1 => by
    have b := x1 H1 H01 r1 (Same.refl _)
    try dsimp only at q
    split at q
    · rename_i ds
      obtain ⟨p, vs, rfl, r, h⟩ := b.seq r1.sub (.inl rfl)
      rcases h with ⟨_, h⟩ | ⟨h, _⟩
      · refine ⟨p, vs, rfl, .inl (SqL.of h), k _ _ H1 H01 ?_ r1 e1 (.int _)⟩
        rw [r.length]; exact q
      · cases h
    · rename_i ds
      obtain ⟨p, vs, rfl, r, h⟩ := b.seq r1.sub (.inr rfl)
      rcases h with ⟨h, _⟩ | ⟨_, h⟩
      · cases h
      · refine ⟨p, vs, rfl, .inr h, k _ _ H1 H01 ?_ r1 e1 (.int _)⟩
        rw [r.length]; exact q
    · rename_i ds
      rcases b with h | ⟨_, _, _, h, _⟩
      · cases h with
        | @scr a ns h =>
          refine ⟨a, _, rfl, .inl (r1.sub.seq h), k _ _ H1 H01 ?_ r1 e1 (.int _)⟩
          rw [List.length_map] at q ⊢
          exact q
      · cases h
    · exact q.elim
end
/-! ### the promise of a def -/
def HndArgs (as : List Ar) : Nat := (as.filter fun a => match a with | .hnd => true | _ => false).length
inductive ArgsOk (K : PySem.W.Frag) (H0 : Hp) (ha : Option Addr) : List V → List Ar → Prop
  | nil : ArgsOk K H0 ha [] []
  | cons {x : V} {d : D} {xs : List V} {as : List Ar} : Rp K H0 x d → ArgsOk K H0 ha xs as → ArgsOk K H0 ha (x :: xs) (.v d :: as)
  | hnd {a : Addr} {xs : List V} {as : List Ar} : ha = some a → ArgsOk K H0 ha xs as → ArgsOk K H0 ha (.ref a :: xs) (.hnd :: as)
def RetOk (K : PySem.W.Frag) (He H0 H : Hp) (v : V) : Rt → Prop
  | .v d => Rp K H0 v d
  | .own ds => ∃ p, v = .ref p ∧ He p = none ∧ OwnAt K H0 H p ds
  | .two d ds => ∃ r p x, v = .ref r ∧ p ≠ r ∧ He r = none ∧ H0 r = none ∧ H r = some (.lst [x, .ref p]) ∧ Rp K H0 x d ∧ He p = none ∧ OwnAt K H0 H p ds
structure PostOk (K : PySem.W.Frag) (ok : List D → Prop) (H0 H : Hp) (ha : Option Addr) (v : V) (H' : Hp) (r : Rt) (H01 : Hp) : Prop where
  grow : Same H0 H01
  sub : Same H01 H'
  new : ∀ b o, H01 b = some o → H0 b = some o ∨ H b = none
  fr : ∀ b o, H b = some o → some b ≠ ha → H' b = some o
  hv : ∀ a, ha = some a → ∃ ds, OwnAt K H01 H' a ds ∧ ok ds
  res : RetOk K H H01 H' v r
/-- at most one handle -/
def oneH : List Ar → Bool
  | [] => true
  | .v _ :: r => oneH r
  | .hnd :: r => plainA r
/-- at a call: H0, the known part; ha: the handle that is handed in -/
def SpD (K : PySem.W.Frag) (ok : List D → Prop) (n : Nat) (M : WM) : Sp := fun vs H Q _ => ∃ (H0 : Hp) (ha : Option Addr) (as : List Ar) (Q' : Rt → Prop), as.length = n ∧ vs.length = n ∧ oneH as = true ∧ Same H0 H ∧ ArgsOk K H0 ha vs as ∧
  (∀ a, ha = some a → ∃ ds, OwnAt K H0 H a ds ∧ ok ds) ∧ M as Q' ∧ ∀ v H' r H01, Q' r → PostOk K ok H0 H ha v H' r H01 → Q v H'
section
variable {K : PySem.W.Frag} {ok : List D → Prop}
theorem argsOk_plain {H0 : Hp} {σ : L2.St} {env : EnvD} {ha : Option Addr} : ∀ {as : List Ar} {xs : List V}, ArgsR K H0 σ env as xs → plainA as = true → ArgsOk K H0 ha xs as
  | _, _, .nil, _ => .nil
  | .v d :: _, _, .cons h t, p => .cons h (argsOk_plain t p)
  | .hnd :: _, _, .cons _ _, p => by cases p
theorem argsOk_one {H0 : Hp} {σ : L2.St} {env : EnvD} : ∀ {as : List Ar} {xs : List V}, ArgsR K H0 σ env as xs → oneH as = true →
    (plainA as = true ∧ ArgsOk K H0 none xs as) ∨ ∃ (i : Nat) (a : Addr), env[i]? = some (some .hnd) ∧ σ[i]? = some (some (.ref a)) ∧ ArgsOk K H0 (some a) xs as
  | _, _, .nil, _ => .inl ⟨rfl, .nil⟩
  | .v d :: _, _, .cons h t, p => by
    rcases argsOk_one t p with ⟨p', h'⟩ | ⟨i, a, e1, e2, h'⟩
    · exact .inl ⟨p', .cons h h'⟩
    · exact .inr ⟨i, a, e1, e2, .cons h h'⟩
  | .hnd :: _, _, .cons h t, p => by
    obtain ⟨i, a, e1, e2, rfl⟩ := h
    exact .inr ⟨i, a, e1, e2, .hnd rfl (argsOk_plain t p)⟩
/-- what a call does, for the caller -/
theorem call_core {n : Nat} {M : WM} {C : Ctx} {H0 : Hp} {σ : L2.St} {H : Hp} {env : EnvD} {as : List Ar} {vs : List V} {Q' : Rt → Prop} {R : VK} (rel : Rel K ok C H0 σ H env) (ha : ArgsR K H0 σ env as vs) (h1 : oneH as = true) (hn : as.length = n) (hM : M as Q')
    (k : ∀ v r H1 H01, Q' r → Rel K ok C H01 σ H1 env → Same H0 H01 → (match r with | .v d => Rp K H01 v d | .own ds => ∃ p, v = .ref p ∧ FreshL K C H01 σ H1 env p ds | .two d ds => ∃ q p x, v = .ref q ∧ p ≠ q ∧ C.He q = none ∧ C.Kp q = none ∧ (∀ (i : Nat) s, env[i]? = some (some s) → s.isOwn = true → σ[i]? ≠ some (some (.ref q))) ∧ H01 q = none ∧ H1 q = some (.lst [x, .ref p]) ∧ Rp K H01 x d ∧ FreshL K C H01 σ H1 env p ds) → R v H1) : SpD K ok n M vs H R fun _ _ _ => False := by
  have hl : vs.length = n := by rw [← ha.length]; exact hn
  have fin : ∀ {ha' : Option Addr} {v : V} {H' : Hp} {r : Rt} {H01 : Hp}, Q' r → PostOk K ok H0 H ha' v H' r H01 → Rel K ok C H01 σ H' env → R v H' := fun {ha' v H' r H01} q P r2 => k v r H' H01 q r2 P.grow (by
    have z := P.res
    cases r with
    | v d => exact z
    | own ds =>
      obtain ⟨p, e, n1, o⟩ := z
      exact ⟨p, e, rel.fresh n1, o, rel.noslot n1, rel.kp.free n1⟩
    | two d ds =>
      obtain ⟨q, p, x, e, hne, nq, n0, hq, hx, n1, o⟩ := z
      exact ⟨q, p, x, e, hne, rel.fresh nq, rel.kp.free nq, rel.noslot nq, n0, hq, hx, rel.fresh n1, o, rel.noslot n1, rel.kp.free n1⟩)
  rcases argsOk_one ha h1 with ⟨_, h'⟩ | ⟨i, a, e1, e2, h'⟩
  · exact ⟨H0, none, as, Q', hn, hl, h1, rel.sub, h', fun a z => (by cases z), hM, fun v H' r H01 q P => fin q P (rel.step P.grow P.sub P.new fun b o z => P.fr b o z (by simp))⟩
  · obtain ⟨a', da, ea', _, o1, k1⟩ := rel.slot i _ e1
    rw [e2] at ea'
    cases ea'
    refine ⟨H0, some a, as, Q', hn, hl, h1, rel.sub, h', fun b z => (by cases z; exact ⟨da, o1, k1⟩), hM, fun v H' r H01 q P => fin q P ?_⟩
    obtain ⟨ds', o2, k2⟩ := P.hv a rfl
    exact rel.called e1 e2 P.grow P.sub P.new (fun b o z hb => P.fr b o z (by simpa using hb)) o2.n0 o2 k2
theorem SpD.exc {n : Nat} {M : WM} {vs : List V} {H : Hp} {Q : VK} {E E' : XK} (h : SpD K ok n M vs H Q E) : SpD K ok n M vs H Q E' := h
end
def wCallP (n : Nat) (M : WM) (a : WA) : WE := fun env Q => a env fun as => oneH as = true ∧ as.length = n ∧ M as fun r => Q r.val
def wCallOP (n : Nat) (M : WM) (a : WA) : WL := fun env Q => a env fun as => oneH as = true ∧ as.length = n ∧ M as fun r => match r with
  | .own ds => Q ds
  | .v _ => False
  | .two _ _ => False
section
variable {K : PySem.W.Frag} {ok : List D → Prop}
theorem snd_call {n : Nat} {M : WM} {tr : TA} {wr : WA} {E : XK} (hr : SndA K ok tr wr) : SndE K ok (tCall (SpD K ok n M) [] E tr) (wCallP n M wr) := fun C H0 σ H env Q R rel hw k =>
  hr C H0 σ H env _ _ rel hw fun as vs H1 H01 q r1 e1 x1 => by
    obtain ⟨q1, q2, q3⟩ := q
    show SpD K ok n M (vs ++ []) H1 R E
    rw [List.append_nil]
    refine SpD.exc (call_core r1 x1 q1 q2 q3 fun v r H2 H02 hq r2 e2 z => ?_)
    cases r with
    | v d => exact k _ _ H2 H02 hq r2 (e1.trans e2) z
    | own ds =>
      obtain ⟨p, rfl, f⟩ := z
      obtain ⟨n0, ws, hp, hr'⟩ := f.own
      obtain ⟨r3, e3⟩ := r2.know hp n0 f.he f.kq f.ns
      exact k _ _ H2 _ hq r3 ((e1.trans e2).trans e3) (.lst upd_same (hr'.mono e3))
    | two d ds =>
      obtain ⟨q, p, x, rfl, hne, heq, kq, nsq, q0, hqq, hx, f⟩ := z
      obtain ⟨n0, ws, hp, hr'⟩ := f.own
      obtain ⟨r3, e3⟩ := r2.know hp n0 f.he f.kq f.ns
      obtain ⟨r4, e4⟩ := r3.know hqq (by rw [upd_ne (Ne.symm hne)]; exact q0) heq kq nsq
      exact k _ _ H2 _ hq r4 (((e1.trans e2).trans e3).trans e4) (.lst upd_same (.cons (hx.mono (e3.trans e4)) (.cons (.lst (e4 _ _ upd_same) ((hr'.mono e3).mono e4)) .nil)))
theorem snd_callO {n : Nat} {M : WM} {tr : TA} {wr : WA} {E : XK} (hr : SndA K ok tr wr) : SndL K ok (tCall (SpD K ok n M) [] E tr) (wCallOP n M wr) := fun C H0 σ H env Q R rel hw k =>
  hr C H0 σ H env _ _ rel hw fun as vs H1 H01 q r1 e1 x1 => by
    obtain ⟨q1, q2, q3⟩ := q
    show SpD K ok n M (vs ++ []) H1 R E
    rw [List.append_nil]
    refine SpD.exc (call_core r1 x1 q1 q2 q3 fun v r H2 H02 hq r2 e2 z => ?_)
    cases r with
    | v d => exact hq.elim
    | own ds =>
      obtain ⟨p, rfl, f⟩ := z
      exact k _ _ H2 H02 hq r2 (e1.trans e2) f
    | two d ds => exact hq.elim
end
end DL
/-! DL, part c: statements, loops, comprehensions, defs. -/
namespace DL
open PySem L2

structure WEnds where
  nx : EnvD → Prop
  rt : Rt → Prop
  bk : EnvD → Prop := fun _ => False
  ct : EnvD → Prop := fun _ => False
abbrev WS := WEnds → EnvD → Prop
abbrev WI := EnvD → (List D → Prop) → Prop
abbrev WG := D → EnvD → (EnvD → Prop) → Prop
structure EndsOk (K : PySem.W.Frag) (ok : List D → Prop) (C : Ctx) (H0 : Hp) (E : Ends) (W : WEnds) : Prop where
  nx : ∀ env σ H H01, Same H0 H01 → Rel K ok C H01 σ H env → W.nx env → E.nx σ H
  rt : ∀ r v σ H H01 env, Same H0 H01 → Rel K ok C H01 σ H env → W.rt r → RetOk K C.He H01 H v r → E.rt v H
  bk : ∀ env σ H H01, Same H0 H01 → Rel K ok C H01 σ H env → W.bk env → E.bk σ H
  ct : ∀ env σ H H01, Same H0 H01 → Rel K ok C H01 σ H env → W.ct env → E.ct σ H
def SndS (K : PySem.W.Frag) (ok : List D → Prop) (ts : TS) (ws : WS) : Prop := ∀ (C : Ctx) (H0 : Hp) (σ : L2.St) (H : Hp) (env : EnvD) (E : Ends) (W : WEnds), Rel K ok C H0 σ H env → ws W env → EndsOk K ok C H0 E W → ts E σ H
/-- what is walked: as many turns as ds has items -/
structure WalkD (K : PySem.W.Frag) (J : It) (ds : List D) (H01 : Hp) : Prop where
  goes : ∀ i H, i < ds.length → Same H01 H → J.go i H
  stops : ∀ H, Same H01 H → J.stop ds.length H
  yields : ∀ i H x H', i < ds.length → Same H01 H → J.yld i H x H' → ∃ d, ds[i]? = some d ∧ ((H' = H ∧ Rp K H01 x d) ∨ ∃ T xs es, x = .ref T ∧ H T = none ∧ H' = upd H T (.tup xs) ∧ d = .tuple es ∧ Rps K H01 xs es)
def SndI (K : PySem.W.Frag) (ok : List D → Prop) (ti : TI) (wi : WI) : Prop := ∀ (C : Ctx) (H0 : Hp) (σ : L2.St) (H : Hp) (env : EnvD) (Q : List D → Prop) (R : It → Hp → Prop), Rel K ok C H0 σ H env → wi env Q →
  (∀ ds J H1 H01, Q ds → Rel K ok C H01 σ H1 env → Same H0 H01 → WalkD K J ds H01 → R J H1) → ti σ H R
def wpE (env : EnvD) : List Nat → EnvD
  | [] => env
  | v :: vs => (wpE env vs).set v none
def SndG (K : PySem.W.Frag) (ok : List D → Prop) (vs : List Nat) (g : TG) (wg : WG) : Prop := ∀ (C : Ctx) (H0 : Hp) (σ : L2.St) (H : Hp) (env : EnvD) (x : V) (d : D) (Q : EnvD → Prop) (R : L2.St → Hp → Prop), Rel K ok C H0 σ H env → Rp K H0 x d → wg d env Q →
  (∀ env' σ', Rel K ok C H0 σ' H env' → Q env' → wipe σ' vs = wipe σ vs ∧ wpE env' vs = wpE env vs → R σ' H) → g x σ H R

/-! ### what is asked -/
def wSeq (a b : WS) : WS := fun W env => a { W with nx := b W } env
def wNx : WS := fun W env => W.nx env
def wBk : WS := fun W env => W.bk env
def wCt : WS := fun W env => W.ct env
def wNever : WS := fun _ _ => False
def wSet (i : Nat) (a : WE) : WS := fun W env => a env fun d => W.nx (env.set i (some (.v d)))
def wSetO (i : Nat) (a : WL) : WS := fun W env => a env fun ds => W.nx (env.set i (some (.own ds)))
def wSetH (ok : List D → Prop) (i : Nat) (a : WL) : WS := fun W env => a env fun ds => ok ds ∧ W.nx (env.set i (some .hnd))
def wDrop (a : WE) : WS := fun W env => a env fun _ => W.nx env
def wRet (a : WE) : WS := fun W env => a env fun d => W.rt (.v d)
def wRetO (a : WL) : WS := fun W env => a env fun ds => W.rt (.own ds)
def wRetV (i : Nat) : WS := fun W env => match get env i with
  | some (.v d) => W.rt (.v d)
  | some (.own ds) => W.rt (.own ds)
  | _ => False
def wRetN : WS := fun W _ => W.rt (.v .none)
def wIf (t : WT) (a b : WS) : WS := fun W env => t env fun c => (c = true → a W env) ∧ (c = false → b W env)
def frz (i : Nat) (env : EnvD) : EnvD := match get env i with
  | some (.own ds) => env.set i (some (.v (.list ds)))
  | _ => env
def wFrz (i : Nat) (s : WS) : WS := fun W env => s W (frz i env)
def wApp (i : Nat) (a : WE) : WS := fun W env => match get env i with
  | some (.own ds) => a env fun d => ds.length < 1000000 ∧ W.nx (env.set i (some (.own (ds ++ [d]))))
  | _ => False
def wExt (i : Nat) (a : WE) : WS := fun W env => match get env i with
  | some (.own ds) => a env fun d => match d with
    | .list es => ds.length + es.length < 1000000 ∧ W.nx (env.set i (some (.own (ds ++ es))))
    | _ => False
  | _ => False
def wPop (i : Nat) : WS := fun W env => match get env i with
  | some (.own ds) => ds ≠ [] ∧ W.nx (env.set i (some (.own ds.dropLast)))
  | _ => False
def wPut (i : Nat) (k a : WE) : WS := fun W env => match get env i with
  | some (.own ds) => a env fun d => k env fun j => match j with
    | .int z => ∃ n, ixN ds.length z = some n ∧ W.nx (env.set i (some (.own (ds.set n d))))
    | _ => False
  | _ => False
def wPar (i j : Nat) (a : WA) : WS := fun W env => a env fun as => match as with
  | [.v x, .v y] => W.nx ((env.set i (some (.v x))).set j (some (.v y)))
  | _ => False
def wWhile (t : WT) (b : WS) : WS := fun W env => ∃ I : Nat → EnvD → Prop, (∃ m, I m env) ∧ ∀ m env, I m env → t env fun c =>
  (c = true → ∃ N : EnvD → Prop, (∀ e, N e → ∃ m', m' < m ∧ I m' e) ∧ b { W with nx := N, ct := N, bk := W.nx } env) ∧ (c = false → W.nx env)
def wFor (wi : WI) (wg : WG) (b : WS) : WS := fun W env => wi env fun ds => ∃ I : Nat → EnvD → Prop, I 0 env ∧
  (∀ i d env, ds[i]? = some d → I i env → wg d env fun env2 => b { W with nx := I (i + 1), ct := I (i + 1), bk := W.nx } env2) ∧ ∀ env, I ds.length env → W.nx env
def wAsg (a : WE) (g : WG) : WS := fun W env => a env fun d => g d env W.nx
def gN (i : Nat) : WG := fun d env Q => Q (env.set i (some (.v d)))
abbrev WGs := List D → EnvD → (EnvD → Prop) → Prop
def gsNil : WGs := fun ds env Q => ds = [] ∧ Q env
def gsCons (a : WG) (r : WGs) : WGs := fun ds env Q => match ds with
  | d :: es => a d env fun env' => r es env' Q
  | [] => False
def gT (n : Nat) (r : WGs) : WG := fun d env Q => match d with
  | .tuple ds => ds.length = n ∧ r ds env Q
  | _ => False
def iL (a : WE) : WI := fun env Q => a env fun d => match d with
  | .list ds => Q ds
  | _ => False
def iT (a : WE) : WI := fun env Q => a env fun d => match d with
  | .tuple ds => Q ds
  | _ => False
/-- lo, lo + 1, .. (n of them) -/
def rng (lo : Int) (n : Nat) : List D := (List.range n).map fun i : Nat => PyData.int (lo + i)
def iR1 (a : WE) : WI := fun env Q => a env fun d => match d with
  | .int j => (-(2 ^ 62) ≤ j ∧ j < 2 ^ 62) ∧ Q (rng 0 j.toNat)
  | _ => False
def iR2 (a b : WE) : WI := fun env Q => a env fun d => b env fun e => match d, e with
  | .int i, .int j => (-(2 ^ 62) ≤ i ∧ i < 2 ^ 62 ∧ -(2 ^ 62) ≤ j ∧ j < 2 ^ 62) ∧ Q (rng i (j - i).toNat)
  | _, _ => False
/-- i, i + c, .. as long as it is short of j -/
def rngC (lo c : Int) (n : Nat) : List D := (List.range n).map fun i : Nat => PyData.int (lo + i * c)
def iR3 (a b c : WE) : WI := fun env Q => a env fun d => b env fun e => c env fun s => match d, e, s with
  | .int i, .int j, .int k => ∃ n, RgC i j k n ∧ Q (rngC i k n)
  | _, _, _ => False
def iRev (a : WE) : WI := fun env Q => a env fun d => match d with
  | .list ds => Q ds.reverse
  | _ => False
def wYes : WT := fun _ Q => Q true
/-- the slots of a block's own names hold values, or nothing -/
def wpN (env : EnvD) : List Nat → Prop
  | [] => True
  | i :: vs => (match get env i with | some s => s.isOwn = false | none => True) ∧ wpN env vs
def wLc (wi : WI) (wg : WG) (wt : WT) (we : WE) (vs : List Nat) : WL := fun env Q => wi env fun ds => ds.length < 1000000 ∧ wpN env vs ∧ ∃ I : Nat → List D → Prop, I 0 [] ∧
  (∀ i d acc, ds[i]? = some d → I i acc → wg d (wpE env vs) fun env2 => wt env2 fun b => (b = true → we env2 fun y => I (i + 1) (acc ++ [y])) ∧ (b = false → I (i + 1) acc)) ∧ ∀ acc, I ds.length acc → Q acc

/-! ### soundness -/
section
variable {K : PySem.W.Frag} {ok : List D → Prop} {C : Ctx} {H0 H01 : Hp} {E : Ends} {W : WEnds}
theorem EndsOk.mono (h : EndsOk K ok C H0 E W) (e : Same H0 H01) : EndsOk K ok C H01 E W :=
  ⟨fun a b c d s => h.nx a b c d (e.trans s), fun a b c d x y s => h.rt a b c d x y (e.trans s), fun a b c d s => h.bk a b c d (e.trans s), fun a b c d s => h.ct a b c d (e.trans s)⟩
variable {t u : TS} {a b : WS} {te : TE} {we : WE} {wl : WL} {tt : TT} {wt : WT}
theorem ss_seq (ha : SndS K ok t a) (hb : SndS K ok u b) : SndS K ok (tSeq t u) (wSeq a b) := fun C H0 σ H env E W rel hw h =>
  ha C H0 σ H env _ { W with nx := b W } rel hw ⟨fun env' σ' H' H01 s r q => hb C H01 σ' H' env' E W r q (h.mono s), h.rt, h.bk, h.ct⟩
theorem ss_nx : SndS K ok tNext wNx := fun C H0 σ H env E W rel hw h => h.nx env σ H H0 (Same.refl _) rel hw
theorem ss_bk : SndS K ok tBreak wBk := fun C H0 σ H env E W rel hw h => h.bk env σ H H0 (Same.refl _) rel hw
theorem ss_ct : SndS K ok tCont wCt := fun C H0 σ H env E W rel hw h => h.ct env σ H H0 (Same.refl _) rel hw
theorem ss_never : SndS K ok tNever wNever := fun C H0 σ H env E W rel hw h => hw.elim
theorem ss_set {i : Nat} (he : SndE K ok te we) : SndS K ok (tAsg te (gName i)) (wSet i we) := fun C H0 σ H env E W rel hw h =>
  he C H0 σ H env _ _ rel hw fun d v H1 H01 q r e x => h.nx _ _ _ H01 e (r.setV x) q
theorem ss_setO {i : Nat} (he : SndL K ok te wl) : SndS K ok (tAsg te (gName i)) (wSetO i wl) := fun C H0 σ H env E W rel hw h =>
  he C H0 σ H env _ _ rel hw fun ds p H1 H01 q r e f => h.nx _ _ _ H01 e (r.setO (s := .own ds) ⟨p, rfl, f.he, f.own⟩ rfl f.kq fun j t _ ht ot => f.ns j t ht ot) q
theorem ss_setH {i : Nat} (he : SndL K ok te wl) : SndS K ok (tAsg te (gName i)) (wSetH ok i wl) := fun C H0 σ H env E W rel hw h =>
  he C H0 σ H env _ _ rel hw fun ds p H1 H01 q r e f => h.nx _ _ _ H01 e (r.setO (s := .hnd) ⟨p, ds, rfl, .inr f.he, f.own, q.1⟩ rfl f.kq fun j t _ ht ot => f.ns j t ht ot) q.2
theorem ss_drop (he : SndE K ok te we) : SndS K ok (tDrop te) (wDrop we) := fun C H0 σ H env E W rel hw h =>
  he C H0 σ H env _ _ rel hw fun d v H1 H01 q r e x => h.nx _ _ _ H01 e r q
theorem ss_ret (he : SndE K ok te we) : SndS K ok (tRet te) (wRet we) := fun C H0 σ H env E W rel hw h =>
  he C H0 σ H env _ _ rel hw fun d v H1 H01 q r e x => h.rt (.v d) v σ H1 H01 env e r q x
theorem ss_retO (he : SndL K ok te wl) : SndS K ok (tRet te) (wRetO wl) := fun C H0 σ H env E W rel hw h =>
  he C H0 σ H env _ _ rel hw fun ds p H1 H01 q r e f => h.rt (.own ds) _ σ H1 H01 env e r q ⟨p, rfl, f.he, f.own⟩
theorem ss_retV {i : Nat} : SndS K ok (tRet (tVar i)) (wRetV i) := fun C H0 σ H env E W rel hw h => by
  unfold wRetV at hw
  split at hw
  · rename_i d hd
    obtain ⟨v, e, x⟩ := rel.slot i _ (get_eq hd)
    exact ⟨v, e, h.rt _ v σ H H0 env (Same.refl _) rel hw x⟩
  · rename_i ds hd
    obtain ⟨p, e, n, o⟩ := rel.slot i _ (get_eq hd)
    exact ⟨_, e, h.rt (.own ds) _ σ H H0 env (Same.refl _) rel hw ⟨p, rfl, n, o⟩⟩
  · exact hw.elim
theorem ss_retN : SndS K ok tRetN wRetN := fun C H0 σ H env E W rel hw h => h.rt (.v .none) .non σ H H0 env (Same.refl _) rel hw .non
theorem ss_if (hc : SndT K ok tt wt) (ha : SndS K ok t a) (hb : SndS K ok u b) : SndS K ok (tIfS tt t u) (wIf wt a b) := fun C H0 σ H env E W rel hw h =>
  hc C H0 σ H env _ _ rel hw fun c H1 H01 q r e => by
    cases c with
    | true => exact iteT (ha C H01 σ H1 env E W r (q.1 rfl) (h.mono e))
    | false => exact iteF (hb C H01 σ H1 env E W r (q.2 rfl) (h.mono e))
theorem ss_frz {i : Nat} (ha : SndS K ok t a) : SndS K ok t (wFrz i a) := fun C H0 σ H env E W rel hw h => by
  unfold wFrz frz at hw
  split at hw
  · rename_i ds hd
    have he := get_eq hd
    obtain ⟨p, e, n, n0, vs, hp, hr⟩ := rel.slot i _ he
    -- the slot is forgotten, then the list becomes known, then the slot holds it
    have r1 : Rel K ok C H0 σ H (env.set i none) := by
      have q := rel.drop (i := i) (y := some (.ref p))
      have es : σ.set i (some (.ref p)) = σ := by
        apply List.ext_getElem?
        intro j
        by_cases hj : i = j
        · subst hj
          rw [e]
          have lt : i < σ.length := by rw [rel.len]; exact (List.getElem?_eq_some_iff.mp he).1
          rw [List.getElem?_set_self lt]
        · rw [List.getElem?_set_ne hj]
      rw [es] at q
      exact q
    obtain ⟨r2, e2⟩ := r1.know hp n0 n (rel.kn i _ p he rfl e) (fun j s hs os z => by
      have hj : i ≠ j := fun y => by
        subst y
        rw [List.getElem?_set_self (List.getElem?_eq_some_iff.mp he).1] at hs; cases hs
      rw [List.getElem?_set_ne hj] at hs
      exact rel.dis i j _ s p hj he hs rfl os e z)
    have r3 := r2.setV (i := i) (x := .ref p) (d := .list ds) (.lst upd_same (hr.mono e2))
    have es : σ.set i (some (.ref p)) = σ := by
      apply List.ext_getElem?
      intro j
      by_cases hj : i = j
      · subst hj
        rw [e]
        have lt : i < σ.length := by rw [rel.len]; exact (List.getElem?_eq_some_iff.mp he).1
        rw [List.getElem?_set_self lt]
      · rw [List.getElem?_set_ne hj]
    rw [es, List.set_set] at r3
    exact ha C _ σ H _ E W r3 hw (h.mono e2)
  · exact ha C H0 σ H env E W rel hw h
theorem lt_size {n : Nat} (h : n < 1000000) : n < sizeLine := Nat.lt_trans h (by decide)
/-- an own slot's list is changed -/
theorem Rel.putL {σ : L2.St} {H : Hp} {env : EnvD} (rel : Rel K ok C H0 σ H env) {i : Nat} {p : Addr} {ds es : List D} {ws : List V} (he : env[i]? = some (some (.own ds))) (e : σ[i]? = some (some (.ref p))) (n : C.He p = none) (n0 : H0 p = none) (hr : Rps K H0 ws es) :
    Rel K ok C H0 σ (upd H p (.lst ws)) (env.set i (some (.own es))) :=
  rel.put (s := .own ds) (t := .own es) he rfl e (fun z => by obtain ⟨⟨o, y⟩, _⟩ := rel.hv p z; rw [n] at y; cases y) rfl ⟨p, rfl, n, n0, ws, upd_same, hr⟩
theorem ss_app {i : Nat} (he : SndE K ok te we) : SndS K ok (tDrop (tBM K "list" rAppend (tVar i) (tCons te tNil))) (wApp i we) := fun C H0 σ H env E W rel hw h => by
  unfold wApp at hw
  split at hw
  · rename_i ds hd
    obtain ⟨p, e, n, n0, vs0, hp0, hr0⟩ := rel.slot i _ (get_eq hd)
    refine ⟨.ref p, e, .inl ⟨rfl, vs0, SqL.of hp0⟩, ?_⟩
    refine he C H0 σ H env _ _ rel hw fun d v H1 H01 q r e1 x => ?_
    obtain ⟨p', e', n, n0, vs, hp, hr⟩ := r.slot i _ (get_eq hd)
    rw [e] at e'
    cases e'
    refine ⟨p, vs, v, rfl, rfl, hp, by rw [hr.length]; exact lt_size q.1, ?_⟩
    exact h.nx _ _ _ H01 e1 (r.putL (get_eq hd) e n n0 (hr.append (.one x))) q.2
  · exact hw.elim
theorem ss_ext {i : Nat} (he : SndE K ok te we) : SndS K ok (tDrop (tBM K "list" rExtend (tVar i) (tCons te tNil))) (wExt i we) := fun C H0 σ H env E W rel hw h => by
  unfold wExt at hw
  split at hw
  · rename_i ds hd
    obtain ⟨p, e, n, n0, vs0, hp0, hr0⟩ := rel.slot i _ (get_eq hd)
    refine ⟨.ref p, e, .inl ⟨rfl, vs0, SqL.of hp0⟩, ?_⟩
    refine he C H0 σ H env _ _ rel hw fun d v H1 H01 q r e1 x => ?_
    obtain ⟨p', e', n, n0, vs, hp, hr⟩ := r.slot i _ (get_eq hd)
    rw [e] at e'
    cases e'
    try dsimp only at q
    split at q
    · cases x with
      | lst hb rb =>
        refine ⟨p, _, vs, _, rfl, rfl, hp, r.sub _ _ hb, by rw [hr.length, rb.length]; exact Nat.le_of_lt (lt_size q.1), ?_⟩
        exact h.nx _ _ _ H01 e1 (r.putL (get_eq hd) e n n0 (hr.append rb)) q.2
    · exact q.elim
  · exact hw.elim
theorem ss_pop {i : Nat} : SndS K ok (tDrop (tBM0 K "list" rPop (tVar i))) (wPop i) := fun C H0 σ H env E W rel hw h => by
  unfold wPop at hw
  split at hw
  · rename_i ds hd
    obtain ⟨p, e, n, n0, vs, hp, hr⟩ := rel.slot i _ (get_eq hd)
    have lt : vs.length - 1 < vs.length := by
      have := hr.length
      have : ds.length ≠ 0 := fun z => hw.1 (List.eq_nil_of_length_eq_zero z)
      omega
    refine ⟨.ref p, e, .inl ⟨rfl, vs, SqL.of hp⟩, p, vs, vs[vs.length - 1], rfl, rfl, hp, List.getElem?_eq_getElem lt, ?_⟩
    exact h.nx _ _ _ H0 (Same.refl _) (rel.putL (get_eq hd) e n n0 hr.dropLast) hw.2
  · exact hw.elim
theorem ss_put {i : Nat} {tk : TE} {wk : WE} (he : SndE K ok te we) (hk : SndE K ok tk wk) : SndS K ok (tAsg te (gSub (tVar i) tk rSetL)) (wPut i wk we) := fun C H0 σ H env E W rel hw h => by
  unfold wPut at hw
  split at hw
  · rename_i ds hd
    refine he C H0 σ H env _ _ rel hw fun d v H1 H01 q r e1 x => ?_
    obtain ⟨p, e, n, n0, vs0, hp0, hr0⟩ := r.slot i _ (get_eq hd)
    refine ⟨.ref p, e, hk C H01 σ H1 env _ _ r q fun j u H2 H02 q2 r2 e2 y => ?_⟩
    try dsimp only at q2
    split at q2
    · cases y
      obtain ⟨m, hm, q3⟩ := q2
      obtain ⟨p', e', n, n0, vs, hp, hr⟩ := r2.slot i _ (get_eq hd)
      rw [e] at e'
      cases e'
      refine ⟨p, vs, _, m, rfl, rfl, hp, by rw [hr.length]; exact hm, ?_⟩
      exact h.nx _ _ _ H02 (e1.trans e2) (r2.putL (get_eq hd) e n n0 (hr.set (x.mono e2) m)) q3
    · exact q2.elim
  · exact hw.elim
theorem ss_par {i j : Nat} {ta : TA} {wa : WA} (ha : SndA K ok ta wa) : SndS K ok (tPar i j ta) (wPar i j wa) := fun C H0 σ H env E W rel hw h =>
  ha C H0 σ H env _ _ rel hw fun as vs H1 H01 q r e x => by
    try dsimp only at q
    split at q
    · cases x with
      | cons x1 x =>
        cases x with
        | cons x2 x =>
          cases x
          refine ⟨_, _, rfl, ?_⟩
          exact h.nx _ _ _ H01 e ((r.setV (show Rp K H01 _ _ from x1)).setV (show Rp K H01 _ _ from x2)) q
    · exact q.elim
theorem ss_while (hc : SndT K ok tt wt) (hb : SndS K ok t a) : SndS K ok (tWhile tt t) (wWhile wt a) := fun C H0 σ H env E W rel hw h => by
  obtain ⟨I, ⟨m0, i0⟩, turn⟩ := hw
  refine ⟨fun m σ H => ∃ env H01, Same H0 H01 ∧ Rel K ok C H01 σ H env ∧ I m env, ⟨m0, env, H0, Same.refl _, rel, i0⟩, ?_⟩
  rintro m σ1 H1 ⟨env1, H01, e1, r1, i1⟩
  refine hc C H01 σ1 H1 env1 _ _ r1 (turn m env1 i1) fun c H2 H02 q r2 e2 => ?_
  cases c with
  | true =>
    refine iteT ?_
    obtain ⟨N, hN, q⟩ := q.1 rfl
    refine ⟨fun σ' H' => ∃ env' H03, Same H0 H03 ∧ Rel K ok C H03 σ' H' env' ∧ N env', fun σ' H' ⟨env', H03, e3, r3, n3⟩ => ?_, ?_⟩
    · obtain ⟨m', hm, i'⟩ := hN env' n3
      exact ⟨m', hm, env', H03, e3, r3, i'⟩
    · exact hb C H02 σ1 H2 env1 _ _ r2 q ⟨fun env' σ' H' H03 s r n => ⟨env', H03, (e1.trans e2).trans s, r, n⟩, fun r v σ' H' H03 env' s => h.rt r v σ' H' H03 env' ((e1.trans e2).trans s),
        fun env' σ' H' H03 s r n => h.nx env' σ' H' H03 ((e1.trans e2).trans s) r n, fun env' σ' H' H03 s r n => ⟨env', H03, (e1.trans e2).trans s, r, n⟩⟩
  | false => exact iteF (h.nx _ _ _ H02 (e1.trans e2) r2 (q.2 rfl))
/-- what the walk gives at a turn: the item known -/
theorem WalkD.item {J : It} {ds : List D} {H01 H02 : Hp} {σ : L2.St} {H H' : Hp} {env : EnvD} {i : Nat} {x : V} (w : WalkD K J ds H01) (e : Same H01 H02) (r : Rel K ok C H02 σ H env) (hi : i < ds.length) (y : J.yld i H x H') :
    ∃ d H03, ds[i]? = some d ∧ Rel K ok C H03 σ H' env ∧ Same H02 H03 ∧ Rp K H03 x d ∧ Same H H' := by
  obtain ⟨d, hd, z⟩ := w.yields i H x H' hi (e.trans r.sub) y
  rcases z with ⟨rfl, z⟩ | ⟨T, xs, es, rfl, nT, rfl, rfl, z⟩
  · exact ⟨d, H02, hd, r, Same.refl _, z.mono e, Same.refl _⟩
  · obtain ⟨r2, e2⟩ := r.laid (o := .tup xs) nT
    exact ⟨_, _, hd, r2, e2, .tup (SqT.of upd_same) ((z.mono e).mono e2), same_new nT⟩
theorem ss_for {vs : List Nat} {ti : TI} {wi : WI} {g : TG} {wg : WG} (hi : SndI K ok ti wi) (hg : SndG K ok vs g wg) (hb : SndS K ok t a) : SndS K ok (tFor ti g t) (wFor wi wg a) := fun C H0 σ H env E W rel hw h =>
  hi C H0 σ H env _ _ rel hw fun ds J H1 H01 q r1 e1 w => by
    obtain ⟨I, i0, turn, fin⟩ := q
    refine ⟨fun i m σ H => m = ds.length - i ∧ i ≤ ds.length ∧ ∃ env H02, Same H01 H02 ∧ Rel K ok C H02 σ H env ∧ I i env, ⟨ds.length, by simp, Nat.zero_le _, env, H01, Same.refl _, r1, i0⟩, ?_⟩
    rintro i m σ2 H2 ⟨rfl, hil, env2, H02, e2, r2, i2⟩
    by_cases hlt : i < ds.length
    · refine .inr ⟨w.goes i H2 hlt (e2.trans r2.sub), fun σ' H' => ∃ env' H04, Same H01 H04 ∧ Rel K ok C H04 σ' H' env' ∧ I (i + 1) env', fun σ' H' ⟨env', H04, z⟩ => ⟨ds.length - (i + 1), by omega, rfl, hlt, env', H04, z⟩, fun x H' y => ?_⟩
      obtain ⟨d, H03, hd, r3, e3, x3, _⟩ := w.item e2 r2 hlt y
      have e03 := (e1.trans e2).trans e3
      refine hg C H03 σ2 H' env2 x d _ _ r3 x3 (turn i d env2 hd i2) fun env4 σ4 r4 q4 _ => ?_
      exact hb C H03 σ4 H' env4 _ _ r4 q4 ⟨fun env' σ' H' H04 s r n => ⟨env', H04, (e2.trans e3).trans s, r, n⟩, fun r v σ' H' H04 env' s => h.rt r v σ' H' H04 env' (e03.trans s),
        fun env' σ' H' H04 s r n => h.nx env' σ' H' H04 (e03.trans s) r n, fun env' σ' H' H04 s r n => ⟨env', H04, (e2.trans e3).trans s, r, n⟩⟩
    · have hi' : i = ds.length := by omega
      subst hi'
      exact .inl ⟨w.stops H2 (e2.trans r2.sub), h.nx env2 σ2 H2 H02 (e1.trans e2) r2 (fin env2 i2)⟩
theorem ss_asg {vs : List Nat} {g : TG} {wg : WG} (he : SndE K ok te we) (hg : SndG K ok vs g wg) : SndS K ok (tAsg te g) (wAsg we wg) := fun C H0 σ H env E W rel hw h =>
  he C H0 σ H env _ _ rel hw fun d v H1 H01 q r e x => hg C H01 σ H1 env v d _ _ r x q fun env' σ' r' q' _ => h.nx env' σ' H1 H01 e r' q'
/-! targets -/
theorem wipe_get {σ : L2.St} {j : Nat} : ∀ {vs : List Nat}, (wipe σ vs)[j]? = if j ∈ vs then (if j < σ.length then some none else none) else σ[j]?
  | [] => by simp [wipe]
  | v :: vs => by
    unfold wipe
    by_cases hj : v = j
    · subst hj
      rw [if_pos List.mem_cons_self]
      by_cases hl : v < σ.length
      · rw [if_pos hl, List.getElem?_set_self (by rw [wipe_length]; exact hl)]
      · rw [if_neg hl, List.getElem?_eq_none (by rw [List.length_set, wipe_length]; omega)]
    · rw [List.getElem?_set_ne hj, wipe_get]
      have : (j ∈ v :: vs) ↔ j ∈ vs := by simp [Ne.symm hj]
      simp only [this]
theorem wipe_set {σ : L2.St} {i : Nat} {x : Option V} {vs : List Nat} (h : i ∈ vs) : wipe (σ.set i x) vs = wipe σ vs := by
  apply List.ext_getElem?
  intro j
  rw [wipe_get, wipe_get, List.length_set]
  by_cases hj : j ∈ vs
  · rw [if_pos hj, if_pos hj]
  · rw [if_neg hj, if_neg hj, List.getElem?_set_ne (fun z => hj (by subst z; exact h))]
theorem wpE_len {env : EnvD} : ∀ vs : List Nat, (wpE env vs).length = env.length
  | [] => rfl
  | v :: vs => by unfold wpE; rw [List.length_set, wpE_len vs]
theorem wpE_get {env : EnvD} {j : Nat} : ∀ {vs : List Nat}, (wpE env vs)[j]? = if j ∈ vs then (if j < env.length then some none else none) else env[j]?
  | [] => by simp [wpE]
  | v :: vs => by
    unfold wpE
    by_cases hj : v = j
    · subst hj
      rw [if_pos List.mem_cons_self]
      by_cases hl : v < env.length
      · rw [if_pos hl, List.getElem?_set_self (by rw [wpE_len]; exact hl)]
      · rw [if_neg hl, List.getElem?_eq_none (by rw [List.length_set, wpE_len]; omega)]
    · rw [List.getElem?_set_ne hj, wpE_get]
      have : (j ∈ v :: vs) ↔ j ∈ vs := by simp [Ne.symm hj]
      simp only [this]
theorem wpE_set {env : EnvD} {i : Nat} {x : Option Sl} {vs : List Nat} (h : i ∈ vs) : wpE (env.set i x) vs = wpE env vs := by
  apply List.ext_getElem?
  intro j
  rw [wpE_get, wpE_get, List.length_set]
  by_cases hj : j ∈ vs
  · rw [if_pos hj, if_pos hj]
  · rw [if_neg hj, if_neg hj, List.getElem?_set_ne (fun z => hj (by subst z; exact h))]
theorem sg_name {i : Nat} {vs : List Nat} (h : i ∈ vs) : SndG K ok vs (gName i) (gN i) := fun C H0 σ H env x d Q R rel hx q k => k _ _ (rel.setV hx) q ⟨wipe_set h, wpE_set h⟩
def SndGs (K : PySem.W.Frag) (ok : List D → Prop) (vs : List Nat) (g : TGs) (wg : WGs) : Prop := ∀ (C : Ctx) (H0 : Hp) (σ : L2.St) (H : Hp) (env : EnvD) (xs : List V) (ds : List D) (Q : EnvD → Prop) (R : L2.St → Hp → Prop), Rel K ok C H0 σ H env → Rps K H0 xs ds → wg ds env Q →
  (∀ env' σ', Rel K ok C H0 σ' H env' → Q env' → wipe σ' vs = wipe σ vs ∧ wpE env' vs = wpE env vs → R σ' H) → g xs σ H R
theorem sgs_nil {vs : List Nat} : SndGs K ok vs gNil gsNil := fun C H0 σ H env xs ds Q R rel hx q k => by
  obtain ⟨rfl, q⟩ := q
  exact ⟨hx.nil_inv, k env σ rel q ⟨rfl, rfl⟩⟩
theorem sgs_cons {vs : List Nat} {g : TG} {wg : WG} {gs : TGs} {wgs : WGs} (h1 : SndG K ok vs g wg) (h2 : SndGs K ok vs gs wgs) : SndGs K ok vs (gCons g gs) (gsCons wg wgs) := fun C H0 σ H env xs ds Q R rel hx q k => by
  cases ds with
  | nil => exact q.elim
  | cons d es =>
    obtain ⟨v, ws, rfl, x1, x2⟩ := hx.cons_inv
    exact ⟨v, ws, rfl, h1 C H0 σ H env v d _ _ rel x1 q fun env' σ' r' q' w' => h2 C H0 σ' H env' ws es _ _ r' x2 q' fun env2 σ2 r2 q2 w2 => k env2 σ2 r2 q2 ⟨w2.1.trans w'.1, w2.2.trans w'.2⟩⟩
theorem sg_tup {vs : List Nat} {n : Nat} {gs : TGs} {wgs : WGs} (h : SndGs K ok vs gs wgs) : SndG K ok vs (gTup K n gs) (gT n wgs) := fun C H0 σ H env x d Q R rel hx q k => by
  unfold gT at q
  split at q
  · cases hx with
    | tup ha hr => exact ⟨_, _, rfl, Same.tup rel.sub ha, by rw [hr.length]; exact q.1, h C H0 σ H env _ _ _ _ rel hr q.2 k⟩
  · exact q.elim
/-! what is walked -/
theorem si_list (he : SndE K ok te we) : SndI K ok (iList K te) (iL we) := fun C H0 σ H env Q R rel hw k => he C H0 σ H env _ _ rel hw fun d v H1 H01 q r e x => by
  try dsimp only at q
  split at q
  · cases x with
    | lst ha hr =>
      rename_i a xs
      refine ⟨a, rfl, ⟨xs, SqL.of (r.sub _ _ ha)⟩, k _ _ _ H01 q r e ⟨fun i H2 hi s => ?_, fun H2 s => ⟨xs, SqL.of (s _ _ ha), by rw [hr.length]; exact Nat.le_refl _⟩, fun i H2 x H3 hi s y => ?_⟩⟩
      · have hi' : i < xs.length := by rw [hr.length]; exact hi
        exact ⟨xs, xs[i], SqL.of (s _ _ ha), List.getElem?_eq_getElem hi'⟩
      · obtain ⟨rfl, y⟩ := y
        obtain ⟨d, hd, x'⟩ := hr.getV (y xs (SqL.of (s _ _ ha)))
        exact ⟨d, hd, .inl ⟨rfl, x'⟩⟩
  · exact q.elim
theorem si_tup (he : SndE K ok te we) : SndI K ok (iTup K te) (iT we) := fun C H0 σ H env Q R rel hw k => he C H0 σ H env _ _ rel hw fun d v H1 H01 q r e x => by
  try dsimp only at q
  split at q
  · cases x with
    | tup ha hr =>
      rename_i a xs
      refine ⟨a, rfl, ⟨xs, Same.tup r.sub ha⟩, k _ _ _ H01 q r e ⟨fun i H2 hi s => ?_, fun H2 s => ⟨xs, Same.tup s ha, by rw [hr.length]; exact Nat.le_refl _⟩, fun i H2 x H3 hi s y => ?_⟩⟩
      · have hi' : i < xs.length := by rw [hr.length]; exact hi
        exact ⟨xs, xs[i], Same.tup s ha, List.getElem?_eq_getElem hi'⟩
      · obtain ⟨rfl, y⟩ := y
        obtain ⟨d, hd, x'⟩ := hr.getV (y xs (Same.tup s ha))
        exact ⟨d, hd, .inl ⟨rfl, x'⟩⟩
  · exact q.elim
theorem rng_get {lo : Int} {n i : Nat} (h : i < n) : (rng lo n)[i]? = some (.int (lo + i)) := by
  unfold rng
  rw [List.getElem?_map, List.getElem?_range h]
  rfl
theorem rng_len {lo : Int} {n : Nat} : (rng lo n).length = n := by unfold rng; rw [List.length_map, List.length_range]
theorem walk_rng {lo : Int} {n : Nat} {H01 : Hp} : WalkD K (Itr lo n) (rng lo n) H01 := by
  refine ⟨fun i H hi s => by rw [rng_len] at hi; exact hi, fun H s => by rw [rng_len]; exact Nat.le_refl _, fun i H x H' hi s y => ?_⟩
  obtain ⟨rfl, rfl⟩ := y
  rw [rng_len] at hi
  exact ⟨_, rng_get hi, .inl ⟨rfl, .int _⟩⟩
theorem si_r1 (he : SndE K ok te we) : SndI K ok (iRng1 (tCons te tNil)) (iR1 we) := fun C H0 σ H env Q R rel hw k => he C H0 σ H env _ _ rel hw fun d v H1 H01 q r e x => by
  try dsimp only at q
  split at q
  · cases x
    exact ⟨_, rfl, q.1.1, q.1.2, k _ _ _ H01 q.2 r e walk_rng⟩
  · exact q.elim
theorem si_r2 {tf : TE} {wf : WE} (he : SndE K ok te we) (hf : SndE K ok tf wf) : SndI K ok (iRng2 (tCons te (tCons tf tNil))) (iR2 we wf) := fun C H0 σ H env Q R rel hw k => he C H0 σ H env _ _ rel hw fun d v H1 H01 q r e x =>
  hf C H01 σ H1 env _ _ r q fun d2 v2 H2 H02 q2 r2 e2 x2 => by
    try dsimp only at q2
    split at q2
    · cases x; cases x2
      exact ⟨_, _, rfl, q2.1, k _ _ _ H02 q2.2 r2 (e.trans e2) walk_rng⟩
    · exact q2.elim
/-! comprehensions -/
theorem st_yes : SndT K ok tYes wYes := fun C H0 σ H env Q R rel hw k => k true H H0 hw rel (Same.refl _)
theorem Rel.wipe {σ : L2.St} {H : Hp} {env : EnvD} (rel : Rel K ok C H0 σ H env) : ∀ vs : List Nat, Rel K ok C H0 (L2.wipe σ vs) H (wpE env vs)
  | [] => rel
  | v :: vs => (Rel.wipe rel vs).drop
theorem get_of : ∀ {env : EnvD} {i : Nat} {s : Sl}, env[i]? = some (some s) → get env i = some s
  | [], i, s, h => by rw [List.getElem?_nil] at h; cases h
  | x :: r, 0, s, h => by
    rw [List.getElem?_cons_zero] at h
    exact Option.some.inj h
  | x :: r, i + 1, s, h => by
    rw [List.getElem?_cons_succ] at h
    exact get_of (env := r) h
theorem wpN_get {env : EnvD} : ∀ {vs : List Nat}, wpN env vs → ∀ {i : Nat} {s : Sl}, i ∈ vs → env[i]? = some (some s) → s.isOwn = false
  | [], _, i, s, h, _ => (by cases h)
  | v :: vs, ⟨h1, h2⟩, i, s, h, hs => by
    rcases List.mem_cons.mp h with rfl | h
    · have e : get env i = some s := get_of hs
      rw [e] at h1
      exact h1
    · exact wpN_get h2 h hs
theorem Rel.unwipe {C' : Ctx} {H00 : Hp} {σ : L2.St} {H H' : Hp} {env : EnvD} {vs : List Nat} (old : Rel K ok C' H00 σ H' env) (e : Same H00 H0) (rel : Rel K ok C H0 (L2.wipe σ vs) H (wpE env vs)) (h : wpN env vs) : Rel K ok C H0 σ H env := by
  have key : ∀ {i : Nat} {s : Sl}, env[i]? = some (some s) → s.isOwn = true → (L2.wipe σ vs)[i]? = σ[i]? ∧ (wpE env vs)[i]? = some (some s) := fun {i s} hs ho => by
    have hi : i ∉ vs := fun z => by
      have := wpN_get h z hs
      rw [ho] at this
      cases this
    rw [wipe_get, if_neg hi, wpE_get, if_neg hi]
    exact ⟨rfl, hs⟩
  refine ⟨rel.sub, rel.grow, rel.new, rel.fr, rel.hv, old.len, fun i s hs => ?_, fun i j s t p hij hs ht os ot e1 => ?_, rel.kp, fun i s p hs os e1 => ?_, rel.kh, rel.kz⟩
  · cases ho : s.isOwn with
    | true =>
      obtain ⟨k1, k2⟩ := key hs ho
      have q := rel.slot i s k2
      rw [k1] at q
      exact q
    | false =>
      cases s with
      | v d =>
        obtain ⟨v, ev, r⟩ := old.slot i _ hs
        exact ⟨v, ev, r.mono e⟩
      | own _ => cases ho
      | hnd => cases ho
      | dct _ => cases ho
      | dcm _ => cases ho
  · obtain ⟨k1, k2⟩ := key hs os
    obtain ⟨k3, k4⟩ := key ht ot
    rw [← k1] at e1
    rw [← k3]
    exact rel.dis i j s t p hij k2 k4 os ot e1
  · obtain ⟨k1, k2⟩ := key hs os
    rw [← k1] at e1
    exact rel.kn i s p k2 os e1
theorem wpE_wpE {env : EnvD} {vs : List Nat} : wpE (wpE env vs) vs = wpE env vs := by
  apply List.ext_getElem?
  intro j
  rw [wpE_get, wpE_get, wpE_len]
  by_cases hj : j ∈ vs
  · rw [if_pos hj, if_pos hj]
  · rw [if_neg hj, if_neg hj]
theorem sl_lc {vs : List Nat} {ti : TI} {wi : WI} {g : TG} {wg : WG} (hi : SndI K ok ti wi) (hg : SndG K ok vs g wg) (ht : SndT K ok tt wt) (he : SndE K ok te we) : SndL K ok (tLc ti g tt te vs) (wLc wi wg wt we vs) := fun C H0 σ H env Q R rel hw k =>
  hi C H0 σ H env _ _ rel hw fun ds J H1 H01 q r1 e1 w => by
    obtain ⟨hlen, hwp, I, i0, turn, fin⟩ := q
    intro A hA
    have hA0 : C.Kp A = none := r1.kp.free hA
    -- the list at A is no slot's; the block's context protects it
    have out : ∀ {vs' : List V} {H2 H02 : Hp} {env2 : EnvD} {σ2 : L2.St}, Rel K ok { C with Kp := upd C.Kp A (.lst vs') } H02 σ2 H2 env2 → Rel K ok C H02 σ2 H2 env2 := fun {vs' H2 H02 env2 σ2} r =>
      (r.guard (Kq := C.Kp) (fun b o z => r.kp b o (by rw [show ({ C with Kp := upd C.Kp A (.lst vs') } : Ctx).Kp = upd C.Kp A (.lst vs') from rfl, upd_ne (ne_of_none z hA0)]; exact z)) fun p o z => .inl (by
        show upd C.Kp A (.lst vs') p = some o
        rw [upd_ne (ne_of_none z hA0)]; exact z))
    let Pv : Nat → Hp → Prop := fun i H => ∃ acc vs' H02, Same H01 H02 ∧ Rel K ok { C with Kp := upd C.Kp A (.lst vs') } H02 σ H env ∧ H A = some (.lst vs') ∧ H02 A = none ∧ Rps K H02 vs' acc ∧ acc.length ≤ i ∧ I i acc
    have nsl : ∀ {vs' : List V} {H2 H02 : Hp} {σ2 : L2.St} {env2 : EnvD}, Rel K ok { C with Kp := upd C.Kp A (.lst vs') } H02 σ2 H2 env2 → ∀ (i : Nat) s, env2[i]? = some (some s) → s.isOwn = true → σ2[i]? ≠ some (some (.ref A)) := fun {vs' H2 H02 σ2 env2} r i s hs os z => by
      have y := r.kn i s A hs os z
      have y2 : upd C.Kp A (.lst vs') A = none := y
      rw [upd_same] at y2; cases y2
    have hCA : C.He A = none := r1.fresh hA
    have nha : C.ha ≠ some A := fun z => by obtain ⟨⟨o, y⟩, _⟩ := r1.hv A z; rw [hCA] at y; cases y
    -- the list at A changes
    have change : ∀ {vs' ws : List V} {H2 H02 : Hp} {env2 : EnvD} {σ2 : L2.St}, Rel K ok { C with Kp := upd C.Kp A (.lst vs') } H02 σ2 H2 env2 → H02 A = none → Rel K ok { C with Kp := upd C.Kp A (.lst ws) } H02 σ2 (upd H2 A (.lst ws)) env2 := fun {vs' ws H2 H02 env2 σ2} r n0 => by
      have up : ∀ {b : Addr} {x : HO}, b ≠ A → H2 b = some x → (upd H2 A (.lst ws)) b = some x := fun {b x} hb z => by rw [upd_ne hb]; exact z
      have ns := nsl r
      refine ⟨fun b o z => up (ne_of_none z n0) (r.sub b o z), r.grow, r.new, fun b o z m => up (ne_of_none z hCA) (r.fr b o z m), fun a ha => ?_, r.len, fun i s hs => ?_, r.dis, fun b o z => ?_, fun i s p hs os e => ?_, fun a ha => ?_, fun b o z => ?_⟩
      · obtain ⟨h1, dd, h2, h3⟩ := r.hv a ha
        exact ⟨h1, dd, h2.keep (Same.refl _) h2.n0 (fun o z => up (fun y => by subst y; exact nha ha) z), h3⟩
      · have q := r.slot i s hs
        have other : ∀ {a : Addr}, s.isOwn = true → σ2[i]? = some (some (.ref a)) → a ≠ A := fun {a} o' z y => by subst y; exact ns i s hs o' z
        cases s with
        | v d => exact q
        | own dd => obtain ⟨p, e, m, h2⟩ := q; exact ⟨p, e, m, h2.keep (Same.refl _) h2.n0 (fun o z => up (other rfl e) z)⟩
        | hnd => obtain ⟨p, dd, e, m, h2, h3⟩ := q; exact ⟨p, dd, e, m, h2.keep (Same.refl _) h2.n0 (fun o z => up (other rfl e) z), h3⟩
        | dct kvs => obtain ⟨p, ks, e, m, m0, hp, r'⟩ := q; exact ⟨p, ks, e, m, m0, up (other rfl e) hp, r'⟩
        | dcm kvs => obtain ⟨p, ks, e, m, m0, hp, r'⟩ := q; exact ⟨p, ks, e, m, m0, up (other rfl e) hp, r'⟩
      · have z' : upd C.Kp A (.lst ws) b = some o := z
        by_cases hb : b = A
        · subst hb; rw [upd_same] at z' ⊢; exact z'
        · rw [upd_ne hb] at z'
          exact up hb (r.kp b o (by show upd C.Kp A (.lst vs') b = some o; rw [upd_ne hb]; exact z'))
      · have y : upd C.Kp A (.lst vs') p = none := r.kn i s p hs os e
        show upd C.Kp A (.lst ws) p = none
        by_cases hb : p = A
        · subst hb; rw [upd_same] at y; cases y
        · rw [upd_ne hb] at y ⊢; exact y
      · have y : upd C.Kp A (.lst vs') a = none := r.kh a ha
        show upd C.Kp A (.lst ws) a = none
        by_cases hb : a = A
        · subst hb; rw [upd_same] at y; cases y
        · rw [upd_ne hb] at y ⊢; exact y
      · have z' : upd C.Kp A (.lst ws) b = some o := z
        by_cases hb : b = A
        · subst hb; exact n0
        · rw [upd_ne hb] at z'
          exact r.kz b o (by show upd C.Kp A (.lst vs') b = some o; rw [upd_ne hb]; exact z')
    refine ⟨fun i m H => m = ds.length - i ∧ i ≤ ds.length ∧ Pv i H, ⟨ds.length, by simp, Nat.zero_le _, [], [], H01, Same.refl _, ?_, upd_same, r1.sub.free hA, .nil, Nat.zero_le _, i0⟩, ?_⟩
    · refine (r1.laid0 (o := .lst []) hA).guard (fun b o z => ?_) fun p o z => ?_
      · by_cases hb : b = A
        · subst hb; rw [upd_same] at z ⊢; exact z
        · rw [upd_ne hb] at z ⊢; exact r1.kp b o z
      · by_cases hb : p = A
        · subst hb; exact .inr ⟨r1.noslot hA, nha, r1.sub.free hA⟩
        · rw [upd_ne hb] at z; exact .inl z
    rintro i m H2 ⟨rfl, hil, acc, vs', H02, e2, r2, hpA, nA, hr, hacc, i2⟩
    by_cases hlt : i < ds.length
    · refine .inr ⟨w.goes i H2 hlt (e2.trans r2.sub), Pv (i + 1), fun H' p' => ⟨ds.length - (i + 1), by omega, rfl, hlt, p'⟩, fun x H' y => ?_⟩
      obtain ⟨d, H03, hd, r3, e3, x3, kp3⟩ := w.item e2 r2 hlt y
      have r3' : Rel K ok { C with Kp := upd C.Kp A (.lst vs') } H03 (L2.wipe σ vs) H' (wpE env vs) := r3.wipe vs
      refine hg _ H03 _ H' _ x d _ _ r3' x3 (turn i d acc hd i2) fun env4 σ4 r4 q4 w4 => ⟨?_, ?_⟩
      · rw [w4.1]
        apply List.ext_getElem?
        intro j
        rw [wipe_get, wipe_get, wipe_length]
        by_cases hj : j ∈ vs
        · rw [if_pos hj, if_pos hj]
        · rw [if_neg hj, if_neg hj]
      -- the frame of the block aside: σ and env as they were
      have outer : ∀ {vs2 : List V} {Hn H0n : Hp}, Same H03 H0n → Rel K ok { C with Kp := upd C.Kp A (.lst vs2) } H0n σ4 Hn env4 → Rel K ok { C with Kp := upd C.Kp A (.lst vs2) } H0n σ Hn env := by
        intro vs2 Hn H0n e30 rn
        have z := rn.wipe vs
        rw [w4.1, w4.2, wpE_wpE] at z
        have e3 : L2.wipe (L2.wipe σ vs) vs = L2.wipe σ vs := by
          apply List.ext_getElem?
          intro j
          rw [wipe_get, wipe_get, wipe_length]
          by_cases hj : j ∈ vs
          · rw [if_pos hj, if_pos hj]
          · rw [if_neg hj, if_neg hj]
        rw [e3] at z
        exact r3.unwipe e30 z hwp
      have atA : ∀ {Hn H0n : Hp}, Rel K ok { C with Kp := upd C.Kp A (.lst vs') } H0n σ4 Hn env4 → Hn A = some (.lst vs') := fun {Hn H0n} rn => rn.kp A _ upd_same
      have noA : ∀ {Hn H0n : Hp}, Rel K ok { C with Kp := upd C.Kp A (.lst vs') } H0n σ4 Hn env4 → Same H03 H0n → H0n A = none := fun {Hn H0n} rn _ => rn.kz A _ upd_same
      refine ht _ H03 σ4 H' env4 _ _ r4 q4 fun b H5 H05 q5 r5 e5 => ?_
      cases b with
      | true =>
        refine iteT (he _ H05 σ4 H5 env4 _ _ r5 (q5.1 rfl) fun z v H6 H06 q6 r6 e6 x6 => ?_)
        have n6 := noA r6 (e5.trans e6)
        refine ⟨vs', atA r6, by rw [hr.length]; exact Nat.lt_of_le_of_lt hacc (Nat.lt_trans hlt (lt_size hlen)), acc ++ [z], vs' ++ [v], H06, ((e2.trans e3).trans e5).trans e6, change (outer (e5.trans e6) r6) n6, upd_same, n6, ((hr.mono ((e3.trans e5).trans e6)).append (.one x6)), by rw [List.length_append, List.length_singleton]; omega, q6⟩
      | false =>
        exact iteF ⟨acc, vs', H05, (e2.trans e3).trans e5, outer e5 r5, atA r5, noA r5 e5, hr.mono (e3.trans e5), Nat.le_succ_of_le hacc, q5.2 rfl⟩
    · have hi' : i = ds.length := by omega
      subst hi'
      refine .inl ⟨w.stops H2 (e2.trans r2.sub), k acc A H2 H02 (fin acc i2) (out r2) (e1.trans e2) ⟨hCA, ⟨nA, vs', hpA, hr⟩, nsl r2, hA0⟩⟩
end
end DL
/-! DL, part d: the rules by syntax; defs and their calls. -/
namespace DL
open PySem L2

section
variable (X : Cx) (ok : List D → Prop)
def PDS (st : Stmt) (ws : WS) : Prop := ∃ ts, PS X st ts ∧ SndS X.K ok ts ws
def PDSs (st : List Stmt) (ws : WS) : Prop := ∃ ts, PSs X st ts ∧ SndS X.K ok ts ws
def PDG (vs : List Nat) (tg : Expr) (wg : WG) : Prop := ∃ g, PG X tg g ∧ SndG X.K ok vs g wg
def PDGs (vs : List Nat) (tgs : List Expr) (wg : WGs) : Prop := ∃ g, PGs X tgs g ∧ SndGs X.K ok vs g wg
def PDI (tg iter : Expr) (wi : WI) : Prop := ∃ ti, PI X tg iter ti ∧ SndI X.K ok ti wi
end
/-- a def of the module, as a caller sees it -/
structure Has (P : Program) (w : World) (K : PySem.W.Frag) (mg : Str → Option Value) (base : Heap) (ok : List D → Prop) (k : Nat) (x : Str) (n : Nat) (M : WM) : Prop where
  ex : ∃ f fd ps, FnOk P w K mg base CX0 k f fd ps (SpD K ok n M) ∧ mg x = some (.ref f) ∧ PySem.W.keepIn K (.ref f) = true ∧ Binds K fd ps []
section
variable {X : Cx} {ok : List D → Prop} {a b c e : Expr} {es : List Expr} {wa wb wc we : WE} {wr : WA} {wl : WL} {wt wu : WT} {pos p apos : Pos} {x : Str}
/-! ### expressions -/
theorem d_int {i j} : PDE X ok (.Constant (.int i) j pos) (wC (.int i)) := ⟨_, pe_int, snd_c fun H => .int i⟩
theorem d_bl {i j} : PDE X ok (.Constant (.bool i) j pos) (wC (.bool i)) := ⟨_, pe_bl, snd_c fun H => .bl i⟩
theorem d_non {j} : PDE X ok (.Constant .none j pos) (wC .none) := ⟨_, pe_non, snd_c fun H => .non⟩
theorem d_str {i j} : PDE X ok (.Constant (.str i) j pos) (wC (.str i)) := ⟨_, pe_str, snd_c fun H => .str i⟩
theorem d_var (i : Nat) (hN : X.N[i]? = some x := by rfl) (hv : Vis X.env.scope x := by first | exact Or.inl rfl | exact Or.inr (Or.inl rfl) | exact Or.inr (Or.inr rfl)) (hd : (x == ("__debug__" : Str)) = false := by decide)
    (hcd : (x == ("__classdict__" : Str)) = false := by decide) : PDE X ok (.Name x pos) (wVar i) := ⟨_, pe_var hN hv hd hcd, snd_var⟩
theorem d_bor (i : Nat) (hN : X.N[i]? = some x := by rfl) (hv : Vis X.env.scope x := by first | exact Or.inl rfl | exact Or.inr (Or.inl rfl) | exact Or.inr (Or.inr rfl)) (hd : (x == ("__debug__" : Str)) = false := by decide)
    (hcd : (x == ("__classdict__" : Str)) = false := by decide) : PDB X ok (.Name x pos) (wBor i) := ⟨_, pe_var hN hv hd hcd, snd_bor⟩
theorem d_b (h : PDE X ok e we) : PDB X ok e we := let ⟨t, h1, h2⟩ := h; ⟨t, h1, h2.b⟩
theorem d_fz (h : PDL X ok e wl) : PDE X ok e (wFz wl) := let ⟨t, h1, h2⟩ := h; ⟨t, h1, h2.fz⟩
/-- a name of the module that holds a written value -/
theorem d_glob {v : V} {d : D} {u : Value} (hm : X.mg x = some u) (r : RelV v u) (hd : ∀ H, Rp X.K H v d) (hg : Gl X x := by rfl) (hdd : (x == ("__debug__" : Str)) = false := by decide) : PDE X ok (.Name x pos) (wC d) := ⟨_, pe_glob hg hm r hdd, snd_c hd⟩
theorem d_op {op : Operator} {r : R2} {f : D → D → (D → Prop) → Prop} (ho : OpR X (binaryOp op) r) (hf : OpD X.K r f) (ha : PDE X ok a wa) (hb : PDE X ok b wb) : PDE X ok (.BinOp a op b pos) (wBin f wa wb) :=
  let ⟨_, a1, a2⟩ := ha; let ⟨_, b1, b2⟩ := hb; ⟨_, pe_op ho a1 b1, snd_bin hf a2 b2⟩
theorem d_add (ha : PDE X ok a wa) (hb : PDE X ok b wb) : PDE X ok (.BinOp a .Add b pos) (wBin fAdd wa wb) := d_op op_add opd_add ha hb
theorem d_sub (ha : PDE X ok a wa) (hb : PDE X ok b wb) : PDE X ok (.BinOp a .Sub b pos) (wBin fSub wa wb) := d_op op_sub opd_sub ha hb
theorem d_mul (ha : PDE X ok a wa) (hb : PDE X ok b wb) : PDE X ok (.BinOp a .Mult b pos) (wBin fMul wa wb) := d_op op_mul opd_mul ha hb
theorem d_mulX (ha : PDE X ok a wa) (hb : PDE X ok b wb) : PDE X ok (.BinOp a .Mult b pos) (wBin fMulX wa wb) := d_op op_mulX opd_mulX ha hb
theorem d_mod (ha : PDE X ok a wa) (hb : PDE X ok b wb) : PDE X ok (.BinOp a .Mod b pos) (wBin fMod wa wb) := d_op op_mod opd_mod ha hb
theorem d_div (ha : PDE X ok a wa) (hb : PDE X ok b wb) : PDE X ok (.BinOp a .FloorDiv b pos) (wBin fDiv wa wb) := d_op op_fdivW opd_div ha hb
theorem d_shl (ha : PDE X ok a wa) (hb : PDE X ok b wb) : PDE X ok (.BinOp a .LShift b pos) (wBin fShl wa wb) := d_op op_shl opd_shl ha hb
theorem d_pow (ha : PDE X ok a wa) (hb : PDE X ok b wb) : PDE X ok (.BinOp a .Pow b pos) (wBin fPow wa wb) := d_op op_pow opd_pow ha hb
theorem d_neg (ha : PDE X ok a wa) : PDE X ok (.UnaryOp .USub a pos) (wUn fNeg wa) := let ⟨_, a1, a2⟩ := ha; ⟨_, pe_un un_neg a1, snd_neg a2⟩
theorem d_cmp {op : CmpOp} {r : R2} {f : D → D → (D → Prop) → Prop} (ho : OpR X (compareOp op) r) (hf : OpD X.K r f) (hm : behindInMarks op b = false) (ha : PDE X ok a wa) (hb : PDE X ok b wb) : PDE X ok (.Compare a [op] [b] pos) (wBin f wa wb) :=
  let ⟨_, a1, a2⟩ := ha; let ⟨_, b1, b2⟩ := hb; ⟨_, pe_cmpR ho a1 b1 hm, snd_bin hf a2 b2⟩
theorem t_cmp {op : CmpOp} {r : R2} {f : D → D → (D → Prop) → Prop} (ho : OpR X (compareOp op) r) (hf : OpD X.K r f) (hm : behindInMarks op b = false) (ha : PDE X ok a wa) (hb : PDE X ok b wb) : PDT X ok (.Compare a [op] [b] pos) (wTest (wBin f wa wb)) :=
  let ⟨_, a1, a2⟩ := ha; let ⟨_, b1, b2⟩ := hb; ⟨_, pt_cmpR ho a1 b1 hm, snd_test (snd_bin hf a2 b2)⟩
theorem d_lt (ha : PDE X ok a wa) (hb : PDE X ok b wb) : PDE X ok (.Compare a [.Lt] [b] pos) (wBin fLt wa wb) := d_cmp op_lt opd_lt (nomark _) ha hb
theorem d_le (ha : PDE X ok a wa) (hb : PDE X ok b wb) : PDE X ok (.Compare a [.LtE] [b] pos) (wBin fLe wa wb) := d_cmp op_le opd_le (nomark _) ha hb
theorem d_gt (ha : PDE X ok a wa) (hb : PDE X ok b wb) : PDE X ok (.Compare a [.Gt] [b] pos) (wBin fGt wa wb) := d_cmp op_gt opd_gt (nomark _) ha hb
theorem d_ge (ha : PDE X ok a wa) (hb : PDE X ok b wb) : PDE X ok (.Compare a [.GtE] [b] pos) (wBin fGe wa wb) := d_cmp op_ge opd_ge (nomark _) ha hb
theorem t_lt (ha : PDE X ok a wa) (hb : PDE X ok b wb) : PDT X ok (.Compare a [.Lt] [b] pos) (wTest (wBin fLt wa wb)) := t_cmp op_lt opd_lt (nomark _) ha hb
theorem t_le (ha : PDE X ok a wa) (hb : PDE X ok b wb) : PDT X ok (.Compare a [.LtE] [b] pos) (wTest (wBin fLe wa wb)) := t_cmp op_le opd_le (nomark _) ha hb
theorem t_gt (ha : PDE X ok a wa) (hb : PDE X ok b wb) : PDT X ok (.Compare a [.Gt] [b] pos) (wTest (wBin fGt wa wb)) := t_cmp op_gt opd_gt (nomark _) ha hb
theorem t_ge (ha : PDE X ok a wa) (hb : PDE X ok b wb) : PDT X ok (.Compare a [.GtE] [b] pos) (wTest (wBin fGe wa wb)) := t_cmp op_ge opd_ge (nomark _) ha hb
theorem d_eq {k : Nat} (hr : Room k X.A) (ha : PDE X ok a wa) (hb : PDE X ok b wb) : PDE X ok (.Compare a [.Eq] [b] pos) (wBin fEq wa wb) := d_cmp (op_eqD hr.units) opd_eq (nomark _) ha hb
theorem d_ne {k : Nat} (hr : Room k X.A) (ha : PDE X ok a wa) (hb : PDE X ok b wb) : PDE X ok (.Compare a [.NotEq] [b] pos) (wBin fNe wa wb) := d_cmp (op_neD hr.units) opd_ne (nomark _) ha hb
theorem t_eq {k : Nat} (hr : Room k X.A) (ha : PDE X ok a wa) (hb : PDE X ok b wb) : PDT X ok (.Compare a [.Eq] [b] pos) (wTest (wBin fEq wa wb)) := t_cmp (op_eqD hr.units) opd_eq (nomark _) ha hb
theorem t_ne {k : Nat} (hr : Room k X.A) (ha : PDE X ok a wa) (hb : PDE X ok b wb) : PDT X ok (.Compare a [.NotEq] [b] pos) (wTest (wBin fNe wa wb)) := t_cmp (op_neD hr.units) opd_ne (nomark _) ha hb
theorem d_isN {j pos'} (ha : PDE X ok a wa) : PDE X ok (.Compare a [.Is] [.Constant .none j pos'] pos) (wIsN wa) := let ⟨_, a1, a2⟩ := ha; ⟨_, pe_cmp (pc_isN a1) rfl, snd_isN a2⟩
theorem d_notN {j pos'} (ha : PDE X ok a wa) : PDE X ok (.Compare a [.IsNot] [.Constant .none j pos'] pos) (wNotN wa) := let ⟨_, a1, a2⟩ := ha; ⟨_, pe_cmp (pc_notN a1) rfl, snd_notN a2⟩
theorem t_isN {j pos'} (ha : PDE X ok a wa) : PDT X ok (.Compare a [.Is] [.Constant .none j pos'] pos) (wTest (wIsN wa)) := let ⟨_, a1, a2⟩ := ha; ⟨_, pt_cmp (pc_isN a1) rfl, snd_tB (snd_isN a2)⟩
theorem t_notN {j pos'} (ha : PDE X ok a wa) : PDT X ok (.Compare a [.IsNot] [.Constant .none j pos'] pos) (wTest (wNotN wa)) := let ⟨_, a1, a2⟩ := ha; ⟨_, pt_cmp (pc_notN a1) rfl, snd_tB (snd_notN a2)⟩
/-- a chain of two comparisons of ints -/
def wChn (f f' : D → D → (D → Prop) → Prop) (a b c : WE) : WE := fun env Q => a env fun x => b env fun y => f x y fun z => match z with
  | .bool k => ∃ d : Bool, (k = true → c env fun w => f' y w fun z' => z' = .bool d) ∧ Q (.bool (k && d))
  | _ => False
theorem snd_chn {K : PySem.W.Frag} {r r' : R2} {f f' : D → D → (D → Prop) → Prop} {ta tb tc : TE} (hr : OpD K r f) (hr' : OpD K r' f') (ha : SndE K ok ta wa) (hb : SndE K ok tb wb) (hc : SndE K ok tc wc) : SndE K ok (tChain r r' ta tb tc) (wChn f f' wa wb wc) := fun C H0 σ H env Q R rel hw k =>
  ha C H0 σ H env _ _ rel hw fun d v H1 H01 q r1 e1 x1 => hb C H01 σ H1 env _ _ r1 q fun e u H2 H02 q2 r2 e2 x2 =>
    hr H02 H2 v u d e _ _ r2.sub (x1.mono e2) x2 q2 fun z w qz rz => by
      try dsimp only at qz
      split at qz
      · rename_i k'
        cases rz
        obtain ⟨d', q3, q4⟩ := qz
        refine ⟨k', rfl, ?_⟩
        cases k' with
        | true => exact iteT (hc C H02 σ H2 env _ _ r2 (q3 rfl) fun e3 u3 H3 H03 q5 r3 e3' x3 => hr' H03 H3 u u3 e e3 _ _ r3.sub (x2.mono e3') x3 q5 fun z2 w2 qz2 rz2 => by
            subst qz2
            exact k _ _ H3 H03 q4 r3 ((e1.trans e2).trans e3') rz2)
        | false => exact iteF (k _ _ H2 H02 q4 r2 (e1.trans e2) (.bl _))
      · exact qz.elim
theorem d_chn {op op' : CmpOp} {r r' : R2} {f f' : D → D → (D → Prop) → Prop} (ho : OpR X (compareOp op) r) (hf : OpD X.K r f) (ho' : OpR X (compareOp op') r') (hf' : OpD X.K r' f') (ha : PDE X ok a wa) (hb : PDE X ok b wb) (hc : PDE X ok c wc)
    (hm : lastMarks [op, op'] [b, c] = false := by with_unfolding_all rfl) : PDE X ok (.Compare a [op, op'] [b, c] pos) (wChn f f' wa wb wc) :=
  let ⟨_, a1, a2⟩ := ha; let ⟨_, b1, b2⟩ := hb; let ⟨_, c1, c2⟩ := hc; ⟨_, pe_chain ho ho' a1 b1 c1 hm, snd_chn hf hf' a2 b2 c2⟩
theorem t_chn {op op' : CmpOp} {r r' : R2} {f f' : D → D → (D → Prop) → Prop} (ho : OpR X (compareOp op) r) (hf : OpD X.K r f) (ho' : OpR X (compareOp op') r') (hf' : OpD X.K r' f') (ha : PDE X ok a wa) (hb : PDE X ok b wb) (hc : PDE X ok c wc)
    (hm : lastMarks [op, op'] [b, c] = false := by with_unfolding_all rfl) : PDT X ok (.Compare a [op, op'] [b, c] pos) (wTest (wChn f f' wa wb wc)) :=
  let ⟨_, a1, a2⟩ := ha; let ⟨_, b1, b2⟩ := hb; let ⟨_, c1, c2⟩ := hc; ⟨_, pt_chain ho ho' a1 b1 c1 hm, snd_test (snd_chn hf hf' a2 b2 c2)⟩
/-! ### tests -/
theorem t_val (ha : PDE X ok a wa) (he : ∀ whole, isTrue a X.env whole = (do let v ← whole; standAt a.pos; holding [v] (truthy v)) := by intro _; rfl) : PDT X ok a (wTest wa) := let ⟨_, a1, a2⟩ := ha; ⟨_, pt_val a1 he, snd_tB a2⟩
theorem t_not (h : PDT X ok a wt) : PDT X ok (.UnaryOp .Not a pos) (wNot wt) := let ⟨_, a1, a2⟩ := h; ⟨_, pt_not a1, snd_not a2⟩
theorem t_w (h : PDW X ok a wt) : PDT X ok a wt := let ⟨_, a1, a2⟩ := h; ⟨_, a1.pt, a2⟩
theorem w_and1 (h : PDT X ok a wt) : PDW X ok (.BoolOp .And [a] pos) wt := let ⟨_, a1, a2⟩ := h; ⟨_, pw_and1 a1, a2⟩
theorem w_or1 (h : PDT X ok a wt) : PDW X ok (.BoolOp .Or [a] pos) wt := let ⟨_, a1, a2⟩ := h; ⟨_, pw_or1 a1, a2⟩
theorem w_and (h : PDT X ok a wt) (h2 : PDW X ok (.BoolOp .And (b :: es) pos) wu) : PDW X ok (.BoolOp .And (a :: b :: es) pos) (wAndD wt wu) := let ⟨_, a1, a2⟩ := h; let ⟨_, b1, b2⟩ := h2; ⟨_, pw_and a1 b1, snd_andD a2 b2⟩
theorem w_or (h : PDT X ok a wt) (h2 : PDW X ok (.BoolOp .Or (b :: es) pos) wu) : PDW X ok (.BoolOp .Or (a :: b :: es) pos) (wOrD wt wu) := let ⟨_, a1, a2⟩ := h; let ⟨_, b1, b2⟩ := h2; ⟨_, pw_or a1 b1, snd_orD a2 b2⟩
theorem w_andB (h : PDT X ok a wt) (h2 : PDW X ok (.BoolOp .And (b :: es) pos) wu) : PDW X ok (.BoolOp .And (a :: b :: es) pos) (wAnd wt wu) := let ⟨_, a1, a2⟩ := h; let ⟨_, b1, b2⟩ := h2; ⟨_, pw_and a1 b1, snd_and a2 b2⟩
theorem w_orB (h : PDT X ok a wt) (h2 : PDW X ok (.BoolOp .Or (b :: es) pos) wu) : PDW X ok (.BoolOp .Or (a :: b :: es) pos) (wOr wt wu) := let ⟨_, a1, a2⟩ := h; let ⟨_, b1, b2⟩ := h2; ⟨_, pw_or a1 b1, snd_or a2 b2⟩
theorem d_one {op} (h : PDE X ok a wa) : PDE X ok (.BoolOp op [a] pos) wa := let ⟨_, a1, a2⟩ := h; ⟨_, pe_one a1, a2⟩
theorem d_and (h : PDE X ok a wa) (h2 : PDE X ok (.BoolOp .And (b :: es) pos) wb) : PDE X ok (.BoolOp .And (a :: b :: es) pos) (wBl (wAndD (wTest wa) (wTest wb))) := let ⟨_, a1, a2⟩ := h; let ⟨_, b1, b2⟩ := h2; ⟨_, pe_and a1 b1, snd_andV a2 b2⟩
theorem d_or (h : PDE X ok a wa) (h2 : PDE X ok (.BoolOp .Or (b :: es) pos) wb) : PDE X ok (.BoolOp .Or (a :: b :: es) pos) (wBl (wOrD (wTest wa) (wTest wb))) := let ⟨_, a1, a2⟩ := h; let ⟨_, b1, b2⟩ := h2; ⟨_, pe_or a1 b1, snd_orV a2 b2⟩
theorem d_not (h : PDE X ok a wa) : PDE X ok (.UnaryOp .Not a pos) (wBl (wNot (wTest wa))) := let ⟨_, a1, a2⟩ := h; ⟨_, pe_not a1, snd_notV a2⟩
theorem d_ifE (h : PDT X ok c wt) (ha : PDE X ok a wa) (hb : PDE X ok b wb) : PDE X ok (.IfExp c a b pos) (wIfE wt wa wb) := let ⟨_, c1, c2⟩ := h; let ⟨_, a1, a2⟩ := ha; let ⟨_, b1, b2⟩ := hb; ⟨_, pe_ifExp c1 a1 b1, snd_ifE c2 a2 b2⟩
/-! ### arguments, displays, calls -/
theorem a_nil : PDA X ok [] wNil := ⟨_, pa_nil, snd_nil⟩
theorem a_cons (ha : PDE X ok e we) (hr : PDA X ok es wr) (hs : starEach (e :: es) X.env = (false, eval e X.env) :: starEach es X.env := by rfl) : PDA X ok (e :: es) (wCons we wr) := let ⟨_, a1, a2⟩ := ha; let ⟨_, b1, b2⟩ := hr; ⟨_, pa_cons a1 b1 hs, snd_cons a2 b2⟩
theorem a_hnd (i : Nat) (hr : PDA X ok es wr) (hN : X.N[i]? = some x := by rfl) (hv : Vis X.env.scope x := by first | exact Or.inl rfl | exact Or.inr (Or.inl rfl) | exact Or.inr (Or.inr rfl)) (hd : (x == ("__debug__" : Str)) = false := by decide)
    (hcd : (x == ("__classdict__" : Str)) = false := by decide) (hs : starEach (.Name x pos :: es) X.env = (false, eval (.Name x pos) X.env) :: starEach es X.env := by rfl) : PDA X ok (.Name x pos :: es) (wConsH i wr) := let ⟨_, b1, b2⟩ := hr; ⟨_, pa_cons (pe_var hN hv hd hcd) b1 hs, snd_consH b2⟩
theorem d_tup {x1} (h : PDA X ok es wr) : PDE X ok (.Tuple es x1 pos) (wTupP wr) := let ⟨_, a1, a2⟩ := h; ⟨_, pe_tup a1, snd_tup a2⟩
theorem l_lst (h : PDA X ok es wr) : PDL X ok (.List es pos) (wLstP wr) := let ⟨_, a1, a2⟩ := h; ⟨_, pe_lst a1, snd_lst a2⟩
theorem d_ix (ha : PDB X ok a wa) (hb : PDE X ok b wb) (hs : PlainIx b := by exact fun _ _ => rfl) : PDE X ok (.Subscript a b pos) (wIx wa wb) := let ⟨_, a1, a2⟩ := ha; let ⟨_, b1, b2⟩ := hb; ⟨_, pe_ix ix_seq a1 b1 hs, snd_ix a2 b2⟩
theorem d_len (hm : X.mg "len" = none) (ha : PDB X ok a wa) (hg : Gl X "len" := by rfl) (hs : starEach [a] X.env = (false, eval a X.env) :: starEach [] X.env := by rfl) (hpl : (backTo pos (starEach [] X.env)).any (·.1) = false := by rfl) :
    PDE X ok (.Call (.Name "len" p) [a] [] pos) (wLen wa) := let ⟨_, a1, a2⟩ := ha; ⟨_, pe_callB call_len_seq hg hm PySem.boot_len (pa_cons a1 pa_nil hs) (by decide) (by decide) hs hpl, snd_len a2⟩
theorem d_call {k j n : Nat} {M : WM} (h : Has X.prog X.w X.K X.mg X.base ok k x n M) (hr : Room j X.A) (hk : k ≤ j) (ha : PDA X ok (e :: es) wr) (hg : Gl X x := by rfl) (hdb : (x == ("__debug__" : Str)) = false := by decide)
    (he : starEach (e :: es) X.env = (false, eval e X.env) :: starEach es X.env := by rfl) (hpl : (backTo pos (starEach es X.env)).any (·.1) = false := by rfl) : PDE X ok (.Call (.Name x p) (e :: es) [] pos) (wCallP n M wr) :=
  let ⟨f, fd, ps, G, hm, kp, bs⟩ := h.ex; let ⟨_, a1, a2⟩ := ha; ⟨_, pe_call G (hr.mono hk) hg hm kp bs .nil pass0 a1 hdb he hpl, snd_call a2⟩
theorem l_call {k j n : Nat} {M : WM} (h : Has X.prog X.w X.K X.mg X.base ok k x n M) (hr : Room j X.A) (hk : k ≤ j) (ha : PDA X ok (e :: es) wr) (hg : Gl X x := by rfl) (hdb : (x == ("__debug__" : Str)) = false := by decide)
    (he : starEach (e :: es) X.env = (false, eval e X.env) :: starEach es X.env := by rfl) (hpl : (backTo pos (starEach es X.env)).any (·.1) = false := by rfl) : PDL X ok (.Call (.Name x p) (e :: es) [] pos) (wCallOP n M wr) :=
  let ⟨f, fd, ps, G, hm, kp, bs⟩ := h.ex; let ⟨_, a1, a2⟩ := ha; ⟨_, pe_call G (hr.mono hk) hg hm kp bs .nil pass0 a1 hdb he hpl, snd_callO a2⟩
end
/-! ### built-in calls on values -/
/-- a call of a built-in of one argument, the value read off known data -/
def CallD1 (K : PySem.W.Frag) (r : List V → Hp → VK → Prop) (f : D → (D → Prop) → Prop) : Prop := ∀ (H0 H : Hp) (x : V) (d : D) (Q : D → Prop) (R : VK), Same H0 H → Rp K H0 x d → f d Q → (∀ z v, Q z → Rp K H0 v z → R v H) → r [x] H R
def CallD2 (K : PySem.W.Frag) (r : List V → Hp → VK → Prop) (f : D → D → (D → Prop) → Prop) : Prop := ∀ (H0 H : Hp) (x y : V) (d e : D) (Q : D → Prop) (R : VK), Same H0 H → Rp K H0 x d → Rp K H0 y e → f d e Q → (∀ z v, Q z → Rp K H0 v z → R v H) → r [x, y] H R
section
variable {K : PySem.W.Frag} {ok : List D → Prop} {ta tb : TE} {wa wb : WE}
theorem snd_c1 {r : List V → Hp → VK → Prop} {f : D → (D → Prop) → Prop} (hr : CallD1 K r f) (ha : SndE K ok ta wa) : SndE K ok (tCB r (tCons ta tNil)) (wUn f wa) := fun C H0 σ H env Q R rel hw k =>
  ha C H0 σ H env _ _ rel hw fun d v H1 H01 q r1 e1 x1 => hr H01 H1 v d Q R r1.sub x1 q fun z w qz rz => k z w H1 H01 qz r1 e1 rz
theorem snd_c2 {r : List V → Hp → VK → Prop} {f : D → D → (D → Prop) → Prop} (hr : CallD2 K r f) (ha : SndE K ok ta wa) (hb : SndE K ok tb wb) : SndE K ok (tCB r (tCons ta (tCons tb tNil))) (wBin f wa wb) := fun C H0 σ H env Q R rel hw k =>
  ha C H0 σ H env _ _ rel hw fun d v H1 H01 q r1 e1 x1 => hb C H01 σ H1 env _ _ r1 q fun e u H2 H02 q2 r2 e2 x2 => hr H02 H2 v u d e Q R r2.sub (x1.mono e2) x2 q2 fun z w qz rz => k z w H2 H02 qz r2 (e1.trans e2) rz
def fAbs : D → (D → Prop) → Prop := fun d Q => match d with
  | .int i => Q (.int (if i < 0 then -i else i))
  | _ => False
def fInt : D → (D → Prop) → Prop := fun d Q => match d with
  | .int i => Q (.int i)
  | .bool k => Q (.int (if k then 1 else 0))
  | _ => False
theorem cd_abs : CallD1 K (fun xs H Q => ∃ i, xs = [.int i] ∧ Q (.int (if i < 0 then -i else i)) H) fAbs := fun H0 H x d Q R s hx q k => by
  unfold fAbs at q
  split at q
  · cases hx; exact ⟨_, rfl, k _ _ q (.int _)⟩
  · exact q.elim
theorem cd_int : CallD1 K (fun xs H Q => (∃ i, xs = [.int i] ∧ Q (.int i) H) ∨ ∃ k, xs = [.bl k] ∧ Q (.int (if k then 1 else 0)) H) fInt := fun H0 H x d Q R s hx q k => by
  unfold fInt at q
  split at q
  · cases hx; exact .inl ⟨_, rfl, k _ _ q (.int _)⟩
  · cases hx; exact .inr ⟨_, rfl, k _ _ q (.int _)⟩
  · exact q.elim
theorem cd_max2 : CallD2 K (fun xs H Q => ∃ i j, xs = [.int i, .int j] ∧ Q (.int (if j > i then j else i)) H) fMax2 := fun H0 H x y d e Q R s hx hy q k => by
  unfold fMax2 at q
  split at q
  · cases hx; cases hy; exact ⟨_, _, rfl, k _ _ q (.int _)⟩
  · exact q.elim
theorem cd_min2 : CallD2 K (fun xs H Q => ∃ i j, xs = [.int i, .int j] ∧ Q (.int (if j < i then j else i)) H) fMin2 := fun H0 H x y d e Q R s hx hy q k => by
  unfold fMin2 at q
  split at q
  · cases hx; cases hy; exact ⟨_, _, rfl, k _ _ q (.int _)⟩
  · exact q.elim
end
section
variable {X : Cx} {ok : List D → Prop} {a b c e : Expr} {es : List Expr} {wa wb wc we : WE} {wr : WA} {wl : WL} {wt wu : WT} {pos p apos : Pos} {x : Str}
theorem d_B1 {id : String} {r : List V → Hp → VK → Prop} {f : D → (D → Prop) → Prop} (hc : CallR X (.builtin id) r) (hf : CallD1 X.K r f) (hv : bootBuiltins x = some (.builtin id)) (hm : X.mg x = none) (ha : PDE X ok a wa) (hn : x ≠ "__name__" := by decide) (hdb : (x == ("__debug__" : Str)) = false := by decide) (hg : Gl X x := by rfl) (hs : starEach [a] X.env = (false, eval a X.env) :: starEach [] X.env := by rfl)
    (hpl : (backTo pos (starEach [] X.env)).any (·.1) = false := by rfl) : PDE X ok (.Call (.Name x p) [a] [] pos) (wUn f wa) := let ⟨_, a1, a2⟩ := ha; ⟨_, pe_callB hc hg hm hv (pa_cons a1 pa_nil hs) hn hdb hs hpl, snd_c1 hf a2⟩
theorem d_T1 {T : String} {r : List V → Hp → VK → Prop} {f : D → (D → Prop) → Prop} (hc : CallR X (.type T) r) (hf : CallD1 X.K r f) (hv : bootBuiltins x = some (.type T)) (hm : X.mg x = none) (ha : PDE X ok a wa) (hn : x ≠ "__name__" := by decide) (hdb : (x == ("__debug__" : Str)) = false := by decide) (hg : Gl X x := by rfl) (hs : starEach [a] X.env = (false, eval a X.env) :: starEach [] X.env := by rfl)
    (hpl : (backTo pos (starEach [] X.env)).any (·.1) = false := by rfl) : PDE X ok (.Call (.Name x p) [a] [] pos) (wUn f wa) := let ⟨_, a1, a2⟩ := ha; ⟨_, pe_callTy hc hg hm hv (pa_cons a1 pa_nil hs) hn hdb hs hpl, snd_c1 hf a2⟩
theorem d_B2 {id : String} {r : List V → Hp → VK → Prop} {f : D → D → (D → Prop) → Prop} (hc : CallR X (.builtin id) r) (hf : CallD2 X.K r f) (hv : bootBuiltins x = some (.builtin id)) (hm : X.mg x = none) (ha : PDE X ok a wa) (hb : PDE X ok b wb) (hn : x ≠ "__name__" := by decide) (hdb : (x == ("__debug__" : Str)) = false := by decide) (hg : Gl X x := by rfl)
    (hs : starEach [a, b] X.env = (false, eval a X.env) :: starEach [b] X.env := by rfl) (hs2 : starEach [b] X.env = (false, eval b X.env) :: starEach [] X.env := by rfl) (hpl : (backTo pos (starEach [b] X.env)).any (·.1) = false := by rfl) : PDE X ok (.Call (.Name x p) [a, b] [] pos) (wBin f wa wb) :=
  let ⟨_, a1, a2⟩ := ha; let ⟨_, b1, b2⟩ := hb; ⟨_, pe_callB hc hg hm hv (pa_cons a1 (pa_cons b1 pa_nil hs2) hs) hn hdb hs hpl, snd_c2 hf a2 b2⟩
/-! ### statements -/
theorem s_nil : PDSs X ok [] wNx := ⟨_, pss_nil, ss_nx⟩
theorem s_one {st : Stmt} {ws : WS} (h : PDS X ok st ws) : PDSs X ok [st] ws := let ⟨_, a, b⟩ := h; ⟨_, pss_one a, b⟩
theorem s_cons {st : Stmt} {sts : List Stmt} {ws wr : WS} (h : PDS X ok st ws) (h2 : PDSs X ok sts wr) : PDSs X ok (st :: sts) (wSeq ws wr) := let ⟨_, a, b⟩ := h; let ⟨_, c, d⟩ := h2; ⟨_, pss_cons a c, ss_seq b d⟩
theorem s_never {sts : List Stmt} : PDSs X ok sts wNever := ⟨_, pss_never, ss_never⟩
theorem s_frz (i : Nat) {st : Stmt} {ws : WS} (h : PDS X ok st ws) : PDS X ok st (wFrz i ws) := let ⟨_, a, b⟩ := h; ⟨_, a, ss_frz b⟩
theorem s_pass : PDS X ok (.Pass pos) wNx := ⟨_, ps_pass, ss_nx⟩
theorem s_break : PDS X ok (.Break pos) wBk := ⟨_, ps_break, ss_bk⟩
theorem s_continue : PDS X ok (.Continue pos) wCt := ⟨_, ps_continue, ss_ct⟩
theorem s_no {st : Stmt} : PDS X ok st wNever := ⟨_, ps_never, ss_never⟩
theorem s_set (i : Nat) {pos' : Pos} (hN : X.N.Nodup) (he : PDE X ok e we) (hi : X.N[i]? = some x := by rfl) (hx : Loc X.env.scope x := by first | exact Or.inl rfl | exact Or.inr rfl) (hs : swapsWith e (some (.Name x pos')) pos.line X.env = pure false := by rfl) (hf : X.fn x = true ∨ X.env.scope.names.lookup x = some .local := by first | exact .inl rfl | exact .inr rfl) :
    PDS X ok (.Assign [.Name x pos'] e pos) (wSet i we) := let ⟨_, a, b⟩ := he; ⟨_, ps_set hN hi hx a hs hf, ss_set b⟩
theorem s_setO (i : Nat) {pos' : Pos} (hN : X.N.Nodup) (he : PDL X ok e wl) (hi : X.N[i]? = some x := by rfl) (hx : Loc X.env.scope x := by first | exact Or.inl rfl | exact Or.inr rfl) (hs : swapsWith e (some (.Name x pos')) pos.line X.env = pure false := by rfl) (hf : X.fn x = true ∨ X.env.scope.names.lookup x = some .local := by first | exact .inl rfl | exact .inr rfl) :
    PDS X ok (.Assign [.Name x pos'] e pos) (wSetO i wl) := let ⟨_, a, b⟩ := he; ⟨_, ps_set hN hi hx a hs hf, ss_setO b⟩
theorem s_setH (i : Nat) {pos' : Pos} (hN : X.N.Nodup) (he : PDL X ok e wl) (hi : X.N[i]? = some x := by rfl) (hx : Loc X.env.scope x := by first | exact Or.inl rfl | exact Or.inr rfl) (hs : swapsWith e (some (.Name x pos')) pos.line X.env = pure false := by rfl) (hf : X.fn x = true ∨ X.env.scope.names.lookup x = some .local := by first | exact .inl rfl | exact .inr rfl) :
    PDS X ok (.Assign [.Name x pos'] e pos) (wSetH ok i wl) := let ⟨_, a, b⟩ := he; ⟨_, ps_set hN hi hx a hs hf, ss_setH b⟩
theorem s_expr (he : PDE X ok e we) (hs : swapsWith e none pos.line X.env = pure false := by rfl) : PDS X ok (.Expr e pos) (wDrop we) := let ⟨_, a, b⟩ := he; ⟨_, ps_expr a hs, ss_drop b⟩
theorem s_ret (he : PDE X ok e we) : PDS X ok (.Return (some e) pos) (wRet we) := let ⟨_, a, b⟩ := he; ⟨_, ps_ret a, ss_ret b⟩
theorem s_retO (he : PDL X ok e wl) : PDS X ok (.Return (some e) pos) (wRetO wl) := let ⟨_, a, b⟩ := he; ⟨_, ps_ret a, ss_retO b⟩
theorem s_retV (i : Nat) {pos' : Pos} (hN : X.N[i]? = some x := by rfl) (hv : Vis X.env.scope x := by first | exact Or.inl rfl | exact Or.inr (Or.inl rfl) | exact Or.inr (Or.inr rfl)) (hd : (x == ("__debug__" : Str)) = false := by decide)
    (hcd : (x == ("__classdict__" : Str)) = false := by decide) : PDS X ok (.Return (some (.Name x pos')) pos) (wRetV i) := ⟨_, ps_ret (pe_var hN hv hd hcd), ss_retV⟩
theorem s_retN : PDS X ok (.Return none pos) wRetN := ⟨_, ps_retN, ss_retN⟩
theorem s_if {sa sb : List Stmt} {wsa wsb : WS} (hc : PDT X ok c wt) (ha : PDSs X ok sa wsa) (hb : PDSs X ok sb wsb) : PDS X ok (.If c sa sb pos) (wIf wt wsa wsb) := let ⟨_, c1, c2⟩ := hc; let ⟨_, a1, a2⟩ := ha; let ⟨_, b1, b2⟩ := hb; ⟨_, ps_if c1 a1 b1, ss_if c2 a2 b2⟩
theorem s_while {body : List Stmt} {ws : WS} (hp : PassesOwn (model X.prog X.w) X.A X.env X.xe) (hc : PDT X ok c wt) (hb : PDSs X ok body ws) : PDS X ok (.While c body [] pos) (wWhile wt ws) := let ⟨_, c1, c2⟩ := hc; let ⟨_, b1, b2⟩ := hb; ⟨_, ps_while hp c1 b1, ss_while c2 b2⟩
theorem s_for {vs : List Nat} {tg iter : Expr} {body : List Stmt} {wi : WI} {wg : WG} {ws : WS} (hp : PassesOwn (model X.prog X.w) X.A X.env X.xe) (hc : X.calm = true) (hi : PDI X ok tg iter wi) (hg : PDG X ok vs tg wg) (hb : PDSs X ok body ws) (hs : ∀ x, foldedSetIterable iter X.env x = pure x := by intro _; rfl) :
    PDS X ok (.For tg iter body [] pos) (wFor wi wg ws) := let ⟨_, i1, i2⟩ := hi; let ⟨_, g1, g2⟩ := hg; let ⟨_, b1, b2⟩ := hb; ⟨_, ps_for hp hc i1 g1 b1 hs, ss_for i2 g2 b2⟩
theorem s_app (i : Nat) {mp : Pos} (hpe : PDE X ok e we) (hN : X.N[i]? = some x := by rfl) (hv : Vis X.env.scope x := by first | exact Or.inl rfl | exact Or.inr (Or.inl rfl) | exact Or.inr (Or.inr rfl)) (hd : (x == ("__debug__" : Str)) = false := by decide) (hcd : (x == ("__classdict__" : Str)) = false := by decide)
    (hbase : attributeBase (.Name x mp) "append" X.env (eval (.Name x mp) X.env) = eval (.Name x mp) X.env := by rfl)
    (hfew : ((backTo p (starEach [e] X.env)).all (fun x => !x.1) && (backToKw p (keywordEach [] X.env)).all (fun x => x.1.isSome) && decide ([e].length + ([] : List Keyword).length + (if ([] : List Keyword).isEmpty then 0 else 1) < 30)) = true := by rfl)
    (hline : (apos.endLine == p.line) = true := by rfl) (hs : starEach [e] X.env = (false, eval e X.env) :: starEach [] X.env := by rfl) (hplain : (backTo p (starEach [] X.env)).any (·.1) = false := by rfl)
    (hsw : swapsWith (.Call (.Attribute (.Name x mp) "append" apos) [e] [] p) none pos.line X.env = pure false := by rfl) :
    PDS X ok (.Expr (.Call (.Attribute (.Name x mp) "append" apos) [e] [] p) pos) (wApp i we) := let ⟨_, a, b⟩ := hpe; ⟨_, ps_expr (pe_bm PySem.F.plainAttrs_list PySem.F.slot_list_append PySem.F.type_list_append mt_append (pe_var hN hv hd hcd) (pa_cons a pa_nil hs) hbase hfew hline hs hplain) hsw, ss_app b⟩
theorem s_ext (i : Nat) {mp : Pos} (hpe : PDE X ok e we) (hN : X.N[i]? = some x := by rfl) (hv : Vis X.env.scope x := by first | exact Or.inl rfl | exact Or.inr (Or.inl rfl) | exact Or.inr (Or.inr rfl)) (hd : (x == ("__debug__" : Str)) = false := by decide) (hcd : (x == ("__classdict__" : Str)) = false := by decide)
    (hbase : attributeBase (.Name x mp) "extend" X.env (eval (.Name x mp) X.env) = eval (.Name x mp) X.env := by rfl)
    (hfew : ((backTo p (starEach [e] X.env)).all (fun x => !x.1) && (backToKw p (keywordEach [] X.env)).all (fun x => x.1.isSome) && decide ([e].length + ([] : List Keyword).length + (if ([] : List Keyword).isEmpty then 0 else 1) < 30)) = true := by rfl)
    (hline : (apos.endLine == p.line) = true := by rfl) (hs : starEach [e] X.env = (false, eval e X.env) :: starEach [] X.env := by rfl) (hplain : (backTo p (starEach [] X.env)).any (·.1) = false := by rfl)
    (hsw : swapsWith (.Call (.Attribute (.Name x mp) "extend" apos) [e] [] p) none pos.line X.env = pure false := by rfl) :
    PDS X ok (.Expr (.Call (.Attribute (.Name x mp) "extend" apos) [e] [] p) pos) (wExt i we) := let ⟨_, a, b⟩ := hpe; ⟨_, ps_expr (pe_bm PySem.F.plainAttrs_list PySem.F.slot_list_extend PySem.F.type_list_extend mt_extend (pe_var hN hv hd hcd) (pa_cons a pa_nil hs) hbase hfew hline hs hplain) hsw, ss_ext b⟩
theorem s_pop (i : Nat) {mp : Pos} (hN : X.N[i]? = some x := by rfl) (hv : Vis X.env.scope x := by first | exact Or.inl rfl | exact Or.inr (Or.inl rfl) | exact Or.inr (Or.inr rfl)) (hd : (x == ("__debug__" : Str)) = false := by decide) (hcd : (x == ("__classdict__" : Str)) = false := by decide)
    (hbase : attributeBase (.Name x mp) "pop" X.env (eval (.Name x mp) X.env) = eval (.Name x mp) X.env := by rfl) (hline : (apos.endLine == p.line) = true := by rfl)
    (hsw : swapsWith (.Call (.Attribute (.Name x mp) "pop" apos) [] [] p) none pos.line X.env = pure false := by rfl) :
    PDS X ok (.Expr (.Call (.Attribute (.Name x mp) "pop" apos) [] [] p) pos) (wPop i) := ⟨_, ps_expr (pe_bm0 PySem.F.plainAttrs_list PySem.F.slot_list_pop PySem.F.type_list_pop mt_pop (pe_var hN hv hd hcd) hbase hline) hsw, ss_pop⟩
theorem s_put (i : Nat) {tp : Pos} {ix : Expr} {mp : Pos} (he : PDE X ok e we) (hk : PDE X ok ix wa) (hN : X.N[i]? = some x := by rfl) (hv : Vis X.env.scope x := by first | exact Or.inl rfl | exact Or.inr (Or.inl rfl) | exact Or.inr (Or.inr rfl)) (hd : (x == ("__debug__" : Str)) = false := by decide) (hcd : (x == ("__classdict__" : Str)) = false := by decide)
    (hg : ∀ (to tk : TE), PE X (.Name x mp) to → PE X ix tk → PG X (.Subscript (.Name x mp) ix tp) (gSub to tk rSetL) := by exact fun _ _ h1 h2 => pg_sub h1 h2 set_list)
    (hs : swapsWithSole [.Subscript (.Name x mp) ix tp] e pos.line X.env = pure false := by rfl) (hw : swappedStores [.Subscript (.Name x mp) ix tp] e X.env = pure none := by rfl) :
    PDS X ok (.Assign [.Subscript (.Name x mp) ix tp] e pos) (wPut i wa we) := let ⟨_, e1, e2⟩ := he; let ⟨_, k1, k2⟩ := hk; ⟨_, ps_asg e1 (hg _ _ (pe_var hN hv hd hcd) k1) hs hw, ss_put e2 k2⟩
theorem s_par (i j : Nat) {y : Str} {px py pt : Pos} {kt k2 pt2} (hc : X.calm = true) (hN : X.N.Nodup) (hij : i ≠ j) (ha : PDA X ok [a, b] wr) (hi : X.N[i]? = some x := by rfl) (hj : X.N[j]? = some y := by rfl)
    (hx : X.env.scope.names.lookup x = some .local := by rfl) (hy : X.env.scope.names.lookup y = some .local := by rfl)
    (hw : swappedStores [.Tuple [.Name x px, .Name y py] kt pt] (.Tuple [a, b] k2 pt2) X.env = pure (some [x, y]) := by rfl)
    (hs : swapsWithSole [.Tuple [.Name x px, .Name y py] kt pt] (.Tuple [a, b] k2 pt2) pos.line X.env = pure false := by rfl) :
    PDS X ok (.Assign [.Tuple [.Name x px, .Name y py] kt pt] (.Tuple [a, b] k2 pt2) pos) (wPar i j wr) := let ⟨_, a1, a2⟩ := ha; ⟨_, ps_par hc hN hi hj hij hx hy a1 hw hs, ss_par a2⟩
theorem s_asg {vs : List Nat} {tg : Expr} {wg : WG} (he : PDE X ok e we) (hg : PDG X ok vs tg wg) (hs : swapsWithSole [tg] e pos.line X.env = pure false := by rfl) (hw : swappedStores [tg] e X.env = pure none := by rfl) (h1 : (assignEach [tg] X.env).map (·.2) = [assign tg X.env] := by rfl) :
    PDS X ok (.Assign [tg] e pos) (wAsg we wg) := let ⟨_, a1, a2⟩ := he; let ⟨_, b1, b2⟩ := hg; ⟨_, ps_asg a1 b1 hs hw h1, ss_asg a2 b2⟩
/-! ### targets, what is walked, comprehensions -/
theorem g_name (i : Nat) {vs : List Nat} (hN : X.N.Nodup) (hm : i ∈ vs := by decide) (hi : X.N[i]? = some x := by rfl) (hx : Loc X.env.scope x := by first | exact Or.inl rfl | exact Or.inr rfl) (hf : X.fn x = true ∨ X.env.scope.names.lookup x = some .local := by first | exact .inl rfl | exact .inr rfl) :
    PDG X ok vs (.Name x pos) (gN i) := ⟨_, pg_name hN hi hx hf, sg_name hm⟩
theorem g_tup {vs : List Nat} {k : Nat} {n : Nat} {wg : WGs} (hc : X.calm = true) (h : PDGs X ok vs es wg) (hg : ∀ t, PGs X es t → PG X (.Tuple es k pos) (gTup X.K n t)) : PDG X ok vs (.Tuple es k pos) (gT n wg) := let ⟨_, a, b⟩ := h; ⟨_, hg _ a, sg_tup b⟩
theorem g_nil {vs : List Nat} : PDGs X ok vs [] gsNil := ⟨_, pgs_nil, sgs_nil⟩
theorem i_list {tg : Expr} (h : PDE X ok e we) : PDI X ok tg e (iL we) := let ⟨_, a, b⟩ := h; ⟨_, pi_list a, si_list b⟩
theorem i_tup {tg : Expr} (h : PDE X ok e we) : PDI X ok tg e (iT we) := let ⟨_, a, b⟩ := h; ⟨_, pi_tup a, si_tup b⟩
theorem i_r1 {tg : Expr} (hm : X.mg "range" = none) (h : PDE X ok a wa) (hg : Gl X "range" := by rfl) (hs : starEach [a] X.env = [(false, eval a X.env)] := by rfl) : PDI X ok tg (.Call (.Name "range" p) [a] [] pos) (iR1 wa) := let ⟨_, a1, a2⟩ := h; ⟨_, pi_range1 hg hm (pa_cons a1 pa_nil (by exact hs)) hs, si_r1 a2⟩
theorem i_r2 {tg : Expr} (hm : X.mg "range" = none) (h : PDE X ok a wa) (h2 : PDE X ok b wb) (hg : Gl X "range" := by rfl) (hs : starEach [a, b] X.env = [(false, eval a X.env), (false, eval b X.env)] := by rfl) (hs2 : starEach [b] X.env = [(false, eval b X.env)] := by rfl) :
    PDI X ok tg (.Call (.Name "range" p) [a, b] [] pos) (iR2 wa wb) := let ⟨_, a1, a2⟩ := h; let ⟨_, b1, b2⟩ := h2; ⟨_, pi_range2 hg hm (pa_cons a1 (pa_cons b1 pa_nil (by exact hs2)) (by rw [hs2]; exact hs)) hs hs2, si_r2 a2 b2⟩
theorem l_lc {tg iter elt : Expr} {ifs : List Expr} {scope : Scope} {own : List (Str × Nat)} {wi : WI} {wg : WG} {wt : WT} {we : WE} (hc : X.calm = true) (hN : X.N.Nodup) (hi : PDI X ok tg iter wi) (ok' : BlkOk X.N X.env.scope scope own)
    (hg : ∃ g, (∀ (s : Shared) (H : Hp) (C : Addr) (cl : List (Str × Addr)) (fp : List Addr), PG (X.blk s H scope (compEnvC scope cl C X.env) fp) tg g) ∧ SndG X.K ok (own.map (·.2)) g wg)
    (ht : ∃ tt, (∀ (s : Shared) (H : Hp) (C : Addr) (cl : List (Str × Addr)) (fp : List Addr), PTs (X.blk s H scope (compEnvC scope cl C X.env) fp) ifs tt) ∧ SndT X.K ok tt wt)
    (he : ∃ te, (∀ (s : Shared) (H : Hp) (C : Addr) (cl : List (Str × Addr)) (fp : List Addr), PE (X.blk s H scope (compEnvC scope cl C X.env) fp) elt te) ∧ SndE X.K ok te we)
    (hs : ∀ x, foldedSetIterable iter X.env x = pure x := by intro _; rfl) : PDL X ok (.ListComp elt [⟨tg, iter, ifs, 0⟩] scope pos) (wLc wi wg wt we (own.map (·.2))) :=
  let ⟨_, i1, i2⟩ := hi; let ⟨_, g1, g2⟩ := hg; let ⟨_, t1, t2⟩ := ht; let ⟨_, e1, e2⟩ := he; ⟨_, pe_lc hc hN i1 ok' g1 t1 e1 hs, sl_lc i2 g2 t2 e2⟩
theorem s_setLc (i : Nat) {py spos : Pos} {y : Str} {tg iter elt : Expr} {ifs : List Expr} {scope : Scope} {own : List (Str × Nat)} {wi : WI} {wg : WG} {wt : WT} {we : WE} (hc : X.calm = true) (hN : X.N.Nodup) (hi : PDI X ok tg iter wi) (ok' : BlkOk X.N X.env.scope scope own)
    (hg : ∃ g, (∀ (s : Shared) (H : Hp) (C : Addr) (cl : List (Str × Addr)) (fp : List Addr), PG (X.blk s H scope (compEnvC scope cl C X.env) fp) tg g) ∧ SndG X.K ok (own.map (·.2)) g wg)
    (ht : ∃ tt, (∀ (s : Shared) (H : Hp) (C : Addr) (cl : List (Str × Addr)) (fp : List Addr), PTs (X.blk s H scope (compEnvC scope cl C X.env) fp) ifs tt) ∧ SndT X.K ok tt wt)
    (he : ∃ te, (∀ (s : Shared) (H : Hp) (C : Addr) (cl : List (Str × Addr)) (fp : List Addr), PE (X.blk s H scope (compEnvC scope cl C X.env) fp) elt te) ∧ SndE X.K ok te we)
    (hsw : swapsWith (.ListComp elt [⟨tg, iter, ifs, 0⟩] scope pos) (some (.Name y py)) spos.line X.env = pure true) (hy : X.N[i]? = some y := by rfl) (hyl : X.env.scope.names.lookup y = some .local := by rfl)
    (hs : ∀ x, foldedSetIterable iter X.env x = pure x := by intro _; rfl) : PDS X ok (.Assign [.Name y py] (.ListComp elt [⟨tg, iter, ifs, 0⟩] scope pos) spos) (wSetO i (wLc wi wg wt we (own.map (·.2)))) :=
  let ⟨_, i1, i2⟩ := hi; let ⟨_, g1, g2⟩ := hg; let ⟨_, t1, t2⟩ := ht; let ⟨_, e1, e2⟩ := he; ⟨_, ps_setLc hc hN hy hyl hsw i1 ok' g1 t1 e1 hs, ss_setO (sl_lc i2 g2 t2 e2)⟩
end
/-! ### defs -/
/-- the frame at the entry: the arguments, then nothing -/
def stE : List Ar → Nat → EnvD
  | [], m => List.replicate m none
  | .v d :: r, m => some (.v d) :: stE r m
  | .hnd :: r, m => some .hnd :: stE r m
section
variable {K : PySem.W.Frag} {ok : List D → Prop}
theorem stE_len : ∀ (as : List Ar) (m : Nat), (stE as m).length = as.length + m
  | [], m => by show (List.replicate m none).length = 0 + m; rw [List.length_replicate, Nat.zero_add]
  | .v d :: r, m => by show (stE r m).length + 1 = r.length + 1 + m; rw [stE_len r m]; omega
  | .hnd :: r, m => by show (stE r m).length + 1 = r.length + 1 + m; rw [stE_len r m]; omega
theorem rep_none {m i : Nat} {s : Sl} (h : (List.replicate m (none : Option Sl))[i]? = some (some s)) : False := by
  rw [List.getElem?_replicate] at h
  split at h <;> cases h
theorem stE_slot {H0 : Hp} {ha : Option Addr} : ∀ {as : List Ar} {vs : List V} {m : Nat} {i : Nat} {s : Sl}, ArgsOk K H0 ha vs as → (stE as m)[i]? = some (some s) →
    ∃ x, vs[i]? = some x ∧ ((∃ d, s = .v d ∧ Rp K H0 x d) ∨ ∃ a, s = .hnd ∧ ha = some a ∧ x = .ref a)
  | [], _, m, i, s, _, e => (rep_none e).elim
  | .v d :: r, _, m, 0, s, .cons h _, e => by
    have e' : some (some (Sl.v d)) = some (some s) := e
    cases e'
    exact ⟨_, rfl, .inl ⟨d, rfl, h⟩⟩
  | .v d :: r, _, m, i + 1, s, .cons _ t, e => by
    obtain ⟨x, h1, h2⟩ := stE_slot (m := m) (i := i) t (by have z : (stE r m)[i]? = some (some s) := (List.getElem?_cons_succ).symm.trans e; exact z)
    exact ⟨x, by rw [List.getElem?_cons_succ]; exact h1, h2⟩
  | .hnd :: r, _, m, 0, s, .hnd h _, e => by
    have e' : some (some Sl.hnd) = some (some s) := e
    cases e'
    exact ⟨_, rfl, .inr ⟨_, rfl, h, rfl⟩⟩
  | .hnd :: r, _, m, i + 1, s, .hnd _ t, e => by
    obtain ⟨x, h1, h2⟩ := stE_slot (m := m) (i := i) t (by have z : (stE r m)[i]? = some (some s) := (List.getElem?_cons_succ).symm.trans e; exact z)
    exact ⟨x, by rw [List.getElem?_cons_succ]; exact h1, h2⟩
/-- at most one handle among the parameters: asked of the arguments -/
theorem stE_plain : ∀ {as : List Ar} {m i : Nat}, plainA as = true → (stE as m)[i]? ≠ some (some .hnd)
  | [], m, i, _ => fun e => rep_none e
  | .v d :: r, m, 0, _ => fun e => by have e' : some (some (Sl.v d)) = some (some Sl.hnd) := e; cases e'
  | .v d :: r, m, i + 1, p => fun e => stE_plain (as := r) (m := m) (i := i) p ((List.getElem?_cons_succ).symm.trans e)
  | .hnd :: r, m, i, p => by cases p
theorem stE_one : ∀ {as : List Ar} {m i j : Nat}, oneH as = true → (stE as m)[i]? = some (some .hnd) → (stE as m)[j]? = some (some .hnd) → i = j
  | [], m, i, j, _, e, _ => (rep_none e).elim
  | .v d :: r, m, 0, _, _, e, _ => by have e' : some (some (Sl.v d)) = some (some Sl.hnd) := e; cases e'
  | .v d :: r, m, i + 1, 0, _, _, e => by have e' : some (some (Sl.v d)) = some (some Sl.hnd) := e; cases e'
  | .v d :: r, m, i + 1, j + 1, p, e, f => by rw [stE_one (as := r) (m := m) (i := i) (j := j) p ((List.getElem?_cons_succ).symm.trans e) ((List.getElem?_cons_succ).symm.trans f)]
  | .hnd :: r, m, 0, 0, _, _, _ => rfl
  | .hnd :: r, m, i + 1, _, p, e, _ => (stE_plain (as := r) (m := m) (i := i) p ((List.getElem?_cons_succ).symm.trans e)).elim
  | .hnd :: r, m, 0, j + 1, p, _, e => (stE_plain (as := r) (m := m) (i := j) p ((List.getElem?_cons_succ).symm.trans e)).elim
end
section
variable {P : Program} {w : World} {K : PySem.W.Frag} {mg : Str → Option Value} {base : Heap} {ok : List D → Prop}
theorem rel_start {H0 H : Hp} {ha : Option Addr} {as : List Ar} {vs : List V} {m : Nat} (s0 : Same H0 H) (h : ArgsOk K H0 ha vs as) (hl : vs.length = as.length) (h1 : oneH as = true) (hv : ∀ a, ha = some a → ∃ ds, OwnAt K H0 H a ds ∧ ok ds) :
    Rel K ok ⟨H, H0, ha, fun _ => none⟩ H0 (vs.map some ++ List.replicate m none) H (stE as m) := by
  have look : ∀ {i : Nat} {x : V}, vs[i]? = some x → (vs.map some ++ List.replicate m none)[i]? = some (some x) := fun {i x} e => by
    have lt := (List.getElem?_eq_some_iff.mp e).1
    rw [List.getElem?_append_left (by rw [List.length_map]; exact lt), List.getElem?_map, e]
    rfl
  refine ⟨s0, Same.refl _, fun b o e => .inl e, fun b o e _ => e, fun a z => ?_, ?_, fun i s e => ?_, fun i j s t p hij hs ht os ot e1 e2 => ?_, fun b o z => (nomatch z), fun _ _ _ _ _ _ => rfl, fun _ _ => rfl, fun b o z => (nomatch z)⟩
  · obtain ⟨ds, o, k⟩ := hv a z
    obtain ⟨ws, hp⟩ := o.is
    exact ⟨⟨_, hp⟩, ds, o, k⟩
  · rw [stE_len, List.length_append, List.length_map, List.length_replicate, hl]
  · obtain ⟨x, h1, h2⟩ := stE_slot h e
    rw [look h1]
    rcases h2 with ⟨d, rfl, r⟩ | ⟨a, rfl, z, rfl⟩
    · exact ⟨x, rfl, r⟩
    · obtain ⟨ds, o, k⟩ := hv a z
      exact ⟨a, ds, rfl, .inl z, o, k⟩
  · obtain ⟨x, x1, x2⟩ := stE_slot h hs
    obtain ⟨y, y1, y2⟩ := stE_slot h ht
    rcases x2 with ⟨d, rfl, _⟩ | ⟨a, rfl, _, _⟩
    · cases os
    rcases y2 with ⟨d, rfl, _⟩ | ⟨a', rfl, _, _⟩
    · cases ot
    exact hij (stE_one h1 hs ht)
/-- THE RULE for a def: its body by the rules; what the body asks follows from the promise -/
theorem def_ok {x qual : Str} {st : Stmt} {f : Addr} {fd : FuncData} {N ps : List Str} {k n : Nat} {M : WM} {ws : WS} (F : Fun K x qual st f fd) (S : FnScope N ps (defScope st)) (hn : ps.length = n)
    (hb : ∀ (cdv : Value) (A : Around) (outer : List Env) (s : Shared) (H : Hp) (E : XK), Room k (A.deeper (PyProof.Rows.envOfC qual (defScope st) s.heap.objs.size f cdv)) → PDSs (cxOf CX0 P w K mg base N qual (defScope st) f cdv A outer s H E).nox ok (defBody st) ws)
    (hM : ∀ as Q, as.length = n → M as Q → ws { nx := fun _ => Q (.v .none), rt := Q } (stE as (N.length - n))) : FnOk P w K mg base CX0 (k + 1) f fd ps (SpD K ok n M) := by
  refine F.ok S (fun vs H Q E h => ?_) (fun cdv A outer s H vs Q E hr h => ?_)
  · obtain ⟨H0, ha, as, Q', h1, h2, _⟩ := h
    rw [h2, hn]
  · obtain ⟨H0, ha, as, Q', h1, h2, one, s0, hargs, hv, hMQ, k0⟩ := h
    obtain ⟨ts, p, snd⟩ := hb cdv A outer s H E hr
    refine ⟨ts, p, ?_⟩
    have rel : Rel K ok ⟨H, H0, ha, fun _ => none⟩ H0 (L2.start N vs) H (stE as (N.length - n)) := by
      have z := rel_start (ok := ok) (m := N.length - n) s0 hargs (by rw [h2, h1]) one hv
      unfold L2.start
      rw [h2]
      exact z
    have post : ∀ {r : Rt} {v : V} {σ' : L2.St} {H' H01 : Hp} {env' : EnvD}, Rel K ok ⟨H, H0, ha, fun _ => none⟩ H01 σ' H' env' → Q' r → RetOk K H H01 H' v r → Q v H' := fun {r v σ' H' H01 env'} R q rr =>
      k0 v H' r H01 q ⟨R.grow, R.sub, R.new, R.fr, fun a z => (R.hv a z).2, rr⟩
    exact snd _ H0 _ H _ _ _ rel (hM as Q' h1 hMQ) ⟨fun env' σ' H' H01 e R q => post (r := .v .none) R q .non, fun r v σ' H' H01 env' e R q rr => post R q rr, fun _ _ _ _ _ _ q => q.elim, fun _ _ _ _ _ _ q => q.elim⟩
end
end DL
/-! DL, part e: lists and tuples: sums, products, slices, sorted, sum, all, any, truth. -/
namespace DL
open PySem L2

abbrev WO := EnvD → (Option Int → Prop) → Prop
def SndO (K : PySem.W.Frag) (ok : List D → Prop) (to : TO) (wo : WO) : Prop := ∀ (C : Ctx) (H0 : Hp) (σ : L2.St) (H : Hp) (env : EnvD) (Q : Option Int → Prop) (R : Option Int → Hp → Prop), Rel K ok C H0 σ H env → wo env Q →
  (∀ o H1 H01, Q o → Rel K ok C H01 σ H1 env → Same H0 H01 → R o H1) → to σ H R
def PDO (X : Cx) (ok : List D → Prop) (e : Option Expr) (wo : WO) : Prop := ∃ to, PO X e to ∧ SndO X.K ok to wo
def woN : WO := fun _ Q => Q none
def woS (a : WE) : WO := fun env Q => a env fun x => match x with
  | .int i => Q (some i)
  | _ => False
def cutD {α : Type} (xs : List α) (lo hi : Option Int) : List α := (xs.drop (HT.sIx xs.length 0 lo)).take (HT.sIx xs.length xs.length hi - HT.sIx xs.length 0 lo)
/-- xs[a:b], a list -/
def wSlL (a : WE) (lo hi : WO) : WL := fun env Q => a env fun x => lo env fun l => hi env fun u => match x with
  | .list ds => Q (cutD ds l u)
  | _ => False
def wSlT (a : WE) (lo hi : WO) : WE := fun env Q => a env fun x => lo env fun l => hi env fun u => match x with
  | .tuple ds => Q (.tuple (cutD ds l u))
  | _ => False
def wCat (a b : WE) : WL := fun env Q => a env fun x => b env fun y => match x, y with
  | .list ds, .list es => ds.length + es.length < 1000000 ∧ Q (ds ++ es)
  | _, _ => False
def wRep (a b : WE) : WL := fun env Q => a env fun x => b env fun y => match x, y with
  | .list ds, .int k => k < 1000000 ∧ -1000000 < k ∧ ds.length * k.toNat < 1000000 ∧ Q (List.replicate k.toNat ds).flatten
  | _, _ => False
def wCatT (a b : WE) : WE := fun env Q => a env fun x => b env fun y => match x, y with
  | .tuple ds, .tuple es => ds.length + es.length < 1000000 ∧ Q (.tuple (ds ++ es))
  | _, _ => False
/-- list(x) -/
def wListOf (a : WE) : WL := fun env Q => a env fun x => match x with
  | .list ds => Q ds
  | .tuple ds => Q ds
  | .dict [(.none, .list ds)] => Q ds
  | _ => False
def wTupOf (a : WE) : WE := fun env Q => a env fun x => match x with
  | .list ds => Q (.tuple ds)
  | .tuple ds => Q (.tuple ds)
  | _ => False
/-- sum, max, min, sorted of a list of ints; all, any of a list of truth values: the ints told -/
def wSum (a : WE) : WE := fun env Q => a env fun x => ∃ ns, x = .list (dints ns) ∧ Q (.int ns.sum)
def wAll (a : WE) : WE := fun env Q => a env fun x => ∃ bs : List Bool, x = .list (bs.map PyData.bool) ∧ Q (.bool (bs.all id))
def wAny (a : WE) : WE := fun env Q => a env fun x => ∃ bs : List Bool, x = .list (bs.map PyData.bool) ∧ Q (.bool (bs.any id))
def wMaxL (a : WE) : WE := fun env Q => a env fun x => ∃ ns : List Int, x = .list (dints ns) ∧ 0 < ns.length ∧ ∀ m, m ∈ ns → (∀ y, y ∈ ns → y ≤ m) → Q (.int m)
def wMinL (a : WE) : WE := fun env Q => a env fun x => ∃ ns : List Int, x = .list (dints ns) ∧ 0 < ns.length ∧ ∀ m, m ∈ ns → (∀ y, y ∈ ns → m ≤ y) → Q (.int m)
def wSortI (a : WE) : WL := fun env Q => a env fun x => ∃ ns : List Int, x = .list (dints ns) ∧ ∀ ns' : List Int, ns'.Perm ns → ns'.Pairwise (· ≤ ·) → Q (dints ns')
/-- truth of a value: None, a truth value, an int, a list, a tuple -/
def wTru (a : WE) : WT := fun env Q => a env fun x => match x with
  | .none => Q false
  | .bool b => Q b
  | .int i => Q (i != 0)
  | .list ds => Q (!ds.isEmpty)
  | .tuple ds => Q (!ds.isEmpty)
  | _ => False
section
variable {K : PySem.W.Frag} {ok : List D → Prop} {ta tb te : TE} {wa wb we : WE} {t u : TT} {wt wu : WT}
theorem so_n : SndO K ok tNoPart woN := fun C H0 σ H env Q R rel hw k => k _ H H0 hw rel (Same.refl _)
theorem so_s (ha : SndE K ok ta wa) : SndO K ok (tPart ta) (woS wa) := fun C H0 σ H env Q R rel hw k => ha C H0 σ H env _ _ rel hw fun d v H1 H01 q r1 e1 x1 => by
  try dsimp only at q
  split at q
  · cases x1; exact ⟨_, rfl, k _ H1 H01 q r1 e1⟩
  · exact q.elim
theorem Rps.cut {H : Hp} {vs : List V} {ds : List D} {lo hi : Option Int} (r : Rps K H vs ds) : Rps K H (cutV vs lo hi) (cutD ds lo hi) := by
  unfold cutV cutD
  rw [r.length]
  exact (r.drop _).take _
theorem sl_sl {tl th : TO} {lo hi : WO} (ha : SndB K ok ta wa) (hl : SndO K ok tl lo) (hh : SndO K ok th hi) : SndL K ok (tSl (rSlL K) ta tl th) (wSlL wa lo hi) := fun C H0 σ H env Q R rel hw k =>
  ha C H0 σ H env _ _ rel hw fun d v H1 H01 q r1 e1 x1 => hl C H01 σ H1 env _ _ r1 q fun l H2 H02 q2 r2 e2 => hh C H02 σ H2 env _ _ r2 q2 fun u H3 H03 q3 r3 e3 => by
    try dsimp only at q3
    split at q3
    · rename_i ds
      obtain ⟨p, vs, rfl, r, h⟩ := (x1 H3 H03 r3 (e2.trans e3)).seq r3.sub (.inl rfl)
      rcases h with ⟨_, h⟩ | ⟨h, _⟩
      · exact ⟨p, vs, rfl, SqL.of h, fun p' np => k _ _ _ _ q3 (r3.laid0 np) ((e1.trans e2).trans e3) ⟨r3.fresh np, ⟨r3.sub.free np, _, upd_same, r.cut⟩, r3.noslot np, r3.kp.free np⟩⟩
      · cases h
    · exact q3.elim
theorem cut_whole {α : Type} {xs : List α} {lo hi : Option Int} (h : HT.sIx xs.length 0 lo = 0 ∧ HT.sIx xs.length xs.length hi = xs.length) : cutD xs lo hi = xs := by
  unfold cutD
  rw [h.1, h.2]
  simp
theorem se_slT {tl th : TO} {lo hi : WO} (ha : SndE K ok ta wa) (hl : SndO K ok tl lo) (hh : SndO K ok th hi) : SndE K ok (tSl (rSlA K) ta tl th) (wSlT wa lo hi) := fun C H0 σ H env Q R rel hw k =>
  ha C H0 σ H env _ _ rel hw fun d v H1 H01 q r1 e1 x1 => hl C H01 σ H1 env _ _ r1 q fun l H2 H02 q2 r2 e2 => hh C H02 σ H2 env _ _ r2 q2 fun u H3 H03 q3 r3 e3 => by
    try dsimp only at q3
    split at q3
    · cases x1 with
      | tup h r =>
        rename_i a xs
        have r' := r.mono (e2.trans e3)
        refine ⟨a, xs, rfl, Same.tup (Same.trans (Same.trans e2 e3) r3.sub) h, fun hw => ?_, fun hw p np => ?_⟩
        · refine k _ _ H3 H03 q3 r3 ((e1.trans e2).trans e3) (.tup (Same.tup (e2.trans e3) h) ?_)
          rw [r.length] at hw
          rw [cut_whole hw]
          exact r'
        · obtain ⟨r4, e4⟩ := r3.laid (o := .tup (cutV xs l u)) np
          exact k _ _ _ _ q3 r4 (((e1.trans e2).trans e3).trans e4) (.tup (SqT.of upd_same) ((r'.cut).mono e4))
    · exact q3.elim
theorem Bor.lst {H0 H : Hp} {v : V} {ds : List D} (s : Same H0 H) (h : Bor K H0 H v (.list ds)) : ∃ p vs, v = .ref p ∧ Rps K H0 vs ds ∧ H p = some (.lst vs) := by
  obtain ⟨p, vs, e, r, h⟩ := h.seq s (.inl rfl)
  rcases h with ⟨_, h⟩ | ⟨h, _⟩
  · exact ⟨p, vs, e, r, h⟩
  · cases h
theorem sl_cat (ha : SndB K ok ta wa) (hb : SndB K ok tb wb) : SndL K ok (tOp rCat ta tb) (wCat wa wb) := fun C H0 σ H env Q R rel hw k =>
  ha C H0 σ H env _ _ rel hw fun d v H1 H01 q r1 e1 x1 => hb C H01 σ H1 env _ _ r1 q fun e u H2 H02 q2 r2 e2 x2 => by
    try dsimp only at q2
    split at q2
    · obtain ⟨p, vs, rfl, r, h⟩ := (x1 H2 H02 r2 e2).lst r2.sub
      obtain ⟨p', vs', rfl, r', h'⟩ := (x2 H2 H02 r2 (Same.refl _)).lst r2.sub
      exact ⟨p, p', vs, vs', rfl, rfl, h, h', by rw [r.length, r'.length]; exact Nat.le_of_lt (lt_size q2.1), fun q np => k _ _ _ _ q2.2 (r2.laid0 np) (e1.trans e2) ⟨r2.fresh np, ⟨r2.sub.free np, _, upd_same, r.append r'⟩, r2.noslot np, r2.kp.free np⟩⟩
    · exact q2.elim
theorem sl_rep (ha : SndB K ok ta wa) (hb : SndE K ok tb wb) : SndL K ok (tOp rRep ta tb) (wRep wa wb) := fun C H0 σ H env Q R rel hw k =>
  ha C H0 σ H env _ _ rel hw fun d v H1 H01 q r1 e1 x1 => hb C H01 σ H1 env _ _ r1 q fun e u H2 H02 q2 r2 e2 x2 => by
    try dsimp only at q2
    split at q2
    · obtain ⟨p, vs, rfl, r, h⟩ := (x1 H2 H02 r2 e2).lst r2.sub
      cases x2
      exact ⟨p, _, vs, rfl, rfl, h, by omega, by omega, by rw [r.length]; exact Nat.le_of_lt (lt_size q2.2.2.1), fun q np => k _ _ _ _ q2.2.2.2 (r2.laid0 np) (e1.trans e2) ⟨r2.fresh np, ⟨r2.sub.free np, _, upd_same, r.rep _⟩, r2.noslot np, r2.kp.free np⟩⟩
    · exact q2.elim
theorem se_catT (ha : SndE K ok ta wa) (hb : SndE K ok tb wb) : SndE K ok (tOp (rCatA K) ta tb) (wCatT wa wb) := fun C H0 σ H env Q R rel hw k =>
  ha C H0 σ H env _ _ rel hw fun d v H1 H01 q r1 e1 x1 => hb C H01 σ H1 env _ _ r1 q fun e u H2 H02 q2 r2 e2 x2 => by
    try dsimp only at q2
    split at q2
    · cases x1 with
      | tup h r =>
        cases x2 with
        | tup h' r' =>
          have h2 := Same.tup e2 h
          have rr := r.mono e2
          refine ⟨_, _, _, _, rfl, rfl, Same.tup r2.sub h2, Same.tup r2.sub h', by rw [r.length, r'.length]; exact Nat.le_of_lt (lt_size q2.1), fun z => ?_, fun z z2 => ?_, fun _ _ p np => ?_⟩
          · subst z
            refine k _ _ H2 H02 q2.2 r2 (e1.trans e2) (.tup h' ?_)
            have l := r.length
            rw [List.eq_nil_of_length_eq_zero l.symm]
            exact r'
          · subst z2
            refine k _ _ H2 H02 q2.2 r2 (e1.trans e2) (.tup h2 ?_)
            have l := r'.length
            rw [List.eq_nil_of_length_eq_zero l.symm, List.append_nil]
            exact rr
          · obtain ⟨r4, e4⟩ := r2.laid (o := .tup (_ ++ _)) np
            exact k _ _ _ _ q2.2 r4 ((e1.trans e2).trans e4) (.tup (SqT.of upd_same) ((rr.append r').mono e4))
    · exact q2.elim
theorem sl_listOf (ha : SndB K ok ta wa) : SndL K ok (tCB (fun xs H Q => ∃ p ys, xs = [.ref p] ∧ (SqL K H p ys ∨ SqT K H p ys) ∧ ∀ l, H l = none → Q (.ref l) (upd H l (.lst ys))) (tCons ta tNil)) (wListOf wa) := fun C H0 σ H env Q R rel hw k =>
  ha C H0 σ H env _ _ rel hw fun d v H1 H01 q r1 e1 x1 => by
    have b := x1 H1 H01 r1 (Same.refl _)
    try dsimp only at q
    split at q
    · obtain ⟨p, vs, rfl, r, h⟩ := b.lst r1.sub
      exact ⟨p, vs, rfl, .inl (SqL.of h), fun l nl => k _ _ _ _ q (r1.laid0 nl) e1 ⟨r1.fresh nl, ⟨r1.sub.free nl, _, upd_same, r⟩, r1.noslot nl, r1.kp.free nl⟩⟩
    · obtain ⟨p, vs, rfl, r, h⟩ := b.seq r1.sub (.inr rfl)
      rcases h with ⟨h, _⟩ | ⟨_, h⟩
      · cases h
      · exact ⟨p, vs, rfl, .inr h, fun l nl => k _ _ _ _ q (r1.laid0 nl) e1 ⟨r1.fresh nl, ⟨r1.sub.free nl, _, upd_same, r⟩, r1.noslot nl, r1.kp.free nl⟩⟩
    · rcases b with h | ⟨_, _, _, h, _⟩
      · cases h with
        | @scr a ns h => exact ⟨a, _, rfl, .inl (r1.sub.seq h), fun l nl => k _ _ _ _ q (r1.laid0 nl) e1 ⟨r1.fresh nl, ⟨r1.sub.free nl, _, upd_same, Rps.of_ints ns⟩, r1.noslot nl, r1.kp.free nl⟩⟩
      · cases h
    · exact q.elim
theorem se_tupOf (ha : SndB K ok ta wa) : SndE K ok (tCB (fun xs H Q => ∃ p ys, xs = [.ref p] ∧ ((SqL K H p ys ∧ ∀ l, H l = none → Q (.ref l) (upd H l (.tup ys))) ∨ (SqT K H p ys ∧ Q (.ref p) H))) (tCons ta tNil)) (wTupOf wa) := fun C H0 σ H env Q R rel hw k =>
  ha C H0 σ H env _ _ rel hw fun d v H1 H01 q r1 e1 x1 => by
    have b := x1 H1 H01 r1 (Same.refl _)
    try dsimp only at q
    split at q
    · obtain ⟨p, vs, rfl, r, h⟩ := b.lst r1.sub
      refine ⟨p, vs, rfl, .inl ⟨SqL.of h, fun l nl => ?_⟩⟩
      obtain ⟨r4, e4⟩ := r1.laid (o := .tup vs) nl
      exact k _ _ _ _ q r4 (e1.trans e4) (.tup (SqT.of upd_same) (r.mono e4))
    · rcases b with h | ⟨_, _, _, h, _⟩
      · cases h with
        | tup h r => exact ⟨_, _, rfl, .inr ⟨Same.tup r1.sub h, k _ _ _ _ q r1 e1 (.tup h r)⟩⟩
      · cases h
    · exact q.elim
theorem Bor.ints {H0 H : Hp} {v : V} {ns : List Int} (s : Same H0 H) (h : Bor K H0 H v (.list (dints ns))) : ∃ p, v = .ref p ∧ SqL K H p (ns.map V.int) := by
  obtain ⟨p, vs, e, r, h⟩ := h.lst s
  rw [r.ints_inv] at h
  exact ⟨p, e, SqL.of h⟩
theorem se_sum (ha : SndB K ok ta wa) : SndE K ok (tCB (rSum K) (tCons ta tNil)) (wSum wa) := fun C H0 σ H env Q R rel hw k =>
  ha C H0 σ H env _ _ rel hw fun d v H1 H01 q r1 e1 x1 => by
    obtain ⟨ns, rfl, q⟩ := q
    obtain ⟨p, rfl, h⟩ := (x1 H1 H01 r1 (Same.refl _)).ints r1.sub
    exact ⟨p, ns, rfl, h, k _ _ _ _ q r1 e1 (.int _)⟩
theorem se_maxL (ha : SndB K ok ta wa) : SndE K ok (tCB (rMax K) (tCons ta tNil)) (wMaxL wa) := fun C H0 σ H env Q R rel hw k =>
  ha C H0 σ H env _ _ rel hw fun d v H1 H01 q r1 e1 x1 => by
    obtain ⟨ns, rfl, l, q⟩ := q
    obtain ⟨p, rfl, h⟩ := (x1 H1 H01 r1 (Same.refl _)).ints r1.sub
    exact ⟨p, ns, rfl, h, l, fun m hm hl => k _ _ _ _ (q m hm hl) r1 e1 (.int _)⟩
theorem se_minL (ha : SndB K ok ta wa) : SndE K ok (tCB (rMin K) (tCons ta tNil)) (wMinL wa) := fun C H0 σ H env Q R rel hw k =>
  ha C H0 σ H env _ _ rel hw fun d v H1 H01 q r1 e1 x1 => by
    obtain ⟨ns, rfl, l, q⟩ := q
    obtain ⟨p, rfl, h⟩ := (x1 H1 H01 r1 (Same.refl _)).ints r1.sub
    exact ⟨p, ns, rfl, h, l, fun m hm hl => k _ _ _ _ (q m hm hl) r1 e1 (.int _)⟩
theorem sl_sortI (ha : SndB K ok ta wa) : SndL K ok (tCB (rSortedI K) (tCons ta tNil)) (wSortI wa) := fun C H0 σ H env Q R rel hw k =>
  ha C H0 σ H env _ _ rel hw fun d v H1 H01 q r1 e1 x1 => by
    obtain ⟨ns, rfl, q⟩ := q
    obtain ⟨p, rfl, h⟩ := (x1 H1 H01 r1 (Same.refl _)).ints r1.sub
    exact ⟨p, ns, rfl, h, fun ns' l hp hs nl => k _ _ _ _ (q ns' hp hs) (r1.laid0 nl) e1 ⟨r1.fresh nl, ⟨r1.sub.free nl, _, upd_same, Rps.of_ints ns'⟩, r1.noslot nl, r1.kp.free nl⟩⟩
theorem se_all (ha : SndB K ok ta wa) : SndE K ok (tCB (rAll K) (tCons ta tNil)) (wAll wa) := fun C H0 σ H env Q R rel hw k =>
  ha C H0 σ H env _ _ rel hw fun d v H1 H01 q r1 e1 x1 => by
    obtain ⟨bs, rfl, q⟩ := q
    obtain ⟨p, vs, rfl, r, h⟩ := (x1 H1 H01 r1 (Same.refl _)).lst r1.sub
    rw [r.bools_inv] at h
    exact ⟨p, bs, rfl, SqL.of h, k _ _ _ _ q r1 e1 (.bl _)⟩
theorem se_any (ha : SndB K ok ta wa) : SndE K ok (tCB (rAny K) (tCons ta tNil)) (wAny wa) := fun C H0 σ H env Q R rel hw k =>
  ha C H0 σ H env _ _ rel hw fun d v H1 H01 q r1 e1 x1 => by
    obtain ⟨bs, rfl, q⟩ := q
    obtain ⟨p, vs, rfl, r, h⟩ := (x1 H1 H01 r1 (Same.refl _)).lst r1.sub
    rw [r.bools_inv] at h
    exact ⟨p, bs, rfl, SqL.of h, k _ _ _ _ q r1 e1 (.bl _)⟩
theorem st_tru (ha : SndB K ok ta wa) : SndT K ok (fun σ H Q => ta σ H fun x H' => ∃ k, TruV K x H' k ∧ Q k H') (wTru wa) := fun C H0 σ H env Q R rel hw k =>
  ha C H0 σ H env _ _ rel hw fun d v H1 H01 q r1 e1 x1 => by
    have b := x1 H1 H01 r1 (Same.refl _)
    have simple : ∀ {d : D}, (∀ ds, d ≠ .list ds) → Bor K H01 H1 v d → Rp K H01 v d := fun {d} n b => by
      rcases b with h | ⟨_, ds, _, h, _⟩
      · exact h
      · exact (n ds h).elim
    try dsimp only at q
    split at q
    · cases simple (fun _ => by simp) b; exact ⟨false, rfl, k _ H1 H01 q r1 e1⟩
    · cases simple (fun _ => by simp) b; exact ⟨_, rfl, k _ H1 H01 q r1 e1⟩
    · cases simple (fun _ => by simp) b; exact ⟨_, rfl, k _ H1 H01 q r1 e1⟩
    · rename_i ds
      obtain ⟨p, vs, rfl, r, h⟩ := b.lst r1.sub
      refine ⟨!ds.isEmpty, .inl ⟨vs, SqL.of h, ?_⟩, k _ H1 H01 q r1 e1⟩
      have l := r.length
      cases vs <;> cases ds <;> first | rfl | (simp at l)
    · rename_i ds
      cases simple (fun _ => by simp) b with
      | @tup a vs _ h r =>
        refine ⟨!ds.isEmpty, .inr (.inl ⟨vs, Same.tup r1.sub h, ?_⟩), k _ H1 H01 q r1 e1⟩
        have l := r.length
        cases vs <;> cases ds <;> first | rfl | (simp at l)
    · exact q.elim
end
section
variable {X : Cx} {ok : List D → Prop} {a b c e : Expr} {es : List Expr} {wa wb wc we : WE} {wr : WA} {wl : WL} {wt wu : WT} {pos p p2 apos : Pos} {x : Str}
theorem o_n : PDO X ok none woN := ⟨_, po_none, so_n⟩
theorem o_s (h : PDE X ok e we) : PDO X ok (some e) (woS we) := let ⟨_, a, b⟩ := h; ⟨_, po_some a, so_s b⟩
theorem l_sl {lo hi : Option Expr} {wlo whi : WO} (ha : PDB X ok a wa) (hl : PDO X ok lo wlo) (hh : PDO X ok hi whi) : PDL X ok (.Subscript a (.Slice lo hi none p2) pos) (wSlL wa wlo whi) := let ⟨_, a1, a2⟩ := ha; let ⟨_, b1, b2⟩ := hl; let ⟨_, c1, c2⟩ := hh; ⟨_, pe_slice sl_list a1 b1 c1, sl_sl a2 b2 c2⟩
theorem d_slT {lo hi : Option Expr} {wlo whi : WO} (ha : PDE X ok a wa) (hl : PDO X ok lo wlo) (hh : PDO X ok hi whi) : PDE X ok (.Subscript a (.Slice lo hi none p2) pos) (wSlT wa wlo whi) := let ⟨_, a1, a2⟩ := ha; let ⟨_, b1, b2⟩ := hl; let ⟨_, c1, c2⟩ := hh; ⟨_, pe_slice sl_tupA a1 b1 c1, se_slT a2 b2 c2⟩
theorem l_cat (ha : PDB X ok a wa) (hb : PDB X ok b wb) : PDL X ok (.BinOp a .Add b pos) (wCat wa wb) := let ⟨_, a1, a2⟩ := ha; let ⟨_, b1, b2⟩ := hb; ⟨_, pe_op op_cat a1 b1, sl_cat a2 b2⟩
theorem l_rep (ha : PDB X ok a wa) (hb : PDE X ok b wb) : PDL X ok (.BinOp a .Mult b pos) (wRep wa wb) := let ⟨_, a1, a2⟩ := ha; let ⟨_, b1, b2⟩ := hb; ⟨_, pe_op op_rep a1 b1, sl_rep a2 b2⟩
theorem d_catT (ha : PDE X ok a wa) (hb : PDE X ok b wb) : PDE X ok (.BinOp a .Add b pos) (wCatT wa wb) := let ⟨_, a1, a2⟩ := ha; let ⟨_, b1, b2⟩ := hb; ⟨_, pe_op op_catA a1 b1, se_catT a2 b2⟩
theorem t_tru (ha : PDB X ok a wa) (he : ∀ whole, isTrue a X.env whole = (do let v ← whole; standAt a.pos; holding [v] (truthy v)) := by intro _; rfl) : PDT X ok a (wTru wa) := let ⟨_, a1, a2⟩ := ha; ⟨_, pt_truth a1 he, st_tru a2⟩
theorem l_listOf (hm : X.mg "list" = none) (ha : PDB X ok a wa) (hg : Gl X "list" := by rfl) (hs : starEach [a] X.env = (false, eval a X.env) :: starEach [] X.env := by rfl) (hpl : (backTo pos (starEach [] X.env)).any (·.1) = false := by rfl) :
    PDL X ok (.Call (.Name "list" p) [a] [] pos) (wListOf wa) := let ⟨_, a1, a2⟩ := ha; ⟨_, pe_callTy call_list_of hg hm (by decide +kernel) (pa_cons a1 pa_nil hs) (by decide) (by decide) hs hpl, sl_listOf a2⟩
theorem d_tupOf (hm : X.mg "tuple" = none) (ha : PDB X ok a wa) (hg : Gl X "tuple" := by rfl) (hs : starEach [a] X.env = (false, eval a X.env) :: starEach [] X.env := by rfl) (hpl : (backTo pos (starEach [] X.env)).any (·.1) = false := by rfl) :
    PDE X ok (.Call (.Name "tuple" p) [a] [] pos) (wTupOf wa) := let ⟨_, a1, a2⟩ := ha; ⟨_, pe_callTy call_tuple_of hg hm (by decide +kernel) (pa_cons a1 pa_nil hs) (by decide) (by decide) hs hpl, se_tupOf a2⟩
theorem d_sum (hc : X.calm = true) (hm : X.mg "sum" = none) (ha : PDB X ok a wa) (hg : Gl X "sum" := by rfl) (hs : starEach [a] X.env = (false, eval a X.env) :: starEach [] X.env := by rfl) (hpl : (backTo pos (starEach [] X.env)).any (·.1) = false := by rfl) :
    PDE X ok (.Call (.Name "sum" p) [a] [] pos) (wSum wa) := let ⟨_, a1, a2⟩ := ha; ⟨_, pe_callB (cr_sum hc) hg hm (by decide +kernel) (pa_cons a1 pa_nil hs) (by decide) (by decide) hs hpl, se_sum a2⟩
theorem d_maxL (hc : X.calm = true) (hm : X.mg "max" = none) (ha : PDB X ok a wa) (hg : Gl X "max" := by rfl) (hs : starEach [a] X.env = (false, eval a X.env) :: starEach [] X.env := by rfl) (hpl : (backTo pos (starEach [] X.env)).any (·.1) = false := by rfl) :
    PDE X ok (.Call (.Name "max" p) [a] [] pos) (wMaxL wa) := let ⟨_, a1, a2⟩ := ha; ⟨_, pe_callB (cr_max hc) hg hm (by decide +kernel) (pa_cons a1 pa_nil hs) (by decide) (by decide) hs hpl, se_maxL a2⟩
theorem d_minL (hc : X.calm = true) (hm : X.mg "min" = none) (ha : PDB X ok a wa) (hg : Gl X "min" := by rfl) (hs : starEach [a] X.env = (false, eval a X.env) :: starEach [] X.env := by rfl) (hpl : (backTo pos (starEach [] X.env)).any (·.1) = false := by rfl) :
    PDE X ok (.Call (.Name "min" p) [a] [] pos) (wMinL wa) := let ⟨_, a1, a2⟩ := ha; ⟨_, pe_callB (cr_min hc) hg hm (by decide +kernel) (pa_cons a1 pa_nil hs) (by decide) (by decide) hs hpl, se_minL a2⟩
theorem d_all (hc : X.calm = true) (hm : X.mg "all" = none) (ha : PDB X ok a wa) (hg : Gl X "all" := by rfl) (hs : starEach [a] X.env = (false, eval a X.env) :: starEach [] X.env := by rfl) (hpl : (backTo pos (starEach [] X.env)).any (·.1) = false := by rfl) :
    PDE X ok (.Call (.Name "all" p) [a] [] pos) (wAll wa) := let ⟨_, a1, a2⟩ := ha; ⟨_, pe_callB (cr_all hc) hg hm (by decide +kernel) (pa_cons a1 pa_nil hs) (by decide) (by decide) hs hpl, se_all a2⟩
theorem d_any (hc : X.calm = true) (hm : X.mg "any" = none) (ha : PDB X ok a wa) (hg : Gl X "any" := by rfl) (hs : starEach [a] X.env = (false, eval a X.env) :: starEach [] X.env := by rfl) (hpl : (backTo pos (starEach [] X.env)).any (·.1) = false := by rfl) :
    PDE X ok (.Call (.Name "any" p) [a] [] pos) (wAny wa) := let ⟨_, a1, a2⟩ := ha; ⟨_, pe_callB (cr_any hc) hg hm (by decide +kernel) (pa_cons a1 pa_nil hs) (by decide) (by decide) hs hpl, se_any a2⟩
theorem l_sortI (hm : X.mg "sorted" = none) (ha : PDB X ok a wa) (hg : Gl X "sorted" := by rfl) (hs : starEach [a] X.env = (false, eval a X.env) :: starEach [] X.env := by rfl) (hpl : (backTo pos (starEach [] X.env)).any (·.1) = false := by rfl) :
    PDL X ok (.Call (.Name "sorted" p) [a] [] pos) (wSortI wa) := let ⟨_, a1, a2⟩ := ha; ⟨_, pe_callB cr_sortedI hg hm (by decide +kernel) (pa_cons a1 pa_nil hs) (by decide) (by decide) hs hpl, sl_sortI a2⟩
theorem d_abs (hm : X.mg "abs" = none) (ha : PDE X ok a wa) (hg : Gl X "abs" := by rfl) (hs : starEach [a] X.env = (false, eval a X.env) :: starEach [] X.env := by rfl) (hpl : (backTo pos (starEach [] X.env)).any (·.1) = false := by rfl) :
    PDE X ok (.Call (.Name "abs" p) [a] [] pos) (wUn fAbs wa) := d_B1 call_abs cd_abs (by decide +kernel) hm ha (by decide) (by decide) hg hs hpl
theorem d_intc (hm : X.mg "int" = none) (ha : PDE X ok a wa) (hg : Gl X "int" := by rfl) (hs : starEach [a] X.env = (false, eval a X.env) :: starEach [] X.env := by rfl) (hpl : (backTo pos (starEach [] X.env)).any (·.1) = false := by rfl) :
    PDE X ok (.Call (.Name "int" p) [a] [] pos) (wUn fInt wa) := d_T1 call_int1 cd_int (by decide +kernel) hm ha (by decide) (by decide) hg hs hpl
theorem d_max2 (hc : X.calm = true) (hm : X.mg "max" = none) (ha : PDE X ok a wa) (hb : PDE X ok b wb) (hg : Gl X "max" := by rfl) (hs : starEach [a, b] X.env = (false, eval a X.env) :: starEach [b] X.env := by rfl) (hs2 : starEach [b] X.env = (false, eval b X.env) :: starEach [] X.env := by rfl)
    (hpl : (backTo pos (starEach [b] X.env)).any (·.1) = false := by rfl) : PDE X ok (.Call (.Name "max" p) [a, b] [] pos) (wBin fMax2 wa wb) := d_B2 (call_max2 hc) cd_max2 (by decide +kernel) hm ha hb (by decide) (by decide) hg hs hs2 hpl
theorem d_min2 (hc : X.calm = true) (hm : X.mg "min" = none) (ha : PDE X ok a wa) (hb : PDE X ok b wb) (hg : Gl X "min" := by rfl) (hs : starEach [a, b] X.env = (false, eval a X.env) :: starEach [b] X.env := by rfl) (hs2 : starEach [b] X.env = (false, eval b X.env) :: starEach [] X.env := by rfl)
    (hpl : (backTo pos (starEach [b] X.env)).any (·.1) = false := by rfl) : PDE X ok (.Call (.Name "min" p) [a, b] [] pos) (wBin fMin2 wa wb) := d_B2 (call_min2 hc) cd_min2 (by decide +kernel) hm ha hb (by decide) (by decide) hg hs hs2 hpl
/-- n.bit_length() -/
def fBits : D → (D → Prop) → Prop := fun d Q => match d with
  | .int i => Q (.int (Builtin.Int.intBits i : Nat))
  | _ => False
theorem snd_bits {K : PySem.W.Frag} {ta : TE} (ha : SndE K ok ta wa) : SndE K ok (tBits ta) (wUn fBits wa) := fun C H0 σ H env Q R rel hw k => ha C H0 σ H env _ _ rel hw fun d v H1 H01 q r1 e1 x1 => by
  unfold fBits at q
  split at q
  · cases x1; exact ⟨_, rfl, k _ _ H1 H01 q r1 e1 (.int _)⟩
  · exact q.elim
theorem d_bits (ha : PDE X ok a wa) (hbase : attributeBase a "bit_length" X.env (eval a X.env) = eval a X.env := by rfl) (hline : (apos.endLine == pos.line) = true := by rfl) : PDE X ok (.Call (.Attribute a "bit_length" apos) [] [] pos) (wUn fBits wa) := let ⟨_, a1, a2⟩ := ha; ⟨_, pe_bits a1 hbase hline, snd_bits a2⟩
end
end DL
/-! DL, part f1: the first family of draws: state = [script, place, rest, mix]. -/
namespace DL
open PySem L2

def okF1 (ds : List D) : Prop := ∃ (ns : List Int) (place rest mix : Int), ds = [scr ns, .int place, .int rest, .int mix] ∧ 0 ≤ place
/-- _law_draw(state, many): some number from 0 to many - 1 -/
def M_draw : WM := fun as Q => ∃ n : Int, as = [.hnd, .v (.int n)] ∧ 0 < n ∧ n < 2 ^ 200 ∧ ∀ r : Int, 0 ≤ r → r < n → Q (.v (.int r))
theorem div200 {n : Int} (h0 : 0 < n) (h : n < 2 ^ 200) : ∀ i : Int, CDivW i n := fun i => wide_div (b := 200) h0 (by omega) (by decide) (by decide)
def rInt : List V → Hp → VK → Prop := fun xs H Q => (∃ i, xs = [.int i] ∧ Q (.int i) H) ∨ ∃ k, xs = [.bl k] ∧ Q (.int (if k then 1 else 0)) H
def rLen1 (K : PySem.W.Frag) : List V → Hp → VK → Prop := fun xs H Q => ∃ p ys, xs = [.ref p] ∧ (SqL K H p ys ∨ SqT K H p ys) ∧ Q (.int ys.length) H
def rAbs1 : List V → Hp → VK → Prop := fun xs H Q => ∃ i, xs = [.int i] ∧ Q (.int (if i < 0 then -i else i)) H
abbrev tPlus := tOp (rI0 fun i j => .int (i + j))
abbrev tTimes := tOp (rI CMul fun i j => .int (i * j))
abbrev tModu := tOp (rI (fun _ j => 0 < j) fun i j => .int (i % j))
abbrev tDivi := tOp (rI CDivW fun i j => .int (i / j))
abbrev tAt (K : PySem.W.Frag) (i : Int) : TE := tOp (rIx K) (tVar 0) (tC (.int i))
abbrev tIn (t : TE) : TE := tCB rInt (tCons t tNil)
abbrev gAt (i : Int) : TG := gSub (tVar 0) (tC (.int i)) rSetL
abbrev tdEnd (K : PySem.W.Frag) : TS := tSeq (tAsg (tModu (tIn (tAt K 2)) (tVar 1)) (gName 6)) (tSeq (tAsg (tDivi (tIn (tAt K 2)) (tVar 1)) (gAt 2)) (tRet (tVar 6)))
abbrev tdLast (K : PySem.W.Frag) : TS := tAsg (tModu (tIn (tPlus (tTimes (tAt K 3) (tC (.int 31))) (tVar 3))) (tC (.int 1000003))) (gAt 3)
abbrev tdYes (K : PySem.W.Frag) : TS := tSeq (tAsg (tModu (tIn (tPlus (tPlus (tTimes (tVar 3) (tC (.int 48271))) (tTimes (tVar 2) (tC (.int 69621)))) (tAt K 3))) (tC (.int 2147483647))) (gName 4))
  (tSeq (tAsg (tModu (tIn (tPlus (tPlus (tTimes (tVar 4) (tC (.int 16807))) (tVar 3)) (tC (.int 11)))) (tC (.int 2147483629))) (gName 5)) (tAsg (tPlus (tTimes (tVar 4) (tC (.int 2147483629))) (tVar 5)) (gAt 2)))
abbrev tdNo : TS := tAsg (tCB rAbs1 (tCons (tVar 3) tNil)) (gAt 2)
abbrev tdCell (K : PySem.W.Frag) : TS := tSeq (tIfS (tTest (tChain (rI0 fun i j => .bl (decide (i ≤ j))) (rI0 fun i j => .bl (decide (i < j))) (tC (.int 0)) (tVar 3) (tC (.int 1000000000000000000)))) (tdYes K) tdNo) (tdLast K)
abbrev tdBody (K : PySem.W.Frag) : TS := tSeq (tIfS (tTest (tOp (rI0 fun i j => .bl (decide (i ≤ j))) (tAt K 2) (tC (.int 0))))
    (tSeq (tAsg (tAt K 1) (gName 2)) (tSeq (tAsg (tPlus (tVar 2) (tC (.int 1))) (gAt 1)) (tSeq (tAsg (tPlus (tTimes (tVar 2) (tC (.int 7919))) (tC (.int 13))) (gName 3))
      (tSeq (tIfS (tTest (tOp (rI0 fun i j => .bl (decide (i < j))) (tVar 2) (tCB (rLen1 K) (tCons (tAt K 0) tNil)))) (tAsg (tOp (rIx K) (tAt K 0) (tVar 2)) (gName 3)) tNext) (tdCell K))))) tNext) (tdEnd K)
theorem dints_inj : ∀ {ns ms : List Int}, ns.map PyData.int = ms.map PyData.int → ns = ms
  | [], [], _ => rfl
  | [], _ :: _, h => by simp at h
  | _ :: _, [], h => by simp at h
  | a :: ns, b :: ms, h => by
    simp only [List.map_cons, List.cons.injEq, PyData.int.injEq] at h
    rw [h.1, dints_inj h.2]
theorem scr_inv {K : PySem.W.Frag} {H : Hp} {v : V} {ns : List Int} (h : Rp K H v (scr ns)) : ∃ a, v = .ref a ∧ SqL K H a (ns.map V.int) := by
  generalize hd : scr ns = d at h
  cases h with
  | scr h =>
    have e := PyData.dict.inj hd
    simp only [List.cons.injEq, Prod.mk.injEq, PyData.list.injEq, and_true, true_and] at e
    rw [dints_inj e]
    exact ⟨_, rfl, h⟩
  | _ => cases hd
section
variable {P : Program} {w : World} {K : PySem.W.Frag} {mg : Str → Option Value} {base : Heap}
theorem draw_ok {st : Stmt} {f : Addr} {fd : FuncData} {k : Nat} (F : Fun K "_law_draw" "_law_draw" st f fd) (S : FnScope ["state", "many", "place", "cell", "one", "two", "taken"] ["state", "many"] (defScope st))
    (hder : ∀ (cdv : Value) (A : Around) (outer : List Env) (s : Shared) (H : Hp) (E : XK), PSs (cxOf CX0 P w K mg base ["state", "many", "place", "cell", "one", "two", "taken"] "_law_draw" (defScope st) f cdv A outer s H E).nox (defBody st) (tdBody K)) :
    FnOk P w K mg base CX0 (k + 1) f fd ["state", "many"] (SpD K okF1 2 M_draw) := by
  refine F.ok S (fun vs H Q E h => ?_) (fun cdv A outer s H vs Q E hr h => ⟨_, hder cdv A outer s H E, ?_⟩)
  · obtain ⟨H0, ha, as, Q', h1, h2, _⟩ := h
    rw [h2]
    rfl
  obtain ⟨H0, ha, as, Q', h1, h2, one, s0, hargs, hv, ⟨n, rfl, n0, n1, hq⟩, k0⟩ := h
  obtain ⟨a, rfl, rfl⟩ : ∃ a, ha = some a ∧ vs = [.ref a, .int n] := by
    cases hargs with
    | hnd e t =>
      cases t with
      | cons r t =>
        cases t
        cases r
        exact ⟨_, e, rfl⟩
  obtain ⟨ds, ⟨na, vs0, hp0, hr0⟩, ns, place, rest, mix, rfl, hpl⟩ := hv a rfl
  obtain ⟨v0, ws, rfl, x0, hr1⟩ := hr0.cons_inv
  obtain ⟨v1, ws, rfl, x1, hr2⟩ := hr1.cons_inv
  obtain ⟨v2, ws, rfl, x2, hr3⟩ := hr2.cons_inv
  obtain ⟨v3, ws, rfl, x3, hr4⟩ := hr3.cons_inv
  rw [hr4.nil_inv] at hp0
  cases x1; cases x2; cases x3
  obtain ⟨sc, rfl, hsc⟩ : ∃ sc, v0 = .ref sc ∧ SqL K H0 sc (ns.map V.int) := scr_inv x0
  let D0 : Ends := { nx := fun _ H' => Q .non H', rt := Q }
  have fin : ∀ (H1 : Hp) (i1 i2 i3 : Int) (y2 y3 y4 y5 : Option V), (∀ b o, H b = some o → b ≠ a → H1 b = some o) → H1 a = some (.lst [.ref sc, .int i1, .int i2, .int i3]) → 0 ≤ i1 →
      tdEnd K D0 [some (.ref a), some (.int n), y2, y3, y4, y5, none] H1 := by
    intro H1 i1 i2 i3 y2 y3 y4 y5 fr1 hp1 hi1
    refine ⟨_, rfl, .inl ⟨a, _, 2, .int i2, rfl, rfl, SqL.of hp1, rfl, .inl ⟨i2, rfl, _, rfl, i2, n, rfl, rfl, n0, ?_⟩⟩⟩
    refine ⟨_, rfl, .inl ⟨a, _, 2, .int i2, rfl, rfl, SqL.of hp1, rfl, .inl ⟨i2, rfl, _, rfl, i2, n, rfl, rfl, div200 n0 n1 i2, ?_⟩⟩⟩
    refine ⟨_, rfl, a, _, 2, 2, rfl, rfl, hp1, rfl, ?_⟩
    refine ⟨_, rfl, k0 _ _ (.v (.int (i2 % n))) H0 (hq _ (Int.emod_nonneg _ (by omega)) (Int.emod_lt_of_pos _ n0)) ?_⟩
    refine ⟨Same.refl _, fun b o e => ?_, fun b o e => .inl e, fun b o e ne => ?_, fun b e => ?_, .int _⟩
    · rw [upd_ne (ne_of_none e na)]
      exact fr1 b o (s0 b o e) (ne_of_none e na)
    · have hb : b ≠ a := fun z => ne (by rw [z])
      rw [upd_ne hb]
      exact fr1 b o e hb
    · cases e
      exact ⟨[scr ns, .int i1, .int (i2 / n), .int i3], ⟨na, _, upd_same, .cons (.scr hsc) (.cons (.int _) (.cons (.int _) (.cons (.int _) .nil)))⟩, ns, i1, i2 / n, i3, rfl, hi1⟩
  have scH : ∀ {H1 : Hp}, (∀ b o, H b = some o → b ≠ a → H1 b = some o) → SqL K H1 sc (ns.map V.int) := fun {H1} fr1 => by
    have e1 : Same H0 H1 := fun b o e => fr1 b o (s0 b o e) (ne_of_none e na)
    exact e1.seq hsc
  refine ⟨_, rfl, .inl ⟨a, _, 2, .int rest, rfl, rfl, SqL.of hp0, rfl, _, _, rfl, rfl, _, rfl, ite2 (fun _ => ?_) (fun _ => ?_)⟩⟩
  · refine ⟨_, rfl, .inl ⟨a, _, 1, .int place, rfl, rfl, SqL.of hp0, rfl, ?_⟩⟩
    refine ⟨_, rfl, _, _, rfl, rfl, _, rfl, a, _, 1, 1, rfl, rfl, hp0, rfl, ?_⟩
    refine ⟨_, rfl, _, _, rfl, rfl, .inr ⟨by decide, by decide⟩, _, _, rfl, rfl, ?_⟩
    have hp1 : (upd H a (.lst [.ref sc, .int (place + 1), .int rest, .int mix])) a = some (.lst [.ref sc, .int (place + 1), .int rest, .int mix]) := upd_same
    have fr1 : ∀ b o, H b = some o → b ≠ a → (upd H a (.lst [.ref sc, .int (place + 1), .int rest, .int mix])) b = some o := fun b o e hb => by rw [upd_ne hb]; exact e
    have next : ∀ cell : Int, tdCell K { D0 with nx := tdEnd K D0 } [some (.ref a), some (.int n), some (.int place), some (.int cell), none, none, none] (upd H a (.lst [.ref sc, .int (place + 1), .int rest, .int mix])) := by
      intro cell
      have last : ∀ (H2 : Hp) (z : Int) (y4 y5 : Option V), (∀ b o, H b = some o → b ≠ a → H2 b = some o) → H2 a = some (.lst [.ref sc, .int (place + 1), .int z, .int mix]) →
          tdLast K { D0 with nx := tdEnd K D0 } [some (.ref a), some (.int n), some (.int place), some (.int cell), y4, y5, none] H2 := by
        intro H2 z y4 y5 fr2 hp2
        refine ⟨_, rfl, .inl ⟨a, _, 3, .int mix, rfl, rfl, SqL.of hp2, rfl, _, _, rfl, rfl, .inr ⟨by decide, by decide⟩, _, rfl, _, _, rfl, rfl, .inl ⟨_, rfl, _, _, rfl, rfl, (by show (0 : Int) < 1000003; decide), ?_⟩⟩⟩
        refine ⟨_, rfl, a, _, 3, 3, rfl, rfl, hp2, rfl, ?_⟩
        exact fin _ (place + 1) z _ _ _ _ _ (fun b o e hb => by rw [upd_ne hb]; exact fr2 b o e hb) upd_same (by omega)
      have yes : tdYes K { D0 with nx := tdLast K { D0 with nx := tdEnd K D0 } } [some (.ref a), some (.int n), some (.int place), some (.int cell), none, none, none] (upd H a (.lst [.ref sc, .int (place + 1), .int rest, .int mix])) := by
        refine ⟨_, rfl, _, _, rfl, rfl, .inr ⟨by decide, by decide⟩, _, rfl, _, _, rfl, rfl, .inr ⟨by decide, by decide⟩, _, _, rfl, rfl, _, rfl, .inl ⟨a, _, 3, .int mix, rfl, rfl, SqL.of hp1, rfl, _, _, rfl, rfl, .inl ⟨_, rfl, _, _, rfl, rfl, (by show (0 : Int) < 2147483647; decide), ?_⟩⟩⟩
        refine ⟨_, rfl, _, _, rfl, rfl, .inr ⟨by decide, by decide⟩, _, rfl, _, _, rfl, rfl, _, _, rfl, rfl, .inl ⟨_, rfl, _, _, rfl, rfl, (by show (0 : Int) < 2147483629; decide), ?_⟩⟩
        refine ⟨_, rfl, _, _, rfl, rfl, .inr ⟨by decide, by decide⟩, _, rfl, _, _, rfl, rfl, _, rfl, a, _, 2, 2, rfl, rfl, hp1, rfl, ?_⟩
        exact last _ _ _ _ (fun b o e hb => by rw [upd_ne hb]; exact fr1 b o e hb) upd_same
      have no : tdNo { D0 with nx := tdLast K { D0 with nx := tdEnd K D0 } } [some (.ref a), some (.int n), some (.int place), some (.int cell), none, none, none] (upd H a (.lst [.ref sc, .int (place + 1), .int rest, .int mix])) := by
        refine ⟨_, rfl, _, rfl, _, rfl, a, _, 2, 2, rfl, rfl, hp1, rfl, ?_⟩
        exact last _ _ _ _ (fun b o e hb => by rw [upd_ne hb]; exact fr1 b o e hb) upd_same
      refine ⟨_, rfl, _, _, rfl, rfl, _, rfl, ?_⟩
      exact ite2 (fun _ => ⟨_, _, rfl, rfl, ⟨_, rfl, ite2 (fun _ => yes) (fun _ => no)⟩⟩) (fun _ => ⟨false, rfl, iteF no⟩)
    refine ⟨_, rfl, _, rfl, .inl ⟨a, _, 0, .ref sc, rfl, rfl, SqL.of hp1, rfl, sc, _, rfl, .inl (scH fr1), _, _, rfl, rfl, _, rfl, ite2 (fun h => ?_) (fun _ => next _)⟩⟩
    have hlt : place.toNat < ns.length := by
      have := of_decide_eq_true h
      rw [List.length_map] at this
      omega
    have hat : atI (ns.map V.int) place = some (.int (ns[place.toNat])) := by
      have e : place = ((place.toNat : Nat) : Int) := by omega
      have z := atI_nat (xs := ns.map V.int) (j := place.toNat) (v := .int (ns[place.toNat])) (by rw [List.getElem?_map, List.getElem?_eq_getElem hlt]; rfl)
      rw [← e] at z
      exact z
    exact ⟨_, rfl, .inl ⟨a, _, 0, .ref sc, rfl, rfl, SqL.of hp1, rfl, _, rfl, .inl ⟨sc, _, place, _, rfl, rfl, scH fr1, hat, next _⟩⟩⟩
  · exact fin H place rest mix none none none none (fun _ _ e _ => e) hp0 hpl
end
end DL
/-! DL, part g: what the printer leans on besides. -/
namespace DL
open PySem L2

/-- a name of the module that holds written data -/
structure GlD (K : PySem.W.Frag) (mg : Str → Option Value) (x : Str) (d : D) where
  v : V
  ex : ∃ u, mg x = some u ∧ RelV v u
  rp : ∀ H, Rp K H v d
section
variable {X : Cx} {ok : List D → Prop} {a b c e : Expr} {es : List Expr} {wa wb wc we : WE} {wr : WA} {wl : WL} {wt wu : WT} {pos p p2 apos : Pos} {x : Str}
theorem pe_gl {d : D} (g : GlD X.K X.mg x d) (hg : Gl X x := by rfl) (hdd : (x == ("__debug__" : Str)) = false := by decide) : PE X (.Name x pos) (tC g.v) := let ⟨u, h1, h2⟩ := g.ex; pe_glob hg h1 h2 hdd
theorem snd_gl {K : PySem.W.Frag} {mg : Str → Option Value} {d : D} (g : GlD K mg x d) : SndE K ok (tC g.v) (wC d) := snd_c g.rp
theorem d_gl {d : D} (g : GlD X.K X.mg x d) (hg : Gl X x := by rfl) (hdd : (x == ("__debug__" : Str)) = false := by decide) : PDE X ok (.Name x pos) (wC d) := ⟨_, pe_gl g hg hdd, snd_gl g⟩
theorem pe_has {k j n : Nat} {M : WM} {t : TA} (h : Has X.prog X.w X.K X.mg X.base ok k x n M) (hr : Room j X.A) (hk : k ≤ j) (ha : PA X (e :: es) t) (hg : Gl X x := by rfl) (hdb : (x == ("__debug__" : Str)) = false := by decide)
    (he : starEach (e :: es) X.env = (false, eval e X.env) :: starEach es X.env := by rfl) (hpl : (backTo pos (starEach es X.env)).any (·.1) = false := by rfl) : PE X (.Call (.Name x p) (e :: es) [] pos) (tCall (SpD X.K ok n M) [] E0 t) :=
  let ⟨f, fd, ps, G, hm, kp, bs⟩ := h.ex; pe_call G (hr.mono hk) hg hm kp bs .nil pass0 ha hdb he hpl
theorem g_cons {vs : List Nat} {wg : WG} {wgs : WGs} (h1 : PDG X ok vs e wg) (h2 : PDGs X ok vs es wgs)
    (hg : ∀ (t : TG) (u : TGs), PG X e t → PGs X es u → PGs X (e :: es) (gCons t u) := by exact fun _ _ h1 h2 => pgs_cons h1 h2) : PDGs X ok vs (e :: es) (gsCons wg wgs) := let ⟨_, a, b⟩ := h1; let ⟨_, c, d⟩ := h2; ⟨_, hg _ _ a c, sgs_cons b d⟩
theorem g_tupN {vs : List Nat} {k n : Nat} {wg : WGs} (h : PDGs X ok vs es wg) (hg : ∀ t, PGs X es t → PG X (.Tuple es k pos) (gTup X.K n t) := by exact fun _ h => pg_tup rfl h) : PDG X ok vs (.Tuple es k pos) (gT n wg) := let ⟨_, a, b⟩ := h; ⟨_, hg _ a, sg_tup b⟩
def rMax2 : List V → Hp → VK → Prop := fun xs H Q => ∃ i j, xs = [.int i, .int j] ∧ Q (.int (if j > i then j else i)) H
def rMin2 : List V → Hp → VK → Prop := fun xs H Q => ∃ i j, xs = [.int i, .int j] ∧ Q (.int (if j < i then j else i)) H
def rListOf (K : PySem.W.Frag) : List V → Hp → VK → Prop := fun xs H Q => ∃ p ys, xs = [.ref p] ∧ (SqL K H p ys ∨ SqT K H p ys) ∧ ∀ l, H l = none → Q (.ref l) (upd H l (.lst ys))
/-- a new list at a name, known at once -/
def wSetF (i : Nat) (a : WL) : WS := fun W env => a env fun ds => W.nx (env.set i (some (.v (.list ds))))
theorem ss_setF {K : PySem.W.Frag} {te : TE} {i : Nat} (he : SndL K ok te wl) : SndS K ok (tAsg te (gName i)) (wSetF i wl) := ss_set he.fz
theorem s_setLcF (i : Nat) {py spos : Pos} {y : Str} {tg iter elt : Expr} {ifs : List Expr} {scope : Scope} {own : List (Str × Nat)} {wi : WI} {wg : WG} {wt : WT} {we : WE} (hc : X.calm = true) (hN : X.N.Nodup) (hi : PDI X ok tg iter wi) (ok' : BlkOk X.N X.env.scope scope own)
    (hg : ∃ g, (∀ (s : Shared) (H : Hp) (C : Addr) (cl : List (Str × Addr)) (fp : List Addr), PG (X.blk s H scope (compEnvC scope cl C X.env) fp) tg g) ∧ SndG X.K ok (own.map (·.2)) g wg)
    (ht : ∃ tt, (∀ (s : Shared) (H : Hp) (C : Addr) (cl : List (Str × Addr)) (fp : List Addr), PTs (X.blk s H scope (compEnvC scope cl C X.env) fp) ifs tt) ∧ SndT X.K ok tt wt)
    (he : ∃ te, (∀ (s : Shared) (H : Hp) (C : Addr) (cl : List (Str × Addr)) (fp : List Addr), PE (X.blk s H scope (compEnvC scope cl C X.env) fp) elt te) ∧ SndE X.K ok te we)
    (hsw : swapsWith (.ListComp elt [⟨tg, iter, ifs, 0⟩] scope pos) (some (.Name y py)) spos.line X.env = pure true) (hy : X.N[i]? = some y := by rfl) (hyl : X.env.scope.names.lookup y = some .local := by rfl)
    (hs : ∀ x, foldedSetIterable iter X.env x = pure x := by intro _; rfl) : PDS X ok (.Assign [.Name y py] (.ListComp elt [⟨tg, iter, ifs, 0⟩] scope pos) spos) (wSetF i (wLc wi wg wt we (own.map (·.2)))) :=
  let ⟨_, i1, i2⟩ := hi; let ⟨_, g1, g2⟩ := hg; let ⟨_, t1, t2⟩ := ht; let ⟨_, e1, e2⟩ := he; ⟨_, ps_setLc hc hN hy hyl hsw i1 ok' g1 t1 e1 hs, ss_setF (sl_lc i2 g2 t2 e2)⟩
end
/-- the law's own promise -/
def M_law : WM := fun as Q => ∃ ns : List Int, as = [.v (scr ns)] ∧ ns.length ≤ 63 ∧ Q (.v (.bool true))
theorem law_sp {K : PySem.W.Frag} {ok : List D → Prop} {H : Hp} {a : Addr} {ns : List Int} {E : XK} (h : SqL K H a (ns.map V.int)) (hl : ns.length ≤ 63) : SpD K ok 1 M_law [.ref a] H (fun v _ => v = .bl true) E := by
  refine ⟨H, none, [.v (scr ns)], fun r => r = .v (.bool true), rfl, rfl, rfl, Same.refl _, .cons (.scr h) .nil, fun _ e => (nomatch e), ⟨ns, rfl, hl, rfl⟩, fun v H' r H01 q P => ?_⟩
  subst q
  cases P.res
  rfl
end DL
/-! DL, part f3: draws of the third family (a list of numbers and a place). -/
namespace DL
open PySem L2
def okF3 (ds : List D) : Prop := ∃ k : Int, ds = [.int k] ∧ 0 ≤ k
/-- _law_next(draws, at, many) -/
def M_next : WM := fun as Q => ∃ (ms : List Int) (n : Int), as = [.v (.list (dints ms)), .hnd, .v (.int n)] ∧ 0 < n ∧ ∀ r : Int, 0 ≤ r → r < n → Q (.v (.int r))
abbrev tnBody (K : PySem.W.Frag) : TS := tSeq (tAsg (tOp (rIx K) (tVar 1) (tC (.int 0))) (gName 3)) (tSeq (tAsg (tPlus (tVar 3) (tC (.int 1))) (gSub (tVar 1) (tC (.int 0)) rSetL))
  (tSeq (tIfS (tTest (tOp (rI0 fun i j => .bl (decide (i < j))) (tVar 3) (tCB (rLen1 K) (tCons (tVar 0) tNil)))) (tRet (tModu (tIn (tOp (rIx K) (tVar 0) (tVar 3))) (tVar 2))) tNext) (tRet (tC (.int 0)))))
theorem list_inv {K : PySem.W.Frag} {H : Hp} {v : V} {ns : List Int} (h : Rp K H v (.list (dints ns))) : ∃ a, v = .ref a ∧ SqL K H a (ns.map V.int) := by
  generalize hd : PyData.list (dints ns) = d at h
  cases h with
  | lst h r =>
    cases hd
    rw [r.ints_inv] at h
    exact ⟨_, rfl, SqL.of h⟩
  | _ => cases hd
section
variable {P : Program} {w : World} {K : PySem.W.Frag} {mg : Str → Option Value} {base : Heap}
theorem next_ok {st : Stmt} {f : Addr} {fd : FuncData} {k : Nat} (F : Fun K "_law_next" "_law_next" st f fd) (S : FnScope ["draws", "at", "many", "index"] ["draws", "at", "many"] (defScope st))
    (hder : ∀ (cdv : Value) (A : Around) (outer : List Env) (s : Shared) (H : Hp) (E : XK), PSs (cxOf CX0 P w K mg base ["draws", "at", "many", "index"] "_law_next" (defScope st) f cdv A outer s H E).nox (defBody st) (tnBody K)) :
    FnOk P w K mg base CX0 (k + 1) f fd ["draws", "at", "many"] (SpD K okF3 3 M_next) := by
  refine F.ok S (fun vs H Q E h => ?_) (fun cdv A outer s H vs Q E hr h => ⟨_, hder cdv A outer s H E, ?_⟩)
  · obtain ⟨H0, ha, as, Q', h1, h2, _⟩ := h
    rw [h2]
    rfl
  obtain ⟨H0, ha, as, Q', h1, h2, one, s0, hargs, hv, ⟨ms, n, rfl, n0, hq⟩, k0⟩ := h
  obtain ⟨a, dv, rfl, rfl, rd⟩ : ∃ a dv, ha = some a ∧ vs = [dv, .ref a, .int n] ∧ Rp K H0 dv (.list (dints ms)) := by
    cases hargs with
    | cons rd t =>
      cases t with
      | hnd e t =>
        cases t with
        | cons r t =>
          cases t
          cases r
          exact ⟨_, _, e, rfl, rd⟩
  obtain ⟨da, rfl, hda⟩ := list_inv rd
  obtain ⟨ds, ⟨na, vs0, hp0, hr0⟩, kk, rfl, hk⟩ := hv a rfl
  obtain ⟨v0, ws, rfl, x0, hr1⟩ := hr0.cons_inv
  rw [hr1.nil_inv] at hp0
  cases x0
  let D0 : Ends := { nx := fun _ H' => Q .non H', rt := Q }
  let H1 : Hp := upd H a (.lst [.int (kk + 1)])
  have fin : ∀ r : Int, 0 ≤ r → r < n → Q (.int r) H1 := fun r r0 r1 => by
    refine k0 _ _ (.v (.int r)) H0 (hq r r0 r1) ?_
    refine ⟨Same.refl _, fun b o e => ?_, fun b o e => .inl e, fun b o e ne => ?_, fun b e => ?_, .int _⟩
    · show (upd H a _) b = some o
      rw [upd_ne (ne_of_none e na)]
      exact s0 b o e
    · have hb : b ≠ a := fun z => ne (by rw [z])
      show (upd H a _) b = some o
      rw [upd_ne hb]
      exact e
    · cases e
      exact ⟨[.int (kk + 1)], ⟨na, _, upd_same, .cons (.int _) .nil⟩, kk + 1, rfl, by omega⟩
  have hda1 : SqL K H1 da (ms.map V.int) := Same.seq (fun b o e => by
    show (upd H a _) b = some o
    rw [upd_ne (ne_of_none e na)]
    exact s0 b o e) hda
  refine ⟨_, rfl, .inl ⟨a, _, 0, .int kk, rfl, rfl, SqL.of hp0, rfl, ?_⟩⟩
  refine ⟨_, rfl, _, _, rfl, rfl, _, rfl, a, _, 0, 0, rfl, rfl, hp0, rfl, ?_⟩
  refine ⟨_, rfl, _, rfl, da, _, rfl, .inl hda1, _, _, rfl, rfl, _, rfl, ite2 (fun h => ?_) (fun _ => fin 0 (Int.le_refl 0) n0)⟩
  have hlt : kk.toNat < ms.length := by
    have := of_decide_eq_true h
    rw [List.length_map] at this
    omega
  have hat : atI (ms.map V.int) kk = some (.int (ms[kk.toNat])) := by
    have e : kk = ((kk.toNat : Nat) : Int) := by omega
    have z := atI_nat (xs := ms.map V.int) (j := kk.toNat) (v := .int (ms[kk.toNat])) (by rw [List.getElem?_map, List.getElem?_eq_getElem hlt]; rfl)
    rw [← e] at z
    exact z
  refine ⟨_, rfl, _, rfl, .inl ⟨da, _, kk, _, rfl, rfl, hda1, hat, .inl ⟨_, rfl, _, rfl, _, _, rfl, rfl, n0, ?_⟩⟩⟩
  exact fin _ (Int.emod_nonneg _ (by omega)) (Int.emod_lt_of_pos _ n0)
end
end DL
/-! DL, part f2: draws of the second family (a pool). -/
namespace DL
open PySem L2
def okF2 (ds : List D) : Prop := ∃ (a : Int) (ns : List Int) (c : Int), ds = [.int a, .list (dints ns), .int c] ∧ -1 ≤ c
/-- _law_wide(script, k) -/
def M_wide : WM := fun as Q => ∃ (ns : List Int) (k : Int), as = [.v (.list (dints ns)), .v (.int k)] ∧ 0 ≤ k ∧ ∀ r : Int, Q (.v (.int r))
/-- _law_take(pool, most) -/
def M_take : WM := fun as Q => ∃ n : Int, as = [.hnd, .v (.int n)] ∧ 0 < n ∧ n < 2 ^ 200 ∧ ∀ r : Int, 0 ≤ r → r < n → Q (.v (.int r))
/-- _law_pool(script) -/
def M_pool : WM := fun as Q => ∃ ns : List Int, as = [.v (scr ns)] ∧ Q (.own [.int 0, .list (dints ns), .int (-1)])
abbrev ttEnd (K : PySem.W.Frag) : TS := tSeq (tAsg (tModu (tIn (tAt K 0)) (tVar 1)) (gName 2)) (tSeq (tAsg (tDivi (tAt K 0) (tVar 1)) (gAt 0)) (tRet (tVar 2)))
abbrev ttNew (K : PySem.W.Frag) : TS := tSeq (tAsg (tPlus (tAt K 2) (tC (.int 1))) (gAt 2)) (tAsg (tCall (SpD K okF2 2 M_wide) [] E0 (tCons (tAt K 1) (tCons (tAt K 2) tNil))) (gAt 0))
abbrev ttBody (K : PySem.W.Frag) : TS := tSeq (tIfS (tTest (tOp (rI0 fun i j => .bl (decide (i < j))) (tAt K 0) (tC (.int 1000)))) (ttNew K) tNext) (ttEnd K)
section
variable {P : Program} {w : World} {K : PySem.W.Frag} {mg : Str → Option Value} {base : Heap}
theorem take_ok {st : Stmt} {f : Addr} {fd : FuncData} {k : Nat} (F : Fun K "_law_take" "_law_take" st f fd) (S : FnScope ["pool", "most", "taken"] ["pool", "most"] (defScope st))
    (hder : ∀ (cdv : Value) (A : Around) (outer : List Env) (s : Shared) (H : Hp) (E : XK) (hr : Room k (A.deeper (PyProof.Rows.envOfC "_law_take" (defScope st) s.heap.objs.size f cdv))), PSs (cxOf CX0 P w K mg base ["pool", "most", "taken"] "_law_take" (defScope st) f cdv A outer s H E).nox (defBody st) (ttBody K)) :
    FnOk P w K mg base CX0 (k + 1) f fd ["pool", "most"] (SpD K okF2 2 M_take) := by
  refine F.ok S (fun vs H Q E h => ?_) (fun cdv A outer s H vs Q E hr h => ⟨_, hder cdv A outer s H E hr, ?_⟩)
  · obtain ⟨H0, ha, as, Q', h1, h2, _⟩ := h
    rw [h2]
    rfl
  obtain ⟨H0, ha, as, Q', h1, h2, one, s0, hargs, hv, ⟨n, rfl, n0, n1, hq⟩, k0⟩ := h
  obtain ⟨a, rfl, rfl⟩ : ∃ a, ha = some a ∧ vs = [.ref a, .int n] := by
    cases hargs with
    | hnd e t =>
      cases t with
      | cons r t =>
        cases t
        cases r
        exact ⟨_, e, rfl⟩
  obtain ⟨ds, ⟨na, vs0, hp0, hr0⟩, rest, ns, c, rfl, hc⟩ := hv a rfl
  obtain ⟨v0, ws, rfl, x0, hr1⟩ := hr0.cons_inv
  obtain ⟨v1, ws, rfl, x1, hr2⟩ := hr1.cons_inv
  obtain ⟨v2, ws, rfl, x2, hr3⟩ := hr2.cons_inv
  rw [hr3.nil_inv] at hp0
  cases x0; cases x2
  let D0 : Ends := { nx := fun _ H' => Q .non H', rt := Q }
  -- the end, from any state that has kept the frame
  have fin : ∀ (H1 H01 : Hp) (i0 i2 : Int), Same H0 H01 → Same H01 H1 → (∀ b o, H01 b = some o → H0 b = some o ∨ H b = none) → (∀ b o, H b = some o → b ≠ a → H1 b = some o) → H01 a = none → H1 a = some (.lst [.int i0, v1, .int i2]) → -1 ≤ i2 →
      ttEnd K D0 [some (.ref a), some (.int n), none] H1 := by
    intro H1 H01 i0 i2 g1 g2 g3 fr1 na1 hp1 hi
    refine ⟨_, rfl, .inl ⟨a, _, 0, .int i0, rfl, rfl, SqL.of hp1, rfl, .inl ⟨i0, rfl, _, rfl, i0, n, rfl, rfl, n0, ?_⟩⟩⟩
    refine ⟨_, rfl, .inl ⟨a, _, 0, .int i0, rfl, rfl, SqL.of hp1, rfl, _, rfl, i0, n, rfl, rfl, div200 n0 n1 i0, ?_⟩⟩
    refine ⟨_, rfl, a, _, 0, 0, rfl, rfl, hp1, rfl, ?_⟩
    refine ⟨_, rfl, k0 _ _ (.v (.int (i0 % n))) H01 (hq _ (Int.emod_nonneg _ (by omega)) (Int.emod_lt_of_pos _ n0)) ?_⟩
    refine ⟨g1, fun b o e => ?_, g3, fun b o e ne => ?_, fun b e => ?_, .int _⟩
    · rw [upd_ne (ne_of_none e na1)]
      exact g2 b o e
    · have hb : b ≠ a := fun z => ne (by rw [z])
      rw [upd_ne hb]
      exact fr1 b o e hb
    · cases e
      exact ⟨[.int (i0 / n), .list (dints ns), .int i2], ⟨na1, _, upd_same, .cons (.int _) (.cons (x1.mono g1) (.cons (.int _) .nil))⟩, i0 / n, ns, i2, rfl, hi⟩
  refine ⟨_, rfl, .inl ⟨a, _, 0, .int rest, rfl, rfl, SqL.of hp0, rfl, _, _, rfl, rfl, _, rfl, ite2 (fun _ => ?_) (fun _ => fin H H0 rest c (Same.refl _) s0 (fun b o e => .inl e) (fun _ _ e _ => e) na hp0 hc)⟩⟩
  refine ⟨_, rfl, .inl ⟨a, _, 2, .int c, rfl, rfl, SqL.of hp0, rfl, _, _, rfl, rfl, ?_⟩⟩
  refine ⟨_, rfl, a, _, 2, 2, rfl, rfl, hp0, rfl, ?_⟩
  let H1 : Hp := upd H a (.lst [.int rest, v1, .int (c + 1)])
  have hp1 : H1 a = some (.lst [.int rest, v1, .int (c + 1)]) := upd_same
  have s1 : Same H0 H1 := fun b o e => by
    show (upd H a _) b = some o
    rw [upd_ne (ne_of_none e na)]
    exact s0 b o e
  refine ⟨_, rfl, .inl ⟨a, _, 1, v1, rfl, rfl, SqL.of hp1, rfl, _, rfl, .inl ⟨a, _, 2, .int (c + 1), rfl, rfl, SqL.of hp1, rfl, ?_⟩⟩⟩
  refine ⟨H0, none, [.v (.list (dints ns)), .v (.int (c + 1))], fun r => ∃ i, r = .v (.int i), rfl, rfl, rfl, s1, .cons x1 (.cons (.int _) .nil), fun _ e => (nomatch e), ⟨ns, c + 1, rfl, by omega, fun r => ⟨r, rfl⟩⟩, fun v H' r H01 q P => ?_⟩
  obtain ⟨i, rfl⟩ := q
  cases P.res
  have hpa : H' a = some (.lst [.int rest, v1, .int (c + 1)]) := P.fr a _ hp1 (by simp)
  refine ⟨_, rfl, a, _, 0, 0, rfl, rfl, hpa, rfl, ?_⟩
  have na1 : H01 a = none := by
    cases e : H01 a with
    | none => rfl
    | some o =>
      rcases P.new a o e with h | h
      · rw [na] at h; cases h
      · have z : H1 a = none := h
        rw [hp1] at z; cases z
  have nw : ∀ b, H1 b = none → H b = none := fun b e => by
    have hb : b ≠ a := fun z => by rw [z, hp1] at e; cases e
    have e' : (upd H a (.lst [.int rest, v1, .int (c + 1)])) b = none := e
    rw [upd_ne hb] at e'
    exact e'
  refine fin _ H01 i (c + 1) P.grow (fun b o e => ?_) (fun b o e => ?_) (fun b o e hb => ?_) na1 upd_same (by omega)
  · rw [upd_ne (ne_of_none e na1)]
    exact P.sub b o e
  · rcases P.new b o e with h | h
    · exact .inl h
    · exact .inr (nw b h)
  · rw [upd_ne hb]
    refine P.fr b o ?_ (by simp)
    show (upd H a _) b = some o
    rw [upd_ne hb]
    exact e
end
end DL
/-! DL, part h: walks of any sequence, backwards, by steps; membership; is True. -/
namespace DL
open PySem L2
/-- what a for walks: a list, a tuple, the script -/
def iSeq (K : PySem.W.Frag) (tl : TE) : TI := fun σ H R => tl σ H fun x H1 => (∃ a, x = .ref a ∧ (∃ xs, SqL K H1 a xs) ∧ R (Itl K a) H1) ∨ (∃ a, x = .ref a ∧ (∃ xs, SqT K H1 a xs) ∧ R (Itt K a) H1)
theorem pi_seq {X : Cx} {tg l : Expr} {tl : TE} (hl : PE X l tl) : PI X tg l (iSeq X.K tl) := by
  refine ⟨fun pins s σ H R I h => ?_⟩
  refine thn (hl.run pins s σ H _ I h) fun v s1 ⟨x, H1, I1, r1, q1⟩ => ?_
  rcases q1 with ⟨a, e, ⟨xs, hq⟩, q⟩ | ⟨a, e, ⟨xs, hq⟩, q⟩
  · subst e
    cases r1
    obtain ⟨its, rv, p, hz⟩ := I1.list hq
    refine wpAny_pyIter_list p.isList ?_
    refine ⟨s1.heap.objs.size, [s1.heap.objs.size], _, _, H1, rfl, I1.kept (t' := s1.toks) fun b o e => Heap.get?_push_of_some _ e, turn_list a _, ⟨_, Heap.get?_push_size _ rfl, rfl, rfl⟩, fun b hb => ?_, q⟩
    have e : b = s1.heap.objs.size := by simpa using hb
    subst e
    exact I1.fpOk (Nat.le_refl _) (I1.hok.fresh (Nat.le_refl _))
  · subst e
    cases r1
    obtain ⟨its, rv, p, hz⟩ := I1.tuple hq
    refine wpAny_pyIter_tuple (show s1.heap.IsTuple a its.toArray from p) ?_
    refine ⟨s1.heap.objs.size, [s1.heap.objs.size], _, _, H1, rfl, I1.kept (t' := s1.toks) fun b o e => Heap.get?_push_of_some _ e, turn_tuple a _, ⟨_, Heap.get?_push_size _ rfl, rfl, rfl⟩, fun b hb => ?_, q⟩
    have e : b = s1.heap.objs.size := by simpa using hb
    subst e
    exact I1.fpOk (Nat.le_refl _) (I1.hok.fresh (Nat.le_refl _))
def iS (a : WE) : WI := fun env Q => a env fun d => match d with
  | .list ds => Q ds
  | .tuple ds => Q ds
  | .dict [(.none, .list ds)] => Q ds
  | _ => False
def iRv (a : WE) : WI := fun env Q => a env fun d => match d with
  | .list ds => Q ds.reverse
  | .tuple ds => Q ds.reverse
  | _ => False
section
variable {K : PySem.W.Frag} {ok : List D → Prop} {ta tb te tf tg' : TE} {wa wb we wf wg : WE}
theorem si_seq (he : SndE K ok te we) : SndI K ok (iSeq K te) (iS we) := fun C H0 σ H env Q R rel hw k => he C H0 σ H env _ _ rel hw fun d v H1 H01 q r e x => by
  have onL : ∀ {a : Addr} {xs : List V} {ds : List D}, SqL K H1 a xs → (∀ H2, Same H01 H2 → SqL K H2 a xs) → Rps K H01 xs ds → Q ds → R (Itl K a) H1 := fun {a xs ds} h1 h hr q => by
    refine k _ _ _ H01 q r e ⟨fun i H2 hi s => ?_, fun H2 s => ⟨xs, h H2 s, by rw [hr.length]; exact Nat.le_refl _⟩, fun i H2 x H3 hi s y => ?_⟩
    · have hi' : i < xs.length := by rw [hr.length]; exact hi
      exact ⟨xs, xs[i], h H2 s, List.getElem?_eq_getElem hi'⟩
    · obtain ⟨rfl, y⟩ := y
      obtain ⟨d, hd, x'⟩ := hr.getV (y xs (h _ s))
      exact ⟨d, hd, .inl ⟨rfl, x'⟩⟩
  try dsimp only at q
  split at q
  · generalize hd : PyData.list _ = d at x
    cases x with
    | lst ha hr =>
      cases hd
      exact .inl ⟨_, rfl, ⟨_, SqL.of (r.sub _ _ ha)⟩, onL (SqL.of (r.sub _ _ ha)) (fun H2 s => SqL.of (s _ _ ha)) hr q⟩
    | _ => cases hd
  · generalize hd : PyData.tuple _ = d at x
    cases x with
    | tup ha hr =>
      cases hd
      rename_i a xs
      refine .inr ⟨a, rfl, ⟨xs, Same.tup r.sub ha⟩, k _ _ _ H01 q r e ⟨fun i H2 hi s => ?_, fun H2 s => ⟨xs, Same.tup s ha, by rw [hr.length]; exact Nat.le_refl _⟩, fun i H2 x H3 hi s y => ?_⟩⟩
      · have hi' : i < xs.length := by rw [hr.length]; exact hi
        exact ⟨xs, xs[i], Same.tup s ha, List.getElem?_eq_getElem hi'⟩
      · obtain ⟨rfl, y⟩ := y
        obtain ⟨d, hd, x'⟩ := hr.getV (y xs (Same.tup s ha))
        exact ⟨d, hd, .inl ⟨rfl, x'⟩⟩
    | _ => cases hd
  · generalize hd : PyData.dict _ = d at x
    cases x with
    | scr h =>
      cases hd
      exact .inl ⟨_, rfl, ⟨_, r.sub.seq h⟩, onL (r.sub.seq h) (fun H2 s => s.seq h) (Rps.of_ints _) q⟩
    | _ => cases hd
  · exact q.elim
theorem rev_get {α : Type} {xs : List α} {i : Nat} (h : i < xs.length) : xs[xs.length - 1 - i]? = xs.reverse[i]? := (List.getElem?_reverse h).symm
theorem si_rev (he : SndE K ok te we) : SndI K ok (RT.iRevA K te) (iRv we) := fun C H0 σ H env Q R rel hw k => he C H0 σ H env _ _ rel hw fun d v H1 H01 q r e x => by
  try dsimp only at q
  split at q
  · cases x with
    | lst ha hr =>
      rename_i a xs
      refine ⟨a, xs, rfl, .inl ⟨SqL.of (r.sub _ _ ha), k _ _ _ H01 q r e ⟨fun i H2 hi s => ?_, fun H2 s => (by show xs.length ≤ _; rw [hr.length, List.length_reverse]; exact Nat.le_refl _), fun i H2 x H3 hi s y => ?_⟩⟩⟩
      · rw [List.length_reverse] at hi
        have hi' : i < xs.length := by rw [hr.length]; exact hi
        exact ⟨hi', xs, xs[xs.length - 1 - i], SqL.of (s _ _ ha), List.getElem?_eq_getElem (by omega)⟩
      · obtain ⟨rfl, y⟩ := y
        rw [List.length_reverse] at hi
        obtain ⟨d, hd, x'⟩ := hr.getV (y xs (SqL.of (s _ _ ha)))
        rw [hr.length, rev_get hi] at hd
        exact ⟨d, hd, .inl ⟨rfl, x'⟩⟩
  · cases x with
    | tup ha hr =>
      rename_i a xs
      refine ⟨a, xs, rfl, .inr ⟨Same.tup r.sub ha, k _ _ _ H01 q r e ⟨fun i H2 hi s => ?_, fun H2 s => (by show xs.length ≤ _; rw [hr.length, List.length_reverse]; exact Nat.le_refl _), fun i H2 x H3 hi s y => ?_⟩⟩⟩
      · rw [List.length_reverse] at hi
        have hi' : i < xs.length := by rw [hr.length]; exact hi
        exact ⟨hi', xs, xs[xs.length - 1 - i], Same.tup s ha, List.getElem?_eq_getElem (by omega)⟩
      · obtain ⟨rfl, y⟩ := y
        rw [List.length_reverse] at hi
        obtain ⟨d, hd, x'⟩ := hr.getV (y xs (Same.tup s ha))
        rw [hr.length, rev_get hi] at hd
        exact ⟨d, hd, .inl ⟨rfl, x'⟩⟩
  · exact q.elim
theorem rngC_get {lo c : Int} {n i : Nat} (h : i < n) : (rngC lo c n)[i]? = some (.int (lo + (i : Nat) * c)) := by
  unfold rngC
  rw [List.getElem?_map, List.getElem?_range h]
  rfl
theorem rngC_len {lo c : Int} {n : Nat} : (rngC lo c n).length = n := by unfold rngC; rw [List.length_map, List.length_range]
theorem si_r3 (he : SndE K ok te we) (hf : SndE K ok tf wf) (hg : SndE K ok tg' wg) : SndI K ok (iRng3 (tCons te (tCons tf (tCons tg' tNil)))) (iR3 we wf wg) := fun C H0 σ H env Q R rel hw k => he C H0 σ H env _ _ rel hw fun d v H1 H01 q r e x =>
  hf C H01 σ H1 env _ _ r q fun d2 v2 H2 H02 q2 r2 e2 x2 => hg C H02 σ H2 env _ _ r2 q2 fun d3 v3 H3 H03 q3 r3 e3 x3 => by
    try dsimp only at q3
    split at q3
    · cases x; cases x2; cases x3
      obtain ⟨n, hn, q3⟩ := q3
      refine ⟨_, _, _, n, rfl, hn, k _ _ _ H03 q3 r3 ((e.trans e2).trans e3) ⟨fun i H hi s => by rw [rngC_len] at hi; exact hi, fun H s => by rw [rngC_len]; exact Nat.le_refl _, fun i H x H' hi s y => ?_⟩⟩
      obtain ⟨rfl, rfl⟩ := y
      rw [rngC_len] at hi
      exact ⟨_, rngC_get hi, .inl ⟨rfl, .int _⟩⟩
    · exact q3.elim
/-! membership -/
def rInA (K : PySem.W.Frag) : R2 := fun x y H Q => rInD K x y H Q ∨ rIn K false x y H Q
def rNinA (K : PySem.W.Frag) : R2 := fun x y H Q => rNotInD K x y H Q ∨ rIn K true x y H Q
theorem op_inA {X : Cx} (hu : X.A.units + 65 < cLine) : OpR X (compareOp .In) (rInA X.K) := by
  intro pins s σ H x y v u Q I rx ry h
  rcases h with h | h
  · exact op_inD hu pins s σ H x y v u Q I rx ry h
  · exact op_in_seq pins s σ H x y v u Q I rx ry h
theorem op_ninA {X : Cx} (hu : X.A.units + 65 < cLine) : OpR X (compareOp .NotIn) (rNinA X.K) := by
  intro pins s σ H x y v u Q I rx ry h
  rcases h with h | h
  · exact op_notInD hu pins s σ H x y v u Q I rx ry h
  · exact op_notIn_seq pins s σ H x y v u Q I rx ry h
def wIn (a b : WE) : WE := fun env Q => a env fun x => b env fun y => match y with
  | .list ds => SeqAt.shaped x = true ∧ SeqAt.shaped (.list ds) = true ∧ Q (.bool (ds.any fun z => PyData.eqv z x))
  | .tuple ds => ∃ i ns, x = .int i ∧ ds = dints ns ∧ Q (.bool (ns.any fun z => z == i))
  | _ => False
def wNin (a b : WE) : WE := fun env Q => a env fun x => b env fun y => match y with
  | .list ds => SeqAt.shaped x = true ∧ SeqAt.shaped (.list ds) = true ∧ Q (.bool (!ds.any fun z => PyData.eqv z x))
  | .tuple ds => ∃ i ns, x = .int i ∧ ds = dints ns ∧ Q (.bool (!ns.any fun z => z == i))
  | _ => False
theorem Bor.rp {H0 H : Hp} {v : V} {d : D} (s : Same H0 H) (h : Bor K H0 H v d) : Rp K H v d := by
  rcases h with h | ⟨p, ds, rfl, rfl, o⟩
  · exact h.mono s
  · obtain ⟨_, vs, hp, hr⟩ := o
    exact .lst hp (hr.mono s)
theorem any_ints (ns : List Int) (i : Int) : (ns.map V.int).any (fun y => eqV y (.int i)) = ns.any fun z => z == i := by
  induction ns with
  | nil => rfl
  | cons a r ih =>
    rw [List.map_cons, List.any_cons, List.any_cons, ih]
    rfl
theorem flat_ints (ns : List Int) : (ns.map V.int).all flatV = true := by
  rw [List.all_eq_true]
  intro x hx
  obtain ⟨i, _, rfl⟩ := List.mem_map.mp hx
  rfl
theorem snd_in (ha : SndE K ok ta wa) (hb : SndB K ok tb wb) : SndE K ok (tOp (rInA K) ta tb) (wIn wa wb) := fun C H0 σ H env Q R rel hw k =>
  ha C H0 σ H env _ _ rel hw fun d v H1 H01 q r1 e1 x1 => hb C H01 σ H1 env _ _ r1 q fun e u H2 H02 q2 r2 e2 x2 => by
    have b := (x2 H2 H02 r2 (Same.refl _)).rp r2.sub
    have a := (x1.mono e2).mono r2.sub
    try dsimp only at q2
    split at q2
    · obtain ⟨s1, s2, q3⟩ := q2
      exact .inl ⟨_, _, a.sh s1, b.sh s2, s1, s2, k _ _ _ _ q3 r2 (e1.trans e2) (.bl _)⟩
    · obtain ⟨i, ns, rfl, rfl, q3⟩ := q2
      cases a
      generalize hd : PyData.tuple (dints ns) = d at b
      cases b with
      | tup h r =>
        cases hd
        rw [r.ints_inv] at h
        refine .inr ⟨_, _, rfl, .inr h, rfl, flat_ints ns, ?_⟩
        show R (V.bl (if (false : Bool) = true then _ else (ns.map V.int).any fun y => eqV y (.int i))) H2
        rw [if_neg (by decide), any_ints]
        exact k _ _ _ _ q3 r2 (e1.trans e2) (.bl _)
      | _ => cases hd
    · exact q2.elim
theorem snd_nin (ha : SndE K ok ta wa) (hb : SndB K ok tb wb) : SndE K ok (tOp (rNinA K) ta tb) (wNin wa wb) := fun C H0 σ H env Q R rel hw k =>
  ha C H0 σ H env _ _ rel hw fun d v H1 H01 q r1 e1 x1 => hb C H01 σ H1 env _ _ r1 q fun e u H2 H02 q2 r2 e2 x2 => by
    have b := (x2 H2 H02 r2 (Same.refl _)).rp r2.sub
    have a := (x1.mono e2).mono r2.sub
    try dsimp only at q2
    split at q2
    · obtain ⟨s1, s2, q3⟩ := q2
      exact .inl ⟨_, _, a.sh s1, b.sh s2, s1, s2, k _ _ _ _ q3 r2 (e1.trans e2) (.bl _)⟩
    · obtain ⟨i, ns, rfl, rfl, q3⟩ := q2
      cases a
      generalize hd : PyData.tuple (dints ns) = d at b
      cases b with
      | tup h r =>
        cases hd
        rw [r.ints_inv] at h
        refine .inr ⟨_, _, rfl, .inr h, rfl, flat_ints ns, ?_⟩
        show R (V.bl (if (true : Bool) = true then !((ns.map V.int).any fun y => eqV y (.int i)) else _)) H2
        rw [if_pos rfl, any_ints]
        exact k _ _ _ _ q3 r2 (e1.trans e2) (.bl _)
      | _ => cases hd
    · exact q2.elim
/-! is True -/
def fIsB : D → D → (D → Prop) → Prop := fun d e Q => match d, e with
  | .bool a, .bool b => Q (.bool (decide (a = b)))
  | _, _ => False
def fIsNotB : D → D → (D → Prop) → Prop := fun d e Q => match d, e with
  | .bool a, .bool b => Q (.bool (!decide (a = b)))
  | _, _ => False
theorem opd_isB : OpD K rIsB fIsB := fun H0 H x y d e Q R s hx hy h k => by
  unfold fIsB at h
  split at h
  · cases hx; cases hy
    exact ⟨_, _, rfl, rfl, k _ _ h (.bl _)⟩
  · exact h.elim
theorem opd_isnotB : OpD K rNotB fIsNotB := fun H0 H x y d e Q R s hx hy h k => by
  unfold fIsNotB at h
  split at h
  · cases hx; cases hy
    exact ⟨_, _, rfl, rfl, k _ _ h (.bl _)⟩
  · exact h.elim
end
section
variable {X : Cx} {ok : List D → Prop} {a b c e : Expr} {es : List Expr} {wa wb wc we : WE} {wr : WA} {wl : WL} {wt wu : WT} {pos p p2 apos : Pos} {x : Str}
theorem i_seq {tg : Expr} (h : PDE X ok e we) : PDI X ok tg e (iS we) := let ⟨_, a, b⟩ := h; ⟨_, pi_seq a, si_seq b⟩
theorem i_rev {tg : Expr} (hm : X.mg "reversed" = none) (h : PDE X ok e we) (hg : Gl X "reversed" := by rfl) (hs : starEach [e] X.env = (false, eval e X.env) :: starEach [] X.env := by rfl) : PDI X ok tg (.Call (.Name "reversed" p) [e] [] pos) (iRv we) := let ⟨_, a, b⟩ := h; ⟨_, RT.pi_revA hg hm a hs, si_rev b⟩
theorem i_r3 {tg : Expr} (hm : X.mg "range" = none) (h : PDE X ok a wa) (h2 : PDE X ok b wb) (h3 : PDE X ok c wc) (hg : Gl X "range" := by rfl)
    (hs : starEach [a, b, c] X.env = (false, eval a X.env) :: starEach [b, c] X.env := by rfl) (hs2 : starEach [b, c] X.env = (false, eval b X.env) :: starEach [c] X.env := by rfl) (hs3 : starEach [c] X.env = (false, eval c X.env) :: starEach [] X.env := by rfl) (hpl : (backTo pos (starEach [b, c] X.env)).any (·.1) = false := by rfl) :
    PDI X ok tg (.Call (.Name "range" p) [a, b, c] [] pos) (iR3 wa wb wc) := let ⟨_, a1, a2⟩ := h; let ⟨_, b1, b2⟩ := h2; let ⟨_, c1, c2⟩ := h3; ⟨_, pi_range3 hg hm (pa_cons a1 (pa_cons b1 (pa_cons c1 pa_nil hs3) hs2) hs) hs hpl, si_r3 a2 b2 c2⟩
theorem units65 {k : Nat} {A : Around} (h : Room k A) : A.units + 65 < cLine := by have := h.un; omega
theorem d_in {k : Nat} (hr : Room k X.A) (ha : PDE X ok a wa) (hb : PDB X ok b wb) (hm : lastMarks [.In] [b] = false := by with_unfolding_all rfl) : PDE X ok (.Compare a [.In] [b] pos) (wIn wa wb) := let ⟨_, a1, a2⟩ := ha; let ⟨_, b1, b2⟩ := hb; ⟨_, pe_cmpR (op_inA (units65 hr)) a1 b1 hm, snd_in a2 b2⟩
theorem d_nin {k : Nat} (hr : Room k X.A) (ha : PDE X ok a wa) (hb : PDB X ok b wb) (hm : lastMarks [.NotIn] [b] = false := by with_unfolding_all rfl) : PDE X ok (.Compare a [.NotIn] [b] pos) (wNin wa wb) := let ⟨_, a1, a2⟩ := ha; let ⟨_, b1, b2⟩ := hb; ⟨_, pe_cmpR (op_ninA (units65 hr)) a1 b1 hm, snd_nin a2 b2⟩
theorem t_in {k : Nat} (hr : Room k X.A) (ha : PDE X ok a wa) (hb : PDB X ok b wb) (hm : lastMarks [.In] [b] = false := by with_unfolding_all rfl) : PDT X ok (.Compare a [.In] [b] pos) (wTest (wIn wa wb)) := let ⟨_, a1, a2⟩ := ha; let ⟨_, b1, b2⟩ := hb; ⟨_, pt_cmpR (op_inA (units65 hr)) a1 b1 hm, snd_test (snd_in a2 b2)⟩
theorem t_nin {k : Nat} (hr : Room k X.A) (ha : PDE X ok a wa) (hb : PDB X ok b wb) (hm : lastMarks [.NotIn] [b] = false := by with_unfolding_all rfl) : PDT X ok (.Compare a [.NotIn] [b] pos) (wTest (wNin wa wb)) := let ⟨_, a1, a2⟩ := ha; let ⟨_, b1, b2⟩ := hb; ⟨_, pt_cmpR (op_ninA (units65 hr)) a1 b1 hm, snd_test (snd_nin a2 b2)⟩
theorem d_isB (ha : PDE X ok a wa) (hb : PDE X ok b wb) : PDE X ok (.Compare a [.Is] [b] pos) (wBin fIsB wa wb) := let ⟨_, a1, a2⟩ := ha; let ⟨_, b1, b2⟩ := hb; ⟨_, pe_cmpR op_isBl a1 b1 (nomark _), snd_bin opd_isB a2 b2⟩
theorem d_isnotB (ha : PDE X ok a wa) (hb : PDE X ok b wb) : PDE X ok (.Compare a [.IsNot] [b] pos) (wBin fIsNotB wa wb) := let ⟨_, a1, a2⟩ := ha; let ⟨_, b1, b2⟩ := hb; ⟨_, pe_cmpR op_notBl a1 b1 (nomark _), snd_bin opd_isnotB a2 b2⟩
theorem t_isB (ha : PDE X ok a wa) (hb : PDE X ok b wb) : PDT X ok (.Compare a [.Is] [b] pos) (wTest (wBin fIsB wa wb)) := let ⟨_, a1, a2⟩ := ha; let ⟨_, b1, b2⟩ := hb; ⟨_, pt_cmpR op_isBl a1 b1 (nomark _), snd_test (snd_bin opd_isB a2 b2)⟩
theorem t_isnotB (ha : PDE X ok a wa) (hb : PDE X ok b wb) : PDT X ok (.Compare a [.IsNot] [b] pos) (wTest (wBin fIsNotB wa wb)) := let ⟨_, a1, a2⟩ := ha; let ⟨_, b1, b2⟩ := hb; ⟨_, pt_cmpR op_notBl a1 b1 (nomark _), snd_test (snd_bin opd_isnotB a2 b2)⟩
end
end DL
/-! DL, part i: a tuple times a number, of any sign. -/
namespace DL
open PySem L2
section
open PySem.Spec PyProof.Rows
/-- t * 1 is t -/
theorem tupTimes_one (a : Addr) (its : Array Value) (m : Nat) (e : Option Addr) (sl : Array (Option Value)) (u : Tok) (k0 : (decide ((1 : Int) < -(2 ^ 63)) || decide ((1 : Int) ≥ 2 ^ 63)) = false) (k1 : (its.isEmpty || (1 : Int) == 1) = true) :
    Meets (Builtin.«tuple.__mul__» ⟨[.ref a, .int 1 u], []⟩) (fun _ R s => s.heap.get? a = some { cls := .type "tuple", dict := e, data := .seq its m, slots := sl } ∧ R (.ok (.ret (Value.ref a))) s) :=
  .of_wp fun _ _ _ _ s h => by
    obtain ⟨h1, h2, h3, h4, h5⟩ := s
    obtain ⟨look, done⟩ := h
    have ix := AutoSeq1.idx_int
    wp_walk using wpAny_loadPart' look
    repeat (first
      | (refine wpAny_ite_false (decide_eq_false (fun z => by rw [k0] at z; cases z)) ?_; wp_walk using wpAny_loadPart' look)
      | (refine wpAny_ite_true (decide_eq_true k1) ?_; wp_walk using wpAny_loadPart' look)
      | (refine wpAny_ite_true (by rfl) ?_; wp_walk using wpAny_loadPart' look))
    exact ⟨_, rfl, done⟩
/-- t * n, n at most 0: a new empty one -/
theorem tupTimes_none (a : Addr) (its : Array Value) (m : Nat) (e : Option Addr) (sl : Array (Option Value)) (x : Int) (u : Tok) (k0 : (decide (x < -(2 ^ 63)) || decide (x ≥ 2 ^ 63)) = false) (k1 : (its.isEmpty || x == 1) = false) (k2 : (decide (x ≤ 0) || its.isEmpty) = true) :
    Meets (Builtin.«tuple.__mul__» ⟨[.ref a, .int x u], []⟩) (fun _ R s => s.heap.get? a = some { cls := .type "tuple", dict := e, data := .seq its m, slots := sl } ∧
      R (.ok (.ret (Value.ref s.heap.objs.size))) { s with heap := s.heap.push { cls := Value.type "tuple", data := Data.seq #[] }, toks := s.toks }) :=
  .of_wp fun _ _ _ _ s h => by
    obtain ⟨h1, h2, h3, h4, h5⟩ := s
    obtain ⟨look, done⟩ := h
    have ix := AutoSeq1.idx_int
    wp_walk using wpAny_loadPart' look
    repeat (first
      | (refine wpAny_ite_false (decide_eq_false (fun z => by rw [k0] at z; cases z)) ?_; wp_walk using wpAny_loadPart' look)
      | (refine wpAny_ite_false (decide_eq_false (fun z => by rw [k1] at z; cases z)) ?_; wp_walk using wpAny_loadPart' look)
      | (refine wpAny_ite_true (decide_eq_true k2) ?_; wp_walk using wpAny_loadPart' look))
    exact ⟨_, rfl, done⟩
/-- t * k -/
def rRepA (K : PySem.W.Frag) : R2 := fun x y H Q => ∃ l k xs, x = .ref l ∧ y = .int k ∧ SqT K H l xs ∧ xs ≠ [] ∧ -1000 ≤ k ∧ k ≤ 1000 ∧ xs.length ≤ 1000 ∧
  (k ≤ 0 → ∀ p, H p = none → Q (.ref p) (upd H p (.tup []))) ∧ (k = 1 → Q (.ref l) H) ∧ (2 ≤ k → ∀ p, H p = none → Q (.ref p) (upd H p (.tup (List.replicate k.toNat xs).flatten)))
theorem op_repA {X : Cx} : OpR X (binaryOp .Mult) (rRepA X.K) := by
  intro pins s σ H x y v u Q I rx ry ⟨a, k, xs, e1, e2, isT, full, lo, hi, short, q0, q1, q2⟩
  subst e1
  subst e2
  by_cases h2 : 2 ≤ k
  · exact op_repT pins s σ H _ _ v u Q I rx ry ⟨a, k, xs, rfl, rfl, isT, full, h2, hi, short, q2 h2⟩
  cases rx
  obtain ⟨tk, rfl⟩ := ry
  obtain ⟨its, vr, isAt, _⟩ := I.tuple isT
  obtain ⟨⟨oc, od, odat, osl⟩, look, hcls, m, hdat⟩ := isAt
  simp only at hcls hdat
  subst hcls
  subst hdat
  have some_ : its.toArray.isEmpty = false := by
    have hlen := vr.length
    cases its with
    | nil => exact absurd (List.eq_nil_of_length_eq_zero hlen) full
    | cons b bs => rfl
  have k0 : (decide (k < -(2 ^ 63)) || decide (k ≥ 2 ^ 63)) = false := by
    have n1 : ¬ k < -(2 ^ 63) := by omega
    have n2 : ¬ k ≥ 2 ^ 63 := by omega
    rw [decide_eq_false n1, decide_eq_false n2]
    rfl
  refine wpAny_binaryOp_repeat_ref (T := "tuple") (U := "int") (by decide) ⟨_, look, rfl⟩ (fun _ => typeIs_int _ k tk) noFill_tuple_mul F.fills_int_mul F.slot_int_rmul repeat_tuple F.slot_int_index.lookup ?_
  refine call_meets F.slot_int_rmul (typeIs_int s k tk) F.entry_int_rmul (F.args_int_rmul_2 _ _) (int_rmul_tuple k tk a its.toArray m od osl) ⟨look, rfl, ⟨_, look, rfl⟩, ?_⟩
  by_cases h1 : k = 1
  · subst h1
    refine call_meets F.slot_tuple_mul ⟨_, look, rfl⟩ F.entry_tuple_mul (F.args_tuple_mul_2 _ _) (tupTimes_one a its.toArray m od osl tk k0 (by rw [some_]; rfl)) ⟨look, ?_⟩
    exact ⟨.ref a, H, I, rfl, q1 rfl⟩
  · refine call_meets F.slot_tuple_mul ⟨_, look, rfl⟩ F.entry_tuple_mul (F.args_tuple_mul_2 _ _) (tupTimes_none a its.toArray m od osl k tk k0 (by rw [some_, Bool.false_or]; exact beq_eq_false_iff_ne.mpr h1) (by rw [decide_eq_true (show k ≤ 0 by omega)]; rfl)) ⟨look, ?_⟩
    refine ⟨.ref s.heap.objs.size, _, I.laid (t' := s.toks) (o := .tup []) (fun _ _ z => Heap.get?_push_of_some _ z) (Nat.le_refl _) ?_, rfl, q0 (by omega) _ (I.hok.fresh (Nat.le_refl _))⟩
    exact ⟨Nat.zero_le _, [], .nil, IsTup.new _ _⟩
end
/-- what a tuple times a number asks -/
def wRepT (a b : WE) : WE := fun env Q => a env fun x => b env fun y => match x, y with
  | .tuple ds, .int k => ds ≠ [] ∧ (-1000 ≤ k ∧ k ≤ 1000) ∧ ds.length ≤ 1000 ∧ Q (.tuple (List.replicate k.toNat ds).flatten)
  | _, _ => False
theorem Rps.reps {K : PySem.W.Frag} {H : Hp} {vs : List V} {ds : List D} (r : Rps K H vs ds) : ∀ n : Nat, Rps K H (List.replicate n vs).flatten (List.replicate n ds).flatten
  | 0 => .nil
  | n + 1 => by
    rw [List.replicate_succ, List.flatten_cons, List.replicate_succ, List.flatten_cons]
    exact r.append (Rps.reps r n)
theorem se_repT {K : PySem.W.Frag} {ok : List D → Prop} {ta tb : TE} {wa wb : WE} (ha : SndE K ok ta wa) (hb : SndE K ok tb wb) : SndE K ok (tOp (rRepA K) ta tb) (wRepT wa wb) := fun C H0 σ H env Q R rel hw k =>
  ha C H0 σ H env _ _ rel hw fun d v H1 H01 q r1 e1 x1 => hb C H01 σ H1 env _ _ r1 q fun e u H2 H02 q2 r2 e2 x2 => by
    try dsimp only at q2
    split at q2
    · rename_i ds j
      obtain ⟨n0, ⟨lo, hi⟩, sh, q3⟩ := q2
      cases x2
      generalize hd : PyData.tuple ds = dd at x1
      cases x1 with
      | tup h r =>
        cases hd
        have h2 := Same.tup e2 h
        have rr := r.mono e2
        have l := r.length
        refine ⟨_, _, _, rfl, rfl, Same.tup r2.sub h2, fun z => n0 (List.eq_nil_of_length_eq_zero (by rw [← l, z]; rfl)), lo, hi, by rw [l]; exact sh, fun z p np => ?_, fun z => ?_, fun z p np => ?_⟩
        · obtain ⟨r4, e4⟩ := r2.laid (o := .tup []) np
          refine k _ _ _ _ q3 r4 ((e1.trans e2).trans e4) (.tup (SqT.of upd_same) ?_)
          rw [show j.toNat = 0 by omega]
          exact .nil
        · subst z
          refine k _ _ _ _ q3 r2 (e1.trans e2) (.tup h2 ?_)
          have := rr.reps 1
          rw [show (List.replicate 1 _).flatten = _ ++ [] from rfl, List.append_nil] at this
          exact this
        · obtain ⟨r4, e4⟩ := r2.laid (o := .tup (_ : List V)) np
          exact k _ _ _ _ q3 r4 ((e1.trans e2).trans e4) (.tup (SqT.of upd_same) ((rr.reps j.toNat).mono e4))
      | _ => cases hd
    · exact q2.elim
theorem d_repT {X : Cx} {ok : List D → Prop} {a b : Expr} {wa wb : WE} {pos : Pos} (ha : PDE X ok a wa) (hb : PDE X ok b wb) : PDE X ok (.BinOp a .Mult b pos) (wRepT wa wb) := let ⟨_, a1, a2⟩ := ha; let ⟨_, b1, b2⟩ := hb; ⟨_, pe_op op_repA a1 b1, se_repT a2 b2⟩
end DL
/-! DL, part j: isinstance of built-in kinds; a list unpacked. -/
namespace DL
open PySem L2
def tyN : D → String
  | .none => "NoneType"
  | .bool _ => "bool"
  | .int _ => "int"
  | .str _ => "str"
  | .list _ => "list"
  | .tuple _ => "tuple"
  | .dict _ => "list"
def fIsI (T : String) : D → (D → Prop) → Prop := fun d Q => ∃ b, kitB (tyN d) T = some b ∧ Q (.bool b)
theorem Rp.ty {K : PySem.W.Frag} {H : Hp} {v : V} {d : D} (h : Rp K H v d) (nd : ∀ kv, d ≠ .dict kv) : TyX K H v (.type (tyN d)) := by
  cases h with
  | non => exact .base .non
  | bl b => exact .base (.bl b)
  | int i => exact .base (.int i)
  | str x => exact .base (.str x)
  | lst h _ => exact .base (.lst h)
  | tup h _ =>
    rcases h with (h | ⟨o, h⟩) | ⟨o, its, n, h, hc, _⟩
    · exact .base (.tup h)
    · exact .fTuple h
    · exact .kTuple h hc
  | scr h => exact absurd rfl (nd _)
  | dct _ _ _ _ => exact absurd rfl (nd _)
  | dci _ _ _ => exact absurd rfl (nd _)
  | fn _ => exact absurd rfl (nd _)
  | ob _ _ _ _ => exact absurd rfl (nd _)
def wIsI (T : String) (a : WE) : WE := fun env Q => a env fun d => match d with
  | .dict _ => False
  | d => fIsI T d Q
section
variable {K : PySem.W.Frag} {ok : List D → Prop} {ta te : TE} {wa we : WE}
theorem snd_isi {T : String} (ha : SndE K ok ta wa) : SndE K ok (tCB (rIsi K) (tCons ta (tCons (tC (.ty T)) tNil))) (wIsI T wa) := fun C H0 σ H env Q R rel hw k =>
  ha C H0 σ H env _ _ rel hw fun d v H1 H01 q r1 e1 x1 => by
    try dsimp only at q
    split at q
    · exact q.elim
    · rename_i nd
      obtain ⟨b, hb, q⟩ := q
      exact ⟨v, .ty T, _, _, b, rfl, .ty T, (x1.mono r1.sub).ty (fun kv z => nd kv z), kit_ty hb, k _ _ _ _ q r1 e1 (.bl b)⟩
theorem sg_unl {vs : List Nat} {n : Nat} {gs : TGs} {wgs : WGs} (h : SndGs K ok vs gs wgs) : SndG K ok vs (gUnl K n gs) (fun d env Q => match d with | .list ds => ds.length = n ∧ wgs ds env Q | _ => False) := fun C H0 σ H env x d Q R rel hx q k => by
  try dsimp only at q
  split at q
  · cases hx with
    | lst ha hr => exact ⟨_, _, rfl, SqL.of (rel.sub _ _ ha), by rw [hr.length]; exact q.1, h C H0 σ H env _ _ _ _ rel hr q.2 k⟩
  · exact q.elim
end
/-- a, b, .. = a list -/
def gL (n : Nat) (r : WGs) : WG := fun d env Q => match d with
  | .list ds => ds.length = n ∧ r ds env Q
  | _ => False
section
variable {X : Cx} {ok : List D → Prop} {a b c e : Expr} {es : List Expr} {wa wb wc we : WE} {pos p p2 apos : Pos} {x : Str}
theorem g_lstN {vs : List Nat} {k n : Nat} {wg : WGs} (hc : X.calm = true) (h : PDGs X ok vs es wg) (hg : ∀ t, PGs X es t → PG X (.Tuple es k pos) (gUnl X.K n t) := by exact fun _ h => pg_unl rfl h) : PDG X ok vs (.Tuple es k pos) (gL n wg) := let ⟨_, a, b⟩ := h; ⟨_, hg _ a, sg_unl b⟩
theorem d_isi {T : String} (hm : X.mg "isinstance" = none) (hmT : X.mg (Str.ofString T) = none) (hv : bootBuiltins (Str.ofString T) = some (.type T)) (ha : PDE X ok a wa) (hg : Gl X "isinstance" := by rfl) (hgT : Gl X (Str.ofString T) := by rfl)
    (hn : (Str.ofString T) ≠ "__name__" := by decide) (hdT : ((Str.ofString T) == ("__debug__" : Str)) = false := by decide)
    (hs : starEach [a, .Name (Str.ofString T) p2] X.env = (false, eval a X.env) :: starEach [.Name (Str.ofString T) p2] X.env := by rfl) (hs2 : starEach [.Name (Str.ofString T) p2] X.env = (false, eval (.Name (Str.ofString T) p2) X.env) :: starEach [] X.env := by rfl)
    (hpl : (backTo pos (starEach [.Name (Str.ofString T) p2] X.env)).any (·.1) = false := by rfl) :
    PDE X ok (.Call (.Name "isinstance" p) [a, .Name (Str.ofString T) p2] [] pos) (wIsI T wa) := let ⟨_, a1, a2⟩ := ha; ⟨_, pe_callB call_isi hg hm (by decide +kernel) (pa_cons a1 (pa_cons (pe_bltn (v := .ty T) hgT hmT hv rfl hn hdT) pa_nil hs2) hs) (by decide) (by decide) hs hpl, snd_isi a2⟩
end
end DL
/-! DL, part k: a comparison of four terms. -/
namespace DL
open PySem PySem.Spec PyProof.Rows L2
section
variable {X : Cx} {ok : List D → Prop} {a b c e : Expr} {wa wb wc we : WE} {pos : Pos}
def tChain4 (r r' r2 : R2) (ta tb tc td : TE) : TE := fun σ H Q => ta σ H fun x H1 => tb σ H1 fun y H2 => r x y H2 fun z H3 => ∃ k, z = .bl k ∧
  (if k = true then tc σ H3 fun u H4 => r' y u H4 fun z' H5 => ∃ k', z' = .bl k' ∧ (if k' = true then td σ H5 fun v H6 => r2 u v H6 Q else Q (.bl false) H5) else Q (.bl false) H3)
theorem pe_chain4 {o1 o2 o3 : CmpOp} {r r' r2 : R2} {ta tb tc td : TE} (h1 : OpR X (compareOp o1) r) (h2 : OpR X (compareOp o2) r') (h3 : OpR X (compareOp o3) r2) (ha : PE X a ta) (hb : PE X b tb) (hc : PE X c tc) (he : PE X e td)
    (hm : lastMarks [o1, o2, o3] [b, c, e] = false := by with_unfolding_all rfl) : PE X (.Compare a [o1, o2, o3] [b, c, e] pos) (tChain4 r r' r2 ta tb tc td) := by
  refine ⟨fun pins s σ H Q I h => ?_⟩
  refine Compare_chain (thn (ha.run pins s σ H _ I h) fun va s1 ⟨x, H1, I1, rx, q1⟩ => chain_link (thn (hb.run pins s1 σ H1 _ I1 q1) fun vb s2 ⟨y, H2, I2, ry, q2⟩ =>
    thn (h1 pins s2 σ H2 x y va vb _ I2 rx ry q2) fun _ s3 ⟨z, H3, I3, rz, k, ez, q3⟩ => ?_)) hm
  subst ez
  cases rz
  refine wpAny_truthy_bool ?_
  cases k with
  | false => exact ite_ff ⟨.bl false, H3, I3, rfl, q3⟩
  | true =>
    refine ite_tt (chain_link (thn (hc.run pins s3 σ H3 _ I3 q3) fun vc s4 ⟨w, H4, I4, rw_, q4⟩ => thn (h2 pins s4 σ H4 y w vb vc _ I4 ry rw_ q4) fun _ s5 ⟨z2, H5, I5, rz2, k2, ez2, q5⟩ => ?_))
    subst ez2
    cases rz2
    refine wpAny_truthy_bool ?_
    cases k2 with
    | false => exact ite_ff ⟨.bl false, H5, I5, rfl, q5⟩
    | true => exact ite_tt (chain_last (thn (he.run pins s5 σ H5 _ I5 q5) fun vd s6 ⟨v, H6, I6, rv, q6⟩ => h3 pins s6 σ H6 w v vc vd Q I6 rw_ rv q6))
/-- both later answers told -/
def wChn4 (f f' f2 : D → D → (D → Prop) → Prop) (a b c e : WE) : WE := fun env Q => a env fun x => b env fun y => f x y fun z => match z with
  | .bool k => ∃ d : Bool, (k = true → c env fun w => f' y w fun z' => match z' with
      | .bool k' => ∃ d' : Bool, (k' = true → e env fun v => f2 w v fun z2 => z2 = .bool d') ∧ (k' && d') = d
      | _ => False) ∧ Q (.bool (k && d))
  | _ => False
theorem snd_chn4 {K : PySem.W.Frag} {ok : List D → Prop} {r r' r2 : R2} {f f' f2 : D → D → (D → Prop) → Prop} {ta tb tc td : TE} {wa wb wc we : WE} (hr : OpD K r f) (hr' : OpD K r' f') (hr2 : OpD K r2 f2) (ha : SndE K ok ta wa) (hb : SndE K ok tb wb) (hc : SndE K ok tc wc) (he : SndE K ok td we) : SndE K ok (tChain4 r r' r2 ta tb tc td) (wChn4 f f' f2 wa wb wc we) := fun C H0 σ H env Q R rel hw k =>
  ha C H0 σ H env _ _ rel hw fun d v H1 H01 q r1 e1 x1 => hb C H01 σ H1 env _ _ r1 q fun e u H2 H02 q2 rl2 e2 x2 =>
    hr H02 H2 v u d e _ _ rl2.sub (x1.mono e2) x2 q2 fun z w qz rz => by
      try dsimp only at qz
      split at qz
      · rename_i k1
        cases rz
        obtain ⟨d1, q3, q4⟩ := qz
        refine ⟨k1, rfl, ?_⟩
        cases k1 with
        | false => exact iteF (k _ _ _ _ q4 rl2 (e1.trans e2) (.bl _))
        | true =>
          refine iteT (hc C H02 σ H2 env _ _ rl2 (q3 rfl) fun g t H3 H03 q5 rl3 e3 x3 => hr' H03 H3 u t e g _ _ rl3.sub (x2.mono e3) x3 q5 fun z2 w2 qz2 rz2 => ?_)
          try dsimp only at qz2
          split at qz2
          · rename_i k2
            cases rz2
            obtain ⟨d2, q6, q7⟩ := qz2
            refine ⟨k2, rfl, ?_⟩
            cases k2 with
            | false =>
              refine iteF (k _ _ _ _ ?_ rl3 ((e1.trans e2).trans e3) (.bl _))
              rw [← q7] at q4
              exact q4
            | true =>
              refine iteT (he C H03 σ H3 env _ _ rl3 (q6 rfl) fun g2 t2 H4 H04 q8 rl4 e4 x4 => hr2 H04 H4 t t2 g g2 _ _ rl4.sub (x3.mono e4) x4 q8 fun z3 w3 qz3 rz3 => ?_)
              subst qz3
              cases rz3
              refine k _ _ _ _ ?_ rl4 (((e1.trans e2).trans e3).trans e4) (.bl _)
              rw [← q7] at q4
              exact q4
          · exact qz2.elim
      · exact qz.elim
theorem d_chn4 {o1 o2 o3 : CmpOp} {r r' r2 : R2} {f f' f2 : D → D → (D → Prop) → Prop} (h1 : OpR X (compareOp o1) r) (f1 : OpD X.K r f) (h2 : OpR X (compareOp o2) r') (g2 : OpD X.K r' f') (h3 : OpR X (compareOp o3) r2) (g3 : OpD X.K r2 f2) (ha : PDE X ok a wa) (hb : PDE X ok b wb) (hc : PDE X ok c wc) (he : PDE X ok e we)
    (hm : lastMarks [o1, o2, o3] [b, c, e] = false := by with_unfolding_all rfl) : PDE X ok (.Compare a [o1, o2, o3] [b, c, e] pos) (wChn4 f f' f2 wa wb wc we) :=
  let ⟨_, a1, a2⟩ := ha; let ⟨_, b1, b2⟩ := hb; let ⟨_, c1, c2⟩ := hc; let ⟨_, e1, e2⟩ := he; ⟨_, pe_chain4 h1 h2 h3 a1 b1 c1 e1 hm, snd_chn4 f1 g2 g3 a2 b2 c2 e2⟩
end
end DL
/-! DL, part l: a dict of one's own, keyed by ints and texts. -/
namespace DL
open PySem PySem.Spec PyProof.Rows L2
def dKey : D → Option Key
  | .int i => some (.inl i)
  | .str s => some (.inr s)
  | _ => none
/-- what a dict holds at a key -/
def dAt : List (Key × D) → Key → Option D
  | [], _ => none
  | p :: r, k => if p.1 = k then some p.2 else dAt r k
def dRep : List (Key × D) → Key → D → List (Key × D)
  | [], _, _ => []
  | p :: r, k, d => (if p.1 = k then (p.1, d) else p) :: dRep r k d
def dSet (kvs : List (Key × D)) (k : Key) (d : D) : List (Key × D) := if (dAt kvs k).isSome = true then dRep kvs k d else kvs ++ [(k, d)]
theorem dAt_snoc (k j : Key) (d : D) : ∀ kvs : List (Key × D), dAt kvs k = none → dAt (kvs ++ [(k, d)]) j = if j = k then some d else dAt kvs j
  | [], _ => by
    show (if k = j then some d else none) = _
    by_cases h : k = j
    · rw [if_pos h, if_pos h.symm]
    · rw [if_neg h, if_neg fun z => h z.symm]; rfl
  | p :: r, hn => by
    have hp : ¬ p.1 = k := fun z => by
      have : dAt (p :: r) k = some p.2 := if_pos z
      rw [this] at hn; cases hn
    have hr : dAt r k = none := by
      have : dAt (p :: r) k = dAt r k := if_neg hp
      rw [← this]; exact hn
    show (if p.1 = j then some p.2 else dAt (r ++ [(k, d)]) j) = if j = k then some d else (if p.1 = j then some p.2 else dAt r j)
    rw [dAt_snoc k j d r hr]
    by_cases h : p.1 = j
    · rw [if_pos h, if_pos h, if_neg fun z => hp (h.trans z)]
    · rw [if_neg h, if_neg h]
theorem dAt_rep (k j : Key) (d : D) : ∀ kvs : List (Key × D), dAt (dRep kvs k d) j = if j = k then (dAt kvs k).map (fun _ => d) else dAt kvs j
  | [] => by
    show none = _
    by_cases h : j = k
    · rw [if_pos h]; rfl
    · rw [if_neg h]; rfl
  | p :: r => by
    have ih := dAt_rep k j d r
    show (if (if p.1 = k then (p.1, d) else p).1 = j then some (if p.1 = k then (p.1, d) else p).2 else dAt (dRep r k d) j) = if j = k then (if p.1 = k then some p.2 else dAt r k).map (fun _ => d) else (if p.1 = j then some p.2 else dAt r j)
    by_cases hk : p.1 = k
    · rw [if_pos hk, if_pos hk]
      show (if p.1 = j then some d else dAt (dRep r k d) j) = _
      by_cases hj : j = k
      · rw [if_pos (hk.trans hj.symm), if_pos hj]; rfl
      · rw [if_neg fun z => hj (z.symm.trans hk), if_neg hj, if_neg fun z => hj (z.symm.trans hk), ih, if_neg hj]
    · rw [if_neg hk, if_neg hk]
      by_cases hj : j = k
      · rw [if_pos hj, if_neg fun z => hk (z.trans hj), ih, if_pos hj]
      · rw [if_neg hj, ih, if_neg hj]
theorem dAt_set (kvs : List (Key × D)) (k j : Key) (d : D) : dAt (dSet kvs k d) j = if j = k then some d else dAt kvs j := by
  unfold dSet
  cases h : dAt kvs k with
  | none => rw [if_neg (show ¬ (none : Option D).isSome = true by decide)]; exact dAt_snoc k j d kvs h
  | some x =>
    rw [if_pos (show (some x).isSome = true from rfl), dAt_rep, h]
    rfl
theorem dRep_len (k : Key) (d : D) : ∀ kvs : List (Key × D), (dRep kvs k d).length = kvs.length
  | [] => rfl
  | p :: r => by
    show (dRep r k d).length + 1 = r.length + 1
    rw [dRep_len k d r]
theorem dSet_len (kvs : List (Key × D)) (k : Key) (d : D) : (dSet kvs k d).length ≤ kvs.length + 1 := by
  unfold dSet
  split
  · rw [dRep_len]; omega
  · rw [List.length_append]; exact Nat.le_refl _
/-! ### what is asked -/
def wSetD (i : Nat) : WS := fun W env => W.nx (env.set i (some (.dct [])))
def wDGet1 (i : Nat) (k : WE) : WE := fun env Q => match get env i with
  | some (.dct kvs) => k env fun y => ∃ z v, dKey y = some z ∧ (dAt kvs z).getD .none = v ∧ Q v
  | _ => False
def wDGet2 (i : Nat) (k a : WE) : WE := fun env Q => match get env i with
  | some (.dct kvs) => k env fun y => a env fun d => ∃ z v, dKey y = some z ∧ (dAt kvs z).getD d = v ∧ Q v
  | _ => False
def wDIx (i : Nat) (k : WE) : WE := fun env Q => match get env i with
  | some (.dct kvs) => k env fun y => ∃ z d, dKey y = some z ∧ dAt kvs z = some d ∧ Q d
  | _ => False
def wDIn (i : Nat) (k : WE) : WE := fun env Q => match get env i with
  | some (.dct kvs) => k env fun y => ∃ z b, dKey y = some z ∧ (dAt kvs z).isSome = b ∧ Q (.bool b)
  | _ => False
def wDNin (i : Nat) (k : WE) : WE := fun env Q => match get env i with
  | some (.dct kvs) => k env fun y => ∃ z b, dKey y = some z ∧ (dAt kvs z).isSome = b ∧ Q (.bool (!b))
  | _ => False
def wDPut (i : Nat) (k a : WE) : WS := fun W env => match get env i with
  | some (.dct kvs) => a env fun d => k env fun y => ∃ z, dKey y = some z ∧ kvs.length < 1000000 ∧ W.nx (env.set i (some (.dct (dSet kvs z d))))
  | _ => False
/-! ### soundness -/
section
variable {K : PySem.W.Frag} {ok : List D → Prop} {C : Ctx} {H0 H : Hp}
theorem dKey_V {v : V} {y : D} {z : Key} (h : Rp K H v y) (e : dKey y = some z) : v = kV z := by
  cases y with
  | int i => cases e; cases h; rfl
  | str s => cases e; cases h; rfl
  | none => cases e
  | bool b => cases e
  | list ds => cases e
  | tuple ds => cases e
  | dict ds => cases e
theorem krps_at : ∀ {ks : List (Key × V)} {es : List (Key × D)}, KRps K H ks es → ∀ z : Key, (valV ks z = none ∧ dAt es z = none) ∨ ∃ v d, valV ks z = some v ∧ dAt es z = some d ∧ Rp K H v d
  | [], [], _, z => .inl ⟨rfl, rfl⟩
  | [], _ :: _, h, _ => by have := h.1; simp at this
  | _ :: _, [], h, _ => by have := h.1; simp at this
  | p :: ks, q :: es, h, z => by
    obtain ⟨h1, h2⟩ := h
    rw [List.map_cons, List.map_cons] at h1 h2
    injection h1 with h3 h4
    obtain ⟨v, ws, e, r1, r2⟩ := h2.cons_inv
    injection e with e1 e2
    by_cases hz : q.1 = z
    · refine .inr ⟨p.2, q.2, valV_pos (h3.trans hz), if_pos hz, ?_⟩
      rw [e1]; exact r1
    · have := krps_at (ks := ks) (es := es) ⟨h4, by rw [e2]; exact r2⟩ z
      rw [valV_neg fun y => hz (h3.symm.trans y)]
      show (_ ∧ (if q.1 = z then some q.2 else dAt es z) = none) ∨ ∃ v d, _ ∧ (if q.1 = z then some q.2 else dAt es z) = some d ∧ _
      rw [if_neg hz]
      exact this
theorem krps_rep : ∀ {ks : List (Key × V)} {es : List (Key × D)}, KRps K H ks es → ∀ (z : Key) {v : V} {d : D}, Rp K H v d → KRps K H (ks.map fun kv => if kv.1 = z then (kv.1, v) else kv) (dRep es z d)
  | [], [], _, z, v, d, _ => ⟨rfl, .nil⟩
  | [], _ :: _, h, _, _, _, _ => by have := h.1; simp at this
  | _ :: _, [], h, _, _, _, _ => by have := h.1; simp at this
  | p :: ks, q :: es, h, z, v, d, hr => by
    obtain ⟨h1, h2⟩ := h
    rw [List.map_cons, List.map_cons] at h1 h2
    injection h1 with h3 h4
    obtain ⟨v', ws, e, r1, r2⟩ := h2.cons_inv
    injection e with e1 e2
    have ih := krps_rep (ks := ks) (es := es) ⟨h4, by rw [e2]; exact r2⟩ z hr
    by_cases hz : q.1 = z
    · rw [List.map_cons, if_pos (h3.trans hz)]
      show KRps K H ((p.1, v) :: _) ((if q.1 = z then (q.1, d) else q) :: _)
      rw [if_pos hz]
      exact ⟨by rw [List.map_cons, List.map_cons, ih.1, h3], .cons hr ih.2⟩
    · rw [List.map_cons, if_neg fun y => hz (h3.symm.trans y)]
      show KRps K H (p :: _) ((if q.1 = z then (q.1, d) else q) :: _)
      rw [if_neg hz]
      exact ⟨by rw [List.map_cons, List.map_cons, ih.1, h3], .cons (by rw [e1]; exact r1) ih.2⟩
theorem krps_set {ks : List (Key × V)} {es : List (Key × D)} (h : KRps K H ks es) (z : Key) {v : V} {d : D} (hr : Rp K H v d) : KRps K H (putK ks z v) (dSet es z d) := by
  unfold putK dSet
  rw [valV_any]
  rcases krps_at h z with ⟨e1, e2⟩ | ⟨w, x, e1, e2, _⟩
  · rw [e1, e2]
    refine ⟨?_, ?_⟩
    · show (ks ++ [(z, v)]).map Prod.fst = (es ++ [(z, d)]).map Prod.fst
      rw [List.map_append, List.map_append, h.1]; rfl
    · show Rps K H ((ks ++ [(z, v)]).map Prod.snd) ((es ++ [(z, d)]).map Prod.snd)
      rw [List.map_append, List.map_append]
      exact h.2.append (.one hr)
  · rw [e1, e2]
    exact krps_rep h z hr
theorem krps_len {ks : List (Key × V)} {es : List (Key × D)} (h : KRps K H ks es) : ks.length = es.length := by
  have := congrArg List.length h.1
  rwa [List.length_map, List.length_map] at this
variable {tk ta : TE} {wk wa : WE} {i : Nat}
theorem ss_setD : SndS K ok (tAsg tDNewK (gName i)) (wSetD i) := fun C H0 σ H env E W rel hw h => by
  show ∀ p, H p = none → _
  intro p hp
  exact h.nx _ _ _ H0 (Same.refl _) ((rel.laid0 hp).setO (s := .dct []) ⟨p, [], rfl, rel.fresh hp, rel.sub.free hp, upd_same, rfl, .nil⟩ rfl (rel.kp.free hp) fun j t _ ht ot => rel.noslot hp j t ht ot) hw
theorem snd_dget1 (hk : SndE K ok tk wk) : SndE K ok (tDGet1 (tVar i) tk) (wDGet1 i wk) := fun C H0 σ H env Q R rel hw k => by
  unfold wDGet1 at hw
  split at hw
  · rename_i kvs hd
    obtain ⟨p, ks, e, n, n0, hp, kr⟩ := rel.slot i _ (get_eq hd)
    refine ⟨.ref p, e, p, rfl, .inl ⟨ks, .inl hp⟩, hk C H0 σ H env _ _ rel hw fun y v H1 H01 q r1 e1 x1 => ?_⟩
    obtain ⟨p', ks1, e', n, n0, hp1, kr1⟩ := r1.slot i _ (get_eq hd)
    rw [e] at e'
    cases e'
    obtain ⟨z, w0, hz, hw0, q⟩ := q
    subst hw0
    have ev := dKey_V x1 hz
    subst ev
    refine ⟨_, DGet.k hp1, ?_⟩
    rcases krps_at kr1 z with ⟨a1, a2⟩ | ⟨w, d, a1, a2, r⟩
    · rw [a1]
      rw [a2] at q
      exact k _ _ H1 H01 q r1 e1 .non
    · rw [a1]
      rw [a2] at q
      exact k _ _ H1 H01 q r1 e1 r
  · exact hw.elim
theorem snd_dget2 (hk : SndE K ok tk wk) (ha : SndE K ok ta wa) : SndE K ok (tDGet2 (tVar i) tk ta) (wDGet2 i wk wa) := fun C H0 σ H env Q R rel hw k => by
  unfold wDGet2 at hw
  split at hw
  · rename_i kvs hd
    obtain ⟨p, ks, e, n, n0, hp, kr⟩ := rel.slot i _ (get_eq hd)
    refine ⟨.ref p, e, p, rfl, .inl ⟨ks, .inl hp⟩, hk C H0 σ H env _ _ rel hw fun y v H1 H01 q r1 e1 x1 => ha C H01 σ H1 env _ _ r1 q fun d u H2 H02 q r2 e2 x2 => ?_⟩
    obtain ⟨p', ks1, e', n, n0, hp1, kr1⟩ := r2.slot i _ (get_eq hd)
    rw [e] at e'
    cases e'
    obtain ⟨z, w0, hz, hw0, q⟩ := q
    subst hw0
    have ev := dKey_V x1 hz
    subst ev
    refine ⟨_, DGet.k hp1, ?_⟩
    rcases krps_at kr1 z with ⟨a1, a2⟩ | ⟨w, d', a1, a2, r⟩
    · rw [a1]
      rw [a2] at q
      exact k _ _ H2 H02 q r2 (e1.trans e2) x2
    · rw [a1]
      rw [a2] at q
      exact k _ _ H2 H02 q r2 (e1.trans e2) r
  · exact hw.elim
theorem snd_dix (hk : SndE K ok tk wk) : SndE K ok (tDGet (tVar i) tk) (wDIx i wk) := fun C H0 σ H env Q R rel hw k => by
  unfold wDIx at hw
  split at hw
  · rename_i kvs hd
    obtain ⟨p, ks, e, n, n0, hp, kr⟩ := rel.slot i _ (get_eq hd)
    refine ⟨.ref p, e, hk C H0 σ H env _ _ rel hw fun y v H1 H01 q r1 e1 x1 => ?_⟩
    obtain ⟨p', ks1, e', n, n0, hp1, kr1⟩ := r1.slot i _ (get_eq hd)
    rw [e] at e'
    cases e'
    obtain ⟨z, d, hz, hd', q⟩ := q
    have ev := dKey_V x1 hz
    subst ev
    rcases krps_at kr1 z with ⟨a1, a2⟩ | ⟨w, d', a1, a2, r⟩
    · rw [hd'] at a2; cases a2
    · rw [hd'] at a2
      cases a2
      exact ⟨p, w, rfl, by rw [← a1]; exact DGet.k hp1, k _ _ H1 H01 q r1 e1 r⟩
  · exact hw.elim
theorem snd_din (hk : SndE K ok tk wk) : SndE K ok (tDIn tk (tVar i)) (wDIn i wk) := fun C H0 σ H env Q R rel hw k => by
  unfold wDIn at hw
  split at hw
  · rename_i kvs hd
    refine hk C H0 σ H env _ _ rel hw fun y v H1 H01 q r1 e1 x1 => ?_
    obtain ⟨p, ks1, e, n, n0, hp1, kr1⟩ := r1.slot i _ (get_eq hd)
    obtain ⟨z, w0, hz, hw0, q⟩ := q
    subst hw0
    have ev := dKey_V x1 hz
    subst ev
    refine ⟨.ref p, e, p, _, rfl, DGet.k hp1, ?_⟩
    have : (valV ks1 z).isSome = (dAt kvs z).isSome := by
      rcases krps_at kr1 z with ⟨a1, a2⟩ | ⟨w, d', a1, a2, r⟩ <;> rw [a1, a2] <;> rfl
    rw [this]
    exact k _ _ H1 H01 q r1 e1 (.bl _)
  · exact hw.elim
theorem snd_dnin (hk : SndE K ok tk wk) : SndE K ok (tDNotIn tk (tVar i)) (wDNin i wk) := fun C H0 σ H env Q R rel hw k => by
  unfold wDNin at hw
  split at hw
  · rename_i kvs hd
    refine hk C H0 σ H env _ _ rel hw fun y v H1 H01 q r1 e1 x1 => ?_
    obtain ⟨p, ks1, e, n, n0, hp1, kr1⟩ := r1.slot i _ (get_eq hd)
    obtain ⟨z, w0, hz, hw0, q⟩ := q
    subst hw0
    have ev := dKey_V x1 hz
    subst ev
    refine ⟨.ref p, e, p, _, rfl, DGet.k hp1, ?_⟩
    have : (valV ks1 z).isSome = (dAt kvs z).isSome := by
      rcases krps_at kr1 z with ⟨a1, a2⟩ | ⟨w, d', a1, a2, r⟩ <;> rw [a1, a2] <;> rfl
    rw [this]
    exact k _ _ H1 H01 q r1 e1 (.bl _)
  · exact hw.elim
theorem ss_dput (ha : SndE K ok ta wa) (hk : SndE K ok tk wk) : SndS K ok (sDPut (tVar i) tk ta) (wDPut i wk wa) := fun C H0 σ H env E W rel hw h => by
  unfold wDPut at hw
  split at hw
  · rename_i kvs hd
    refine ha C H0 σ H env _ _ rel hw fun d v H1 H01 q r1 e1 x1 => ?_
    obtain ⟨p, ks, e, n, n0, hp, kr⟩ := r1.slot i _ (get_eq hd)
    refine ⟨.ref p, e, hk C H01 σ H1 env _ _ r1 q fun y u H2 H02 q r2 e2 x2 => ?_⟩
    obtain ⟨p', ks1, e', n, n0, hp1, kr1⟩ := r2.slot i _ (get_eq hd)
    rw [e] at e'
    cases e'
    obtain ⟨z, hz, hl, q⟩ := q
    have ev := dKey_V x2 hz
    subst ev
    refine ⟨p, _, rfl, DPut.k hp1 (by rw [krps_len kr1]; exact lt_size hl), ?_⟩
    exact h.nx _ _ _ H02 (e1.trans e2) (r2.put (s := .dct kvs) (t := .dct (dSet kvs z d)) (get_eq hd) rfl e (fun y => by obtain ⟨⟨o, w⟩, _⟩ := r2.hv p y; rw [n] at w; cases w) rfl ⟨p, _, rfl, n, n0, upd_same, krps_set kr1 z (x1.mono e2)⟩) q
  · exact hw.elim
end
section
variable {X : Cx} {ok : List D → Prop} {a b e : Expr} {wa wb we : WE} {pos : Pos} {x : Str}
theorem s_setD (i : Nat) {pos' dpos : Pos} (hN : X.N.Nodup) (hi : X.N[i]? = some x := by rfl) (hx : Loc X.env.scope x := by first | exact Or.inl rfl | exact Or.inr rfl) (hs : swapsWith (.Dict [] [] dpos) (some (.Name x pos')) pos.line X.env = pure false := by rfl) (hf : X.fn x = true ∨ X.env.scope.names.lookup x = some .local := by first | exact .inl rfl | exact .inr rfl) :
    PDS X ok (.Assign [.Name x pos'] (.Dict [] [] dpos) pos) (wSetD i) := ⟨_, ps_set hN hi hx pe_dnewK hs hf, ss_setD⟩
theorem d_dget1 {k : Nat} (i : Nat) {apos mp : Pos} (hr : Room k X.A) (ha : PDE X ok a wa) (hN : X.N[i]? = some x := by rfl) (hv : Vis X.env.scope x := by first | exact Or.inl rfl | exact Or.inr (Or.inl rfl) | exact Or.inr (Or.inr rfl)) (hd : (x == ("__debug__" : Str)) = false := by decide) (hcd : (x == ("__classdict__" : Str)) = false := by decide)
    (m1 : attributeBase (.Name x mp) "get" X.env (eval (.Name x mp) X.env) = eval (.Name x mp) X.env := by rfl)
    (m2 : ((backTo pos (starEach [a] X.env)).all (fun x => !x.1) && (backToKw pos (keywordEach [] X.env)).all (fun x => x.1.isSome) && decide (([a] : List Expr).length + ([] : List Keyword).length + (if ([] : List Keyword).isEmpty then 0 else 1) < 30)) = true := by rfl)
    (m3 : (apos.endLine == pos.line) = true := by rfl) (m4 : backTo pos (starEach [a] X.env) = [(false, eval a X.env)] := by rfl) :
    PDE X ok (.Call (.Attribute (.Name x mp) "get" apos) [a] [] pos) (wDGet1 i wa) := let ⟨_, a1, a2⟩ := ha; ⟨_, pe_dget1 (by have := units65 hr; omega) (pe_var hN hv hd hcd) a1 ⟨m1, m2, m3, m4⟩, snd_dget1 a2⟩
theorem d_dget2 {k : Nat} (i : Nat) {apos mp : Pos} (hr : Room k X.A) (ha : PDE X ok a wa) (hb : PDE X ok b wb) (hN : X.N[i]? = some x := by rfl) (hv : Vis X.env.scope x := by first | exact Or.inl rfl | exact Or.inr (Or.inl rfl) | exact Or.inr (Or.inr rfl)) (hd : (x == ("__debug__" : Str)) = false := by decide) (hcd : (x == ("__classdict__" : Str)) = false := by decide)
    (m1 : attributeBase (.Name x mp) "get" X.env (eval (.Name x mp) X.env) = eval (.Name x mp) X.env := by rfl)
    (m2 : ((backTo pos (starEach [a, b] X.env)).all (fun x => !x.1) && (backToKw pos (keywordEach [] X.env)).all (fun x => x.1.isSome) && decide (([a, b] : List Expr).length + ([] : List Keyword).length + (if ([] : List Keyword).isEmpty then 0 else 1) < 30)) = true := by rfl)
    (m3 : (apos.endLine == pos.line) = true := by rfl) (m4 : backTo pos (starEach [a, b] X.env) = [(false, eval a X.env), (false, eval b X.env)] := by rfl) :
    PDE X ok (.Call (.Attribute (.Name x mp) "get" apos) [a, b] [] pos) (wDGet2 i wa wb) := let ⟨_, a1, a2⟩ := ha; let ⟨_, b1, b2⟩ := hb; ⟨_, pe_dget2 (by have := units65 hr; omega) (pe_var hN hv hd hcd) a1 b1 ⟨m1, m2, m3, m4⟩, snd_dget2 a2 b2⟩
theorem d_dix {k : Nat} (i : Nat) {mp : Pos} (hr : Room k X.A) (ha : PDE X ok a wa) (hN : X.N[i]? = some x := by rfl) (hv : Vis X.env.scope x := by first | exact Or.inl rfl | exact Or.inr (Or.inl rfl) | exact Or.inr (Or.inr rfl)) (hd : (x == ("__debug__" : Str)) = false := by decide) (hcd : (x == ("__classdict__" : Str)) = false := by decide)
    (hs : NoSl a := by exact fun _ _ => rfl) : PDE X ok (.Subscript (.Name x mp) a pos) (wDIx i wa) := let ⟨_, a1, a2⟩ := ha; ⟨_, pe_dget (by have := units65 hr; omega) (pe_var hN hv hd hcd) a1 hs, snd_dix a2⟩
theorem d_din {k : Nat} (i : Nat) {mp : Pos} (hr : Room k X.A) (ha : PDE X ok a wa) (hN : X.N[i]? = some x := by rfl) (hv : Vis X.env.scope x := by first | exact Or.inl rfl | exact Or.inr (Or.inl rfl) | exact Or.inr (Or.inr rfl)) (hd : (x == ("__debug__" : Str)) = false := by decide) (hcd : (x == ("__classdict__" : Str)) = false := by decide)
    (hm : behindInMarks .In (.Name x mp) = false := by rfl) : PDE X ok (.Compare a [.In] [.Name x mp] pos) (wDIn i wa) := let ⟨_, a1, a2⟩ := ha; ⟨_, pe_cmp (pc_din (by have := units65 hr; omega) a1 (pe_var hN hv hd hcd)) hm, snd_din a2⟩
theorem d_dnin {k : Nat} (i : Nat) {mp : Pos} (hr : Room k X.A) (ha : PDE X ok a wa) (hN : X.N[i]? = some x := by rfl) (hv : Vis X.env.scope x := by first | exact Or.inl rfl | exact Or.inr (Or.inl rfl) | exact Or.inr (Or.inr rfl)) (hd : (x == ("__debug__" : Str)) = false := by decide) (hcd : (x == ("__classdict__" : Str)) = false := by decide)
    (hm : behindInMarks .NotIn (.Name x mp) = false := by rfl) : PDE X ok (.Compare a [.NotIn] [.Name x mp] pos) (wDNin i wa) := let ⟨_, a1, a2⟩ := ha; ⟨_, pe_cmp (pc_dnotin (by have := units65 hr; omega) a1 (pe_var hN hv hd hcd)) hm, snd_dnin a2⟩
theorem t_din {k : Nat} (i : Nat) {mp : Pos} (hr : Room k X.A) (ha : PDE X ok a wa) (hN : X.N[i]? = some x := by rfl) (hv : Vis X.env.scope x := by first | exact Or.inl rfl | exact Or.inr (Or.inl rfl) | exact Or.inr (Or.inr rfl)) (hd : (x == ("__debug__" : Str)) = false := by decide) (hcd : (x == ("__classdict__" : Str)) = false := by decide)
    (hm : behindInMarks .In (.Name x mp) = false := by rfl) : PDT X ok (.Compare a [.In] [.Name x mp] pos) (wTest (wDIn i wa)) := let ⟨_, a1, a2⟩ := ha; ⟨_, pt_cmp (pc_din (by have := units65 hr; omega) a1 (pe_var hN hv hd hcd)) hm, snd_tB (snd_din a2)⟩
theorem t_dnin {k : Nat} (i : Nat) {mp : Pos} (hr : Room k X.A) (ha : PDE X ok a wa) (hN : X.N[i]? = some x := by rfl) (hv : Vis X.env.scope x := by first | exact Or.inl rfl | exact Or.inr (Or.inl rfl) | exact Or.inr (Or.inr rfl)) (hd : (x == ("__debug__" : Str)) = false := by decide) (hcd : (x == ("__classdict__" : Str)) = false := by decide)
    (hm : behindInMarks .NotIn (.Name x mp) = false := by rfl) : PDT X ok (.Compare a [.NotIn] [.Name x mp] pos) (wTest (wDNin i wa)) := let ⟨_, a1, a2⟩ := ha; ⟨_, pt_cmp (pc_dnotin (by have := units65 hr; omega) a1 (pe_var hN hv hd hcd)) hm, snd_tB (snd_dnin a2)⟩
theorem s_dput {k : Nat} (i : Nat) {tp mp : Pos} {ix : Expr} (hr : Room k X.A) (he : PDE X ok e we) (hk : PDE X ok ix wa) (hN : X.N[i]? = some x := by rfl) (hv : Vis X.env.scope x := by first | exact Or.inl rfl | exact Or.inr (Or.inl rfl) | exact Or.inr (Or.inr rfl)) (hd : (x == ("__debug__" : Str)) = false := by decide) (hcd : (x == ("__classdict__" : Str)) = false := by decide)
    (hs : swapsWith e (some (.Subscript (.Name x mp) ix tp)) pos.line X.env = pure false := by rfl) :
    PDS X ok (.Assign [.Subscript (.Name x mp) ix tp] e pos) (wDPut i wa we) := let ⟨_, e1, e2⟩ := he; let ⟨_, k1, k2⟩ := hk; ⟨_, ps_dput (by have := units65 hr; omega) (pe_var hN hv hd hcd) k1 e1 hs, ss_dput e2 k2⟩
end
end DL
/-! DL, part m: a list of one's own, lent to a call that hands back no list. -/
namespace DL
open PySem PySem.Spec PyProof.Rows L2
/-- no list within -/
def noL : Nat → D → Bool
  | _, .none => true
  | _, .bool _ => true
  | _, .int _ => true
  | _, .str _ => true
  | k + 1, .tuple ds => ds.all (noL k)
  | _, _ => false
def delA (H : Hp) (p : Addr) : Hp := fun b => if b = p then none else H b
theorem delA_ne {H : Hp} {p b : Addr} (h : b ≠ p) : delA H p b = H b := if_neg h
theorem delA_self {H : Hp} {p : Addr} : delA H p p = none := if_pos rfl
section
variable {K : PySem.W.Frag} {ok : List D → Prop}
theorem sqT_del {H : Hp} {p a : Addr} {xs ws : List V} (hp : H p = some (.lst ws)) (h : SqT K H a xs) : SqT K (delA H p) a xs := by
  rcases h with (h | ⟨o, h⟩) | h
  · refine .inl (.inl ?_)
    rw [delA_ne fun z => by subst z; rw [hp] at h; cases h]
    exact h
  · refine .inl (.inr ⟨o, ?_⟩)
    rw [delA_ne fun z => by subst z; rw [hp] at h; cases h]
    exact h
  · exact .inr h
theorem rps_del {H : Hp} {p : Addr} {k : Nat} (ih : ∀ v d, Rp K H v d → noL k d = true → Rp K (delA H p) v d) : ∀ {vs : List V} {ds : List D}, Rps K H vs ds → ds.all (noL k) = true → Rps K (delA H p) vs ds
  | _, _, .nil, _ => .nil
  | _, _, .cons h t, e => by
    rw [List.all_cons, Bool.and_eq_true] at e
    exact .cons (ih _ _ h e.1) (rps_del ih t e.2)
theorem rp_del {H : Hp} {p : Addr} {ws : List V} (hp : H p = some (.lst ws)) : ∀ (k : Nat) (v : V) (d : D), Rp K H v d → noL k d = true → Rp K (delA H p) v d
  | k, _, _, .non, _ => .non
  | k, _, _, .bl b, _ => .bl b
  | k, _, _, .int i, _ => .int i
  | k, _, _, .str x, _ => .str x
  | 0, _, _, .lst _ _, e => by cases e
  | 0, _, _, .tup _ _, e => by cases e
  | 0, _, _, .scr _, e => by cases e
  | k + 1, _, _, .lst _ _, e => by cases e
  | k + 1, _, _, .scr _, e => by cases e
  | 0, _, _, .dct _ _ _ _, e => by cases e
  | 0, _, _, .dci _ _ _, e => by cases e
  | 0, _, _, .fn _, e => by cases e
  | 0, _, _, .ob _ _ _ _, e => by cases e
  | k + 1, _, _, .dct _ _ _ _, e => by cases e
  | k + 1, _, _, .dci _ _ _, e => by cases e
  | k + 1, _, _, .fn _, e => by cases e
  | k + 1, _, _, .ob _ _ _ _, e => by cases e
  | k + 1, _, _, .tup h r, e => .tup (sqT_del hp h) (rps_del (rp_del hp k) r e)
end
def wLend2 (M : WM) (a : WE) (i : Nat) : WE := fun env Q => match get env i with
  | some (.own ds) => a env fun x => M [.v x, .v (.list ds)] fun r => (∃ k, noL k r.val = true) ∧ Q r.val
  | _ => False
section
variable {K : PySem.W.Frag} {ok : List D → Prop}
theorem snd_lend2 {M : WM} {te : TE} {we : WE} {i : Nat} {E : XK} (he : SndE K ok te we) : SndE K ok (tCall (SpD K ok 2 M) [] E (tCons te (tCons (tVar i) tNil))) (wLend2 M we i) := fun C H0 σ H env Q R rel hw k => by
  unfold wLend2 at hw
  split at hw
  · rename_i ds hd
    refine he C H0 σ H env _ _ rel hw fun x u H1 H01 q r1 e1 x1 => ?_
    obtain ⟨p, e, n, n0, vs, hp, hr⟩ := r1.slot i _ (get_eq hd)
    refine ⟨.ref p, e, ?_⟩
    show SpD K ok 2 M ([u, .ref p] ++ []) H1 R E
    rw [List.append_nil]
    have g0 : Same H01 (upd H01 p (.lst vs)) := same_new n0
    refine ⟨upd H01 p (.lst vs), none, [.v x, .v (.list ds)], _, rfl, rfl, rfl, fun b o hb => ?_, .cons (x1.mono g0) (.cons (.lst upd_same (hr.mono g0)) .nil), fun a z => (by cases z), q, fun v H' r H02 hq P => ?_⟩
    · by_cases h : b = p
      · subst h; rw [upd_same] at hb; rw [hp]; exact hb
      · rw [upd_ne h] at hb; exact r1.sub _ _ hb
    have hp2 : H02 p = some (.lst vs) := P.grow _ _ upd_same
    have e0 : Same H01 (delA H02 p) := fun b o hb => by
      have hbp : b ≠ p := fun z => by subst z; rw [n0] at hb; cases hb
      rw [delA_ne hbp]
      exact P.grow _ _ (g0 _ _ hb)
    have kp : Same H1 H' := fun b o hb => P.fr b o hb (by simp)
    have r2 := r1.step e0 (H1 := H') (fun b o hb => by
      have hbp : b ≠ p := fun z => by subst z; rw [delA_self] at hb; cases hb
      rw [delA_ne hbp] at hb
      exact P.sub _ _ hb) (fun b o hb => by
      have hbp : b ≠ p := fun z => by subst z; rw [delA_self] at hb; cases hb
      rw [delA_ne hbp] at hb
      rcases P.new b o hb with z | z
      · rw [upd_ne hbp] at z; exact .inl z
      · exact .inr z) kp
    obtain ⟨⟨m, hm⟩, hq2⟩ := hq
    have z := P.res
    cases r with
    | v d => exact k _ _ H' _ hq2 r2 (e1.trans e0) (rp_del hp2 m _ _ z hm)
    | own ds' => cases m <;> cases hm
    | two d ds' => cases m <;> cases hm
  · exact hw.elim
end
section
variable {X : Cx} {ok : List D → Prop} {a : Expr} {wa : WE} {pos : Pos} {x : Str}
theorem d_lend2 {k j : Nat} {M : WM} {f : Str} {p mp : Pos} (i : Nat) (h : Has X.prog X.w X.K X.mg X.base ok k f 2 M) (hr : Room j X.A) (hk : k ≤ j) (ha : PDE X ok a wa) (hN : X.N[i]? = some x := by rfl) (hv : Vis X.env.scope x := by first | exact Or.inl rfl | exact Or.inr (Or.inl rfl) | exact Or.inr (Or.inr rfl)) (hd : (x == ("__debug__" : Str)) = false := by decide) (hcd : (x == ("__classdict__" : Str)) = false := by decide)
    (hg : Gl X f := by rfl) (hdb : (f == ("__debug__" : Str)) = false := by decide)
    (he : starEach [a, .Name x mp] X.env = (false, eval a X.env) :: starEach [.Name x mp] X.env := by rfl) (hpl : (backTo pos (starEach [.Name x mp] X.env)).any (·.1) = false := by rfl)
    (hs2 : starEach [.Name x mp] X.env = (false, eval (.Name x mp) X.env) :: starEach [] X.env := by rfl) :
    PDE X ok (.Call (.Name f p) [a, .Name x mp] [] pos) (wLend2 M wa i) :=
  let ⟨f, fd, ps, G, hm, kp, bs⟩ := h.ex; let ⟨_, a1, a2⟩ := ha; ⟨_, pe_call G (hr.mono hk) hg hm kp bs .nil pass0 (pa_cons a1 (pa_cons (pe_var hN hv hd hcd) pa_nil hs2) he) hdb he hpl, snd_lend2 a2⟩
end
end DL
/-! DL, part n: a, b, c = x, y, z. -/
namespace DL
open PySem PySem.Spec PyProof.Rows L2
def wPar3 (i j l : Nat) (a : WA) : WS := fun W env => a env fun as => match as with
  | [.v x, .v y, .v z] => W.nx (((env.set i (some (.v x))).set j (some (.v y))).set l (some (.v z)))
  | _ => False
theorem ss_par3 {K : PySem.W.Frag} {ok : List D → Prop} {i j l : Nat} {ta : TA} {wa : WA} (ha : SndA K ok ta wa) : SndS K ok (tPar3 i j l ta) (wPar3 i j l wa) := fun C H0 σ H env E W rel hw h =>
  ha C H0 σ H env _ _ rel hw fun as vs H1 H01 q r e x => by
    try dsimp only at q
    split at q
    · cases x with
      | cons x1 x =>
        cases x with
        | cons x2 x =>
          cases x with
          | cons x3 x =>
            cases x
            refine ⟨_, _, _, rfl, ?_⟩
            exact h.nx _ _ _ H01 e (((r.setV (show Rp K H01 _ _ from x1)).setV (show Rp K H01 _ _ from x2)).setV (show Rp K H01 _ _ from x3)) q
    · exact q.elim
section
variable {X : Cx} {ok : List D → Prop} {a b c : Expr} {wr : WA} {pos : Pos} {x : Str}
theorem s_par3 (i j l : Nat) {y z : Str} {px py pz pt : Pos} {kt k2 pt2} (hc : X.calm = true) (hN : X.N.Nodup) (hij : i ≠ j) (hil : i ≠ l) (hjl : j ≠ l) (ha : PDA X ok [a, b, c] wr) (hi : X.N[i]? = some x := by rfl) (hj : X.N[j]? = some y := by rfl) (hl : X.N[l]? = some z := by rfl)
    (hx : X.env.scope.names.lookup x = some .local := by rfl) (hy : X.env.scope.names.lookup y = some .local := by rfl) (hz : X.env.scope.names.lookup z = some .local := by rfl)
    (hw : swappedStores [.Tuple [.Name x px, .Name y py, .Name z pz] kt pt] (.Tuple [a, b, c] k2 pt2) X.env = pure (some [x, y, z]) := by rfl)
    (hs : swapsWithSole [.Tuple [.Name x px, .Name y py, .Name z pz] kt pt] (.Tuple [a, b, c] k2 pt2) pos.line X.env = pure false := by rfl) :
    PDS X ok (.Assign [.Tuple [.Name x px, .Name y py, .Name z pz] kt pt] (.Tuple [a, b, c] k2 pt2) pos) (wPar3 i j l wr) := let ⟨_, a1, a2⟩ := ha; ⟨_, ps_par3 hc hN hi hj hl hij hil hjl hx hy hz a1 hw hs, ss_par3 a2⟩
end
end DL
/-! DL, part o: str of an int. -/
namespace DL
open PySem PySem.Spec PyProof.Rows L2
def fStr : D → (D → Prop) → Prop := fun d Q => match d with
  | .int i => i.natAbs.log2 < 1920 ∧ Q (.str (toString i))
  | _ => False
theorem cd_str {K : PySem.W.Frag} : CallD1 K (fun xs H Q => ∃ i, xs = [.int i] ∧ i.natAbs.log2 < 1920 ∧ Q (.str (toString i)) H) fStr := fun H0 H x d Q R s hx q k => by
  unfold fStr at q
  split at q
  · cases hx
    exact ⟨_, rfl, q.1, k _ _ q.2 (.str _)⟩
  · exact q.elim
section
variable {X : Cx} {ok : List D → Prop} {a : Expr} {wa : WE} {pos p : Pos}
theorem d_strc (hm : X.mg "str" = none) (ha : PDE X ok a wa) (hg : Gl X "str" := by rfl) (hs : starEach [a] X.env = (false, eval a X.env) :: starEach [] X.env := by rfl) (hpl : (backTo pos (starEach [] X.env)).any (·.1) = false := by rfl) :
    PDE X ok (.Call (.Name "str" p) [a] [] pos) (wUn fStr wa) := d_T1 call_str_int cd_str (by decide +kernel) hm ha (by decide) (by decide) hg hs hpl
end
end DL
/-! DL, part p: xs[i] += e on a list of one's own. -/
namespace DL
open PySem PySem.Spec PyProof.Rows L2
def rGetL : V → V → Hp → VK → Prop := fun o i H Q => ∃ p xs k v, o = .ref p ∧ i = .int k ∧ H p = some (.lst xs) ∧ 0 ≤ k ∧ xs[k.toNat]? = some v ∧ Q v H
theorem get_listP {X : Cx} : PGet X rGetL := by
  intro pins s σ H o i ov iv Q I ro ri h
  obtain ⟨p, xs, k, v, rfl, rfl, hp, h0, hv, q⟩ := h
  cases ro
  obtain ⟨t, rfl⟩ := ri
  obtain ⟨its, r, pl, hz⟩ := I.list (SqL.of hp)
  obtain ⟨w, ew, rw'⟩ := r.get hv
  have hl := r.length
  have hn := line63
  have hk : k.toNat < xs.length := (List.getElem?_eq_some_iff.mp hv).1
  exact wpAny_getItem_list pl.isList h0 (by omega) (by simpa using ew) ⟨v, H, I, rw', q⟩
def wAugI (i : Nat) (k a : WE) : WS := fun W env => match get env i with
  | some (.own ds) => k env fun j => match j with
    | .int z => 0 ≤ z ∧ ∃ x, ds[z.toNat]? = some (.int x) ∧ a env fun y => match y with
      | .int w => W.nx (env.set i (some (.own (ds.set z.toNat (.int (x + w))))))
      | _ => False
    | _ => False
  | _ => False
theorem ss_augI {K : PySem.W.Frag} {ok : List D → Prop} {i : Nat} {tk te : TE} {wk we : WE} (hk : SndE K ok tk wk) (he : SndE K ok te we) : SndS K ok (tAugS (tVar i) tk te rGetL (ipI fun i j => i + j) rSetL) (wAugI i wk we) := fun C H0 σ H env E W rel hw h => by
  unfold wAugI at hw
  split at hw
  · rename_i ds hd
    obtain ⟨p, e, n, n0, vs0, hp0, hr0⟩ := rel.slot i _ (get_eq hd)
    refine ⟨.ref p, e, hk C H0 σ H env _ _ rel hw fun j u H1 H01 q r1 e1 x1 => ?_⟩
    try dsimp only at q
    split at q
    · rename_i z
      cases x1
      obtain ⟨hz, x, hx, q⟩ := q
      obtain ⟨p', e', n, n0, vs, hp, hr⟩ := r1.slot i _ (get_eq hd)
      rw [e] at e'
      cases e'
      have hlt : z.toNat < ds.length := (List.getElem?_eq_some_iff.mp hx).1
      have hv : vs[z.toNat]? = some (vs[z.toNat]'(by rw [hr.length]; exact hlt)) := List.getElem?_eq_getElem _
      have hat : atI ds z = some (.int x) := by
        have : z = ((z.toNat : Nat) : Int) := by omega
        rw [this]
        exact atI_nat hx
      obtain ⟨v, ev, rv⟩ := atI_rel hr hat
      have hv2 : vs[z.toNat]? = some v := by
        have hzz : z = ((z.toNat : Nat) : Int) := by omega
        rw [hzz] at ev
        rw [atI_nat hv] at ev
        rw [hv]
        exact ev
      cases rv
      refine ⟨p, vs, z, _, rfl, rfl, hp, hz, hv2, he C H01 σ H1 env _ _ r1 q fun y w H2 H02 q2 r2 e2 x2 => ?_⟩
      try dsimp only at q2
      split at q2
      · cases x2
        obtain ⟨p', e', n, n0, ws, hp2, hr2⟩ := r2.slot i _ (get_eq hd)
        rw [e] at e'
        cases e'
        refine ⟨_, _, rfl, rfl, p, ws, z, z.toNat, rfl, rfl, hp2, ?_, ?_⟩
        · unfold ixN
          rw [hr2.length, if_pos hz, if_pos (by omega)]
        · exact h.nx _ _ _ H02 (e1.trans e2) (r2.putL (get_eq hd) e n n0 (hr2.set (.int _) _)) q2
      · exact q2.elim
    · exact q.elim
  · exact hw.elim
section
variable {X : Cx} {ok : List D → Prop} {e : Expr} {wa we : WE} {pos : Pos} {x : Str}
theorem s_augI (i : Nat) {tp mp : Pos} {ix : Expr} (hk : PDE X ok ix wa) (he : PDE X ok e we) (hN : X.N[i]? = some x := by rfl) (hv : Vis X.env.scope x := by first | exact Or.inl rfl | exact Or.inr (Or.inl rfl) | exact Or.inr (Or.inr rfl)) (hd : (x == ("__debug__" : Str)) = false := by decide) (hcd : (x == ("__classdict__" : Str)) = false := by decide)
    (ha : ∀ ov iv new, augStore ix ov iv new = (do holding [new, ov, iv] (setItem ov iv new); release [new, ov, iv] []; pure .next) := by intros; rfl) :
    PDS X ok (.AugAssign (.Subscript (.Name x mp) ix tp) .Add e pos) (wAugI i wa we) := let ⟨_, e1, e2⟩ := he; let ⟨_, k1, k2⟩ := hk; ⟨_, ps_augS (pe_var hN hv hd hcd) k1 get_listP e1 ip_add set_list ha, ss_augI k2 e2⟩
end
theorem d_call0 {X : Cx} {ok : List D → Prop} {x : Str} {p pos : Pos} {k j : Nat} {M : WM} (h : Has X.prog X.w X.K X.mg X.base ok k x 0 M) (hr : Room j X.A) (hk : k ≤ j) (hg : Gl X x := by rfl) (hdb : (x == ("__debug__" : Str)) = false := by decide) :
    PDE X ok (.Call (.Name x p) [] [] pos) (wCallP 0 M wNil) :=
  let ⟨f, fd, ps, G, hm, kp, bs⟩ := h.ex; ⟨_, pe_call0 G (hr.mono hk) hg hm kp bs .nil pass0 hdb, snd_call snd_nil⟩
end DL
/-! DL, part v: a dict written out, keys and values whole numbers. -/
namespace DL
open PySem L2
/-- expressions that leave the heap as it is -/
def SndP (K : PySem.W.Frag) (ok : List D → Prop) (te : TE) (we : WE) : Prop := ∀ (C : Ctx) (H0 : Hp) (σ : L2.St) (H : Hp) (env : EnvD) (Q : D → Prop) (R : VK), Rel K ok C H0 σ H env → we env Q → (∀ d v, Q d → Rp K H0 v d → R v H) → te σ H R
def PDP (X : Cx) (ok : List D → Prop) (e : Expr) (we : WE) : Prop := ∃ te, PE X e te ∧ SndP X.K ok te we
section
variable {X : Cx} {ok : List D → Prop} {a b e : Expr} {wa wb we wk : WE} {pos p : Pos} {x : Str}
theorem v_int {i j} : PDP X ok (.Constant (.int i) j pos) (wC (.int i)) := ⟨_, pe_int, fun C H0 σ H env Q R rel hw k => k _ _ hw (.int i)⟩
theorem v_var (i : Nat) (hN : X.N[i]? = some x := by rfl) (hv : Vis X.env.scope x := by first | exact Or.inl rfl | exact Or.inr (Or.inl rfl) | exact Or.inr (Or.inr rfl)) (hd : (x == ("__debug__" : Str)) = false := by decide)
    (hcd : (x == ("__classdict__" : Str)) = false := by decide) : PDP X ok (.Name x pos) (wVar i) := ⟨_, pe_var hN hv hd hcd, fun C H0 σ H env Q R rel hw k => by
  unfold wVar at hw
  split at hw
  · rename_i d hd
    obtain ⟨v, e, r⟩ := rel.slot i _ (get_eq hd)
    exact ⟨v, e, k d v hw r⟩
  · exact hw.elim⟩
theorem v_op {op : Operator} {r : R2} {f : D → D → (D → Prop) → Prop} (ho : OpR X (binaryOp op) r) (hf : OpD X.K r f) (ha : PDP X ok a wa) (hb : PDP X ok b wb) : PDP X ok (.BinOp a op b pos) (wBin f wa wb) :=
  let ⟨_, a1, a2⟩ := ha; let ⟨_, b1, b2⟩ := hb; ⟨_, pe_op ho a1 b1, fun C H0 σ H env Q R rel hw k =>
    a2 C H0 σ H env _ _ rel hw fun d v q rv => b2 C H0 σ H env _ _ rel q fun e u q2 ru => hf H0 H v u d e Q R rel.sub rv ru q2 fun z w qz rz => k z w qz rz⟩
theorem v_add (ha : PDP X ok a wa) (hb : PDP X ok b wb) : PDP X ok (.BinOp a .Add b pos) (wBin fAdd wa wb) := v_op op_add opd_add ha hb
theorem v_sub (ha : PDP X ok a wa) (hb : PDP X ok b wb) : PDP X ok (.BinOp a .Sub b pos) (wBin fSub wa wb) := v_op op_sub opd_sub ha hb
theorem v_mul (ha : PDP X ok a wa) (hb : PDP X ok b wb) : PDP X ok (.BinOp a .Mult b pos) (wBin fMul wa wb) := v_op op_mul opd_mul ha hb
theorem v_neg (ha : PDP X ok a wa) : PDP X ok (.UnaryOp .USub a pos) (wUn fNeg wa) := let ⟨_, a1, a2⟩ := ha; ⟨_, pe_un un_neg a1, fun C H0 σ H env Q R rel hw k => a2 C H0 σ H env _ _ rel hw fun d v q r1 => by
  unfold fNeg at q
  split at q
  · cases r1
    exact ⟨_, rfl, k _ _ q (.int _)⟩
  · exact q.elim⟩
end
def wPairs : List (WE × WE) → EnvD → (List (Int × Int) → Prop) → Prop
  | [], _, Q => Q []
  | p :: r, env, Q => p.1 env fun x => p.2 env fun y => ∃ i j : Int, x = .int i ∧ y = .int j ∧ wPairs r env fun l => Q ((i, j) :: l)
def dMk (l : List (Int × Int)) : List (Key × D) := l.foldl (fun acc kv => dSet acc (.inl kv.1) (.int kv.2)) []
def wSetDisp (i : Nat) (ws : List (WE × WE)) : WS := fun W env => wPairs ws env fun l => l.length ≤ 15 ∧ W.nx (env.set i (some (.dct (dMk l))))
def wDispIx (ws : List (WE × WE)) (wk : WE) : WE := fun env Q => wPairs ws env fun l => l.length ≤ 15 ∧ wk env fun y => ∃ z d, dKey y = some z ∧ dAt (dMk l) z = some d ∧ Q d
def SndPs (K : PySem.W.Frag) (ok : List D → Prop) (trs : List (TE × TE)) (ws : List (WE × WE)) : Prop := ∀ (C : Ctx) (H0 : Hp) (σ : L2.St) (H : Hp) (env : EnvD) (Q : List (Int × Int) → Prop) (R : List (V × V) → Hp → Prop), Rel K ok C H0 σ H env → wPairs ws env Q →
  (∀ l, Q l → R (l.map fun kv => (V.int kv.1, V.int kv.2)) H) → tPairs trs σ H R
def PDPs (X : Cx) (ok : List D → Prop) (pos : Pos) (keys : List (Option Expr)) (values : List Expr) (ws : List (WE × WE)) : Prop := ∃ trs, PPs X pos keys values trs ∧ SndPs X.K ok trs ws
section
variable {X : Cx} {ok : List D → Prop} {k v e : Expr} {ks : List (Option Expr)} {vs : List Expr} {wk wv : WE} {ws : List (WE × WE)} {pos pos' dpos : Pos} {x : Str}
theorem dp_nil : PDPs X ok pos [] [] [] := ⟨_, pps_nil, fun C H0 σ H env Q R rel hw k => k [] hw⟩
theorem dp_cons (hk : PDP X ok k wk) (hv : PDP X ok v wv) (hr : PDPs X ok pos ks vs ws) : PDPs X ok pos (some k :: ks) (v :: vs) ((wk, wv) :: ws) :=
  let ⟨_, k1, k2⟩ := hk; let ⟨_, v1, v2⟩ := hv; let ⟨_, r1, r2⟩ := hr; ⟨_, pps_cons k1 v1 r1, fun C H0 σ H env Q R rel hw kk =>
    k2 C H0 σ H env _ _ rel hw fun d u q ru => v2 C H0 σ H env _ _ rel q fun e w q2 rw => by
      obtain ⟨i, j, rfl, rfl, q3⟩ := q2
      cases ru
      cases rw
      exact r2 C H0 σ H env _ _ rel q3 fun l ql => kk _ ql⟩
theorem krps_merge {K : PySem.W.Frag} {H : Hp} : ∀ (l : List (Int × Int)) {kvs : List (Key × V)} {es : List (Key × D)}, KRps K H kvs es → KRps K H ((l.map fun kv => ((Sum.inl kv.1 : Key), V.int kv.2)).foldl (fun acc kv => putK acc kv.1 kv.2) kvs) (l.foldl (fun acc kv => dSet acc (.inl kv.1) (.int kv.2)) es)
  | [], _, _, h => h
  | p :: l, _, _, h => krps_merge l (krps_set h (.inl p.1) (.int p.2))
theorem disp_rel {K : PySem.W.Frag} {C : Ctx} {H0 H : Hp} {σ : L2.St} {env : EnvD} {trs : List (TE × TE)} {Q : List (Int × Int) → Prop} {R : VK} (h : SndPs K ok trs ws) (rel : Rel K ok C H0 σ H env) (hw : wPairs ws env Q)
    (k : ∀ l p, H p = none → Q l → l.length ≤ 15 ∧ R (.ref p) (upd H p (.dK (mergeK [] (l.map fun kv => ((Sum.inl kv.1 : Key), V.int kv.2)))))) : tDisp trs σ H R := by
  intro p hp
  refine h C H0 σ (upd H p (.dK [])) env Q _ (rel.laid0 hp) hw fun l ql => ⟨upd_same, l.map fun kv => ((Sum.inl kv.1 : Key), V.int kv.2), ?_, ?_, ?_⟩
  · rw [List.map_map]
    rfl
  · rw [List.length_map]
    exact (k l p hp ql).1
  · rw [L2.upd_upd]
    exact (k l p hp ql).2
theorem s_setDisp (i : Nat) (hp : PDPs X ok dpos ks vs ws) (hN : X.N.Nodup) (hall : ks.all (·.isSome) = true := by rfl) (hl : ks.length = vs.length := by rfl) (h0 : ks ≠ [] := by decide) (h15 : ks.length ≤ 15 := by decide) (hi : X.N[i]? = some x := by rfl) (hx : Loc X.env.scope x := by first | exact Or.inl rfl | exact Or.inr rfl)
    (hs : swapsWith (.Dict ks vs dpos) (some (.Name x pos')) pos.line X.env = pure false := by rfl) (hf : X.fn x = true ∨ X.env.scope.names.lookup x = some .local := by first | exact .inl rfl | exact .inr rfl) :
    PDS X ok (.Assign [.Name x pos'] (.Dict ks vs dpos) pos) (wSetDisp i ws) := by
  obtain ⟨trs, p1, p2⟩ := hp
  refine ⟨_, ps_set hN hi hx (pe_disp p1 hall hl h0 h15) hs hf, fun C H0 σ H env E W rel hw h => ?_⟩
  refine disp_rel p2 rel hw fun l p hp ql => ⟨ql.1, ?_⟩
  have kr := krps_merge (K := X.K) (H := H0) l (kvs := []) (es := []) ⟨rfl, .nil⟩
  exact h.nx _ _ _ H0 (Same.refl _) ((rel.laid0 hp).setO (s := .dct (dMk l)) ⟨p, _, rfl, rel.fresh hp, rel.sub.free hp, upd_same, kr⟩ rfl (rel.kp.free hp) fun j t _ ht ot => rel.noslot hp j t ht ot) ql.2
theorem d_dispIx {k : Nat} (hr : Room k X.A) (hp : PDPs X ok dpos ks vs ws) (hk : PDP X ok e wk) (hall : ks.all (·.isSome) = true := by rfl) (hl : ks.length = vs.length := by rfl) (h0 : ks ≠ [] := by decide) (h15 : ks.length ≤ 15 := by decide) (hs : NoSl e := by exact fun _ _ => rfl) :
    PDE X ok (.Subscript (.Dict ks vs dpos) e pos) (wDispIx ws wk) := by
  obtain ⟨trs, p1, p2⟩ := hp
  obtain ⟨tk, k1, k2⟩ := hk
  refine ⟨_, pe_dget (by have := units65 hr; omega) (pe_disp p1 hall hl h0 h15) k1 hs, fun C H0 σ H env Q R rel hw kk => ?_⟩
  refine disp_rel p2 rel hw fun l p hp ql => ⟨ql.1, ?_⟩
  have kr := krps_merge (K := X.K) (H := H0) l (kvs := []) (es := []) ⟨rfl, .nil⟩
  have rel1 : Rel X.K ok C H0 σ (upd H p (.dK (mergeK [] (l.map fun kv => ((Sum.inl kv.1 : Key), V.int kv.2))))) env := rel.laid0 hp
  refine k2 C H0 σ _ env _ _ rel1 ql.2 fun y v q rv => ?_
  obtain ⟨z, d, hz, hd', q⟩ := q
  have ev := dKey_V rv hz
  subst ev
  rcases krps_at kr z with ⟨a1, a2⟩ | ⟨w, d', a1, a2, r⟩
  · have : dAt (dMk l) z = none := a2
    rw [hd'] at this; cases this
  · have a2 : dAt (dMk l) z = some d' := a2
    rw [hd'] at a2
    cases a2
    exact ⟨p, w, rfl, by rw [← a1]; exact DGet.k upd_same, kk _ _ _ H0 q rel1 (Same.refl _) r⟩
end
end DL
/-! DL, part w: list(reversed(x)), x a list. -/
namespace RT
open PySem PySem.Spec PyProof.Rows L2
section
variable {prog : Program} {w : World} {A : Around} {E : Value → Shared → Prop} {s : Shared}
theorem extend_rev {R : Result → Shared → Prop} {it l : Addr} {items : Array Value} (hh : A.handled = none) (hit : s.heap.IsRevIter it l ((items.size : Int) - 1)) (hl : s.heap.IsList l items) (hne : l ≠ it) (hn : items.size ≤ sizeLine) (S : Addr) (c₀ : Nat) (hS : s.heap.get? S = some { cls := .type "list", data := .seq #[] c₀ }) (hSi : S ≠ it) (hSl : S ≠ l)
    (hR : ∀ h' tk acc' c', (∀ b o, b ≠ S → b ≠ it → s.heap.get? b = some o → h'.get? b = some o) → h'.get? S = some { cls := .type "list", dict := none, data := .seq acc' c', slots := #[] } →
      ItemsOf (fun i v => items[items.size - 1 - i]? = some v) acc' items.size → R (.ok (.ret .none)) { s with heap := h', toks := tk }) :
    wpAny (model prog w) A.in1 (Builtin.List.listExtendWith (.ref S) (.ref it) .none)
      (fun fin s' => match fin with | .done f => R (.ok f) s' | .again c' => c'.quiet = true ∧ codeAny (model prog w) A c' R s') (fun e s' => R (.error e) s') s := by
  have W := (Walks.listRev (prog := prog) (w := w) (A := A.in1) hh it l hne items).toS
  have hSf : S ∉ [it, l] := by simp only [List.mem_cons, List.not_mem_nil, or_false, not_or]; exact ⟨hSi, hSl⟩
  have hT : s.TypeIs (.ref it) "list_reverseiterator" := hit.typeIs
  have h1 : Builtin.List.listSameRef (.ref S) (.ref it) = false := by simp [Builtin.List.listSameRef, hSi]
  unfold Builtin.List.listExtendWith
  refine wpAny_bind (wpAny_typeOf hT ?_)
  rw [if_neg (by rw [h1]; decide)]
  refine wpAny_bind (wpAny_pyIter_revIter hit ?_)
  refine wpAny_bind (wpAny_holding ?_)
  unfold Builtin.List.listLengthHint
  refine wpAny_bind (wpAny_specialOf hT nolen_lri ?_)
  show wpAny _ A.in1 (specialOf (Value.ref it) (Str.ofString "__length_hint__") >>= _) _ _ _
  refine wpAny_bind (wpAny_specialOf hT hint_lri ?_)
  generalize hid : ("list_reverseiterator.__length_hint__" : String) = id0
  wp_delta
  rw [show splitId id0 = some ("list_reverseiterator", "__length_hint__") from by subst hid; decide +kernel]
  subst hid
  refine wpAny_bind (wpAny_isInstance (b := true) hT (by rw [isSubtype_type]; kernel_rfl) ?_)
  refine wpAny_pure ?_
  rw [if_neg (by decide)]
  have e0 : ((items.size : Nat) : Int) - 1 - ((0 : Nat) : Int) = (items.size : Int) - 1 := by omega
  refine wpAny_pure ⟨plainId_quiet F.plain_extend_loop _, codeAny_extend_loopS W hn _ hSf _ items.size 0 _ _ _ rfl (Nat.zero_le _) ⟨Nat.zero_le _, by rw [e0]; exact hit, hl⟩ hS (ItemsOf.nil _) fun s' acc' c' hm hS' hacc => ?_⟩
  rw [Moved.eq_with hm]
  refine hR s'.heap s'.toks acc' c' (fun b o hb hbi e => hm.heap b o (fun hmem => ?_) e) hS' hacc
  rcases List.mem_cons.mp hmem with e' | hmem
  · exact hb e'
  · exact hbi (List.mem_singleton.mp hmem)
theorem list_init_rev {R : Result → Shared → Prop} {it l : Addr} {items : Array Value} (hh : A.handled = none) (hit : s.heap.IsRevIter it l ((items.size : Int) - 1)) (hl : s.heap.IsList l items) (hne : l ≠ it) (hn : items.size ≤ sizeLine) (S : Addr) (hS : s.heap.get? S = some { cls := .type "list", data := .seq #[] }) (hSi : S ≠ it) (hSl : S ≠ l)
    (hR : ∀ h' tk acc' c', (∀ b o, b ≠ S → b ≠ it → s.heap.get? b = some o → h'.get? b = some o) → h'.get? S = some { cls := .type "list", dict := none, data := .seq acc' c', slots := #[] } →
      ItemsOf (fun i v => items[items.size - 1 - i]? = some v) acc' items.size → R (.ok (.ret .none)) { s with heap := h', toks := tk }) :
    wpAny (model prog w) A.in1 (Builtin.«list.__init__» ⟨[.ref S, .ref it], []⟩)
      (fun fin s' => match fin with | .done f => R (.ok f) s' | .again c' => c'.quiet = true ∧ codeAny (model prog w) A c' R s') (fun e s' => R (.error e) s') s := by
  show wpAny _ _ (do let old ← Builtin.List.listItems (.ref S); Builtin.List.listUpdate (.ref S) (fun _ => #[]); letGo old.toList.reverse; Builtin.List.listExtendWith (.ref S) (.ref it) .none) _ _ s
  refine wpAny_bind ?_
  unfold Builtin.List.listItems
  refine wpAny_bind (wpAny_seqItems hS rfl (wpAny_pure ?_))
  show wpAny _ _ (updateSeq S (fun _ => #[]) >>= fun _ => letGo (#[] : Array Value).toList.reverse >>= fun _ => Builtin.List.listExtendWith (.ref S) (.ref it) .none) _ _ s
  refine wpAny_bind (wpAny_updateSeq hS rfl ?_)
  have hS₂ := Heap.get?_update_self (Obj.mapSeq (fun _ => (#[] : Array Value))) hS rfl
  have oth : ∀ b o, b ≠ S → s.heap.get? b = some o → (s.heap.update S (Obj.mapSeq (fun _ => (#[] : Array Value)))).get? b = some o :=
    fun b o hb e => (Heap.get?_update_other _ _ (Ne.symm hb)).trans e
  refine wpAny_bind (wpAny_letGo ?_)
  have hit' : (s.heap.update S (Obj.mapSeq (fun _ => (#[] : Array Value)))).IsRevIter it l ((items.size : Int) - 1) := hit.at fun o e => oth it o (Ne.symm hSi) e
  have hl' : (s.heap.update S (Obj.mapSeq (fun _ => (#[] : Array Value)))).IsList l items := by
    obtain ⟨o, ho, h2⟩ := hl
    exact ⟨o, oth l o (Ne.symm hSl) ho, h2⟩
  refine extend_rev hh hit' hl' hne hn S _ hS₂ hSi hSl (fun h' tk acc' c' hk hS' hacc => ?_)
  exact hR h' tk acc' c' (fun b o hb hbi e => hk b o hb hbi (oth b o hb e)) hS' hacc
theorem call_list_rev {it l : Addr} {items : Array Value} {Q : Value → Shared → Prop} (hh : A.handled = none) (hit : s.heap.IsRevIter it l ((items.size : Int) - 1)) (hl : s.heap.IsList l items) (hne : l ≠ it) (hn : items.size ≤ sizeLine)
    (hQ : ∀ h' tk acc' c', (∀ b o, b ≠ it → s.heap.get? b = some o → h'.get? b = some o) → h'.get? s.heap.objs.size = some { cls := .type "list", dict := none, data := .seq acc' c', slots := #[] } →
      ItemsOf (fun i v => items[items.size - 1 - i]? = some v) acc' items.size → Q (.ref s.heap.objs.size) { s with heap := h', toks := tk }) :
    wpAny (model prog w) A (call (.type "list") [.ref it]) Q E s := by
  obtain ⟨oi, hoi, _⟩ := id hit
  obtain ⟨ol, hol, _⟩ := id hl
  have hSi : s.heap.objs.size ≠ it := Nat.ne_of_gt (Heap.lt_size hoi)
  have hSl : s.heap.objs.size ≠ l := Nat.ne_of_gt (Heap.lt_size hol)
  refine callType_codes (Q₁ := fun obj s₁ => obj = .ref s.heap.objs.size ∧ s₁ = { s with heap := s.heap.push { cls := .type "list", data := .seq #[] } }) PySem.F.called_list (PySem.F.typeCall_list_1 _) PySem.F.entry_list_init
    (code_list_new _ ⟨rfl, rfl⟩) fun obj s₁ h₁ => ?_
  obtain ⟨rfl, rfl⟩ := h₁
  have hS : (s.heap.push { cls := .type "list", data := .seq #[] }).get? s.heap.objs.size = some { cls := .type "list", data := .seq #[] } := Heap.get?_push_size _ rfl
  refine ⟨⟨_, hS, rfl⟩, PySem.F.args_list_init_2 _ _, list_init_rev (A := A.in1) (s := { s with heap := s.heap.push { cls := .type "list", data := .seq #[] } }) hh (hit.at fun o e => Heap.get?_push_of_some _ e) (hl.push _) hne hn _ hS hSi hSl (fun h' tk acc' c' hk hS' hacc => ?_)⟩
  exact ⟨rfl, hQ h' tk acc' c' (fun b o hb e => hk b o (Nat.ne_of_lt (Heap.lt_size e)) hb (Heap.get?_push_of_some _ e)) hS' hacc⟩
end
def tLstRev (K : PySem.W.Frag) (te : TE) : TE := fun σ H Q => te σ H fun v H1 => ∃ (a : Addr) (xs : List V), v = .ref a ∧ SqL K H1 a xs ∧ ∀ q, H1 q = none → Q (.ref q) (upd H1 q (.lst xs.reverse))
theorem pe_lstRev {X : Cx} {e : Expr} {te : TE} {p p2 pos pos2 : Pos} (hc : X.calm = true) (hg : Gl X "list") (hm : X.mg "list" = none) (hg2 : Gl X "reversed") (hm2 : X.mg "reversed" = none) (he : PE X e te)
    (hs : starEach [e] X.env = (false, eval e X.env) :: starEach [] X.env := by rfl)
    (hs2 : starEach [.Call (.Name "reversed" p2) [e] [] pos2] X.env = (false, eval (.Call (.Name "reversed" p2) [e] [] pos2) X.env) :: starEach [] X.env := by rfl) :
    PE X (.Call (.Name "list" p) [.Call (.Name "reversed" p2) [e] [] pos2] [] pos) (tLstRev X.K te) := by
  refine ⟨fun pins s σ H Q I h => ?_⟩
  refine Call_ (ld_blt I hg hm boot_list (PyProof.Rows.callWith_type1 (args_cons (Call_ (ld_blt I hg2 hm2 PyProof.Rows.boot_reversed (PyProof.Rows.callWith_type1 (args_cons (thn (he.run pins s σ H _ I h) fun u s1 ⟨v, H1, I1, r1, q1⟩ => args_nil ?_) hs) hs rfl))) hs2) hs2 rfl))
  obtain ⟨a, xs, ev, hq, q⟩ := q1
  subst ev
  obtain rfl : u = Value.ref a := r1
  obtain ⟨its, rv, p', hz⟩ := I1.list hq
  refine call_reversed_list p'.isList (args_nil ?_)
  have hl := p'.isList
  obtain ⟨ol, hol, _⟩ := id hl
  have hne : a ≠ s1.heap.objs.size := Nat.ne_of_lt (Heap.lt_size hol)
  have hn : its.toArray.size ≤ sizeLine := by rw [List.size_toArray, ← rv.length]; exact hz
  refine call_list_rev (s := { s1 with heap := s1.heap.push (revObj a ((its.toArray.size : Int) - 1)) }) (I1.ok.hd hc) ⟨_, Heap.get?_push_size _ rfl, rfl, rfl⟩ (hl.push _) hne hn fun h' tk acc c' hk e' hi => ?_
  have hle : s1.heap.objs.size ≤ (s1.heap.push (revObj a ((its.toArray.size : Int) - 1))).objs.size := by
    show _ ≤ (Array.push _ _).size
    rw [Array.size_push]
    exact Nat.le_succ _
  have k : ∀ b o, s1.heap.get? b = some o → h'.get? b = some o := fun b o e => hk b o (Nat.ne_of_lt (Heap.lt_size e)) (Heap.get?_push_of_some _ e)
  refine ⟨.ref (s1.heap.push (revObj a ((its.toArray.size : Int) - 1))).objs.size, upd H1 (s1.heap.push (revObj a ((its.toArray.size : Int) - 1))).objs.size (.lst xs.reverse), I1.laid (t' := tk) k hle (show ObjOk X.prog X.w _ _ _ (.lst xs.reverse) from ⟨by rw [List.length_reverse]; exact hz, acc.toList, c', vals_rev rv hi, ?_⟩), rfl, q _ (I1.hok.fresh hle)⟩
  rw [Array.toArray_toList]
  exact e'
end RT
namespace DL
open PySem L2
def wLstRev (a : WE) : WL := fun env Q => a env fun x => match x with
  | .list ds => Q ds.reverse
  | _ => False
theorem Rps.reverse {K : PySem.W.Frag} {H : Hp} : ∀ {vs : List V} {ds : List D}, Rps K H vs ds → Rps K H vs.reverse ds.reverse
  | _, _, .nil => .nil
  | _, _, .cons h t => by
    rw [List.reverse_cons, List.reverse_cons]
    exact (Rps.reverse t).append (.one h)
section
variable {K : PySem.W.Frag} {ok : List D → Prop} {ta : TE} {wa : WE}
theorem sl_lstRev (ha : SndB K ok ta wa) : SndL K ok (RT.tLstRev K ta) (wLstRev wa) := fun C H0 σ H env Q R rel hw k =>
  ha C H0 σ H env _ _ rel hw fun d v H1 H01 q r1 e1 x1 => by
    have b := x1 H1 H01 r1 (Same.refl _)
    try dsimp only at q
    split at q
    · obtain ⟨p, vs, rfl, r, h⟩ := b.lst r1.sub
      exact ⟨p, vs, rfl, SqL.of h, fun l nl => k _ _ _ _ q (r1.laid0 nl) e1 ⟨r1.fresh nl, ⟨r1.sub.free nl, _, upd_same, r.reverse⟩, r1.noslot nl, r1.kp.free nl⟩⟩
    · exact q.elim
end
section
variable {X : Cx} {ok : List D → Prop} {a : Expr} {wa : WE} {pos p p2 pos2 : Pos}
theorem l_lstRev (hc : X.calm = true) (hm : X.mg "list" = none) (hm2 : X.mg "reversed" = none) (ha : PDB X ok a wa) (hg : Gl X "list" := by rfl) (hg2 : Gl X "reversed" := by rfl) (hs : starEach [a] X.env = (false, eval a X.env) :: starEach [] X.env := by rfl)
    (hs2 : starEach [.Call (.Name "reversed" p2) [a] [] pos2] X.env = (false, eval (.Call (.Name "reversed" p2) [a] [] pos2) X.env) :: starEach [] X.env := by rfl) :
    PDL X ok (.Call (.Name "list" p) [.Call (.Name "reversed" p2) [a] [] pos2] [] pos) (wLstRev wa) := let ⟨_, a1, a2⟩ := ha; ⟨_, RT.pe_lstRev hc hg hm hg2 hm2 a1 hs hs2, sl_lstRev a2⟩
end
end DL
/-! DL, part y: a def that returns [e, [..]], and a, b = f(..) where b is changed in place afterwards. -/
namespace DL
open PySem L2
def wRet2 (a : WE) (l : WL) : WS := fun W env => a env fun d => l env fun ds => W.rt (.two d ds)
def wUnp2 (i j : Nat) (n : Nat) (M : WM) (a : WA) : WS := fun W env => a env fun as => oneH as = true ∧ as.length = n ∧ M as fun r => match r with
  | .two d ds => W.nx ((env.set i (some (.v d))).set j (some (.own ds)))
  | _ => False
section
variable {K : PySem.W.Frag} {ok : List D → Prop} {te tl : TE} {we : WE} {wl : WL} {tr : TA} {wr : WA}
theorem ss_ret2 (ha : SndE K ok te we) (hl : SndL K ok tl wl) : SndS K ok (tRet (tLst (tCons te (tCons tl tNil)))) (wRet2 we wl) := fun C H0 σ H env E W rel hw h =>
  ha C H0 σ H env _ _ rel hw fun d x H1 H01 q r1 e1 x1 => hl C H01 σ H1 env _ _ r1 q fun ds p H2 H02 q2 r2 e2 f => by
    refine ⟨by rw [sizeLine_eq]; exact Nat.le_of_ble_eq_true rfl, fun q hq => ?_⟩
    have hp2 : H2 p ≠ none := by
      obtain ⟨_, ws, hp, _⟩ := f.own
      rw [hp]
      exact fun z => by cases z
    have hne : p ≠ q := fun z => hp2 (z ▸ hq)
    refine h.rt (.two d ds) _ σ (upd H2 q (.lst [x, .ref p])) H02 env (e1.trans e2) (r2.laid0 hq) q2 ⟨q, p, x, rfl, hne, r2.fresh hq, r2.sub.free hq, upd_same, x1.mono e2, f.he, f.own.n0, ?_⟩
    obtain ⟨ws, hp, hr⟩ := f.own.ex
    exact ⟨ws, by rw [upd_ne hne]; exact hp, hr⟩
theorem ss_unp2 {n i j : Nat} {M : WM} {E0 : XK} (hij : i ≠ j) (hr : SndA K ok tr wr) : SndS K ok (tAsg (tCall (SpD K ok n M) [] E0 tr) (gUnl K 2 (gCons (gName i) (gCons (gName j) gNil)))) (wUnp2 i j n M wr) := fun C H0 σ H env E W rel hw h =>
  hr C H0 σ H env _ _ rel hw fun as vs H1 H01 q r1 e1 x1 => by
    obtain ⟨q1, q2, q3⟩ := q
    show SpD K ok n M (vs ++ []) H1 _ E0
    rw [List.append_nil]
    refine SpD.exc (call_core r1 x1 q1 q2 q3 fun v r H2 H02 hq r2 e2 z => ?_)
    cases r with
    | v d => exact hq.elim
    | own ds => exact hq.elim
    | two d ds =>
      obtain ⟨q, p, x, rfl, hne, heq, kq, nsq, q0, hqq, hx, f⟩ := z
      refine ⟨q, [x, .ref p], rfl, SqL.of hqq, rfl, ?_⟩
      have r3 := r2.setV (i := i) hx
      refine ⟨x, [.ref p], rfl, .ref p, [], rfl, rfl, ?_⟩
      refine h.nx _ _ _ H02 (e1.trans e2) (r3.setO (i := j) (s := .own ds) ⟨p, rfl, f.he, f.own⟩ rfl f.kq fun k t hk ht ot => ?_) hq
      by_cases hki : i = k
      · subst hki
        have := (List.getElem?_eq_some_iff.mp ht).1
        rw [List.getElem?_set_self (by rwa [List.length_set] at this)] at ht
        cases ht
        cases ot
      · rw [List.getElem?_set_ne hki] at ht ⊢
        exact f.ns k t ht ot
end
section
variable {X : Cx} {ok : List D → Prop} {a l : Expr} {we : WE} {wl : WL} {wr : WA} {e : Expr} {es : List Expr} {pos pos' p1 p p2 p3 : Pos} {x y f : Str}
theorem s_ret2 (ha : PDE X ok a we) (hl : PDL X ok l wl) (hs : starEach [a, l] X.env = (false, eval a X.env) :: starEach [l] X.env := by rfl) (hs2 : starEach [l] X.env = (false, eval l X.env) :: starEach [] X.env := by rfl) :
    PDS X ok (.Return (some (.List [a, l] p1)) pos) (wRet2 we wl) := let ⟨_, a1, a2⟩ := ha; let ⟨_, b1, b2⟩ := hl; ⟨_, ps_ret (pe_lst (pa_cons a1 (pa_cons b1 pa_nil hs2) hs)), ss_ret2 a2 b2⟩
theorem s_unp2 {k0 k j n : Nat} {M : WM} (i1 i2 : Nat) (hij : i1 ≠ i2) (h : Has X.prog X.w X.K X.mg X.base ok k f n M) (hr : Room j X.A) (hk : k ≤ j) (ha : PDA X ok (e :: es) wr) (hN : X.N.Nodup) (hc : X.calm = true := by rfl)
    (hi1 : X.N[i1]? = some x := by rfl) (hi2 : X.N[i2]? = some y := by rfl) (hx1 : Loc X.env.scope x := by first | exact Or.inl rfl | exact Or.inr rfl) (hx2 : Loc X.env.scope y := by first | exact Or.inl rfl | exact Or.inr rfl)
    (hf1 : X.fn x = true ∨ X.env.scope.names.lookup x = some .local := by first | exact .inl rfl | exact .inr rfl) (hf2 : X.fn y = true ∨ X.env.scope.names.lookup y = some .local := by first | exact .inl rfl | exact .inr rfl)
    (hg : Gl X f := by rfl) (hdb : (f == ("__debug__" : Str)) = false := by decide)
    (he : starEach (e :: es) X.env = (false, eval e X.env) :: starEach es X.env := by rfl) (hpl : (backTo pos (starEach es X.env)).any (·.1) = false := by rfl)
    (hpg : ∀ t, PGs X [.Name x p, .Name y p2] t → PG X (.Tuple [.Name x p, .Name y p2] k0 p3) (gUnl X.K 2 t) := by exact fun _ h => pg_unl rfl h)
    (hs : swapsWithSole [.Tuple [.Name x p, .Name y p2] k0 p3] (.Call (.Name f p1) (e :: es) [] pos) pos'.line X.env = pure false := by rfl) (hw : swappedStores [.Tuple [.Name x p, .Name y p2] k0 p3] (.Call (.Name f p1) (e :: es) [] pos) X.env = pure none := by rfl)
    (h1 : (assignEach [.Tuple [.Name x p, .Name y p2] k0 p3] X.env).map (·.2) = [assign (.Tuple [.Name x p, .Name y p2] k0 p3) X.env] := by rfl) :
    PDS X ok (.Assign [.Tuple [.Name x p, .Name y p2] k0 p3] (.Call (.Name f p1) (e :: es) [] pos) pos') (wUnp2 i1 i2 n M wr) :=
  let ⟨f, fd, ps, G, hm, kp, bs⟩ := h.ex; let ⟨_, a1, a2⟩ := ha
  ⟨_, ps_asg (pe_call G (hr.mono hk) hg hm kp bs .nil pass0 a1 hdb he hpl) (hpg _ (pgs_cons (pg_name hN hi1 hx1 hf1) (pgs_cons (pg_name hN hi2 hx2 hf2) pgs_nil))) hs hw h1, ss_unp2 hij a2⟩
end
end DL
/-! DL, part z: a def that calls itself, level by level. -/
namespace DL
open PySem PySem.Spec PyProof.Rows L2
/-- the ground: nothing is promised -/
theorem def_no {P : Program} {w : World} {K : PySem.W.Frag} {mg : Str → Option Value} {base : Heap} {ok : List D → Prop} {x qual : Str} {st : Stmt} {f : Addr} {fd : FuncData} {N ps : List Str} {k n : Nat} {M : WM} (F : Fun K x qual st f fd) (S : FnScope N ps (defScope st)) (hn : ps.length = n)
    (hM : ∀ as Q, M as Q → False) : FnOk P w K mg base CX0 (k + 1) f fd ps (SpD K ok n M) := by
  refine F.ok S (fun vs H Q E h => ?_) (fun cdv A outer s H vs Q E hr h => ?_)
  · obtain ⟨H0, ha, as, Q', h1, h2, one, s0, hargs, hv, hMQ, k0⟩ := h
    exact (hM _ _ hMQ).elim
  · obtain ⟨H0, ha, as, Q', h1, h2, one, s0, hargs, hv, hMQ, k0⟩ := h
    exact (hM _ _ hMQ).elim
end DL
/-! DM, part a: a dict slot of one's own whose keys are None, whole numbers and tuples of these. -/
namespace DL
open PySem PySem.Spec PyProof.Rows L2 DN
/-- data as a key, at most n deep -/
def nKey : Nat → D → Option NestedKey
  | _, .none => some .none
  | _, .int i => some (.num i)
  | n + 1, .tuple ds => (ds.mapM (nKey n)).map .tup
  | _, _ => none
def mAt : List (NestedKey × D) → NestedKey → Option D
  | [], _ => none
  | p :: r, k => if p.1 = k then some p.2 else mAt r k
def mRep : List (NestedKey × D) → NestedKey → D → List (NestedKey × D)
  | [], _, _ => []
  | p :: r, k, d => (if p.1 = k then (p.1, d) else p) :: mRep r k d
def mSet (kvs : List (NestedKey × D)) (k : NestedKey) (d : D) : List (NestedKey × D) := if (mAt kvs k).isSome = true then mRep kvs k d else kvs ++ [(k, d)]
theorem mAt_snoc (k j : NestedKey) (d : D) : ∀ kvs : List (NestedKey × D), mAt kvs k = none → mAt (kvs ++ [(k, d)]) j = if j = k then some d else mAt kvs j
  | [], _ => by
    show (if k = j then some d else none) = _
    by_cases h : k = j
    · rw [if_pos h, if_pos h.symm]
    · rw [if_neg h, if_neg fun z => h z.symm]; rfl
  | p :: r, hn => by
    have hp : ¬ p.1 = k := fun z => by rw [show mAt (p :: r) k = some p.2 from if_pos z] at hn; cases hn
    have hr : mAt r k = none := by rw [← show mAt (p :: r) k = mAt r k from if_neg hp]; exact hn
    show (if p.1 = j then some p.2 else mAt (r ++ [(k, d)]) j) = if j = k then some d else (if p.1 = j then some p.2 else mAt r j)
    rw [mAt_snoc k j d r hr]
    by_cases h : p.1 = j
    · rw [if_pos h, if_pos h, if_neg fun z => hp (h.trans z)]
    · rw [if_neg h, if_neg h]
theorem mAt_rep (k j : NestedKey) (d : D) : ∀ kvs : List (NestedKey × D), mAt (mRep kvs k d) j = if j = k then (mAt kvs k).map (fun _ => d) else mAt kvs j
  | [] => by
    show none = _
    by_cases h : j = k
    · rw [if_pos h]; rfl
    · rw [if_neg h]; rfl
  | p :: r => by
    have ih := mAt_rep k j d r
    show (if (if p.1 = k then (p.1, d) else p).1 = j then some (if p.1 = k then (p.1, d) else p).2 else mAt (mRep r k d) j) = if j = k then (if p.1 = k then some p.2 else mAt r k).map (fun _ => d) else (if p.1 = j then some p.2 else mAt r j)
    by_cases hk : p.1 = k
    · rw [if_pos hk, if_pos hk]
      show (if p.1 = j then some d else mAt (mRep r k d) j) = _
      by_cases hj : j = k
      · rw [if_pos (hk.trans hj.symm), if_pos hj]; rfl
      · rw [if_neg fun z => hj (z.symm.trans hk), if_neg hj, if_neg fun z => hj (z.symm.trans hk), ih, if_neg hj]
    · rw [if_neg hk, if_neg hk]
      by_cases hj : j = k
      · rw [if_pos hj, if_neg fun z => hk (z.trans hj), ih, if_pos hj]
      · rw [if_neg hj, ih, if_neg hj]
theorem mAt_set (kvs : List (NestedKey × D)) (k j : NestedKey) (d : D) : mAt (mSet kvs k d) j = if j = k then some d else mAt kvs j := by
  unfold mSet
  cases h : mAt kvs k with
  | none => rw [if_neg (show ¬ (none : Option D).isSome = true by decide)]; exact mAt_snoc k j d kvs h
  | some x =>
    rw [if_pos (show (some x).isSome = true from rfl), mAt_rep, h]
    rfl
theorem mRep_len (k : NestedKey) (d : D) : ∀ kvs : List (NestedKey × D), (mRep kvs k d).length = kvs.length
  | [] => rfl
  | p :: r => by
    show (mRep r k d).length + 1 = r.length + 1
    rw [mRep_len k d r]
theorem mSet_len (kvs : List (NestedKey × D)) (k : NestedKey) (d : D) : (mSet kvs k d).length ≤ kvs.length + 1 := by
  unfold mSet
  split
  · rw [mRep_len]; omega
  · rw [List.length_append]; exact Nat.le_refl _
/-! ### what is asked -/
def wSetM (i : Nat) : WS := fun W env => W.nx (env.set i (some (.dcm [])))
def wMGet1 (i : Nat) (k : WE) : WE := fun env Q => match get env i with
  | some (.dcm kvs) => k env fun y => ∃ z v, nKey 8 y = some z ∧ (mAt kvs z).getD .none = v ∧ Q v
  | _ => False
def wMGet2 (i : Nat) (k a : WE) : WE := fun env Q => match get env i with
  | some (.dcm kvs) => k env fun y => a env fun d => ∃ z v, nKey 8 y = some z ∧ (mAt kvs z).getD d = v ∧ Q v
  | _ => False
def wMIx (i : Nat) (k : WE) : WE := fun env Q => match get env i with
  | some (.dcm kvs) => k env fun y => ∃ z d, nKey 8 y = some z ∧ mAt kvs z = some d ∧ Q d
  | _ => False
def wMIn (i : Nat) (k : WE) : WE := fun env Q => match get env i with
  | some (.dcm kvs) => k env fun y => ∃ z b, nKey 8 y = some z ∧ (mAt kvs z).isSome = b ∧ Q (.bool b)
  | _ => False
def wMNin (i : Nat) (k : WE) : WE := fun env Q => match get env i with
  | some (.dcm kvs) => k env fun y => ∃ z b, nKey 8 y = some z ∧ (mAt kvs z).isSome = b ∧ Q (.bool (!b))
  | _ => False
def wMPut (i : Nat) (k a : WE) : WS := fun W env => match get env i with
  | some (.dcm kvs) => a env fun d => k env fun y => ∃ z, nKey 8 y = some z ∧ kvs.length < 1000000 ∧ W.nx (env.set i (some (.dcm (mSet kvs z d))))
  | _ => False
/-! ### soundness -/
section
variable {K : PySem.W.Frag} {ok : List D → Prop} {C : Ctx} {H0 H : Hp}
theorem mapM_some {n : Nat} : ∀ {ds : List D} {ks : List NestedKey}, ds.mapM (nKey n) = some ks → (ds = [] ∧ ks = []) ∨ ∃ d r k q, ds = d :: r ∧ ks = k :: q ∧ nKey n d = some k ∧ r.mapM (nKey n) = some q
  | [], ks, h => by
    rw [List.mapM_nil] at h
    cases h
    exact .inl ⟨rfl, rfl⟩
  | d :: r, ks, h => by
    rw [List.mapM_cons] at h
    cases e : nKey n d with
    | none => rw [e] at h; cases h
    | some k =>
      rw [e] at h
      cases e2 : r.mapM (nKey n) with
      | none => rw [e2] at h; cases h
      | some q =>
        rw [e2] at h
        cases h
        exact .inr ⟨d, r, k, q, rfl, rfl, e, e2⟩
theorem nvs_of {n : Nat} (ih : ∀ {d : D} {v : V} {k : NestedKey}, Rp K H v d → nKey n d = some k → NV K H n k v) : ∀ {ds : List D} {vs : List V} {ks : List NestedKey}, Rps K H vs ds → ds.mapM (nKey n) = some ks → NVs K H n ks vs
  | [], vs, ks, r, h => by
    rcases mapM_some h with ⟨_, rfl⟩ | ⟨d, r', k, q, e, _⟩
    · rw [r.nil_inv]; exact .nil n
    · cases e
  | d :: ds, vs, ks, r, h => by
    obtain ⟨v, ws, rfl, r1, r2⟩ := r.cons_inv
    rcases mapM_some h with ⟨e, _⟩ | ⟨d', r', k, q, e, rfl, h1, h2⟩
    · cases e
    · cases e
      exact .cons (ih r1 h1) (nvs_of ih r2 h2)
theorem nv_of : ∀ {n : Nat} {d : D} {v : V} {k : NestedKey}, Rp K H v d → nKey n d = some k → NV K H n k v
  | n, .none, v, k, r, h => by
    have : k = .none := by cases n <;> exact (Option.some.inj h).symm
    subst this
    cases r; exact .none n
  | n, .int i, v, k, r, h => by
    have : k = .num i := by cases n <;> exact (Option.some.inj h).symm
    subst this
    cases r; exact .int n i
  | n + 1, .tuple ds, v, k, r, h => by
    have h : (ds.mapM (nKey n)).map NestedKey.tup = some k := h
    cases e : ds.mapM (nKey n) with
    | none => rw [e] at h; cases h
    | some ks =>
      rw [e] at h
      cases h
      cases r with
      | tup h1 h2 => exact .tup (h1.elim (fun z => .inl z) .inr) (nvs_of (fun r h => nv_of r h) h2 e)
  | 0, .tuple ds, v, k, r, h => by cases h
  | n, .bool b, v, k, r, h => by cases n <;> cases h
  | n, .str b, v, k, r, h => by cases n <;> cases h
  | n, .list b, v, k, r, h => by cases n <;> cases h
  | n, .dict b, v, k, r, h => by cases n <;> cases h
theorem mrps_at : ∀ {ks : List MRow} {es : List (NestedKey × D)}, MRps K H ks es → ∀ z : NestedKey, (valM ks z = none ∧ mAt es z = none) ∨ ∃ v d, valM ks z = some v ∧ mAt es z = some d ∧ Rp K H v d
  | [], [], _, z => .inl ⟨rfl, rfl⟩
  | [], _ :: _, h, _ => by have := h.1; simp at this
  | _ :: _, [], h, _ => by have := h.1; simp at this
  | p :: ks, q :: es, h, z => by
    obtain ⟨h1, h2, hk⟩ := h
    rw [List.map_cons, List.map_cons] at h1 h2
    injection h1 with h3 h4
    obtain ⟨v, ws, e, r1, r2⟩ := h2.cons_inv
    injection e with e1 e2
    unfold valM
    show (Option.map _ (List.find? _ (p :: ks)) = none ∧ (if q.1 = z then some q.2 else mAt es z) = none) ∨ ∃ v d, Option.map _ (List.find? _ (p :: ks)) = some v ∧ (if q.1 = z then some q.2 else mAt es z) = some d ∧ _
    by_cases hz : q.1 = z
    · rw [List.find?_cons_of_pos (by exact decide_eq_true (h3.trans hz)), if_pos hz]
      exact .inr ⟨p.2.2, q.2, rfl, rfl, by rw [e1]; exact r1⟩
    · rw [List.find?_cons_of_neg (by simpa using fun y => hz (h3.symm.trans y)), if_neg hz]
      exact mrps_at (ks := ks) (es := es) ⟨h4, by rw [e2]; exact r2, fun x hx => hk x (.tail _ hx)⟩ z
theorem mrps_rep : ∀ {ks : List MRow} {es : List (NestedKey × D)}, MRps K H ks es → ∀ (z : NestedKey) {v : V} {d : D}, Rp K H v d → MRps K H (ks.map (putR z v)) (mRep es z d)
  | [], [], _, z, v, d, _ => ⟨rfl, .nil, fun x hx => by cases hx⟩
  | [], _ :: _, h, _, _, _, _ => by have := h.1; simp at this
  | _ :: _, [], h, _, _, _, _ => by have := h.1; simp at this
  | p :: ks, q :: es, h, z, v, d, hr => by
    obtain ⟨h1, h2, hk⟩ := h
    rw [List.map_cons, List.map_cons] at h1 h2
    injection h1 with h3 h4
    obtain ⟨v', ws, e, r1, r2⟩ := h2.cons_inv
    injection e with e1 e2
    have ih := mrps_rep (ks := ks) (es := es) ⟨h4, by rw [e2]; exact r2, fun x hx => hk x (.tail _ hx)⟩ z hr
    have kp : NV K H 8 (putR z v p).1 (putR z v p).2.1 := by
      have := hk p (.head _)
      unfold putR
      split <;> exact this
    have kall : ∀ x ∈ putR z v p :: ks.map (putR z v), NV K H 8 x.1 x.2.1 := fun x hx => by
      rcases List.mem_cons.mp hx with rfl | hx
      · exact kp
      · exact ih.2.2 x hx
    show MRps K H (putR z v p :: ks.map (putR z v)) ((if q.1 = z then (q.1, d) else q) :: mRep es z d)
    by_cases hz : q.1 = z
    · have e : putR z v p = (p.1, p.2.1, v) := by unfold putR; rw [if_pos (h3.trans hz)]
      rw [if_pos hz]
      rw [e] at kall ⊢
      exact ⟨by rw [List.map_cons, List.map_cons, ih.1, h3], .cons hr ih.2.1, kall⟩
    · have e : putR z v p = p := by unfold putR; rw [if_neg fun y => hz (h3.symm.trans y)]
      rw [if_neg hz]
      rw [e] at kall ⊢
      exact ⟨by rw [List.map_cons, List.map_cons, ih.1, h3], .cons (by show Rp K H p.2.2 q.2; rw [e1]; exact r1) ih.2.1, kall⟩
theorem mrps_set {ks : List MRow} {es : List (NestedKey × D)} (h : MRps K H ks es) {z : NestedKey} {kv v : V} {d : D} (hk : NV K H 8 z kv) (hr : Rp K H v d) : MRps K H (putM ks z kv v) (mSet es z d) := by
  unfold putM mSet
  rcases mrps_at h z with ⟨e1, e2⟩ | ⟨w, x, e1, e2, _⟩
  · rw [e1, e2]
    refine ⟨?_, ?_, fun x hx => ?_⟩
    · show (ks ++ [(z, kv, v)]).map (·.1) = (es ++ [(z, d)]).map (·.1)
      rw [List.map_append, List.map_append, h.1]; rfl
    · show Rps K H ((ks ++ [(z, kv, v)]).map (·.2.2)) ((es ++ [(z, d)]).map (·.2))
      rw [List.map_append, List.map_append]
      exact h.2.1.append (.one hr)
    · have hx : x ∈ ks ++ [(z, kv, v)] := hx
      rcases List.mem_append.mp hx with hx | hx
      · exact h.2.2 x hx
      · rw [List.mem_singleton.mp hx]; exact hk
  · rw [e1, e2]
    exact mrps_rep h z hr
theorem mrps_len {ks : List MRow} {es : List (NestedKey × D)} (h : MRps K H ks es) : ks.length = es.length := by
  have := congrArg List.length h.1
  rwa [List.length_map, List.length_map] at this
theorem MRps.keys {ks : List MRow} {es : List (NestedKey × D)} (s : Same H0 H) (h : MRps K H0 ks es) : ∀ x ∈ ks, NV K H 8 x.1 x.2.1 := (h.mono s).2.2
variable {tk ta : TE} {wk wa : WE} {i : Nat}
theorem ss_setM : SndS K ok (tAsg tMNew (gName i)) (wSetM i) := fun C H0 σ H env E W rel hw h => by
  show ∀ p, H p = none → _
  intro p hp
  exact h.nx _ _ _ H0 (Same.refl _) ((rel.laid0 hp).setO (s := .dcm []) ⟨p, [], rfl, rel.fresh hp, rel.sub.free hp, upd_same, rfl, .nil, fun x hx => by cases hx⟩ rfl (rel.kp.free hp) fun j t _ ht ot => rel.noslot hp j t ht ot) hw
theorem snd_mget1 (hk : SndE K ok tk wk) : SndE K ok (tMGet1 K (tVar i) tk) (wMGet1 i wk) := fun C H0 σ H env Q R rel hw k => by
  unfold wMGet1 at hw
  split at hw
  · rename_i kvs hd
    obtain ⟨p, ks, e, n, n0, hp, kr⟩ := rel.slot i _ (get_eq hd)
    refine ⟨.ref p, e, p, rfl, ⟨ks, hp, kr.keys rel.sub⟩, hk C H0 σ H env _ _ rel hw fun y v H1 H01 q r1 e1 x1 => ?_⟩
    obtain ⟨p', ks1, e', n, n0, hp1, kr1⟩ := r1.slot i _ (get_eq hd)
    rw [e] at e'
    cases e'
    obtain ⟨z, w0, hz, hw0, q⟩ := q
    subst hw0
    refine ⟨_, ⟨ks1, z, hp1, kr1.keys r1.sub, nv_of (x1.mono r1.sub) hz, rfl⟩, ?_⟩
    rcases mrps_at kr1 z with ⟨a1, a2⟩ | ⟨w, d, a1, a2, r⟩
    · rw [a1]
      rw [a2] at q
      exact k _ _ H1 H01 q r1 e1 .non
    · rw [a1]
      rw [a2] at q
      exact k _ _ H1 H01 q r1 e1 r
  · exact hw.elim
theorem snd_mget2 (hk : SndE K ok tk wk) (ha : SndE K ok ta wa) : SndE K ok (tMGet2 K (tVar i) tk ta) (wMGet2 i wk wa) := fun C H0 σ H env Q R rel hw k => by
  unfold wMGet2 at hw
  split at hw
  · rename_i kvs hd
    obtain ⟨p, ks, e, n, n0, hp, kr⟩ := rel.slot i _ (get_eq hd)
    refine ⟨.ref p, e, p, rfl, ⟨ks, hp, kr.keys rel.sub⟩, hk C H0 σ H env _ _ rel hw fun y v H1 H01 q r1 e1 x1 => ha C H01 σ H1 env _ _ r1 q fun d u H2 H02 q r2 e2 x2 => ?_⟩
    obtain ⟨p', ks1, e', n, n0, hp1, kr1⟩ := r2.slot i _ (get_eq hd)
    rw [e] at e'
    cases e'
    obtain ⟨z, w0, hz, hw0, q⟩ := q
    subst hw0
    refine ⟨_, ⟨ks1, z, hp1, kr1.keys r2.sub, nv_of ((x1.mono e2).mono r2.sub) hz, rfl⟩, ?_⟩
    rcases mrps_at kr1 z with ⟨a1, a2⟩ | ⟨w, d', a1, a2, r⟩
    · rw [a1]
      rw [a2] at q
      exact k _ _ H2 H02 q r2 (e1.trans e2) x2
    · rw [a1]
      rw [a2] at q
      exact k _ _ H2 H02 q r2 (e1.trans e2) r
  · exact hw.elim
theorem snd_mix (hk : SndE K ok tk wk) : SndE K ok (tMGet K (tVar i) tk) (wMIx i wk) := fun C H0 σ H env Q R rel hw k => by
  unfold wMIx at hw
  split at hw
  · rename_i kvs hd
    obtain ⟨p, ks, e, n, n0, hp, kr⟩ := rel.slot i _ (get_eq hd)
    refine ⟨.ref p, e, hk C H0 σ H env _ _ rel hw fun y v H1 H01 q r1 e1 x1 => ?_⟩
    obtain ⟨p', ks1, e', n, n0, hp1, kr1⟩ := r1.slot i _ (get_eq hd)
    rw [e] at e'
    cases e'
    obtain ⟨z, d, hz, hd', q⟩ := q
    rcases mrps_at kr1 z with ⟨a1, a2⟩ | ⟨w, d', a1, a2, r⟩
    · rw [hd'] at a2; cases a2
    · rw [hd'] at a2
      cases a2
      exact ⟨p, w, rfl, ⟨ks1, z, hp1, kr1.keys r1.sub, nv_of (x1.mono r1.sub) hz, a1.symm⟩, k _ _ H1 H01 q r1 e1 r⟩
  · exact hw.elim
theorem snd_min (hk : SndE K ok tk wk) : SndE K ok (tMIn K tk (tVar i)) (wMIn i wk) := fun C H0 σ H env Q R rel hw k => by
  unfold wMIn at hw
  split at hw
  · rename_i kvs hd
    refine hk C H0 σ H env _ _ rel hw fun y v H1 H01 q r1 e1 x1 => ?_
    obtain ⟨p, ks1, e, n, n0, hp1, kr1⟩ := r1.slot i _ (get_eq hd)
    obtain ⟨z, w0, hz, hw0, q⟩ := q
    subst hw0
    refine ⟨.ref p, e, p, _, rfl, ⟨ks1, z, hp1, kr1.keys r1.sub, nv_of (x1.mono r1.sub) hz, rfl⟩, ?_⟩
    have : (valM ks1 z).isSome = (mAt kvs z).isSome := by
      rcases mrps_at kr1 z with ⟨a1, a2⟩ | ⟨w, d', a1, a2, r⟩ <;> rw [a1, a2] <;> rfl
    rw [this]
    exact k _ _ H1 H01 q r1 e1 (.bl _)
  · exact hw.elim
theorem snd_mnin (hk : SndE K ok tk wk) : SndE K ok (tMNotIn K tk (tVar i)) (wMNin i wk) := fun C H0 σ H env Q R rel hw k => by
  unfold wMNin at hw
  split at hw
  · rename_i kvs hd
    refine hk C H0 σ H env _ _ rel hw fun y v H1 H01 q r1 e1 x1 => ?_
    obtain ⟨p, ks1, e, n, n0, hp1, kr1⟩ := r1.slot i _ (get_eq hd)
    obtain ⟨z, w0, hz, hw0, q⟩ := q
    subst hw0
    refine ⟨.ref p, e, p, _, rfl, ⟨ks1, z, hp1, kr1.keys r1.sub, nv_of (x1.mono r1.sub) hz, rfl⟩, ?_⟩
    have : (valM ks1 z).isSome = (mAt kvs z).isSome := by
      rcases mrps_at kr1 z with ⟨a1, a2⟩ | ⟨w, d', a1, a2, r⟩ <;> rw [a1, a2] <;> rfl
    rw [this]
    exact k _ _ H1 H01 q r1 e1 (.bl _)
  · exact hw.elim
theorem ss_mput (ha : SndE K ok ta wa) (hk : SndE K ok tk wk) : SndS K ok (sMPut K (tVar i) tk ta) (wMPut i wk wa) := fun C H0 σ H env E W rel hw h => by
  unfold wMPut at hw
  split at hw
  · rename_i kvs hd
    refine ha C H0 σ H env _ _ rel hw fun d v H1 H01 q r1 e1 x1 => ?_
    obtain ⟨p, ks, e, n, n0, hp, kr⟩ := r1.slot i _ (get_eq hd)
    refine ⟨.ref p, e, hk C H01 σ H1 env _ _ r1 q fun y u H2 H02 q r2 e2 x2 => ?_⟩
    obtain ⟨p', ks1, e', n, n0, hp1, kr1⟩ := r2.slot i _ (get_eq hd)
    rw [e] at e'
    cases e'
    obtain ⟨z, hz, hl, q⟩ := q
    have nv := nv_of x2 hz
    refine ⟨p, _, rfl, ⟨ks1, z, hp1, kr1.keys r2.sub, nv_of (x2.mono r2.sub) hz, by rw [mrps_len kr1]; exact lt_size hl, rfl⟩, ?_⟩
    exact h.nx _ _ _ H02 (e1.trans e2) (r2.put (s := .dcm kvs) (t := .dcm (mSet kvs z d)) (get_eq hd) rfl e (fun y => by obtain ⟨⟨o, w⟩, _⟩ := r2.hv p y; rw [n] at w; cases w) rfl ⟨p, _, rfl, n, n0, upd_same, mrps_set kr1 nv (x1.mono e2)⟩) q
  · exact hw.elim
end
section
variable {X : Cx} {ok : List D → Prop} {a b e : Expr} {wa wb we : WE} {pos : Pos} {x : Str}
theorem s_setM (i : Nat) {pos' dpos : Pos} (hN : X.N.Nodup) (hi : X.N[i]? = some x := by rfl) (hx : Loc X.env.scope x := by first | exact Or.inl rfl | exact Or.inr rfl) (hs : swapsWith (.Dict [] [] dpos) (some (.Name x pos')) pos.line X.env = pure false := by rfl) (hf : X.fn x = true ∨ X.env.scope.names.lookup x = some .local := by first | exact .inl rfl | exact .inr rfl) :
    PDS X ok (.Assign [.Name x pos'] (.Dict [] [] dpos) pos) (wSetM i) := ⟨_, ps_set hN hi hx pe_mnew hs hf, ss_setM⟩
theorem d_mget1 {k : Nat} (i : Nat) {apos mp : Pos} (hr : Room k X.A) (ha : PDE X ok a wa) (hN : X.N[i]? = some x := by rfl) (hv : Vis X.env.scope x := by first | exact Or.inl rfl | exact Or.inr (Or.inl rfl) | exact Or.inr (Or.inr rfl)) (hd : (x == ("__debug__" : Str)) = false := by decide) (hcd : (x == ("__classdict__" : Str)) = false := by decide)
    (m1 : attributeBase (.Name x mp) "get" X.env (eval (.Name x mp) X.env) = eval (.Name x mp) X.env := by rfl)
    (m2 : ((backTo pos (starEach [a] X.env)).all (fun x => !x.1) && (backToKw pos (keywordEach [] X.env)).all (fun x => x.1.isSome) && decide (([a] : List Expr).length + ([] : List Keyword).length + (if ([] : List Keyword).isEmpty then 0 else 1) < 30)) = true := by rfl)
    (m3 : (apos.endLine == pos.line) = true := by rfl) (m4 : backTo pos (starEach [a] X.env) = [(false, eval a X.env)] := by rfl) :
    PDE X ok (.Call (.Attribute (.Name x mp) "get" apos) [a] [] pos) (wMGet1 i wa) := let ⟨_, a1, a2⟩ := ha; ⟨_, pe_mget1 (by have := units65 hr; omega) (pe_var hN hv hd hcd) a1 ⟨m1, m2, m3, m4⟩, snd_mget1 a2⟩
theorem d_mget2 {k : Nat} (i : Nat) {apos mp : Pos} (hr : Room k X.A) (ha : PDE X ok a wa) (hb : PDE X ok b wb) (hN : X.N[i]? = some x := by rfl) (hv : Vis X.env.scope x := by first | exact Or.inl rfl | exact Or.inr (Or.inl rfl) | exact Or.inr (Or.inr rfl)) (hd : (x == ("__debug__" : Str)) = false := by decide) (hcd : (x == ("__classdict__" : Str)) = false := by decide)
    (m1 : attributeBase (.Name x mp) "get" X.env (eval (.Name x mp) X.env) = eval (.Name x mp) X.env := by rfl)
    (m2 : ((backTo pos (starEach [a, b] X.env)).all (fun x => !x.1) && (backToKw pos (keywordEach [] X.env)).all (fun x => x.1.isSome) && decide (([a, b] : List Expr).length + ([] : List Keyword).length + (if ([] : List Keyword).isEmpty then 0 else 1) < 30)) = true := by rfl)
    (m3 : (apos.endLine == pos.line) = true := by rfl) (m4 : backTo pos (starEach [a, b] X.env) = [(false, eval a X.env), (false, eval b X.env)] := by rfl) :
    PDE X ok (.Call (.Attribute (.Name x mp) "get" apos) [a, b] [] pos) (wMGet2 i wa wb) := let ⟨_, a1, a2⟩ := ha; let ⟨_, b1, b2⟩ := hb; ⟨_, pe_mget2 (by have := units65 hr; omega) (pe_var hN hv hd hcd) a1 b1 ⟨m1, m2, m3, m4⟩, snd_mget2 a2 b2⟩
theorem d_mix {k : Nat} (i : Nat) {mp : Pos} (hr : Room k X.A) (ha : PDE X ok a wa) (hN : X.N[i]? = some x := by rfl) (hv : Vis X.env.scope x := by first | exact Or.inl rfl | exact Or.inr (Or.inl rfl) | exact Or.inr (Or.inr rfl)) (hd : (x == ("__debug__" : Str)) = false := by decide) (hcd : (x == ("__classdict__" : Str)) = false := by decide)
    (hs : NoSl a := by exact fun _ _ => rfl) : PDE X ok (.Subscript (.Name x mp) a pos) (wMIx i wa) := let ⟨_, a1, a2⟩ := ha; ⟨_, pe_mget (by have := units65 hr; omega) (pe_var hN hv hd hcd) a1 hs, snd_mix a2⟩
theorem d_min {k : Nat} (i : Nat) {mp : Pos} (hr : Room k X.A) (ha : PDE X ok a wa) (hN : X.N[i]? = some x := by rfl) (hv : Vis X.env.scope x := by first | exact Or.inl rfl | exact Or.inr (Or.inl rfl) | exact Or.inr (Or.inr rfl)) (hd : (x == ("__debug__" : Str)) = false := by decide) (hcd : (x == ("__classdict__" : Str)) = false := by decide)
    (hm : behindInMarks .In (.Name x mp) = false := by rfl) : PDE X ok (.Compare a [.In] [.Name x mp] pos) (wMIn i wa) := let ⟨_, a1, a2⟩ := ha; ⟨_, pe_cmp (pc_min (by have := units65 hr; omega) a1 (pe_var hN hv hd hcd)) hm, snd_min a2⟩
theorem d_mnin {k : Nat} (i : Nat) {mp : Pos} (hr : Room k X.A) (ha : PDE X ok a wa) (hN : X.N[i]? = some x := by rfl) (hv : Vis X.env.scope x := by first | exact Or.inl rfl | exact Or.inr (Or.inl rfl) | exact Or.inr (Or.inr rfl)) (hd : (x == ("__debug__" : Str)) = false := by decide) (hcd : (x == ("__classdict__" : Str)) = false := by decide)
    (hm : behindInMarks .NotIn (.Name x mp) = false := by rfl) : PDE X ok (.Compare a [.NotIn] [.Name x mp] pos) (wMNin i wa) := let ⟨_, a1, a2⟩ := ha; ⟨_, pe_cmp (pc_mnotin (by have := units65 hr; omega) a1 (pe_var hN hv hd hcd)) hm, snd_mnin a2⟩
theorem t_min {k : Nat} (i : Nat) {mp : Pos} (hr : Room k X.A) (ha : PDE X ok a wa) (hN : X.N[i]? = some x := by rfl) (hv : Vis X.env.scope x := by first | exact Or.inl rfl | exact Or.inr (Or.inl rfl) | exact Or.inr (Or.inr rfl)) (hd : (x == ("__debug__" : Str)) = false := by decide) (hcd : (x == ("__classdict__" : Str)) = false := by decide)
    (hm : behindInMarks .In (.Name x mp) = false := by rfl) : PDT X ok (.Compare a [.In] [.Name x mp] pos) (wTest (wMIn i wa)) := let ⟨_, a1, a2⟩ := ha; ⟨_, pt_cmp (pc_min (by have := units65 hr; omega) a1 (pe_var hN hv hd hcd)) hm, snd_tB (snd_min a2)⟩
theorem t_mnin {k : Nat} (i : Nat) {mp : Pos} (hr : Room k X.A) (ha : PDE X ok a wa) (hN : X.N[i]? = some x := by rfl) (hv : Vis X.env.scope x := by first | exact Or.inl rfl | exact Or.inr (Or.inl rfl) | exact Or.inr (Or.inr rfl)) (hd : (x == ("__debug__" : Str)) = false := by decide) (hcd : (x == ("__classdict__" : Str)) = false := by decide)
    (hm : behindInMarks .NotIn (.Name x mp) = false := by rfl) : PDT X ok (.Compare a [.NotIn] [.Name x mp] pos) (wTest (wMNin i wa)) := let ⟨_, a1, a2⟩ := ha; ⟨_, pt_cmp (pc_mnotin (by have := units65 hr; omega) a1 (pe_var hN hv hd hcd)) hm, snd_tB (snd_mnin a2)⟩
theorem s_mput {k : Nat} (i : Nat) {tp mp : Pos} {ix : Expr} (hr : Room k X.A) (he : PDE X ok e we) (hk : PDE X ok ix wa) (hN : X.N[i]? = some x := by rfl) (hv : Vis X.env.scope x := by first | exact Or.inl rfl | exact Or.inr (Or.inl rfl) | exact Or.inr (Or.inr rfl)) (hd : (x == ("__debug__" : Str)) = false := by decide) (hcd : (x == ("__classdict__" : Str)) = false := by decide)
    (hs : swapsWith e (some (.Subscript (.Name x mp) ix tp)) pos.line X.env = pure false := by rfl) :
    PDS X ok (.Assign [.Subscript (.Name x mp) ix tp] e pos) (wMPut i wa we) := let ⟨_, e1, e2⟩ := he; let ⟨_, k1, k2⟩ := hk; ⟨_, ps_mput (by have := units65 hr; omega) (pe_var hN hv hd hcd) k1 e1 hs, ss_mput e2 k2⟩
end
end DL
/-! DM, part b: {k: v for ..} with whole numbers as keys, stored to a name. -/
namespace DL
open PySem PySem.Spec PyProof.Rows L2
def wDc (wi : WI) (wg : WG) (wt : WT) (wk wv : WE) (vs : List Nat) : EnvD → (List (Key × D) → Prop) → Prop := fun env Q => wi env fun ds => ds.length < 1000000 ∧ wpN env vs ∧ ∃ I : Nat → List (Key × D) → Prop, I 0 [] ∧
  (∀ i d acc, ds[i]? = some d → I i acc → wg d (wpE env vs) fun env2 => wt env2 fun b => (b = true → wk env2 fun y => wv env2 fun e => ∃ z, dKey y = some z ∧ I (i + 1) (dSet acc z e)) ∧ (b = false → I (i + 1) acc)) ∧ ∀ acc, I ds.length acc → Q acc
def wSetDc (i : Nat) (wd : EnvD → (List (Key × D) → Prop) → Prop) : WS := fun W env => wd env fun kvs => W.nx (env.set i (some (.dct kvs)))
section
variable {K : PySem.W.Frag} {ok : List D → Prop} {C : Ctx}
/-- a protected thing that no slot holds is changed -/
theorem Rel.chg {A : Addr} {o1 o2 : HO} {H02 H2 : Hp} {env2 : EnvD} {σ2 : L2.St} (r : Rel K ok { C with Kp := upd C.Kp A o1 } H02 σ2 H2 env2) (n0 : H02 A = none) (hCA : C.He A = none) (nha : C.ha ≠ some A) :
    Rel K ok { C with Kp := upd C.Kp A o2 } H02 σ2 (upd H2 A o2) env2 := by
  have up : ∀ {b : Addr} {x : HO}, b ≠ A → H2 b = some x → (upd H2 A o2) b = some x := fun {b x} hb z => by rw [upd_ne hb]; exact z
  have ns : ∀ (i : Nat) s, env2[i]? = some (some s) → s.isOwn = true → σ2[i]? ≠ some (some (.ref A)) := fun i s hs os z => by
    have y : upd C.Kp A o1 A = none := r.kn i s A hs os z
    rw [upd_same] at y; cases y
  refine ⟨fun b o z => up (ne_of_none z n0) (r.sub b o z), r.grow, r.new, fun b o z m => up (ne_of_none z hCA) (r.fr b o z m), fun a ha => ?_, r.len, fun i s hs => ?_, r.dis, fun b o z => ?_, fun i s p hs os e => ?_, fun a ha => ?_, fun b o z => ?_⟩
  · obtain ⟨h1, dd, h2, h3⟩ := r.hv a ha
    exact ⟨h1, dd, h2.keep (Same.refl _) h2.n0 (fun o z => up (fun y => by subst y; exact nha ha) z), h3⟩
  · have q := r.slot i s hs
    have other : ∀ {a : Addr}, s.isOwn = true → σ2[i]? = some (some (.ref a)) → a ≠ A := fun {a} o' z y => by subst y; exact ns i s hs o' z
    cases s with
    | v d => exact q
    | own dd => obtain ⟨p, e, m, h2⟩ := q; exact ⟨p, e, m, h2.keep (Same.refl _) h2.n0 (fun o z => up (other rfl e) z)⟩
    | hnd => obtain ⟨p, dd, e, m, h2, h3⟩ := q; exact ⟨p, dd, e, m, h2.keep (Same.refl _) h2.n0 (fun o z => up (other rfl e) z), h3⟩
    | dct kvs => obtain ⟨p, ks, e, m, m0, hp, r'⟩ := q; exact ⟨p, ks, e, m, m0, up (other rfl e) hp, r'⟩
    | dcm kvs => obtain ⟨p, ks, e, m, m0, hp, r'⟩ := q; exact ⟨p, ks, e, m, m0, up (other rfl e) hp, r'⟩
  · have z' : upd C.Kp A o2 b = some o := z
    by_cases hb : b = A
    · subst hb; rw [upd_same] at z' ⊢; exact z'
    · rw [upd_ne hb] at z'
      exact up hb (r.kp b o (by show upd C.Kp A o1 b = some o; rw [upd_ne hb]; exact z'))
  · have y : upd C.Kp A o1 p = none := r.kn i s p hs os e
    show upd C.Kp A o2 p = none
    by_cases hb : p = A
    · subst hb; rw [upd_same] at y; cases y
    · rw [upd_ne hb] at y ⊢; exact y
  · have y : upd C.Kp A o1 a = none := r.kh a ha
    show upd C.Kp A o2 a = none
    by_cases hb : a = A
    · subst hb; rw [upd_same] at y; cases y
    · rw [upd_ne hb] at y ⊢; exact y
  · have z' : upd C.Kp A o2 b = some o := z
    by_cases hb : b = A
    · subst hb; exact n0
    · rw [upd_ne hb] at z'
      exact r.kz b o (by show upd C.Kp A o1 b = some o; rw [upd_ne hb]; exact z')
theorem wipe_wipe {σ : L2.St} {vs : List Nat} : L2.wipe (L2.wipe σ vs) vs = L2.wipe σ vs := by
  apply List.ext_getElem?
  intro j
  rw [wipe_get, wipe_get, wipe_length]
  by_cases hj : j ∈ vs
  · rw [if_pos hj, if_pos hj]
  · rw [if_neg hj, if_neg hj]
variable {tt : TT} {wt : WT} {tk tv : TE} {wk wv : WE}
/-- the comprehension: at the end a new dict, known to nobody -/
theorem sd_dc {vs : List Nat} {ti : TI} {wi : WI} {g : TG} {wg : WG} (hi : SndI K ok ti wi) (hg : SndG K ok vs g wg) (ht : SndT K ok tt wt) (hk : SndE K ok tk wk) (hv : SndE K ok tv wv) {H0 : Hp} {σ : L2.St} {H : Hp} {env : EnvD} {Q : List (Key × D) → Prop} {R : VK}
    (rel : Rel K ok C H0 σ H env) (hw : wDc wi wg wt wk wv vs env Q)
    (k : ∀ kvs A H2 H02 ks, Q kvs → Rel K ok C H02 σ H2 env → Same H0 H02 → C.He A = none → C.Kp A = none → H02 A = none → H2 A = some (.dK ks) → KRps K H02 ks kvs → (∀ (i : Nat) s, env[i]? = some (some s) → s.isOwn = true → σ[i]? ≠ some (some (.ref A))) → R (.ref A) H2) :
    tDc ti g tt tk tv vs σ H R := hi C H0 σ H env _ _ rel hw fun ds J H1 H01 q r1 e1 w => by
    obtain ⟨hlen, hwp, I, i0, turn, fin⟩ := q
    intro A hA
    have hA0 : C.Kp A = none := r1.kp.free hA
    have hCA : C.He A = none := r1.fresh hA
    have nha : C.ha ≠ some A := fun z => by obtain ⟨⟨o, y⟩, _⟩ := r1.hv A z; rw [hCA] at y; cases y
    have out : ∀ {o : HO} {H2 H02 : Hp} {env2 : EnvD} {σ2 : L2.St}, Rel K ok { C with Kp := upd C.Kp A o } H02 σ2 H2 env2 → Rel K ok C H02 σ2 H2 env2 := fun {o H2 H02 env2 σ2} r =>
      (r.guard (Kq := C.Kp) (fun b o' z => r.kp b o' (by show upd C.Kp A o b = some o'; rw [upd_ne (ne_of_none z hA0)]; exact z)) fun p o' z => .inl (by
        show upd C.Kp A o p = some o'
        rw [upd_ne (ne_of_none z hA0)]; exact z))
    let Pv : Nat → Hp → Prop := fun i H => ∃ acc ks H02, Same H01 H02 ∧ Rel K ok { C with Kp := upd C.Kp A (.dK ks) } H02 σ H env ∧ H A = some (.dK ks) ∧ H02 A = none ∧ KRps K H02 ks acc ∧ acc.length ≤ i ∧ I i acc
    refine ⟨fun i m H => m = ds.length - i ∧ i ≤ ds.length ∧ Pv i H, ⟨ds.length, by simp, Nat.zero_le _, [], [], H01, Same.refl _, ?_, upd_same, r1.sub.free hA, ⟨rfl, .nil⟩, Nat.zero_le _, i0⟩, ?_⟩
    · refine (r1.laid0 (o := .dK []) hA).guard (fun b o z => ?_) fun p o z => ?_
      · by_cases hb : b = A
        · subst hb; rw [upd_same] at z ⊢; exact z
        · rw [upd_ne hb] at z ⊢; exact r1.kp b o z
      · by_cases hb : p = A
        · subst hb; exact .inr ⟨r1.noslot hA, nha, r1.sub.free hA⟩
        · rw [upd_ne hb] at z; exact .inl z
    rintro i m H2 ⟨rfl, hil, acc, ks, H02, e2, r2, hpA, nA, hr, hacc, i2⟩
    by_cases hlt : i < ds.length
    · refine .inr ⟨w.goes i H2 hlt (e2.trans r2.sub), Pv (i + 1), fun H' p' => ⟨ds.length - (i + 1), by omega, rfl, hlt, p'⟩, fun x H' y => ?_⟩
      obtain ⟨d, H03, hd, r3, e3, x3, kp3⟩ := w.item e2 r2 hlt y
      have r3' : Rel K ok { C with Kp := upd C.Kp A (.dK ks) } H03 (L2.wipe σ vs) H' (wpE env vs) := r3.wipe vs
      refine hg _ H03 _ H' _ x d _ _ r3' x3 (turn i d acc hd i2) fun env4 σ4 r4 q4 w4 => ⟨by rw [w4.1]; exact wipe_wipe, ?_⟩
      have outer : ∀ {o : HO} {Hn H0n : Hp}, Same H03 H0n → Rel K ok { C with Kp := upd C.Kp A o } H0n σ4 Hn env4 → Rel K ok { C with Kp := upd C.Kp A (.dK ks) } H0n σ Hn env ∨ Rel K ok { C with Kp := upd C.Kp A o } H0n σ Hn env := by
        intro o Hn H0n e30 rn
        have z := rn.wipe vs
        rw [w4.1, w4.2, wpE_wpE, wipe_wipe] at z
        exact .inr (r3.unwipe e30 z hwp)
      have outer : ∀ {Hn H0n : Hp}, Same H03 H0n → Rel K ok { C with Kp := upd C.Kp A (.dK ks) } H0n σ4 Hn env4 → Rel K ok { C with Kp := upd C.Kp A (.dK ks) } H0n σ Hn env := fun {Hn H0n} e30 rn => by
        rcases outer e30 rn with z | z <;> exact z
      have atA : ∀ {Hn H0n : Hp}, Rel K ok { C with Kp := upd C.Kp A (.dK ks) } H0n σ4 Hn env4 → Hn A = some (.dK ks) := fun {Hn H0n} rn => rn.kp A _ upd_same
      have noA : ∀ {Hn H0n : Hp}, Rel K ok { C with Kp := upd C.Kp A (.dK ks) } H0n σ4 Hn env4 → H0n A = none := fun {Hn H0n} rn => rn.kz A _ upd_same
      refine ht _ H03 σ4 H' env4 _ _ r4 q4 fun b H5 H05 q5 r5 e5 => ?_
      cases b with
      | true =>
        refine iteT (hk _ H05 σ4 H5 env4 _ _ r5 (q5.1 rfl) fun z v H6 H06 q6 r6 e6 x6 => hv _ H06 σ4 H6 env4 _ _ r6 q6 fun z2 v2 H7 H07 q7 r7 e7 x7 => ?_)
        have n7 := noA r7
        obtain ⟨kk, hkk, q7⟩ := q7
        have ev := dKey_V x6 hkk
        have kr : KRps K H07 ks acc := hr.mono (((e3.trans e5).trans e6).trans e7)
        refine ⟨ks, kk, ev, atA r7, by rw [krps_len hr]; exact Nat.lt_of_le_of_lt hacc (Nat.lt_trans hlt (lt_size hlen)), dSet acc kk z2, putK ks kk v2, H07, (((e2.trans e3).trans e5).trans e6).trans e7, (outer ((e5.trans e6).trans e7) r7).chg n7 hCA nha, upd_same, n7, krps_set kr kk x7, ?_, q7⟩
        exact Nat.le_trans (dSet_len acc kk z2) (Nat.succ_le_succ hacc)
      | false =>
        exact iteF ⟨acc, ks, H05, (e2.trans e3).trans e5, outer e5 r5, atA r5, noA r5, hr.mono (e3.trans e5), Nat.le_succ_of_le hacc, q5.2 rfl⟩
    · have hi' : i = ds.length := by omega
      subst hi'
      refine .inl ⟨w.stops H2 (e2.trans r2.sub), k acc A H2 H02 ks (fin acc i2) (out r2) (e1.trans e2) hCA hA0 nA hpA hr fun j s hs os z => ?_⟩
      have y : upd C.Kp A (.dK ks) A = none := r2.kn j s A hs os z
      rw [upd_same] at y; cases y
theorem ss_setDc {i : Nat} {vs : List Nat} {ti : TI} {wi : WI} {g : TG} {wg : WG} (hi : SndI K ok ti wi) (hg : SndG K ok vs g wg) (ht : SndT K ok tt wt) (hk : SndE K ok tk wk) (hv : SndE K ok tv wv) :
    SndS K ok (tAsg (tDc ti g tt tk tv vs) (gName i)) (wSetDc i (wDc wi wg wt wk wv vs)) := fun C H0 σ H env E W rel hw h =>
  sd_dc hi hg ht hk hv rel hw fun kvs A H2 H02 ks q r e a1 a2 a3 a4 a5 a6 => h.nx _ _ _ H02 e (r.setO (s := .dct kvs) ⟨A, ks, rfl, a1, a3, a4, a5⟩ rfl a2 fun j t _ ht ot => a6 j t ht ot) q
end
/-- name = {..} on one line, the name a local -/
theorem ps_setDc {X : Cx} {i : Nat} {y : Str} {py : Pos} {kx vx tg iter : Expr} {ifs : List Expr} {scope : Scope} {own : List (Str × Nat)} {pos spos : Pos} {wi : TI} {g : TG} {tt : TT} {tk tv : TE} (hc : X.calm = true) (hN : X.N.Nodup) (hy : X.N[i]? = some y) (hyl : X.env.scope.names.lookup y = some .local)
    (hsw : swapsWith (.DictComp kx vx [⟨tg, iter, ifs, 0⟩] scope pos) (some (.Name y py)) spos.line X.env = pure true) (hi : PI X tg iter wi) (ok : BlkOk X.N X.env.scope scope own)
    (hg : ∀ (s : Shared) (H : Hp) (C : Addr) (cl : List (Str × Addr)) (fp : List Addr), PG (X.blk s H scope (compEnvC scope cl C X.env) fp) tg g) (ht : ∀ (s : Shared) (H : Hp) (C : Addr) (cl : List (Str × Addr)) (fp : List Addr), PTs (X.blk s H scope (compEnvC scope cl C X.env) fp) ifs tt)
    (hk : ∀ (s : Shared) (H : Hp) (C : Addr) (cl : List (Str × Addr)) (fp : List Addr), PE (X.blk s H scope (compEnvC scope cl C X.env) fp) kx tk) (he : ∀ (s : Shared) (H : Hp) (C : Addr) (cl : List (Str × Addr)) (fp : List Addr), PE (X.blk s H scope (compEnvC scope cl C X.env) fp) vx tv)
    (hs : ∀ x, foldedSetIterable iter X.env x = pure x := by intro _; rfl) :
    PS X (.Assign [.Name y py] (.DictComp kx vx [⟨tg, iter, ifs, 0⟩] scope pos) spos) (tAsg (tDc wi g tt tk tv (own.map (·.2))) (gName i)) := by
  refine ⟨fun pins s σ H D I h => ?_⟩
  rw [exec_Assign_Name_used _ _ _ _ hsw]
  refine wpAny_bind (wpAny_standAt (wpAny_bind ?_))
  show wpAny _ X.A (do let _ ← comprehension (.DictComp kx vx [⟨tg, iter, ifs, 0⟩] scope pos) scope X.env (firstIterPos [⟨tg, iter, ifs, 0⟩] pos) newDict false (eval iter X.env) (some (assign (.Name y py) X.env))) _ _ s
  have h : tDc wi g tt tk tv (own.map (·.2)) σ H (fun x H1 => gName i x σ H1 D.nx) := h
  refine wpAny_bind (thn (dc_core (Qf := fun _ s' => SP X pins D .next s') hc hN I hi ok hg ht hk he hs h fun L C s' m H' I' q hn f => ?_) fun _ s' hq => wpAny_pure (wpAny_pure hq))
  show wpAny _ _ (assign (.Name y py) X.env (.ref L)) _ _ _
  refine wpAny_assign_Name (store_ok2 (v := V.ref L) I' hN hy (.inl hyl) rfl (fun s2 I2 ⟨a, sb, ha⟩ => ?_) (.inr hyl))
  obtain ⟨f0, f1, f2, f3, f4, f5⟩ := f
  have haC : C ≠ a := by
    rcases ha with z | z
    · rw [z]; exact f1
    · exact fun e => f4 y a z e.symm
  exact ⟨m, hn.sameBut sb haC, fun h3 sb3 => ⟨_, H', I2.turned (t' := s2.toks) (fun b o hb e => (sb3.2 b hb).trans e) f0 f1 f3 f4 f5, q⟩⟩
theorem swD_true {kx vx : Expr} {gs : List Comprehension} {scope : Scope} {pos py : Pos} {y : Str} {l : Nat} {env : Env} (hk : env.scope.kind = .function) (hy : env.scope.names.lookup y = some .local) (hl : (py.line == pos.line) = true)
    (ha : (scope.names.any fun (n, k) => n == y && (k == .local || k == .cell)) = false) : swapsWith (.DictComp kx vx gs scope pos) (some (.Name y py)) l env = pure true := by
  have ky : env.kindOf y = some .local := hy
  have hb : env.blockKind = .function := by unfold Env.blockKind; rw [hk]; rfl
  unfold swapsWith
  simp only [hb, ky, ha, Expr.pos, hl]
  rfl
section
variable {X : Cx} {ok : List D → Prop}
theorem s_setDc (i : Nat) {py spos : Pos} {y : Str} {tg iter kx vx : Expr} {ifs : List Expr} {scope : Scope} {pos : Pos} {own : List (Str × Nat)} {wi : WI} {wg : WG} {wt : WT} {wk wv : WE} (hc : X.calm = true) (hN : X.N.Nodup) (hi : PDI X ok tg iter wi) (ok' : BlkOk X.N X.env.scope scope own)
    (hg : ∃ g, (∀ (s : Shared) (H : Hp) (C : Addr) (cl : List (Str × Addr)) (fp : List Addr), PG (X.blk s H scope (compEnvC scope cl C X.env) fp) tg g) ∧ SndG X.K ok (own.map (·.2)) g wg)
    (ht : ∃ tt, (∀ (s : Shared) (H : Hp) (C : Addr) (cl : List (Str × Addr)) (fp : List Addr), PTs (X.blk s H scope (compEnvC scope cl C X.env) fp) ifs tt) ∧ SndT X.K ok tt wt)
    (hk : ∃ te, (∀ (s : Shared) (H : Hp) (C : Addr) (cl : List (Str × Addr)) (fp : List Addr), PE (X.blk s H scope (compEnvC scope cl C X.env) fp) kx te) ∧ SndE X.K ok te wk)
    (he : ∃ te, (∀ (s : Shared) (H : Hp) (C : Addr) (cl : List (Str × Addr)) (fp : List Addr), PE (X.blk s H scope (compEnvC scope cl C X.env) fp) vx te) ∧ SndE X.K ok te wv)
    (hsw : swapsWith (.DictComp kx vx [⟨tg, iter, ifs, 0⟩] scope pos) (some (.Name y py)) spos.line X.env = pure true) (hy : X.N[i]? = some y := by rfl) (hyl : X.env.scope.names.lookup y = some .local := by rfl)
    (hs : ∀ x, foldedSetIterable iter X.env x = pure x := by intro _; rfl) : PDS X ok (.Assign [.Name y py] (.DictComp kx vx [⟨tg, iter, ifs, 0⟩] scope pos) spos) (wSetDc i (wDc wi wg wt wk wv (own.map (·.2)))) :=
  let ⟨_, i1, i2⟩ := hi; let ⟨_, g1, g2⟩ := hg; let ⟨_, t1, t2⟩ := ht; let ⟨_, k1, k2⟩ := hk; let ⟨_, e1, e2⟩ := he; ⟨_, ps_setDc hc hN hy hyl hsw i1 ok' g1 t1 k1 e1 hs, ss_setDc i2 g2 t2 k2 e2⟩
end
end DL
/-! DM, part c: sorted(xs), xs a list of pairs of whole numbers. -/
namespace DL
open PySem PySem.Spec PyProof.Rows L2
abbrev d2 (P : Int × Int) : D := .tuple [.int P.1, .int P.2]
def leP (P R : Int × Int) : Prop := P.1 < R.1 ∨ (P.1 = R.1 ∧ P.2 ≤ R.2)
def wSortP (a : WE) : WL := fun env Q => a env fun x => ∃ L : List (Int × Int), x = .list (L.map d2) ∧ ∀ L' : List (Int × Int), L'.Perm L → L'.Pairwise leP → Q (L'.map d2)
/-- R tells the pair of each item -/
def rSortP2 (K : PySem.W.Frag) : List V → Hp → VK → Prop := fun vs H Q => ∃ (a : Addr) (xs : List V) (L : List (Int × Int)) (R : V → Int × Int → Prop), vs = [V.ref a] ∧ SqL K H a xs ∧ (∀ x P, R x P → ∃ t, x = V.ref t ∧ SqT K H t [.int P.1, .int P.2]) ∧ Paired R xs L ∧
  ∀ ys L' p, Paired R ys L' → L'.Perm L → L'.Pairwise leP → H p = none → Q (.ref p) (upd H p (.lst ys))
theorem pair_uniq {h : Heap} {v : Value} {x y x' y' : Int} (p : Srt.IsPair h v x y) (q : Srt.IsPair h v x' y') : (x, y) = (x', y') := by
  obtain ⟨a, o, t, u, n, rfl, ho, _, hd⟩ := p
  obtain ⟨a', o', t', u', n', e, ho', _, hd'⟩ := q
  cases e
  rw [ho] at ho'; cases ho'
  rw [hd] at hd'
  cases hd'
  rfl
open Classical in
noncomputable def pairOf (h : Heap) (v : Value) : Int × Int := if z : ∃ P : Int × Int, Srt.IsPair h v P.1 P.2 then z.choose else (0, 0)
theorem pairOf_eq {h : Heap} {v : Value} {P : Int × Int} (p : Srt.IsPair h v P.1 P.2) : pairOf h v = P := by
  have z : ∃ P : Int × Int, Srt.IsPair h v P.1 P.2 := ⟨P, p⟩
  unfold pairOf
  rw [dif_pos z]
  exact pair_uniq z.choose_spec p
section
variable {X : Cx}
theorem cr_sortP2 : CallR X (.builtin "sorted") (rSortP2 X.K) := by
  intro pins s σ H vs us Q I r h
  obtain ⟨a, xs, L, R, rfl, hs, hR, hp, q⟩ := h
  obtain ⟨its, rv, hl, hz⟩ := I.list hs
  obtain ⟨u, rfl, ru⟩ := vals1 r
  obtain rfl : u = Value.ref a := ru
  have isP : ∀ {x : V} {u : Value} {P : Int × Int}, R x P → RelV x u → u = (match x with | .ref t => Value.ref t | _ => .none) ∧ backV u = x ∧ Srt.IsPair s.heap u P.1 P.2 := fun {x u P} hx hu => by
    obtain ⟨t, rfl, ht⟩ := hR x P hx
    obtain rfl : u = Value.ref t := hu
    obtain ⟨its2, r2, ⟨o, ho, hc, n, hd⟩, _⟩ := I.tuple ht
    obtain ⟨u1, u2, rfl, ri, rj⟩ := vals2 r2
    obtain ⟨t1, rfl⟩ := ri
    obtain ⟨t2, rfl⟩ := rj
    exact ⟨rfl, rfl, t, o, t1, t2, n, rfl, ho, hc, hd⟩
  have all : ∀ {xs : List V} {its : List Value} {L : List (Int × Int)}, Vals xs its → Paired R xs L → L = its.map (pairOf s.heap) ∧ ∀ u ∈ its, Srt.IsPair s.heap u (pairOf s.heap u).1 (pairOf s.heap u).2 ∧ R (backV u) (pairOf s.heap u) ∧ ∃ t, u = Value.ref t := by
    intro xs its L rv
    induction rv generalizing L with
    | nil => intro hp; cases hp; exact ⟨rfl, fun u hu => by cases hu⟩
    | cons h t ih =>
      intro hp
      cases hp with
      | cons h1 h2 =>
        obtain ⟨e1, e2⟩ := ih h2
        obtain ⟨a1, a2, a3⟩ := isP h1 h
        have a4 := pairOf_eq a3
        refine ⟨by rw [List.map_cons, ← e1, a4], fun u hu => ?_⟩
        rcases List.mem_cons.mp hu with rfl | hu
        · rw [a4, a2]
          obtain ⟨t, rfl, _⟩ := hR _ _ h1
          exact ⟨a3, h1, t, a1⟩
        · exact e2 u hu
  obtain ⟨eL, hall⟩ := all rv hp
  refine SrtO.sorted_pairsO (k := pairOf s.heap) hl.isList (by rw [← rv.length]; exact hz) (fun v hv => (hall v hv).1) fun h' d out h1 h2 kp hd hn => ?_
  have h3 : ∀ u ∈ out, ∃ a, u = Value.ref a := fun u hu => (hall u (h2.perm.mem_iff.mp hu)).2.2
  obtain ⟨n, hn⟩ := hn
  have hpair : ∀ out : List Value, (∀ u ∈ out, R (backV u) (pairOf s.heap u)) → Paired R (out.map backV) (out.map (pairOf s.heap)) := by
    intro out
    induction out with
    | nil => intro _; exact .nil
    | cons u out ih => intro h; exact .cons (h u (.head _)) (ih fun v hv => h v (.tail _ hv))
  refine ⟨.ref d, upd H d (.lst (out.map backV)), I.laid (t' := s.toks) kp hd ⟨?_, out, n, vals_back h3, hn⟩, rfl, q _ (out.map (pairOf s.heap)) d (hpair out fun u hu => (hall u (h2.perm.mem_iff.mp hu)).2.1) ?_ ?_ (I.hok.fresh hd)⟩
  · rw [List.length_map, h2.perm.length_eq, ← rv.length]
    exact hz
  · rw [eL]; exact h2.perm.map _
  · refine List.pairwise_map.mpr (h1.imp fun {x y} h => ?_)
    have := SrtO.lexB_no.mp h
    unfold leP
    omega
end
section
variable {K : PySem.W.Frag} {ok : List D → Prop} {ta : TE} {wa : WE}
theorem rps_pairs {H : Hp} : ∀ {vs : List V} {L : List (Int × Int)}, Rps K H vs (L.map d2) → Paired (fun v P => Rp K H v (d2 P)) vs L
  | vs, [], h => by rw [h.nil_inv]; exact .nil
  | vs, P :: L, h => by
    obtain ⟨v, ws, rfl, h1, h2⟩ := h.cons_inv
    exact .cons h1 (rps_pairs h2)
theorem rps_unpair {H : Hp} : ∀ {vs : List V} {L : List (Int × Int)}, Paired (fun v P => Rp K H v (d2 P)) vs L → Rps K H vs (L.map d2)
  | _, _, .nil => .nil
  | _, _, .cons h t => .cons h (rps_unpair t)
theorem sl_sortP (ha : SndB K ok ta wa) : SndL K ok (tCB (rSortP2 K) (tCons ta tNil)) (wSortP wa) := fun C H0 σ H env Q R rel hw k =>
  ha C H0 σ H env _ _ rel hw fun d v H1 H01 q r1 e1 x1 => by
    obtain ⟨L, rfl, q⟩ := q
    obtain ⟨p, vs, rfl, r, h⟩ := (x1 H1 H01 r1 (Same.refl _)).lst r1.sub
    refine ⟨p, vs, L, fun v P => Rp K H01 v (d2 P), rfl, SqL.of h, fun x P hx => ?_, rps_pairs r, fun ys L' p' hp hperm hpw nl => k _ _ _ _ (q L' hperm hpw) (r1.laid0 nl) e1 ⟨r1.fresh nl, ⟨r1.sub.free nl, _, upd_same, rps_unpair hp⟩, r1.noslot nl, r1.kp.free nl⟩⟩
    have hx' := hx.mono r1.sub
    cases hx' with
    | tup h1 h2 =>
      have : Rps K H1 _ (dints [P.1, P.2]) := h2
      rw [this.ints_inv] at h1
      exact ⟨_, rfl, h1⟩
end
section
variable {X : Cx} {ok : List D → Prop} {a : Expr} {wa : WE} {pos p : Pos}
theorem l_sortP (hm : X.mg "sorted" = none) (ha : PDB X ok a wa) (hg : Gl X "sorted" := by rfl) (hs : starEach [a] X.env = (false, eval a X.env) :: starEach [] X.env := by rfl) (hpl : (backTo pos (starEach [] X.env)).any (·.1) = false := by rfl) :
    PDL X ok (.Call (.Name "sorted" p) [a] [] pos) (wSortP wa) := let ⟨_, a1, a2⟩ := ha; ⟨_, pe_callB cr_sortP2 hg hm (by decide +kernel) (pa_cons a1 pa_nil hs) (by decide) (by decide) hs hpl, sl_sortP a2⟩
end
end DL
/-! DM, part d: dicts whose keys are pairs of whole numbers: sorted, min, len, update; a dict returned. -/
namespace DN
open PySem PySem.Spec PyProof.Rows L2
abbrev pk (P : Int × Int) : NestedKey := .tup [.num P.1, .num P.2]
theorem NV.pair {K : PySem.W.Frag} {H : Hp} {n : Nat} {P : Int × Int} {v : V} (h : NV K H n (pk P) v) : ∃ t, v = .ref t ∧ SqT K H t [.int P.1, .int P.2] := by
  cases h with
  | tup h1 h2 =>
    cases h2 with
    | cons a b =>
      cases a
      cases b with
      | cons c d =>
        cases c
        cases d
        exact ⟨_, rfl, h1⟩
section
variable {X : Cx} {pins : List (Addr × Obj)} {σ : L2.St} {H : Hp} {s : Shared} {a : Addr} {ks : List MRow}
/-- the keys' own values, as they stand in the table -/
theorem dn_raw (I : Inv X pins σ H s) (e : H a = some (dN a ks)) (hk : ∀ x ∈ ks, NV X.K H 8 x.1 x.2.1) : (a == sysModules) = false ∧ ∃ es ep, s.heap.DictRaw a es ep ∧ es.size = ks.length ∧ es.size ≤ sizeLine ∧ Vals (ks.map (·.2.1)) (es.toList.map (·.key)) := by
  obtain ⟨⟨o, es, ep, ho, hx, hd, hr, hn, hz, hm⟩, _⟩ := (show ObjOk X.prog X.w H s.heap a (dN a ks) from I.hok a _ e)
  have hl : es.size = ks.length := by rw [← Array.length_toList, ← Paired.length hr]
  have hv : ∀ {ks : List MRow} {es : List DictEntry}, Paired RowR ks es → Vals (ks.map (·.2.1)) (es.map (·.key)) := by
    intro ks es r
    induction r with
    | nil => exact .nil
    | cons h t ih => exact .cons h.2.1 ih
  exact ⟨hm, es, ep, ⟨o, ho, hx, hd⟩, hl, by rw [hl]; exact hz, hv hr⟩
end
/-- what is told of a dict of pairs: R tells each key's own value -/
def IsM (K : PySem.W.Frag) (H : Hp) (a : Addr) (ks : List MRow) (L : List (Int × Int)) (R : V → Int × Int → Prop) : Prop :=
  H a = some (dN a ks) ∧ (∀ x ∈ ks, NV K H 8 x.1 x.2.1) ∧ (∀ x P, R x P → NV K H 8 (pk P) x) ∧ Paired R (ks.map (·.2.1)) L
def rSortM (K : PySem.W.Frag) : List V → Hp → VK → Prop := fun vs H Q => ∃ (a : Addr) (ks : List MRow) (L : List (Int × Int)) (R : V → Int × Int → Prop), vs = [V.ref a] ∧ IsM K H a ks L R ∧
  ∀ ys L' p, Paired R ys L' → L'.Perm L → L'.Pairwise DL.leP → H p = none → Q (.ref p) (upd H p (.lst ys))
theorem pair_vals {X : Cx} {pins : List (Addr × Obj)} {σ : L2.St} {H : Hp} {s : Shared} (I : Inv X pins σ H s) {R : V → Int × Int → Prop} (hR : ∀ x P, R x P → NV X.K H 8 (pk P) x) :
    ∀ {xs : List V} {its : List Value} {L : List (Int × Int)}, Vals xs its → Paired R xs L → L = its.map (DL.pairOf s.heap) ∧ ∀ u ∈ its, Srt.IsPair s.heap u (DL.pairOf s.heap u).1 (DL.pairOf s.heap u).2 ∧ R (backV u) (DL.pairOf s.heap u) ∧ ∃ t, u = Value.ref t := by
  have isP : ∀ {x : V} {u : Value} {P : Int × Int}, R x P → RelV x u → ∃ t, u = Value.ref t ∧ x = V.ref t ∧ Srt.IsPair s.heap u P.1 P.2 := fun {x u P} hx hu => by
    obtain ⟨t, rfl, ht⟩ := (hR x P hx).pair
    obtain rfl : u = Value.ref t := hu
    obtain ⟨its2, r2, ⟨o, ho, hc, n, hd⟩, _⟩ := I.tuple ht
    obtain ⟨u1, u2, rfl, ri, rj⟩ := vals2 r2
    obtain ⟨t1, rfl⟩ := ri
    obtain ⟨t2, rfl⟩ := rj
    exact ⟨t, rfl, rfl, t, o, t1, t2, n, rfl, ho, hc, hd⟩
  intro xs its L rv
  induction rv generalizing L with
  | nil => intro hp; cases hp; exact ⟨rfl, fun u hu => by cases hu⟩
  | cons h t ih =>
    intro hp
    cases hp with
    | cons h1 h2 =>
      obtain ⟨e1, e2⟩ := ih h2
      obtain ⟨t, a1, a2, a3⟩ := isP h1 h
      have a4 := DL.pairOf_eq a3
      refine ⟨by rw [List.map_cons, ← e1, a4], fun u hu => ?_⟩
      rcases List.mem_cons.mp hu with rfl | hu
      · rw [a4]
        refine ⟨a3, ?_, t, a1⟩
        rw [a1]
        rw [a2] at h1
        exact h1
      · exact e2 u hu
theorem items_list {es : Array DictEntry} {acc : Array Value} (h : ItemsOf (fun i v => ∃ hi : i < es.size, v = es[i].key) acc es.size) : acc.toList = es.toList.map (·.key) := by
  apply List.ext_getElem?
  intro j
  rw [List.getElem?_map, Array.getElem?_toList, Array.getElem?_toList]
  by_cases hj : j < acc.size
  · have e : acc[j]? = some acc[j] := Array.getElem?_eq_getElem hj
    obtain ⟨hi, ev⟩ := h.2 j _ e
    rw [e, Array.getElem?_eq_getElem hi, ev]
    rfl
  · rw [Array.getElem?_eq_none (by omega), Array.getElem?_eq_none (by rw [← h.1]; omega)]
    rfl
section
variable {X : Cx}
theorem cr_sortM (hcalm : X.calm = true) : CallR X (.builtin "sorted") (rSortM X.K) := by
  intro pins s σ H vs us Q I r h
  obtain ⟨a, ks, L, R, rfl, ⟨e, hk, hR, hp⟩, q⟩ := h
  obtain ⟨u, rfl, ru⟩ := vals1 r
  obtain rfl : u = Value.ref a := ru
  obtain ⟨lo, es, ep, raw, hsz, hz, rv⟩ := dn_raw I e hk
  refine Calls.call_function_entry PyProof.Rows.kind_sorted PyProof.Rows.plain_sorted PyProof.Rows.entry_sorted (PyProof.Rows.args_sorted1 _) ?_
  unfold Builtin.«sorted»
  refine wpAny_bind (m := checkCount "sorted" 1 1 _) (wpAny_pure ?_)
  refine wpAny_bind (PySem.W.kdu_collect (A := X.A.in1) (KdlSrc.rawDict (es := es) (ep := ep) lo) (I.ok.hd hcalm) raw hz fun h' tk acc hkeep hacc => ?_)
  have I1 : Inv X pins σ H { s with heap := h', toks := tk } := I.kept hkeep
  rw [items_list hacc]
  obtain ⟨eL, hall⟩ := pair_vals I1 hR rv hp
  generalize es.toList.map (·.key) = its at rv eL hall ⊢
  have hil : its.length ≤ sizeLine := by
    rw [← rv.length, List.length_map]; omega
  refine wpAny_bind (wpAny_newList ?_ hil)
  have hoL : (h'.push (seqObj "list" its.toArray 0)).get? h'.objs.size = some (seqObj "list" its.toArray 0) := Heap.get?_push_size _ rfl
  show wpAny _ _ _ _ _ { s with heap := h'.push (seqObj "list" its.toArray 0), toks := tk }
  refine wpAny_bind (wpAny_holding (wpAny_call_entry PyProof.Rows.slot_list_sort ⟨_, hoL, rfl⟩ PyProof.Rows.entry_list_sort
    (SrtO.list_sort_ord (s := { s with heap := h'.push (seqObj "list" its.toArray 0), toks := tk }) (SrtO.swo_lex (DL.pairOf h')) hoL hil
      (fun h2 => SrtO.pairs_sortableO (by omega) (fun v hv => (hall v hv).1.keeps fun b o e _ => Heap.get?_push_of_some _ e) fun o e => ?_) fun out h1 h2 => ⟨_, rfl, ?_⟩) (PyProof.Rows.args_list_sort _)))
  · have e' : some o = some (seqObj "list" its.toArray 0) := e.symm.trans hoL
    cases e'
    intro c
    exact absurd (Value.type.inj c) (by decide)
  · obtain ⟨e', he'⟩ := PyProof.Rows.sortedHeap_at (vs := its) (out := out.toArray) hoL
    have h3 : ∀ u ∈ out, ∃ a, u = Value.ref a := fun u hu => (hall u (h2.perm.mem_iff.mp hu)).2.2
    have hpair : ∀ out : List Value, (∀ u ∈ out, R (backV u) (DL.pairOf h' u)) → Paired R (out.map backV) (out.map (DL.pairOf h')) := by
      intro out
      induction out with
      | nil => intro _; exact .nil
      | cons u out ih => intro h; exact .cons (h u (.head _)) (ih fun v hv => h v (.tail _ hv))
    have hlen : (out.map backV).length ≤ sizeLine := by rw [List.length_map, h2.perm.length_eq]; exact hil
    refine wpAny_pure ⟨_, rfl, .ref h'.objs.size, upd H h'.objs.size (.lst (out.map backV)), I1.laid (t' := tk) (fun b u e => ?_) (Nat.le_refl _)
      (show ObjOk X.prog X.w _ _ _ (.lst (out.map backV)) from ⟨hlen, out, e', vals_back h3, he'⟩), rfl, q _ (out.map (DL.pairOf h')) _ (hpair out fun u hu => (hall u (h2.perm.mem_iff.mp hu)).2.1) ?_ ?_ (I1.hok.fresh (Nat.le_refl _))⟩
    · have hb : b < h'.objs.size := Heap.lt_size e
      rw [PyProof.Rows.sortedHeap_old (Nat.ne_of_lt hb) (by rw [size_push']; exact Nat.lt_succ_of_lt hb)]
      exact Heap.get?_push_of_some _ e
    · rw [eL]; exact h2.perm.map _
    · refine List.pairwise_map.mpr (h1.imp fun {x y} h => ?_)
      have := SrtO.lexB_no.mp h
      unfold DL.leP
      omega
end
end DN
namespace DN
open PySem PySem.Spec PyProof.Rows L2
/-! ### min -/
theorem bb1 (a b c d : Int) : (decide ((1:Int) < 1) || (!decide ((1:Int) < 1) && (decide (a < b) || (!decide (b < a) && (decide ((1:Int) < 1) || (!decide ((1:Int) < 1) && (decide (c < d) || (!decide (d < c) && (decide ((0:Int) < 0) || (!decide ((0:Int) < 0) && false)))))))))) = (if a = b then decide (c < d) else decide (a < b)) := by
  rw [show decide ((1:Int) < 1) = false from rfl, show decide ((0:Int) < 0) = false from rfl]
  by_cases h1 : a = b
  · subst h1
    rw [if_pos rfl, show decide (a < a) = false from decide_eq_false (Int.lt_irrefl a)]
    cases hh : decide (c < d) <;> simp
  · rw [if_neg h1]
    by_cases h2 : a < b
    · rw [decide_eq_true h2]; rfl
    · rw [decide_eq_false h2, decide_eq_true (show b < a by omega)]; rfl
theorem dataLt_pair (P R : Int × Int) : PySem.W.dataLt (DL.d2 P) (DL.d2 R) = SrtO.lexB P R := by
  have e1 : PySem.W.keyToks (DL.d2 P) = [.inl 1, .inl P.1, .inl 1, .inl P.2, .inl 0] := by simp [PySem.W.keyToks, PySem.W.keyToksAll]
  have e2 : PySem.W.keyToks (DL.d2 R) = [.inl 1, .inl R.1, .inl 1, .inl R.2, .inl 0] := by simp [PySem.W.keyToks, PySem.W.keyToksAll]
  unfold PySem.W.dataLt
  rw [e1, e2]
  have L : ∀ (x y : Int ⊕ List Nat) (r t : List (Int ⊕ List Nat)), lexLt itemOrd (x :: r) (y :: t) = (itemOrd.blt x y || (!itemOrd.blt y x && lexLt itemOrd r t)) := fun x y r t => lex_cons (O := itemOrd) x y r t
  rw [L, L, L, L, L]
  have it : ∀ a b : Int, itemOrd.blt (Sum.inl a : Int ⊕ List Nat) (Sum.inl b) = decide (a < b) := fun a b => rfl
  rw [it, it, it, it, it, it, show PyProof.Rows.lexLt itemOrd [] [] = false from rfl]
  exact bb1 P.1 R.1 P.2 R.2
def minP (x : Int × Int) (L : List (Int × Int)) : Int × Int := L.foldl (fun a y => if SrtO.lexB y a then y else a) x
theorem fold_d2 : ∀ (L : List (Int × Int)) (x : Int × Int), (L.map DL.d2).foldl (fun a y => if PySem.W.dataLt y a then y else a) (DL.d2 x) = DL.d2 (minP x L)
  | [], x => rfl
  | y :: L, x => by
    show (L.map DL.d2).foldl _ (if PySem.W.dataLt (DL.d2 y) (DL.d2 x) then DL.d2 y else DL.d2 x) = DL.d2 (minP (if SrtO.lexB y x then y else x) L)
    rw [dataLt_pair]
    split <;> exact fold_d2 L _
theorem minP_spec : ∀ (L : List (Int × Int)) (x : Int × Int), minP x L ∈ x :: L ∧ ∀ R ∈ x :: L, DL.leP (minP x L) R
  | [], x => ⟨.head _, fun R hR => by rw [List.mem_singleton.mp hR]; exact .inr ⟨rfl, Int.le_refl _⟩⟩
  | y :: L, x => by
    obtain ⟨h1, h2⟩ := minP_spec L (if SrtO.lexB y x then y else x)
    have e : minP x (y :: L) = minP (if SrtO.lexB y x then y else x) L := rfl
    rw [e]
    have tr : ∀ A B C : Int × Int, DL.leP A B → DL.leP B C → DL.leP A C := fun A B C h1 h2 => by unfold DL.leP at *; omega
    cases hb : SrtO.lexB y x with
    | true =>
      rw [hb] at h1 h2
      have hyx : DL.leP y x := by have := SrtO.lexB_iff.mp hb; unfold DL.leP; omega
      refine ⟨.tail _ h1, fun R hR => ?_⟩
      rcases List.mem_cons.mp hR with rfl | hR
      · exact tr _ _ _ (h2 y (.head _)) hyx
      · exact h2 R hR
    | false =>
      rw [hb] at h1 h2
      rw [show (if false = true then y else x) = x from rfl] at h1 h2 ⊢
      have hyx : DL.leP x y := by have := SrtO.lexB_no.mp hb; unfold DL.leP; omega
      refine ⟨?_, fun R hR => ?_⟩
      · rcases List.mem_cons.mp h1 with h | h
        · rw [h]; exact .head _
        · exact .tail _ (.tail _ h)
      · rcases List.mem_cons.mp hR with rfl | hR
        · exact h2 _ (.head _)
        · rcases List.mem_cons.mp hR with rfl | hR
          · exact tr _ _ _ (h2 x (.head _)) hyx
          · exact h2 R (.tail _ hR)
theorem reads_pairs {h : Heap} : ∀ {its : List Value}, (∀ u ∈ its, Srt.IsPair h u (DL.pairOf h u).1 (DL.pairOf h u).2) → ∃ as, ReadsAll h its ((its.map (DL.pairOf h)).map DL.d2) as
  | [], _ => ⟨_, .nil⟩
  | u :: its, hp => by
    obtain ⟨as, r⟩ := reads_pairs (its := its) fun v hv => hp v (.tail _ hv)
    obtain ⟨a, o, t, w, n, e, ho, hc, hd⟩ := hp u (.head _)
    have r1 : Reads h u (DL.d2 (DL.pairOf h u)) ([] ++ ([] ++ [])) := by
      rw [e] at hd ⊢
      exact .tuple ho hc hd (.cons (.int _ _) (.cons (.int _ _) .nil))
    exact ⟨_, .cons r1 r⟩
def rMinM (K : PySem.W.Frag) : List V → Hp → VK → Prop := fun vs H Q => ∃ (a : Addr) (ks : List MRow) (x : Int × Int) (L : List (Int × Int)) (R : V → Int × Int → Prop), vs = [V.ref a] ∧ IsM K H a ks (x :: L) R ∧ ∀ v, R v (minP x L) → Q v H
theorem cr_minM {X : Cx} (hcalm : X.calm = true) (hu : X.A.units + 65 < cLine) : CallR X (.builtin "min") (rMinM X.K) := by
  intro pins s σ H vs us Q I r h
  obtain ⟨a, ks, x, L, R, rfl, ⟨e, hk, hR, hp⟩, q⟩ := h
  obtain ⟨u, rfl, ru⟩ := vals1 r
  obtain rfl : u = Value.ref a := ru
  obtain ⟨lo, es, ep, raw, hsz, hz, rv⟩ := dn_raw I e hk
  obtain ⟨eL, hall⟩ := pair_vals I hR rv hp
  have hlt : a < s.heap.objs.size := by obtain ⟨_, ho, _⟩ := raw; exact Heap.lt_size ho
  obtain ⟨as, hr⟩ := reads_pairs fun u hu => (hall u hu).1
  rw [← eL] at hr
  have hn : es.size = L.length + 1 := by
    have := congrArg List.length eL
    rw [List.length_map, List.length_map, Array.length_toList] at this
    simpa using this.symm
  have alikeP : ∀ P R : Int × Int, PySem.W.alike (DL.d2 P) (DL.d2 R) = true := fun P R => by simp [PySem.W.alike, PySem.W.alikeAll]
  have ha : PySem.W.AlikeAll ((x :: L).map DL.d2) := ⟨fun p hp r hr => by
    obtain ⟨P, _, rfl⟩ := List.mem_map.mp hp
    obtain ⟨R, _, rfl⟩ := List.mem_map.mp hr
    exact alikeP P R, fun p hp z => by
    obtain ⟨P, _, rfl⟩ := List.mem_map.mp hp
    cases z⟩
  have dep : ∀ M : List (Int × Int), PyData.depthAll (M.map DL.d2) ≤ 1 := by
    intro M
    induction M with
    | nil => exact Nat.zero_le _
    | cons P M ih =>
      show max (DL.d2 P).depth (PyData.depthAll (M.map DL.d2)) ≤ 1
      exact Nat.max_le.mpr ⟨by simp [PyData.depth, PyData.depthAll], ih⟩
  have hd1 := dep (x :: L)
  refine PySem.call_min_walkH (wpAny_pyIter_dict_raw lo raw ?_)
  refine ⟨s.heap.objs.size, [s.heap.objs.size, a], [s.heap.objs.size], fun a b => b = a, es.size, _, _, s.heap, (fun i j => PySem.W.dataLt (((x :: L).map DL.d2).getD i .none) (((x :: L).map DL.d2).getD j .none)), rfl,
    (Walks.rawKeys (A := X.A.in1) (I.ok.hd hcalm) s.heap.objs.size a (Nat.ne_of_lt hlt) es ep).toS, ⟨⟨_, Heap.get?_push_size _ rfl, rfl, rfl⟩, raw.push _⟩, fun b hb => ?_, by omega, fun b o e hb => ?_, fun b o e => Heap.get?_push_of_some _ e, ?_, fun v s' hP m => ?_⟩
  · show b < (s.heap.push _).objs.size
    rw [Heap.size_push]
    rcases List.mem_cons.mp hb with rfl | hb
    · exact Nat.lt_succ_self _
    · rw [List.mem_singleton.mp hb]; exact Nat.lt_succ_of_lt hlt
  · exact absurd (Heap.lt_size e) ((List.mem_singleton.mp hb) ▸ Nat.lt_irrefl _)
  · have c := PySem.W.cmpIn_lt (prog := X.prog) (w := X.w) (A := X.A.in1) (s := s) (vs := (es.toList.map (·.key)).toArray) (xs := (x :: L).map DL.d2) (as := as) hr ha (by rw [Around.in1_units]; omega)
    intro i j vi vj s2 Q2 E2 hkeep hi hj hq
    refine c i j vi vj s2 Q2 E2 hkeep ?_ ?_ hq
    · obtain ⟨h, rfl⟩ := hi
      simp [h]
    · obtain ⟨h, rfl⟩ := hj
      simp [h]
  · obtain ⟨h', tk, rfl, hk'⟩ := PySem.W.moved_old rfl rfl m
    obtain ⟨hi, rfl⟩ := hP
    have hidx : es.size - 1 = L.length := by omega
    have e2 := PySem.W.argBest_fold PySem.W.dataLt PyData.none (DL.d2 x) (L.map DL.d2) (L.map DL.d2).length (Nat.le_refl _)
    rw [List.take_length, fold_d2, List.length_map] at e2
    obtain ⟨hle, e2⟩ := e2
    generalize hj : argBest (fun i j => PySem.W.dataLt (((x :: L).map DL.d2).getD i .none) (((x :: L).map DL.d2).getD j .none)) (es.size - 1) = i at hi ⊢
    rw [hidx] at hj
    have hj' : argBest (fun i j => PySem.W.dataLt ((DL.d2 x :: L.map DL.d2).getD i .none) ((DL.d2 x :: L.map DL.d2).getD j .none)) L.length = i := hj
    rw [hj'] at hle e2
    have hi' : i < es.size := by omega
    have hmem : es[i].key ∈ es.toList.map (·.key) := List.mem_map.mpr ⟨es[i], Array.getElem_mem_toList _, rfl⟩
    obtain ⟨_, h2, t, ht⟩ := hall _ hmem
    have hLi : (x :: L)[i]? = some (DL.pairOf s.heap es[i].key) := by
      rw [eL, List.getElem?_map, List.getElem?_map, Array.getElem?_toList, Array.getElem?_eq_getElem hi']
      rfl
    have ev : DL.pairOf s.heap es[i].key = minP x L := by
      have : ((x :: L).map DL.d2)[i]? = some (DL.d2 (DL.pairOf s.heap es[i].key)) := by rw [List.getElem?_map, hLi]; rfl
      have e3 : (DL.d2 x :: L.map DL.d2).getD i .none = DL.d2 (DL.pairOf s.heap es[i].key) := by
        rw [List.getD_eq_getElem?_getD]
        rw [show DL.d2 x :: L.map DL.d2 = (x :: L).map DL.d2 from rfl, this]
        rfl
      rw [e3] at e2
      have e4 := PyData.tuple.inj e2
      injection e4 with e5 e6
      injection e6 with e6 _
      injection e5 with e5
      injection e6 with e6
      exact Prod.ext e5 e6
    rw [ev] at h2
    exact ⟨backV es[i].key, H, I.kept hk', by rw [ht]; rfl, q _ h2⟩
/-! ### dicts whose keys are tuples -/
def tk : NestedKey → Bool
  | .tup _ => true
  | _ => false
def adr : Value → Addr
  | .ref a => a
  | _ => 0
abbrev toH (r : Row) : NestedKey × Addr × Value := (r.1, adr r.2.1, r.2.2)
abbrev ofH (x : NestedKey × Addr × Value) : Row := (x.1, .ref x.2.1, x.2.2)
theorem key_ref {h : Heap} {k : NestedKey} {v : Value} (x : IsKey h k v) (t : tk k = true) : v = .ref (adr v) := by
  obtain ⟨x, _, _⟩ := x
  cases x with
  | none => cases t
  | bool _ => cases t
  | int _ _ => cases t
  | text _ _ => cases t
  | tup => rfl
section
variable {P : Program} {w : World} {h : Heap} {d : Addr} {xs : List Row}
theorem dict_toH (m : Dict w h d xs) (ht : ∀ x ∈ xs, tk x.1 = true) : h.DictOfH (nestedKind P w) d (xs.map toH) := by
  obtain ⟨o, es, ep, ho, hc, hd, he, his, hn⟩ := m
  refine ⟨o, es, ep, ho, hc, hd, ?_, fun x hx => ?_, ?_⟩
  · rw [he, List.map_map]
    refine List.map_congr_left fun x hx => ?_
    show (⟨x.1.hash w, x.2.1, x.2.2⟩ : DictEntry) = ⟨x.1.hash w, .ref (adr x.2.1), x.2.2⟩
    rw [← key_ref (his x hx) (ht x hx)]
  · obtain ⟨y, hy, rfl⟩ := List.mem_map.mp hx
    have k := his y hy
    refine ⟨?_, k.dp⟩
    show NestedIs h y.1 (.ref (adr y.2.1))
    rw [← key_ref k (ht y hy)]
    exact k.is
  · rw [List.map_map]
    exact hn
theorem dict_ofH {ys : List (NestedKey × Addr × Value)} (m : h.DictOfH (nestedKind P w) d ys) : Dict w h d (ys.map ofH) := by
  obtain ⟨o, es, ep, ho, hc, hd, he, his, hn⟩ := m
  refine ⟨o, es, ep, ho, hc, hd, ?_, fun x hx => ?_, ?_⟩
  · rw [he, List.map_map]
    rfl
  · obtain ⟨y, hy, rfl⟩ := List.mem_map.mp hx
    obtain ⟨k1, k2⟩ := his y hy
    exact ⟨k1, k2, fun z e => by
      rw [show (ofH y).1 = y.1 from rfl] at e
      rw [e] at k1
      cases k1⟩
  · rw [List.map_map]
    exact hn
theorem at_ofH (k : NestedKey) : ∀ ys : List (NestedKey × Addr × Value), (atKey ys k).isSome = (rowAt (ys.map ofH) k).isSome
  | [] => rfl
  | y :: ys => by
    have ih := at_ofH k ys
    unfold atKey rowAt at ih ⊢
    by_cases e : y.1 = k
    · rw [List.map_cons, List.find?_cons_of_pos (by exact decide_eq_true e), List.find?_cons_of_pos (by exact decide_eq_true e)]
      rfl
    · rw [List.map_cons, List.find?_cons_of_neg (by simpa using e), List.find?_cons_of_neg (by simpa using e)]
      exact ih
theorem stored_ofH (ys : List (NestedKey × Addr × Value)) (k : NestedKey) (a : Addr) (v : Value) : (storedH ys k a v).map ofH = rowSet (ys.map ofH) k (.ref a) v := by
  unfold storedH rowSet
  rw [← at_ofH k ys]
  split
  · rw [List.map_map, List.map_map]
    refine List.map_congr_left fun y _ => ?_
    show ofH (putAt k v y) = rowPut k v (ofH y)
    unfold putAt rowPut
    split <;> rfl
  · rw [List.map_append]
    rfl
end
def mergeM (ks ms : List MRow) : List MRow := ms.foldl (fun acc m => putM acc m.1 m.2.1 m.2.2) ks
theorem MR.merge : ∀ {ms : List MRow} {ys : List (NestedKey × Addr × Value)}, MR ms (ys.map ofH) → ∀ {ks : List MRow} {xs : List (NestedKey × Addr × Value)}, MR ks (xs.map ofH) → MR (mergeM ks ms) ((storedAllH xs ys).map ofH)
  | [], ys, r, ks, xs, q => by
    cases ys with
    | nil => exact q
    | cons y ys => cases r
  | m :: ms, ys, r, ks, xs, q => by
    cases ys with
    | nil => cases r
    | cons y ys =>
      cases r with
      | cons h t =>
        show MR (mergeM (putM ks m.1 m.2.1 m.2.2) ms) ((storedAllH (storedH xs y.1 y.2.1 y.2.2) ys).map ofH)
        refine MR.merge t ?_
        rw [stored_ofH]
        have := q.put (k := m.1) h.2.1 h.2.2
        rw [show y.1 = m.1 from h.1.symm]
        exact this
theorem mergeM_len : ∀ (ms ks : List MRow), (mergeM ks ms).length ≤ ks.length + ms.length
  | [], ks => Nat.le_refl _
  | m :: ms, ks => by
    have h1 := mergeM_len ms (putM ks m.1 m.2.1 m.2.2)
    have h2 := putM_len ks m.1 m.2.1 m.2.2
    show (mergeM (putM ks m.1 m.2.1 m.2.2) ms).length ≤ _
    rw [List.length_cons]; omega
theorem mergeM_keys {K : PySem.W.Frag} {H : Hp} : ∀ (ms : List MRow) {ks : List MRow}, (∀ x ∈ ks, NV K H 8 x.1 x.2.1) → (∀ x ∈ ms, NV K H 8 x.1 x.2.1) → ∀ x ∈ mergeM ks ms, NV K H 8 x.1 x.2.1
  | [], ks, h, _ => h
  | m :: ms, ks, h, hm => mergeM_keys ms (putM_keys h (hm m (.head _))) fun x hx => hm x (.tail _ hx)
/-- the heap behind a.update(b) -/
def MUpd (K : PySem.W.Frag) (H : Hp) (a b : Addr) (H' : Hp) : Prop := ∃ ks ms, a ≠ b ∧ H a = some (dN a ks) ∧ H b = some (dN b ms) ∧ (∀ x ∈ ks, NV K H 8 x.1 x.2.1) ∧ (∀ x ∈ ms, NV K H 8 x.1 x.2.1) ∧ (∀ x ∈ ks, tk x.1 = true) ∧ (∀ x ∈ ms, tk x.1 = true) ∧
  (ks ≠ [] ∨ ∀ w, (ms.map fun x => x.1.hash w).Nodup) ∧ ks.length + ms.length ≤ sizeLine ∧ H' = upd H a (dN a (mergeM ks ms))
section
variable {X : Cx} {pins : List (Addr × Obj)} {σ : L2.St} {H H' : Hp} {s : Shared} {a b : Addr} {E : Value → Shared → Prop}
theorem m_upd {Q : Value → Shared → Prop} (hu : X.A.units + 9 < cLine) (I : Inv X pins σ H s) (g : MUpd X.K H a b H') (h : ∀ s', Inv X pins σ H' s' → Q .none s') : wpAny (model X.prog X.w) X.A (call (.builtin "dict.update") [.ref a, .ref b]) Q E s := by
  obtain ⟨ks, ms, hab, ea, eb, hk, hm, tka, tkb, hap, hl, rfl⟩ := g
  obtain ⟨hd, xs, rel, hz, dd⟩ := dn_rd I ea hk
  obtain ⟨hd2, ys, rel2, hz2, dd2⟩ := dn_rd I eb hm
  have tks : ∀ {ks : List MRow} {xs : List Row}, MR ks xs → (∀ x ∈ ks, tk x.1 = true) → ∀ x ∈ xs, tk x.1 = true := by
    intro ks xs r
    induction r with
    | nil => intro _ x hx; cases hx
    | cons h t ih =>
      intro hk x hx
      rcases List.mem_cons.mp hx with rfl | hx
      · rw [← h.1]; exact hk _ (.head _)
      · exact ih (fun y hy => hk y (.tail _ hy)) x hx
  have t1 := tks rel tka
  have t2 := tks rel2 tkb
  have H1 := dict_toH (P := X.prog) dd t1
  have H2 := dict_toH (P := X.prog) dd2 t2
  have back : ∀ {xs : List Row}, (∀ x ∈ xs, ∃ a, x.2.1 = Value.ref a) → (xs.map toH).map ofH = xs := fun {xs} h => by
    rw [List.map_map]
    conv => rhs; rw [← List.map_id xs]
    refine List.map_congr_left fun x hx => ?_
    obtain ⟨a, e⟩ := h x hx
    show (x.1, Value.ref (adr x.2.1), x.2.2) = x
    rw [e]
    show (x.1, Value.ref a, x.2.2) = x
    rw [← e]
  have r1 : ∀ x ∈ xs, ∃ a, x.2.1 = Value.ref a := fun x hx => by
    obtain ⟨_, _, _, _, _, _, _, his, _⟩ := dd
    exact ⟨_, key_ref (his x hx) (t1 x hx)⟩
  have r2 : ∀ x ∈ ys, ∃ a, x.2.1 = Value.ref a := fun x hx => by
    obtain ⟨_, _, _, _, _, _, _, his, _⟩ := dd2
    exact ⟨_, key_ref (his x hx) (t2 x hx)⟩
  have l1 := Paired.length rel
  have l2 := Paired.length rel2
  refine PySem.call_update_dictH (knd := nestedKind X.prog X.w) (by show X.A.in1.units + 8 < cLine; rw [Around.in1_units]; omega) hab hd2 H1 H2 ?_ (by rw [List.length_map, List.length_map]; omega) fun h' hd' ho' hs' => h _ ?_
  · rcases hap with z | z
    · refine .inl fun e => z ?_
      have := congrArg List.length e
      rw [List.length_map, ← l1] at this
      exact List.eq_nil_of_length_eq_zero (by simpa using this)
    · refine .inr ⟨fun x hx => ?_, ?_⟩
      · obtain ⟨y, hy, rfl⟩ := List.mem_map.mp hx
        obtain ⟨o, es, ep, ho, hc, hdd, he, his, hn⟩ := dd2
        have k := his y hy
        have e := key_ref k (t2 y hy)
        have ki := k.is
        have tt := t2 y hy
        show s.TypeIs (.ref (adr y.2.1)) "tuple"
        rw [← e]
        generalize y.1 = kk at ki tt
        generalize y.2.1 = vv at ki ⊢
        cases ki with
        | none => cases tt
        | bool _ => cases tt
        | int _ _ => cases tt
        | text _ _ => cases tt
        | tup h1 h2 _ _ => exact ⟨_, h1, h2⟩
      · rw [List.map_map]
        have := z X.w
        have e : ys.map ((fun x => (nestedKind X.prog X.w).hash x.1) ∘ toH) = ms.map fun x => x.1.hash X.w := by
          have e1 := rel2.keys
          have : ys.map ((fun x => (nestedKind X.prog X.w).hash x.1) ∘ toH) = (ys.map (·.1)).map fun k => k.hash X.w := by rw [List.map_map]; rfl
          rw [this, ← e1, List.map_map]
          rfl
        rw [e]
        exact this
  · have he : ∃ q, h'.get? a = some q := let ⟨q, _, _, hq, _⟩ := hd'; ⟨q, hq⟩
    have dd' := dict_ofH hd'
    have mr := MR.merge (by rw [back r2]; exact rel2) (by rw [back r1]; exact rel)
    exact d_write I (by rw [ea]; exact True.intro) hs' he (dn_ok mr (mergeM_keys ms hk hm) hd (by have := mergeM_len ms ks; omega) dd')
end
/-- a.update(b) as a value -/
def tMUpd (K : PySem.W.Frag) (td ty : TE) : TE := fun σ H Q => td σ H fun x H1 => ∃ a, x = .ref a ∧ MIs K H1 a ∧ ty σ H1 fun y H2 => ∃ b H3, y = .ref b ∧ MUpd K H2 a b H3 ∧ Q .non H3
theorem pe_mupd {X : Cx} {o e : Expr} {apos cpos : Pos} {td ty : TE} (hu : X.A.units + 9 < cLine) (ho : PE X o td) (he : PE X e ty) (m : M1 X o "update" apos e cpos) : PE X (.Call (.Attribute o "update" apos) [e] [] cpos) (tMUpd X.K td ty) := by
  refine ⟨fun pins s σ H Q I h => ?_⟩
  refine wpAny_Call_method m.base m.few m.line PySem.F.plainAttrs_dict PySem.F.slot_dict_update PySem.F.type_dict_update (thn (ho.run pins s σ H _ I h) fun u s1 ⟨x, H1, I1, rx, a, ex, d, q1⟩ => ?_)
  subst ex
  obtain rfl : u = Value.ref a := rx
  obtain ⟨t1, t2⟩ := m_at I1 d
  refine ⟨t1, t2, ?_⟩
  rw [m.trees]
  refine Calls.callWith_builtin rfl (Calls.evalArgs_plain (Calls.spliced_cons (thn (he.run pins s1 σ H1 _ I1 q1) fun iv s2 ⟨y, H2, I2, ry, b, H3, ey, g, q2⟩ => Calls.spliced_nil ?_)))
  subst ey
  obtain rfl : iv = Value.ref b := ry
  exact m_upd hu I2 g fun s3 I3 => ⟨.non, H3, I3, rfl, q2⟩
/-- len(d), its keys tuples -/
def rLenM (K : PySem.W.Frag) : List V → Hp → VK → Prop := fun vs H Q => ∃ a ks, vs = [V.ref a] ∧ H a = some (dN a ks) ∧ (∀ x ∈ ks, NV K H 8 x.1 x.2.1) ∧ (∀ x ∈ ks, tk x.1 = true) ∧ Q (.int ((ks.length : Nat) : Int)) H
theorem cr_lenM {X : Cx} : CallR X (.builtin "len") (rLenM X.K) := by
  intro pins s σ H vs us Q I r h
  obtain ⟨a, ks, rfl, e, hk, tka, q⟩ := h
  obtain ⟨u, rfl, ru⟩ := vals1 r
  obtain rfl : u = Value.ref a := ru
  obtain ⟨hd, xs, rel, hz, dd⟩ := dn_rd I e hk
  have tks : ∀ {ks : List MRow} {xs : List Row}, MR ks xs → (∀ x ∈ ks, tk x.1 = true) → ∀ x ∈ xs, tk x.1 = true := by
    intro ks xs r
    induction r with
    | nil => intro _ x hx; cases hx
    | cons h t ih =>
      intro hk x hx
      rcases List.mem_cons.mp hx with rfl | hx
      · rw [← h.1]; exact hk _ (.head _)
      · exact ih (fun y hy => hk y (.tail _ hy)) x hx
  have H1 := dict_toH (P := X.prog) dd (tks rel tka)
  refine PySem.call_len_dictH hd H1 (by rw [List.length_map]; rw [sizeLine_eq] at hz; omega) ?_
  rw [List.length_map, ← Paired.length rel]
  exact ⟨.int ((ks.length : Nat) : Int), H, I.tok _, ⟨_, rfl⟩, q⟩
end DN
/-! DM, part e: the same over slots and data. -/
namespace DL
open PySem PySem.Spec PyProof.Rows L2 DN
/-- a dict slot that is handed back: read alone from then on -/
def wRetM (i : Nat) : WS := fun W env => match get env i with
  | some (.dcm kvs) => W.rt (.v (dFrz kvs))
  | _ => False
def wLenM (i : Nat) : WE := fun env Q => match get env i with
  | some (.dcm kvs) => (∀ x ∈ kvs, tk x.1 = true) ∧ Q (.int ((kvs.length : Nat) : Int))
  | _ => False
def wSortM (i : Nat) : WL := fun env Q => match get env i with
  | some (.dcm kvs) => ∃ L : List (Int × Int), kvs.map (·.1) = L.map pk ∧ ∀ L' : List (Int × Int), L'.Perm L → L'.Pairwise leP → Q (L'.map d2)
  | _ => False
/-- min of a dict that is read alone -/
def wMinM (a : WE) : WE := fun env Q => a env fun d => ∃ (kvs : List (NestedKey × D)) (x : Int × Int) (L : List (Int × Int)), d = dFrz kvs ∧ kvs.map (·.1) = (x :: L).map pk ∧ ∀ P, P ∈ x :: L → (∀ R ∈ x :: L, leP P R) → Q (d2 P)
def mMerge (kvs more : List (NestedKey × D)) : List (NestedKey × D) := more.foldl (fun acc p => mSet acc p.1 p.2) kvs
def wUpd (i : Nat) (a : WE) : WS := fun W env => match get env i with
  | some (.dcm kvs) => a env fun d => ∃ more, d = dFrz more ∧ (∀ x ∈ kvs, tk x.1 = true) ∧ (∀ x ∈ more, tk x.1 = true) ∧ (kvs ≠ [] ∨ ∀ w, (more.map fun x => x.1.hash w).Nodup) ∧ kvs.length + more.length < 1000000 ∧ W.nx (env.set i (some (.dcm (mMerge kvs more))))
  | _ => False
section
variable {K : PySem.W.Frag} {ok : List D → Prop} {C : Ctx} {H0 H : Hp} {σ : L2.St} {env : EnvD} {ta : TE} {wa : WE} {i : Nat}
theorem data_inj : ∀ {k j : NestedKey}, k.data = j.data → k = j := by
  have all : ∀ n : Nat, (∀ k j : NestedKey, k.depth ≤ n → k.data = j.data → k = j) := by
    intro n
    induction n with
    | zero =>
      intro k j hk h
      cases k with
      | none => cases j <;> simp [NestedKey.data] at h ⊢
      | num a => cases j <;> simp [NestedKey.data] at h ⊢; exact h
      | text a => cases j <;> simp [NestedKey.data] at h ⊢; exact h
      | tup ks => simp [NestedKey.depth] at hk
    | succ n ih =>
      have lst : ∀ ks js : List NestedKey, NestedKey.depthAll ks ≤ n → NestedKey.datas ks = NestedKey.datas js → ks = js := by
        intro ks
        induction ks with
        | nil => intro js _ h; cases js with
          | nil => rfl
          | cons _ _ => simp [NestedKey.datas] at h
        | cons k ks ih2 =>
          intro js hd h
          cases js with
          | nil => simp [NestedKey.datas] at h
          | cons j js =>
            simp only [NestedKey.datas, List.cons.injEq] at h
            simp only [NestedKey.depthAll] at hd
            rw [ih k j (by omega) h.1, ih2 js (by omega) h.2]
      intro k j hk h
      cases k with
      | none => cases j <;> simp [NestedKey.data] at h ⊢
      | num a => cases j <;> simp [NestedKey.data] at h ⊢; exact h
      | text a => cases j <;> simp [NestedKey.data] at h ⊢; exact h
      | tup ks =>
        cases j with
        | tup js =>
          simp only [NestedKey.data, PyData.tuple.injEq] at h
          simp only [NestedKey.depth] at hk
          rw [lst ks js (by omega) h]
        | none => simp [NestedKey.data] at h
        | num _ => simp [NestedKey.data] at h
        | text _ => simp [NestedKey.data] at h
  intro k j h
  exact all k.depth k j (Nat.le_refl _) h
theorem frz_inj {a b : List (NestedKey × D)} (h : dFrz a = dFrz b) : a = b := by
  injection h with h
  injection h with _ h
  have : ∀ a b : List (NestedKey × D), (a.map fun kv => (kv.1.data, kv.2)) = (b.map fun kv => (kv.1.data, kv.2)) → a = b := by
    intro a
    induction a with
    | nil => intro b h; cases b with
      | nil => rfl
      | cons _ _ => simp at h
    | cons p a ih =>
      intro b h
      cases b with
      | nil => simp at h
      | cons q b =>
        simp only [List.map_cons, List.cons.injEq, Prod.mk.injEq] at h
        rw [ih b h.2]
        have := data_inj h.1.1
        obtain ⟨p1, p2⟩ := p
        obtain ⟨q1, q2⟩ := q
        simp only at this h
        rw [this, h.1.2]
  exact this a b h
/-- what is known of a dict that is read alone -/
theorem Rp.frz {v : V} {kvs : List (NestedKey × D)} (h : Rp K H v (dFrz kvs)) : ∃ a ks, v = .ref a ∧ H a = some (dN a ks) ∧ MRps K H ks kvs := by
  generalize e : dFrz kvs = d at h
  cases h with
  | non => cases e
  | bl b => cases e
  | int j => cases e
  | str x => cases e
  | lst _ _ => cases e
  | tup _ _ => cases e
  | scr _ =>
    injection e with e
    injection e with e _
    injection e with e _
    cases e
  | dci _ _ _ =>
    injection e with e
    injection e with e _
    injection e with e _
    injection e with e
    cases e
  | fn _ =>
    injection e with e
    injection e with e _
    injection e with _ e
    cases e
  | ob _ _ _ _ =>
    injection e with e
    injection e with e _
    injection e with _ e
    cases e
  | dct h1 h2 h3 h4 =>
    have := frz_inj e
    subst this
    exact ⟨_, _, rfl, h1, h3, h4, h2⟩
theorem ss_retM : SndS K ok (tRet (tVar i)) (wRetM i) := fun C H0 σ H env E W rel hw h => by
  unfold wRetM at hw
  split at hw
  · rename_i kvs hd
    obtain ⟨p, ks, e, n, n0, hp, kr⟩ := rel.slot i _ (get_eq hd)
    have kq := rel.kn i _ p (get_eq hd) rfl e
    -- the slot is forgotten, then the dict is known
    have rel' := rel.setV (i := i) (x := .non) (d := .none) .non
    have ns : ∀ (j : Nat) s, (env.set i (some (.v .none)))[j]? = some (some s) → s.isOwn = true → (σ.set i (some .non))[j]? ≠ some (some (.ref p)) := fun j s hs os z => by
      by_cases hj : i = j
      · subst hj
        by_cases hi : i < env.length
        · rw [List.getElem?_set_self hi] at hs
          cases hs
          cases os
        · rw [List.getElem?_eq_none (by rw [List.length_set]; omega)] at hs; cases hs
      · rw [List.getElem?_set_ne hj] at hs z
        exact rel.dis i j _ s p hj (get_eq hd) hs rfl os e z
    obtain ⟨r2, e2⟩ := rel'.know hp n0 n kq ns
    refine ⟨.ref p, e, ?_⟩
    exact h.rt (.v (dFrz kvs)) (.ref p) _ H _ _ e2 r2 hw (.dct upd_same (fun x hx => ((kr.mono e2).2.2 x hx)) kr.1 (kr.2.1.mono e2))
  · exact hw.elim
theorem paired_R' : ∀ {ks : List MRow} {L : List (Int × Int)}, ks.map (·.1) = L.map pk → (∀ x ∈ ks, NV K H 8 x.1 x.2.1) → Paired (fun v P => NV K H 8 (pk P) v) (ks.map (·.2.1)) L
  | [], [], _, _ => .nil
  | [], _ :: _, h, _ => by simp at h
  | _ :: _, [], h, _ => by simp at h
  | k :: ks, P :: L, h, h3 => by
    simp only [List.map_cons, List.cons.injEq] at h
    have hk := h3 k (.head _)
    rw [h.1] at hk
    exact .cons hk (paired_R' h.2 fun x hx => h3 x (.tail _ hx))
theorem paired_R {ks : List MRow} {kvs : List (NestedKey × D)} {L : List (Int × Int)} (kr : MRps K H ks kvs) (hL : kvs.map (·.1) = L.map pk) : Paired (fun v P => NV K H 8 (pk P) v) (ks.map (·.2.1)) L := paired_R' (kr.1.trans hL) kr.2.2
theorem rp_pair {v : V} {P : Int × Int} (h : NV K H 8 (pk P) v) : Rp K H v (d2 P) := by
  obtain ⟨t, rfl, ht⟩ := h.pair
  exact .tup ht (Rps.of_ints [P.1, P.2])
theorem tks_of {ks : List MRow} {kvs : List (NestedKey × D)} (kr : MRps K H ks kvs) (h : ∀ x ∈ kvs, tk x.1 = true) : ∀ x ∈ ks, tk x.1 = true := fun x hx => by
  have : x.1 ∈ kvs.map (·.1) := by rw [← kr.1]; exact List.mem_map.mpr ⟨x, hx, rfl⟩
  obtain ⟨y, hy, e⟩ := List.mem_map.mp this
  rw [← e]; exact h y hy
theorem snd_lenM : SndE K ok (tCB (rLenM K) (tCons (tVar i) tNil)) (wLenM i) := fun C H0 σ H env Q R rel hw k => by
  unfold wLenM at hw
  split at hw
  · rename_i kvs hd
    obtain ⟨p, ks, e, n, n0, hp, kr⟩ := rel.slot i _ (get_eq hd)
    refine ⟨.ref p, e, p, ks, rfl, hp, kr.keys rel.sub, tks_of kr hw.1, k _ _ H H0 ?_ rel (Same.refl _) (.int _)⟩
    rw [mrps_len kr]
    exact hw.2
  · exact hw.elim
theorem sl_sortM : SndL K ok (tCB (rSortM K) (tCons (tVar i) tNil)) (wSortM i) := fun C H0 σ H env Q R rel hw k => by
  unfold wSortM at hw
  split at hw
  · rename_i kvs hd
    obtain ⟨L, hL, q⟩ := hw
    obtain ⟨p, ks, e, n, n0, hp, kr⟩ := rel.slot i _ (get_eq hd)
    refine ⟨.ref p, e, p, ks, L, fun v P => NV K H0 8 (pk P) v, rfl, ⟨hp, kr.keys rel.sub, fun x P hx => hx.same fun b o z => .inr (rel.sub b o z), paired_R kr hL⟩, fun ys L' p' hpy hperm hpw nl => ?_⟩
    have hy : Rps K H0 ys (L'.map d2) := rps_unpair (Paired.mapP hpy fun v P h => rp_pair h)
    exact k _ _ _ _ (q L' hperm hpw) (rel.laid0 nl) (Same.refl _) ⟨rel.fresh nl, ⟨rel.sub.free nl, _, upd_same, hy⟩, rel.noslot nl, rel.kp.free nl⟩
  · exact hw.elim
theorem snd_minM (ha : SndE K ok ta wa) : SndE K ok (tCB (rMinM K) (tCons ta tNil)) (wMinM wa) := fun C H0 σ H env Q R rel hw k =>
  ha C H0 σ H env _ _ rel hw fun d v H1 H01 q r1 e1 x1 => by
    obtain ⟨kvs, x, L, rfl, hL, q⟩ := q
    obtain ⟨a, ks, rfl, hp, kr⟩ := x1.frz
    refine ⟨a, ks, x, L, fun v P => NV K H01 8 (pk P) v, rfl, ⟨r1.sub _ _ hp, kr.keys r1.sub, fun x P hx => hx.same fun b o z => .inr (r1.sub b o z), paired_R kr hL⟩, fun v hv => ?_⟩
    obtain ⟨m1, m2⟩ := minP_spec L x
    exact k _ _ H1 H01 (q _ m1 m2) r1 e1 (rp_pair hv)
theorem mrps_merge : ∀ (ms : List MRow) {more : List (NestedKey × D)} {ks : List MRow} {kvs : List (NestedKey × D)}, MRps K H ms more → MRps K H ks kvs → MRps K H (mergeM ks ms) (mMerge kvs more)
  | [], [], _, _, _, h => h
  | [], _ :: _, _, _, r, _ => by have := r.1; simp at this
  | _ :: _, [], _, _, r, _ => by have := r.1; simp at this
  | m :: ms, q :: more, ks, kvs, r, h => by
    obtain ⟨r1, r2, r3⟩ := r
    rw [List.map_cons, List.map_cons] at r1 r2
    injection r1 with a1 a2
    obtain ⟨v, ws, e, b1, b2⟩ := r2.cons_inv
    injection e with e1 e2
    show MRps K H (mergeM (putM ks m.1 m.2.1 m.2.2) ms) (mMerge (mSet kvs q.1 q.2) more)
    refine mrps_merge ms ⟨a2, by rw [e2]; exact b2, fun x hx => r3 x (.tail _ hx)⟩ ?_
    rw [← show m.1 = q.1 from a1]
    exact mrps_set h (r3 m (.head _)) (by rw [e1]; exact b1)
theorem ss_upd (ha : SndE K ok ta wa) : SndS K ok (tDrop (tMUpd K (tVar i) ta)) (wUpd i wa) := fun C H0 σ H env E W rel hw h => by
  unfold wUpd at hw
  split at hw
  · rename_i kvs hd
    obtain ⟨p, ks, e, n, n0, hp, kr⟩ := rel.slot i _ (get_eq hd)
    refine ⟨.ref p, e, p, rfl, ⟨ks, hp, kr.keys rel.sub⟩, ha C H0 σ H env _ _ rel hw fun d v H1 H01 q r1 e1 x1 => ?_⟩
    obtain ⟨more, rfl, t1, t2, hap, hl, q⟩ := q
    obtain ⟨b, ms, rfl, hb, kr2⟩ := x1.frz
    obtain ⟨p', ks1, e', n, n0, hp1, kr1⟩ := r1.slot i _ (get_eq hd)
    rw [e] at e'
    cases e'
    have hne : p ≠ b := fun z => by subst z; rw [n0] at hb; cases hb
    have hash : kvs ≠ [] ∨ ∀ w, (more.map fun x => x.1.hash w).Nodup := hap
    refine ⟨b, _, rfl, ⟨ks1, ms, hne, hp1, r1.sub _ _ hb, kr1.keys r1.sub, kr2.keys r1.sub, tks_of kr1 t1, tks_of kr2 t2, ?_, ?_, rfl⟩, ?_⟩
    · rcases hash with z | z
      · refine .inl fun y => z ?_
        have := mrps_len kr1
        rw [y] at this
        exact List.eq_nil_of_length_eq_zero this.symm
      · refine .inr fun w => ?_
        have e : (ms.map fun x => x.1.hash w) = more.map fun x => x.1.hash w := by
          have : (ms.map fun x => x.1.hash w) = (ms.map (·.1)).map fun k => k.hash w := by rw [List.map_map]; rfl
          rw [this, kr2.1, List.map_map]
          rfl
        rw [e]
        exact z w
    · rw [mrps_len kr1, mrps_len kr2]
      exact Nat.le_of_lt (lt_size hl)
    · exact h.nx _ _ _ H01 e1 (r1.put (s := .dcm kvs) (t := .dcm (mMerge kvs more)) (get_eq hd) rfl e (fun y => by obtain ⟨⟨o, w⟩, _⟩ := r1.hv p y; rw [n] at w; cases w) rfl ⟨p, _, rfl, n, n0, upd_same, mrps_merge ms kr2 kr1⟩) q
  · exact hw.elim
end
section
variable {X : Cx} {ok : List D → Prop} {a : Expr} {wa : WE} {pos p : Pos} {x : Str}
theorem s_retM (i : Nat) {mp : Pos} (hN : X.N[i]? = some x := by rfl) (hv : Vis X.env.scope x := by first | exact Or.inl rfl | exact Or.inr (Or.inl rfl) | exact Or.inr (Or.inr rfl)) (hd : (x == ("__debug__" : Str)) = false := by decide) (hcd : (x == ("__classdict__" : Str)) = false := by decide) :
    PDS X ok (.Return (some (.Name x mp)) pos) (wRetM i) := ⟨_, ps_ret (pe_var hN hv hd hcd), ss_retM⟩
theorem d_lenM (i : Nat) {mp : Pos} (hm : X.mg "len" = none) (hN : X.N[i]? = some x := by rfl) (hv : Vis X.env.scope x := by first | exact Or.inl rfl | exact Or.inr (Or.inl rfl) | exact Or.inr (Or.inr rfl)) (hd : (x == ("__debug__" : Str)) = false := by decide) (hcd : (x == ("__classdict__" : Str)) = false := by decide)
    (hg : Gl X "len" := by rfl) (hs : starEach [.Name x mp] X.env = (false, eval (.Name x mp) X.env) :: starEach [] X.env := by rfl) (hpl : (backTo pos (starEach [] X.env)).any (·.1) = false := by rfl) :
    PDE X ok (.Call (.Name "len" p) [.Name x mp] [] pos) (wLenM i) := ⟨_, pe_callB cr_lenM hg hm PySem.boot_len (pa_cons (pe_var hN hv hd hcd) pa_nil hs) (by decide) (by decide) hs hpl, snd_lenM⟩
theorem l_sortM (i : Nat) {mp : Pos} (hc : X.calm = true) (hm : X.mg "sorted" = none) (hN : X.N[i]? = some x := by rfl) (hv : Vis X.env.scope x := by first | exact Or.inl rfl | exact Or.inr (Or.inl rfl) | exact Or.inr (Or.inr rfl)) (hd : (x == ("__debug__" : Str)) = false := by decide) (hcd : (x == ("__classdict__" : Str)) = false := by decide)
    (hg : Gl X "sorted" := by rfl) (hs : starEach [.Name x mp] X.env = (false, eval (.Name x mp) X.env) :: starEach [] X.env := by rfl) (hpl : (backTo pos (starEach [] X.env)).any (·.1) = false := by rfl) :
    PDL X ok (.Call (.Name "sorted" p) [.Name x mp] [] pos) (wSortM i) := ⟨_, pe_callB (cr_sortM hc) hg hm (by decide +kernel) (pa_cons (pe_var hN hv hd hcd) pa_nil hs) (by decide) (by decide) hs hpl, sl_sortM⟩
theorem d_minM {k : Nat} (hr : Room k X.A) (hc : X.calm = true) (hm : X.mg "min" = none) (ha : PDE X ok a wa) (hg : Gl X "min" := by rfl) (hs : starEach [a] X.env = (false, eval a X.env) :: starEach [] X.env := by rfl) (hpl : (backTo pos (starEach [] X.env)).any (·.1) = false := by rfl) :
    PDE X ok (.Call (.Name "min" p) [a] [] pos) (wMinM wa) := let ⟨_, a1, a2⟩ := ha; ⟨_, pe_callB (cr_minM hc (units65 hr)) hg hm (by decide +kernel) (pa_cons a1 pa_nil hs) (by decide) (by decide) hs hpl, snd_minM a2⟩
theorem s_upd {k : Nat} (i : Nat) {apos mp epos : Pos} (hr : Room k X.A) (ha : PDE X ok a wa) (hN : X.N[i]? = some x := by rfl) (hv : Vis X.env.scope x := by first | exact Or.inl rfl | exact Or.inr (Or.inl rfl) | exact Or.inr (Or.inr rfl)) (hd : (x == ("__debug__" : Str)) = false := by decide) (hcd : (x == ("__classdict__" : Str)) = false := by decide)
    (m1 : attributeBase (.Name x mp) "update" X.env (eval (.Name x mp) X.env) = eval (.Name x mp) X.env := by rfl)
    (m2 : ((backTo pos (starEach [a] X.env)).all (fun x => !x.1) && (backToKw pos (keywordEach [] X.env)).all (fun x => x.1.isSome) && decide (([a] : List Expr).length + ([] : List Keyword).length + (if ([] : List Keyword).isEmpty then 0 else 1) < 30)) = true := by rfl)
    (m3 : (apos.endLine == pos.line) = true := by rfl) (m4 : backTo pos (starEach [a] X.env) = [(false, eval a X.env)] := by rfl) :
    PDS X ok (.Expr (.Call (.Attribute (.Name x mp) "update" apos) [a] [] pos) epos) (wUpd i wa) := let ⟨_, a1, a2⟩ := ha; ⟨_, ps_expr (pe_mupd (by have := units65 hr; omega) (pe_var hN hv hd hcd) a1 ⟨m1, m2, m3, m4⟩), ss_upd a2⟩
end
end DL
/-! DM, part f: sorted(dict of whole numbers); a dict slot that is only read from then on, and .get of it. -/
namespace DL
open PySem PySem.Spec PyProof.Rows L2 DN
/-- sorted(d), fewer than 64 keys, all whole numbers -/
def wSortD (i : Nat) : WL := fun env Q => match get env i with
  | some (.dct kvs) => ∃ ks : List Int, kvs.map (·.1) = ks.map Sum.inl ∧ ks.length < 64 ∧ ∀ ys : List Int, ys.Perm ks → ys.Pairwise (· ≤ ·) → Q (dints ys)
  | _ => False
def frzM (i : Nat) (env : EnvD) : EnvD := match get env i with
  | some (.dcm kvs) => env.set i (some (.v (dFrz kvs)))
  | _ => env
def wFrzM (i : Nat) (s : WS) : WS := fun W env => s W (frzM i env)
/-- d.get(k, z) of a dict that is only read -/
def wVGet2 (o k a : WE) : WE := fun env Q => o env fun x => ∃ kvs, x = dFrz kvs ∧ k env fun y => a env fun d => ∃ z v, nKey 8 y = some z ∧ (mAt kvs z).getD d = v ∧ Q v
def rSortD : List V → Hp → VK → Prop := fun xs H Q => ∃ (a : Addr) (kvs : List (Key × V)) (ks : List Int), xs = [.ref a] ∧ Rd H a (.dK kvs) ∧ kvs.map (·.1) = ks.map Sum.inl ∧ ks.length < 64 ∧
    ∀ (ys : List Int) (p : Addr), ys.Perm ks → ys.Pairwise (· ≤ ·) → H p = none → Q (.ref p) (upd H p (.lst (ys.map V.int)))
section
variable {K : PySem.W.Frag} {ok : List D → Prop} {C : Ctx} {H0 H : Hp} {σ : L2.St} {env : EnvD} {ta to tk : TE} {wa wo wk : WE} {i : Nat} {t : TS} {a : WS}
theorem sl_sortD : SndL K ok (tCB rSortD (tCons (tVar i) tNil)) (wSortD i) := fun C H0 σ H env Q R rel hw k => by
  unfold wSortD at hw
  split at hw
  · rename_i kvs hd
    obtain ⟨L, hL, hl, q⟩ := hw
    obtain ⟨p, ks, e, n, n0, hp, kr⟩ := rel.slot i _ (get_eq hd)
    refine ⟨.ref p, e, p, ks, L, rfl, .inl hp, kr.1.trans hL, hl, fun ys p' hperm hpw nl => ?_⟩
    exact k _ _ _ _ (q ys hperm hpw) (rel.laid0 nl) (Same.refl _) ⟨rel.fresh nl, ⟨rel.sub.free nl, _, upd_same, Rps.of_ints ys⟩, rel.noslot nl, rel.kp.free nl⟩
  · exact hw.elim
theorem ss_frzM (ha : SndS K ok t a) : SndS K ok t (wFrzM i a) := fun C H0 σ H env E W rel hw h => by
  unfold wFrzM frzM at hw
  split at hw
  · rename_i kvs hd
    have he := get_eq hd
    obtain ⟨p, ks, e, n, n0, hp, kr⟩ := rel.slot i _ he
    have es : σ.set i (some (.ref p)) = σ := by
      apply List.ext_getElem?
      intro j
      by_cases hj : i = j
      · subst hj
        rw [e]
        have lt : i < σ.length := by rw [rel.len]; exact (List.getElem?_eq_some_iff.mp he).1
        rw [List.getElem?_set_self lt]
      · rw [List.getElem?_set_ne hj]
    have r1 : Rel K ok C H0 σ H (env.set i none) := by
      have q := rel.drop (i := i) (y := some (.ref p))
      rw [es] at q
      exact q
    obtain ⟨r2, e2⟩ := r1.know hp n0 n (rel.kn i _ p he rfl e) (fun j s hs os z => by
      have hj : i ≠ j := fun y => by
        subst y
        rw [List.getElem?_set_self (List.getElem?_eq_some_iff.mp he).1] at hs; cases hs
      rw [List.getElem?_set_ne hj] at hs
      exact rel.dis i j _ s p hj he hs rfl os e z)
    have r3 := r2.setV (i := i) (x := .ref p) (d := dFrz kvs) (.dct upd_same (fun x hx => ((kr.mono e2).2.2 x hx)) kr.1 (kr.2.1.mono e2))
    rw [es, List.set_set] at r3
    exact ha C _ σ H _ E W r3 hw (h.mono e2)
  · exact ha C H0 σ H env E W rel hw h
theorem snd_vget2 (ho : SndE K ok to wo) (hk : SndE K ok tk wk) (ha : SndE K ok ta wa) : SndE K ok (tMGet2 K to tk ta) (wVGet2 wo wk wa) := fun C H0 σ H env Q R rel hw k =>
  ho C H0 σ H env _ _ rel hw fun x u H1 H01 q r1 e1 x1 => by
    obtain ⟨kvs, rfl, q⟩ := q
    obtain ⟨p, ks, rfl, hp, kr⟩ := x1.frz
    refine ⟨p, rfl, ⟨ks, r1.sub _ _ hp, kr.keys r1.sub⟩, hk C H01 σ H1 env _ _ r1 q fun y v H2 H02 q r2 e2 x2 => ha C H02 σ H2 env _ _ r2 q fun d u H3 H03 q r3 e3 x3 => ?_⟩
    obtain ⟨z, w0, hz, hw0, q⟩ := q
    subst hw0
    have kr3 := (kr.mono e2).mono e3
    refine ⟨_, ⟨ks, z, r3.sub _ _ (e3 _ _ (e2 _ _ hp)), kr3.keys r3.sub, nv_of ((x2.mono e3).mono r3.sub) hz, rfl⟩, ?_⟩
    rcases mrps_at kr3 z with ⟨a1, a2⟩ | ⟨w, d', a1, a2, r⟩
    · rw [a1]
      rw [a2] at q
      exact k _ _ H3 H03 q r3 (e1.trans (e2.trans e3)) x3
    · rw [a1]
      rw [a2] at q
      exact k _ _ H3 H03 q r3 (e1.trans (e2.trans e3)) r
end
section
variable {X : Cx} {ok : List D → Prop} {a b : Expr} {wa wb : WE} {pos p : Pos} {x : Str}
theorem s_frzM (i : Nat) {st : Stmt} {ws : WS} (h : PDS X ok st ws) : PDS X ok st (wFrzM i ws) := let ⟨_, a, b⟩ := h; ⟨_, a, ss_frzM b⟩
theorem l_sortD (i : Nat) {mp : Pos} (hc : X.calm = true) (hm : X.mg "sorted" = none) (hN : X.N[i]? = some x := by rfl) (hv : Vis X.env.scope x := by first | exact Or.inl rfl | exact Or.inr (Or.inl rfl) | exact Or.inr (Or.inr rfl)) (hd : (x == ("__debug__" : Str)) = false := by decide) (hcd : (x == ("__classdict__" : Str)) = false := by decide)
    (hg : Gl X "sorted" := by rfl) (hs : starEach [.Name x mp] X.env = (false, eval (.Name x mp) X.env) :: starEach [] X.env := by rfl) (hpl : (backTo pos (starEach [] X.env)).any (·.1) = false := by rfl) :
    PDL X ok (.Call (.Name "sorted" p) [.Name x mp] [] pos) (wSortD i) := ⟨_, pe_callB (call_sortedDI hc) hg hm (by decide +kernel) (pa_cons (pe_var hN hv hd hcd) pa_nil hs) (by decide) (by decide) hs hpl, sl_sortD⟩
theorem d_vget2 {k : Nat} (i : Nat) {apos mp : Pos} (hr : Room k X.A) (ha : PDE X ok a wa) (hb : PDE X ok b wb) (hN : X.N[i]? = some x := by rfl) (hv : Vis X.env.scope x := by first | exact Or.inl rfl | exact Or.inr (Or.inl rfl) | exact Or.inr (Or.inr rfl)) (hd : (x == ("__debug__" : Str)) = false := by decide) (hcd : (x == ("__classdict__" : Str)) = false := by decide)
    (m1 : attributeBase (.Name x mp) "get" X.env (eval (.Name x mp) X.env) = eval (.Name x mp) X.env := by rfl)
    (m2 : ((backTo pos (starEach [a, b] X.env)).all (fun x => !x.1) && (backToKw pos (keywordEach [] X.env)).all (fun x => x.1.isSome) && decide (([a, b] : List Expr).length + ([] : List Keyword).length + (if ([] : List Keyword).isEmpty then 0 else 1) < 30)) = true := by rfl)
    (m3 : (apos.endLine == pos.line) = true := by rfl) (m4 : backTo pos (starEach [a, b] X.env) = [(false, eval a X.env), (false, eval b X.env)] := by rfl) :
    PDE X ok (.Call (.Attribute (.Name x mp) "get" apos) [a, b] [] pos) (wVGet2 (wVar i) wa wb) := let ⟨_, a1, a2⟩ := ha; let ⟨_, b1, b2⟩ := hb; ⟨_, pe_mget2 (by have := units65 hr; omega) (pe_var hN hv hd hcd) a1 b1 ⟨m1, m2, m3, m4⟩, snd_vget2 snd_var a2 b2⟩
end
end DL
/-! DM, part g: min of two pairs of whole numbers. -/
namespace DN
open PySem PySem.Spec PyProof.Rows L2
/-- min(a, b), the two compared where H stands -/
theorem call_min_twoH {prog : Program} {w : World} {A : Around} {E : Value → Shared → Prop} {s : Shared} {a b : Value} {Q : Value → Shared → Prop}
    (h : wpAny (model prog w) A.in1 (pyIter (.ref s.heap.objs.size)) (fun it s₂ => ∃ I fp wr G n P St H bt, it = .ref I ∧ PySem.WalksS prog w A.in1 I fp wr G n P St ∧ St 0 s₂ ∧ (∀ b ∈ fp, b < s₂.heap.objs.size) ∧ 0 < n ∧
      (∀ b o, H.get? b = some o → b ∉ wr) ∧ (∀ b o, H.get? b = some o → s₂.heap.get? b = some o) ∧ PySem.CmpIn prog w A.in1 .Lt H P bt ∧ ∀ v s', P (argBest bt (n - 1)) v → PySem.Moved wr G s₂ s' → Q v s') E { s with heap := s.heap.push { cls := .type "tuple", data := .seq #[a, b] } }) :
    wpAny (model prog w) A (call (.builtin "min") [a, b]) Q E s := by
  have hname : (toString "min" ++ toString ".loop" : String) = "min.loop" := by decide
  refine call_function_tree F.kind_min F.plain_min F.entry_min (F.args_min2 _ _) ?_
  show wpAny _ A.in1 (Builtin.Builtins.bindParams "min" ["key", "default"] 0 ⟨[], []⟩ >>= _) _ _ s
  refine wpAny_bind (wpAny_of_eq (show Builtin.Builtins.bindParams "min" ["key", "default"] 0 ⟨[], []⟩ = pure [none, none] from rfl) ?_)
  show wpAny _ A.in1 (newTuple [a, b] >>= _) _ _ s
  refine wpAny_bind (wpAny_newObj_type ?_)
  refine wpAny_bind (wpAny_mono h (fun it s₂ h₂ => ?_) fun _ _ e => e)
  obtain ⟨I, fp, wr, G, n, P, St, H, bt, rfl, W, hst, hfp, hn, hw, hkeep, hcmp, hQ⟩ := h₂
  refine wpAny_bind (wpAny_newObj_type ?_)
  have hSf : s₂.heap.objs.size ∉ fp := fun hm => Nat.lt_irrefl _ (hfp _ hm)
  rw [hname]
  refine wpAny_pure ⟨plainId_quiet F.plain_min_loop _, PySem.codeAny_min_loop_firstH W H hw bt hcmp s₂.heap.objs.size hSf (PySem.fresh_in hkeep) _ hn (fun b o e => Heap.get?_push_of_some _ (hkeep b o e)) (W.frame 0 s₂ _ s₂.toks hst (Nat.le_refl _) fun b _ o e => Heap.get?_push_of_some _ e) (Heap.get?_push_size _ rfl) fun v s' hP hm => ?_⟩
  exact hQ v s' hP (PySem.Moved.drop_new (tk := s₂.toks) hm (Nat.le_refl _))
def rMinP2 (K : PySem.W.Frag) : List V → Hp → VK → Prop := fun vs H Q => ∃ (a b : Addr) (P R : Int × Int), vs = [V.ref a, V.ref b] ∧ SqT K H a [.int P.1, .int P.2] ∧ SqT K H b [.int R.1, .int R.2] ∧ Q (if SrtO.lexB R P = true then .ref b else .ref a) H
theorem pair_read {X : Cx} {pins : List (Addr × Obj)} {σ : L2.St} {H : Hp} {s : Shared} (I : Inv X pins σ H s) {a : Addr} {P : Int × Int} (h : SqT X.K H a [.int P.1, .int P.2]) : Reads s.heap (.ref a) (DL.d2 P) ([] ++ ([] ++ [])) := by
  obtain ⟨its2, r2, ⟨o, ho, hc, n, hd⟩, _⟩ := I.tuple h
  obtain ⟨u1, u2, rfl, ri, rj⟩ := vals2 r2
  obtain ⟨t1, rfl⟩ := ri
  obtain ⟨t2, rfl⟩ := rj
  exact .tuple ho hc hd (.cons (.int _ _) (.cons (.int _ _) .nil))
theorem cr_minP2 {X : Cx} (hcalm : X.calm = true) (hu : X.A.units + 65 < cLine) : CallR X (.builtin "min") (rMinP2 X.K) := by
  intro pins s σ H vs us Q I r h
  obtain ⟨a, b, P, R, rfl, ha, hb, q⟩ := h
  obtain ⟨u, v, rfl, ru, rv⟩ := vals2 r
  obtain rfl : u = Value.ref a := ru
  obtain rfl : v = Value.ref b := rv
  have keep : ∀ (c : Addr) o, s.heap.get? c = some o → (s.heap.push { cls := .type "tuple", data := .seq #[.ref a, .ref b] }).get? c = some o := fun c o e => Heap.get?_push_of_some _ e
  have r1 := PySem.W.reads_keeps keep (pair_read I ha)
  have r2 := PySem.W.reads_keeps keep (pair_read I hb)
  have hr : ReadsAll (s.heap.push { cls := .type "tuple", data := .seq #[.ref a, .ref b] }) (#[Value.ref a, Value.ref b]).toList [DL.d2 P, DL.d2 R] _ := .cons r1 (.cons r2 .nil)
  have hT : (s.heap.push { cls := .type "tuple", data := .seq #[.ref a, .ref b] }).IsTuple s.heap.objs.size #[.ref a, .ref b] := ⟨_, Heap.get?_push_size _ rfl, rfl, 0, rfl⟩
  have alikeP : ∀ P R : Int × Int, PySem.W.alike (DL.d2 P) (DL.d2 R) = true := fun P R => by simp [PySem.W.alike, PySem.W.alikeAll]
  have hal : PySem.W.AlikeAll [DL.d2 P, DL.d2 R] := ⟨fun p hp r hr => by
    simp only [List.mem_cons, List.not_mem_nil, or_false] at hp hr
    rcases hp with rfl | rfl <;> rcases hr with rfl | rfl <;> exact alikeP _ _, fun p hp z => by
    simp only [List.mem_cons, List.not_mem_nil, or_false] at hp
    rcases hp with rfl | rfl <;> cases z⟩
  have hd1 : PyData.depthAll [DL.d2 P, DL.d2 R] ≤ 1 := by simp [PyData.depth, PyData.depthAll]
  refine call_min_twoH (PySem.W.iter_tupleW (A := X.A.in1) (s := { s with heap := s.heap.push { cls := .type "tuple", data := .seq #[.ref a, .ref b] } }) (I.ok.hd hcalm) hT fun s₂ e W st hfp hw hk => ?_)
  refine ⟨_, _, _, _, _, _, _, _, _, rfl, W, st, hfp, by show 0 < 2; decide, hw, hk, PySem.W.cmpIn_lt (s := { s with heap := s.heap.push { cls := .type "tuple", data := .seq #[.ref a, .ref b] } }) (A := X.A.in1) hr hal (by rw [Around.in1_units]; omega), fun v s' hP m => ?_⟩
  obtain ⟨h', tk, rfl, hk'⟩ := PySem.W.moved_old e rfl m
  have hbest : argBest (fun i j => PySem.W.dataLt (([DL.d2 P, DL.d2 R] : List PyData).getD i .none) (([DL.d2 P, DL.d2 R] : List PyData).getD j .none)) ((#[Value.ref a, Value.ref b] : Array Value).size - 1) = if SrtO.lexB R P = true then 1 else 0 := by
    show argBest _ 1 = _
    have : PySem.W.dataLt (DL.d2 R) (DL.d2 P) = SrtO.lexB R P := dataLt_pair R P
    cases hb : SrtO.lexB R P <;> rw [hb] at this <;> simp [argBest, this]
  rw [hbest] at hP
  refine ⟨if SrtO.lexB R P = true then .ref b else .ref a, H, I.kept (t' := tk) (fun c o e => hk' c o (keep c o e)), ?_, q⟩
  by_cases hb : SrtO.lexB R P = true
  · rw [if_pos hb] at hP ⊢
    have : v = Value.ref b := by simpa using hP.symm
    exact this
  · rw [if_neg hb] at hP ⊢
    have : v = Value.ref a := by simpa using hP.symm
    exact this
end DN
namespace DL
open PySem PySem.Spec PyProof.Rows L2 DN
def wMin2P (a b : WE) : WE := fun env Q => a env fun x => b env fun y => ∃ P R : Int × Int, x = d2 P ∧ y = d2 R ∧ Q (d2 (if SrtO.lexB R P = true then R else P))
section
variable {K : PySem.W.Frag} {ok : List D → Prop} {ta tb : TE} {wa wb : WE}
theorem rp_d2 {H : Hp} {v : V} {P : Int × Int} (h : Rp K H v (d2 P)) : ∃ a, v = .ref a ∧ SqT K H a [.int P.1, .int P.2] := by
  generalize e : d2 P = d at h
  cases h with
  | tup h1 h2 =>
    injection e with e
    subst e
    have := Rps.ints_inv (ns := [P.1, P.2]) h2
    subst this
    exact ⟨_, rfl, h1⟩
  | non => cases e
  | bl b => cases e
  | int j => cases e
  | str x => cases e
  | lst _ _ => cases e
  | scr _ => cases e
  | dct _ _ _ _ => cases e
  | dci _ _ _ => cases e
  | fn _ => cases e
  | ob _ _ _ _ => cases e
theorem snd_minP2 (ha : SndE K ok ta wa) (hb : SndE K ok tb wb) : SndE K ok (tCB (rMinP2 K) (tCons ta (tCons tb tNil))) (wMin2P wa wb) := fun C H0 σ H env Q R rel hw k =>
  ha C H0 σ H env _ _ rel hw fun d v H1 H01 q r1 e1 x1 => hb C H01 σ H1 env _ _ r1 q fun e u H2 H02 q r2 e2 x2 => by
    obtain ⟨P, S, rfl, rfl, q⟩ := q
    have y1 := x1.mono e2
    obtain ⟨a, rfl, h1⟩ := rp_d2 y1
    obtain ⟨b, rfl, h2⟩ := rp_d2 x2
    refine ⟨a, b, P, S, rfl, Same.tup r2.sub h1, Same.tup r2.sub h2, ?_⟩
    refine k _ _ H2 H02 q r2 (e1.trans e2) ?_
    split
    · exact x2
    · exact y1
end
section
variable {X : Cx} {ok : List D → Prop} {a b : Expr} {wa wb : WE} {pos p : Pos}
theorem d_minP2 {k : Nat} (hr : Room k X.A) (hc : X.calm = true) (hm : X.mg "min" = none) (ha : PDE X ok a wa) (hb : PDE X ok b wb) (hg : Gl X "min" := by rfl) (hs : starEach [a, b] X.env = (false, eval a X.env) :: starEach [b] X.env := by rfl) (hs2 : starEach [b] X.env = (false, eval b X.env) :: starEach [] X.env := by rfl) (hpl : (backTo pos (starEach [b] X.env)).any (·.1) = false := by rfl) :
    PDE X ok (.Call (.Name "min" p) [a, b] [] pos) (wMin2P wa wb) := let ⟨_, a1, a2⟩ := ha; let ⟨_, b1, b2⟩ := hb; ⟨_, pe_callB (cr_minP2 hc (units65 hr)) hg hm (by decide +kernel) (pa_cons a1 (pa_cons b1 pa_nil hs2) hs) (by decide) (by decide) hs hpl, snd_minP2 a2 b2⟩
end
end DL
/-! DM, part h: a dict with whole numbers for keys that is only read from then on (locked): get, [], not in, for k in d. -/
namespace DL
open PySem PySem.Spec PyProof.Rows L2 DN
/-- the thing at d is locked, and stays so -/
def tLockK (t : TS) : TS := fun D σ H => ∃ d u, H d = some u ∧ Mut (some u) ∧ ∀ od, t D σ (upd H d (.frz od u))
theorem ps_lockK {X : Cx} {st : Stmt} {t : TS} (h : PS X st t) : PS X st (tLockK t) := by
  refine ⟨fun pins s σ H D I hw => ?_⟩
  obtain ⟨d, u, hd, mu, hw⟩ := hw
  obtain ⟨od, I1⟩ := I.lock hd mu
  exact h.run pins s σ _ _ I1 (hw od)
def wFrzI (i : Nat) (s : WS) : WS := fun W env => match get env i with
  | some (.dct kvs) => s W (env.set i (some (.v (dFri kvs))))
  | _ => False
def wIGet1 (o k : WE) : WE := fun env Q => o env fun x => ∃ kvs, x = dFri kvs ∧ k env fun y => ∃ z v, dKey y = some z ∧ (dAt kvs z).getD .none = v ∧ Q v
def wIIx (o k : WE) : WE := fun env Q => o env fun x => ∃ kvs, x = dFri kvs ∧ k env fun y => ∃ z d, dKey y = some z ∧ dAt kvs z = some d ∧ Q d
def wINin (k o : WE) : WE := fun env Q => k env fun y => o env fun x => ∃ kvs z b, x = dFri kvs ∧ dKey y = some z ∧ (dAt kvs z).isSome = b ∧ Q (.bool (!b))
def iKD (a : WE) : WI := fun env Q => a env fun x => ∃ kvs, x = dFri kvs ∧ Q (kvs.map fun kv => keyD kv.1)
theorem keyD_inj {a b : Key} (h : keyD a = keyD b) : a = b := by
  cases a with
  | inl i => cases b with
    | inl j => injection h with h; rw [h]
    | inr y => cases h
  | inr x => cases b with
    | inl j => cases h
    | inr y => injection h with h; rw [h]
theorem fri_inj {a b : List (Key × D)} (h : dFri a = dFri b) : a = b := by
  injection h with h
  injection h with _ h
  induction a generalizing b with
  | nil => cases b with
    | nil => rfl
    | cons _ _ => simp at h
  | cons p a ih =>
    cases b with
    | nil => simp at h
    | cons q b =>
      simp only [List.map_cons, List.cons.injEq, Prod.mk.injEq] at h
      rw [ih h.2]
      have := keyD_inj h.1.1
      obtain ⟨p1, p2⟩ := p
      obtain ⟨q1, q2⟩ := q
      simp only at this h
      rw [this, h.1.2]
section
variable {K : PySem.W.Frag} {ok : List D → Prop} {C : Ctx} {H0 H : Hp} {σ : L2.St} {env : EnvD} {ta to tk : TE} {wa wo wk : WE} {i : Nat} {t : TS} {a : WS}
theorem Rp.fri {v : V} {kvs : List (Key × D)} (h : Rp K H v (dFri kvs)) : ∃ a o ks, v = .ref a ∧ H a = some (.frz o (.dK ks)) ∧ KRps K H ks kvs := by
  generalize e : dFri kvs = d at h
  cases h with
  | non => cases e
  | bl b => cases e
  | int j => cases e
  | str x => cases e
  | lst _ _ => cases e
  | tup _ _ => cases e
  | scr _ =>
    injection e with e
    injection e with e _
    injection e with e _
    cases e
  | dct _ _ _ _ =>
    injection e with e
    injection e with e _
    injection e with e _
    injection e with e
    cases e
  | fn _ =>
    injection e with e
    injection e with e _
    injection e with _ e
    cases e
  | ob _ _ _ _ =>
    injection e with e
    injection e with e _
    injection e with e _
    injection e with e
    cases e
  | dci h1 h2 h3 =>
    have := fri_inj e
    subst this
    exact ⟨_, _, _, rfl, h1, h2, h3⟩
theorem ss_frzI (ha : SndS K ok t a) : SndS K ok (tLockK t) (wFrzI i a) := fun C H0 σ H env E W rel hw h => by
  unfold wFrzI at hw
  split at hw
  · rename_i kvs hd
    have he := get_eq hd
    obtain ⟨p, ks, e, n, n0, hp, kr⟩ := rel.slot i _ he
    have kn := rel.kn i _ p he rfl e
    have es : σ.set i (some (.ref p)) = σ := by
      apply List.ext_getElem?
      intro j
      by_cases hj : i = j
      · subst hj
        rw [e]
        have lt : i < σ.length := by rw [rel.len]; exact (List.getElem?_eq_some_iff.mp he).1
        rw [List.getElem?_set_self lt]
      · rw [List.getElem?_set_ne hj]
    have r1 : Rel K ok C H0 σ H (env.set i none) := by
      have q := rel.drop (i := i) (y := some (.ref p))
      rw [es] at q
      exact q
    have ns : ∀ (j : Nat) s, (env.set i none)[j]? = some (some s) → s.isOwn = true → σ[j]? ≠ some (some (.ref p)) := fun j s hs os z => by
      have hj : i ≠ j := fun y => by
        subst y
        rw [List.getElem?_set_self (List.getElem?_eq_some_iff.mp he).1] at hs; cases hs
      rw [List.getElem?_set_ne hj] at hs
      exact rel.dis i j _ s p hj he hs rfl os e z
    have nha : C.ha ≠ some p := fun z => by
      obtain ⟨⟨o, y⟩, _⟩ := rel.hv p z
      rw [n] at y; cases y
    refine ⟨p, .dK ks, hp, trivial, fun od => ?_⟩
    have r2 : Rel K ok { C with Kp := upd C.Kp p (.dK ks) } H0 σ H (env.set i none) := r1.guard (fun b o z => by
      by_cases hb : b = p
      · subst hb; rw [upd_same] at z; cases z; exact hp
      · rw [upd_ne hb] at z; exact rel.kp b o z) (fun b o z => by
      by_cases hb : b = p
      · subst hb; exact .inr ⟨ns, nha, n0⟩
      · rw [upd_ne hb] at z; exact .inl z)
    have r3 := r2.chg (o2 := .frz od (.dK ks)) n0 n nha
    have r4 : Rel K ok C H0 σ (upd H p (.frz od (.dK ks))) (env.set i none) := r3.guard (Kq := C.Kp) (fun b o z => by
      have hb : b ≠ p := fun y => by subst y; rw [kn] at z; cases z
      rw [upd_ne hb]
      exact rel.kp b o z) (fun b o z => by
      have hb : b ≠ p := fun y => by subst y; rw [kn] at z; cases z
      exact .inl (by show upd C.Kp p _ b = some o; rw [upd_ne hb]; exact z))
    obtain ⟨r5, e2⟩ := r4.know upd_same n0 n kn ns
    have r6 := r5.setV (i := i) (x := .ref p) (d := dFri kvs) (.dci upd_same kr.1 (kr.2.mono e2))
    rw [es, List.set_set] at r6
    exact ha C _ σ _ _ E W r6 hw (h.mono e2)
  · exact hw.elim
theorem snd_iget1 (ho : SndE K ok to wo) (hk : SndE K ok tk wk) : SndE K ok (tDGet1 to tk) (wIGet1 wo wk) := fun C H0 σ H env Q R rel hw k =>
  ho C H0 σ H env _ _ rel hw fun x u H1 H01 q r1 e1 x1 => by
    obtain ⟨kvs, rfl, q⟩ := q
    obtain ⟨p, o, ks, rfl, hp, kr⟩ := x1.fri
    refine ⟨p, rfl, .inl ⟨ks, .inr ⟨o, r1.sub _ _ hp⟩⟩, hk C H01 σ H1 env _ _ r1 q fun y v H2 H02 q r2 e2 x2 => ?_⟩
    obtain ⟨z, w0, hz, hw0, q⟩ := q
    subst hw0
    have ev := dKey_V x2 hz
    subst ev
    have kr2 := kr.mono e2
    refine ⟨_, .inl ⟨ks, z, .inr ⟨o, r2.sub _ _ (e2 _ _ hp)⟩, rfl, rfl⟩, ?_⟩
    rcases krps_at kr2 z with ⟨a1, a2⟩ | ⟨w, d, a1, a2, r⟩
    · rw [a1]
      rw [a2] at q
      exact k _ _ H2 H02 q r2 (e1.trans e2) .non
    · rw [a1]
      rw [a2] at q
      exact k _ _ H2 H02 q r2 (e1.trans e2) r
theorem snd_iix (ho : SndE K ok to wo) (hk : SndE K ok tk wk) : SndE K ok (tDGet to tk) (wIIx wo wk) := fun C H0 σ H env Q R rel hw k =>
  ho C H0 σ H env _ _ rel hw fun x u H1 H01 q r1 e1 x1 => by
    obtain ⟨kvs, rfl, q⟩ := q
    obtain ⟨p, o, ks, rfl, hp, kr⟩ := x1.fri
    refine hk C H01 σ H1 env _ _ r1 q fun y v H2 H02 q r2 e2 x2 => ?_
    obtain ⟨z, w0, hz, hw0, q⟩ := q
    have ev := dKey_V x2 hz
    subst ev
    have kr2 := kr.mono e2
    rcases krps_at kr2 z with ⟨a1, a2⟩ | ⟨w, d, a1, a2, r⟩
    · rw [a2] at hw0; cases hw0
    · rw [a2] at hw0
      cases hw0
      exact ⟨p, w, rfl, .inl ⟨ks, z, .inr ⟨o, r2.sub _ _ (e2 _ _ hp)⟩, rfl, a1.symm⟩, k _ _ H2 H02 q r2 (e1.trans e2) r⟩
theorem snd_inin (hk : SndE K ok tk wk) (ho : SndE K ok to wo) : SndE K ok (tDNotIn tk to) (wINin wk wo) := fun C H0 σ H env Q R rel hw k =>
  hk C H0 σ H env _ _ rel hw fun y v H1 H01 q r1 e1 x1 => ho C H01 σ H1 env _ _ r1 q fun x u H2 H02 q r2 e2 x2 => by
    obtain ⟨kvs, z, b, rfl, hz, hb, q⟩ := q
    obtain ⟨p, o, ks, rfl, hp, kr⟩ := x2.fri
    have ev := dKey_V x1 hz
    subst ev
    refine ⟨p, valV ks z, rfl, .inl ⟨ks, z, .inr ⟨o, r2.sub _ _ hp⟩, rfl, rfl⟩, ?_⟩
    have e : (valV ks z).isSome = b := by
      rw [← hb]
      rcases krps_at kr z with ⟨a1, a2⟩ | ⟨w, d, a1, a2, r⟩
      · rw [a1, a2]; rfl
      · rw [a1, a2]; rfl
    rw [e]
    exact k _ _ H2 H02 q r2 (e1.trans e2) (.bl _)
theorem si_keys (ho : SndE K ok to wo) : SndI K ok (iKeys to) (iKD wo) := fun C H0 σ H env Q R rel hw k =>
  ho C H0 σ H env _ _ rel hw fun x u H1 H01 q r e x1 => by
    obtain ⟨kvs, rfl, q⟩ := q
    obtain ⟨p, o, ks, rfl, hp, kr⟩ := x1.fri
    have ll : ks.length = (kvs.map fun kv => keyD kv.1).length := by
      rw [List.length_map, krps_len kr]
    refine ⟨p, o, rfl, .inl ⟨ks, r.sub _ _ hp, k _ _ H1 H01 q r e ⟨fun i H2 hi s => ⟨s _ _ hp, by omega⟩, fun H2 s => ⟨s _ _ hp, by omega⟩, fun i H2 x H3 hi s y => ?_⟩⟩⟩
    obtain ⟨rfl, kk, v, hk, rfl⟩ := y
    refine ⟨keyD kk, ?_, .inl ⟨rfl, ?_⟩⟩
    · have h1 : (ks.map (·.1))[i]? = some kk := by rw [List.getElem?_map, hk]; rfl
      rw [kr.1, List.getElem?_map] at h1
      obtain ⟨q2, hq2, e2⟩ := Option.map_eq_some_iff.mp h1
      rw [List.getElem?_map, hq2, ← e2]
      rfl
    · cases kk with
      | inl j => exact .int j
      | inr y => exact .str y
end
section
variable {X : Cx} {ok : List D → Prop} {a e tg : Expr} {wa : WE} {pos p : Pos} {x : Str}
theorem s_frzI (i : Nat) {st : Stmt} {ws : WS} (h : PDS X ok st ws) : PDS X ok st (wFrzI i ws) := let ⟨_, a, b⟩ := h; ⟨_, ps_lockK a, ss_frzI b⟩
theorem d_iget1 {k : Nat} (i : Nat) {apos mp : Pos} (hr : Room k X.A) (ha : PDE X ok a wa) (hN : X.N[i]? = some x := by rfl) (hv : Vis X.env.scope x := by first | exact Or.inl rfl | exact Or.inr (Or.inl rfl) | exact Or.inr (Or.inr rfl)) (hd : (x == ("__debug__" : Str)) = false := by decide) (hcd : (x == ("__classdict__" : Str)) = false := by decide)
    (m1 : attributeBase (.Name x mp) "get" X.env (eval (.Name x mp) X.env) = eval (.Name x mp) X.env := by rfl)
    (m2 : ((backTo pos (starEach [a] X.env)).all (fun x => !x.1) && (backToKw pos (keywordEach [] X.env)).all (fun x => x.1.isSome) && decide (([a] : List Expr).length + ([] : List Keyword).length + (if ([] : List Keyword).isEmpty then 0 else 1) < 30)) = true := by rfl)
    (m3 : (apos.endLine == pos.line) = true := by rfl) (m4 : backTo pos (starEach [a] X.env) = [(false, eval a X.env)] := by rfl) :
    PDE X ok (.Call (.Attribute (.Name x mp) "get" apos) [a] [] pos) (wIGet1 (wVar i) wa) := let ⟨_, a1, a2⟩ := ha; ⟨_, pe_dget1 (by have := units65 hr; omega) (pe_var hN hv hd hcd) a1 ⟨m1, m2, m3, m4⟩, snd_iget1 snd_var a2⟩
theorem d_iix {k : Nat} (i : Nat) {mp : Pos} (hr : Room k X.A) (ha : PDE X ok a wa) (hN : X.N[i]? = some x := by rfl) (hv : Vis X.env.scope x := by first | exact Or.inl rfl | exact Or.inr (Or.inl rfl) | exact Or.inr (Or.inr rfl)) (hd : (x == ("__debug__" : Str)) = false := by decide) (hcd : (x == ("__classdict__" : Str)) = false := by decide) (hs : NoSl a := by exact fun _ _ => rfl) :
    PDE X ok (.Subscript (.Name x mp) a pos) (wIIx (wVar i) wa) := let ⟨_, a1, a2⟩ := ha; ⟨_, pe_dget (by have := units65 hr; omega) (pe_var hN hv hd hcd) a1 hs, snd_iix snd_var a2⟩
theorem t_inin {k : Nat} (i : Nat) {mp : Pos} (hr : Room k X.A) (ha : PDE X ok a wa) (hN : X.N[i]? = some x := by rfl) (hv : Vis X.env.scope x := by first | exact Or.inl rfl | exact Or.inr (Or.inl rfl) | exact Or.inr (Or.inr rfl)) (hd : (x == ("__debug__" : Str)) = false := by decide) (hcd : (x == ("__classdict__" : Str)) = false := by decide) :
    PDT X ok (.Compare a [.NotIn] [.Name x mp] pos) (wTest (wINin wa (wVar i))) := let ⟨_, a1, a2⟩ := ha; ⟨_, pt_cmp (pc_dnotin (by have := units65 hr; omega) a1 (pe_var hN hv hd hcd)) (by with_unfolding_all rfl), snd_tB (snd_inin a2 snd_var)⟩
theorem i_keys (i : Nat) {mp : Pos} (hN : X.N[i]? = some x := by rfl) (hv : Vis X.env.scope x := by first | exact Or.inl rfl | exact Or.inr (Or.inl rfl) | exact Or.inr (Or.inr rfl)) (hd : (x == ("__debug__" : Str)) = false := by decide) (hcd : (x == ("__classdict__" : Str)) = false := by decide) :
    PDI X ok tg (.Name x mp) (iKD (wVar i)) := ⟨_, pi_keys (pe_var hN hv hd hcd), si_keys snd_var⟩
end
end DL
/-! DL: xs[::-1] of a list; xs.count(y) of a list of data -/
namespace RT
open PySem PySem.Spec PyProof.Rows L2
section
variable {X : Cx}
def rCntD (K : PySem.W.Frag) : V → List V → Hp → VK → Prop := fun x xs H Q => ∃ (a : Addr) (y : V) (d : PyData) (ds : List PyData), x = V.ref a ∧ xs = [y] ∧ Dp K H (V.ref a) (.list ds) ∧ Dp K H y d ∧
  SeqAt.shaped (.list ds) = true ∧ SeqAt.shaped d = true ∧ Q (.int ((ds.countP fun z => PyData.eqv z d : Nat) : Int)) H
theorem mt_countD (hu : X.A.units + 65 < cLine) : MtR X "list.count" (rCntD X.K) := by
  intro pins s σ H x xs v us Q I rx rxs h
  obtain ⟨a, y, d, ds, rfl, rfl, hl, hy, sl, sd, q⟩ := h
  cases rx
  cases rxs with
  | cons ry rt =>
    rename_i uy ut
    cases rt
    obtain ⟨bs, r1⟩ := Dp.reads I d y uy hy ry
    have hxs : PyData.canLayAll0 ds = true := SeqAt.canLay_of_shaped sl
    have hroom : X.A.units + 1 + min (PyData.depthAll ds) d.depth < cLine := room_in_shaped sd hu
    cases hl with
    | lst hs ha =>
      obtain ⟨its, rv, ⟨⟨cls, dd, data, sls⟩, n, ho, hc, hdn, hdt⟩, hlen⟩ := I.list hs
      simp only at hc hdt
      subst hc hdt
      obtain ⟨as, h4⟩ := Dp.readsAll I ds _ its ha rv
      have hmap : its.map (SeqAt.readOf s.heap) = ds := SeqAt.readsAll_map ds its as hxs h4
      have ec : its.toArray.toList.countP (fun u => PyData.eqv (SeqAt.readOf s.heap u) d) = ds.countP fun z => PyData.eqv z d := by
        rw [← hmap, List.countP_map]
        rfl
      refine call_meets PySem.F.slot_list_count ⟨_, ho, rfl⟩ PySem.F.entry_list_count (PySem.F.args_list_count_2 _ _)
        (SeqAt.list_countAt a its.toArray n dd sls uy (fun u => PyData.eqv (SeqAt.readOf s.heap u) d)) ⟨ho, SeqAt.items_eqAt (vs := its.toArray) (show ReadsAll s.heap its.toArray.toList ds as from h4) r1 hxs (SeqAt.canLay_of_shaped sd) hroom, ?_⟩
      refine ⟨.int ((ds.countP fun z => PyData.eqv z d : Nat) : Int), H, I.tok _, ⟨s.toks, ?_⟩, q⟩
      show Value.int ((its.toArray.toList.countP (fun u => PyData.eqv (SeqAt.readOf s.heap u) d) : Nat) : Int) s.toks = _
      rw [ec]
end
end RT
namespace DL
open PySem L2
def wCount (a b : WE) : WE := fun env Q => a env fun x => match x with
  | .list ds => b env fun y => SeqAt.shaped (.list ds) = true ∧ SeqAt.shaped y = true ∧ Q (.int ((ds.countP fun z => PyData.eqv z y : Nat) : Int))
  | _ => False
section
variable {K : PySem.W.Frag} {ok : List D → Prop} {ta tb : TE} {wa wb : WE}
theorem snd_count (ha : SndB K ok ta wa) (hb : SndE K ok tb wb) : SndE K ok (tBM K "list" (RT.rCntD K) ta (tCons tb tNil)) (wCount wa wb) := fun C H0 σ H env Q R rel hw k =>
  ha C H0 σ H env _ _ rel hw fun d v H1 H01 q r1 e1 x1 => by
    try dsimp only at q
    split at q
    · rename_i ds
      obtain ⟨p, vs, rfl, r, h⟩ := (x1 H1 H01 r1 (Same.refl _)).lst r1.sub
      refine ⟨.inl ⟨rfl, vs, SqL.of h⟩, hb C H01 σ H1 env _ _ r1 q fun e u H2 H02 ⟨s1, s2, q2⟩ r2 e2 x2 => ?_⟩
      have b := (x1 H2 H02 r2 e2).rp r2.sub
      exact ⟨p, u, e, ds, rfl, rfl, b.sh s1, (x2.mono r2.sub).sh s2, s1, s2, k _ _ H2 H02 q2 r2 (e1.trans e2) (.int _)⟩
    · exact q.elim
end
section
variable {X : Cx} {ok : List D → Prop} {a b : Expr} {wa wb : WE} {apos cpos pos p1 p2 p3 : Pos} {kk : Nat}
theorem d_count {j : Nat} (hr : Room j X.A) (ha : PDB X ok a wa) (hb : PDE X ok b wb)
    (hbase : attributeBase a "count" X.env (eval a X.env) = eval a X.env := by rfl)
    (hfew : ((backTo cpos (starEach [b] X.env)).all (fun x => !x.1) && (backToKw cpos (keywordEach [] X.env)).all (fun x => x.1.isSome)
      && decide ([b].length + ([] : List Keyword).length + (if ([] : List Keyword).isEmpty then 0 else 1) < 30)) = true := by rfl)
    (hline : (apos.endLine == cpos.line) = true := by rfl) (hs : starEach [b] X.env = (false, eval b X.env) :: starEach [] X.env := by rfl) (hplain : (backTo cpos (starEach [] X.env)).any (·.1) = false := by rfl) :
    PDE X ok (.Call (.Attribute a "count" apos) [b] [] cpos) (wCount wa wb) := let ⟨_, a1, a2⟩ := ha; let ⟨_, b1, b2⟩ := hb
  ⟨_, pe_bm PySem.F.plainAttrs_list PySem.F.slot_list_count PySem.F.type_list_count (RT.mt_countD (units65 hr)) a1 (pa_cons b1 pa_nil hs) hbase hfew hline hs hplain, snd_count a2 b2⟩
theorem l_rev1 (ha : PDB X ok a wa) : PDL X ok (.Subscript a (.Slice none none (some (.UnaryOp .USub (.Constant (.int 1) kk p1) p2)) p3) pos) (wLstRev wa) := let ⟨_, a1, a2⟩ := ha; ⟨_, pe_revL a1, sl_lstRev a2⟩
end
end DL
/-! DL: sorted(xs), xs a list of tuples of any make that are alike -/
namespace DL
open PySem PySem.Spec PyProof.Rows L2
/-- not behind -/
def dle (x y : D) : Prop := PySem.W.dataLt y x = false
def tupD (d : D) : Prop := ∃ x r, d = PyData.tuple (x :: r)
def rSortA (K : PySem.W.Frag) : List V → Hp → VK → Prop := fun vs H Q => ∃ (a : Addr) (xs : List V) (ds : List D) (R : V → D → Prop), vs = [V.ref a] ∧ SqL K H a xs ∧ Paired R xs ds ∧ (∀ x d, R x d → ∃ t, x = V.ref t ∧ Dp K H x d) ∧ PySem.W.AllAlike ds ∧ (∀ d ∈ ds, tupD d) ∧ (∀ d ∈ ds, d.depth ≤ 60) ∧
  ∀ ys ds' p, Paired R ys ds' → ds'.Perm ds → ds'.Pairwise dle → H p = none → Q (.ref p) (upd H p (.lst ys))
theorem le_trans' (a b c : D) : PySem.W.dataLe false id a b = true → PySem.W.dataLe false id b c = true → PySem.W.dataLe false id a c = true := by
  rw [PySem.W.dataLe_eq]
  intro h1 h2
  have h1 : PySem.W.dataLt b a = false := by simpa using h1
  have h2 : PySem.W.dataLt c b = false := by simpa using h2
  show (!PySem.W.dataLt c a) = true
  rw [Bool.not_eq_true']
  cases h3 : PySem.W.dataLt c a with
  | false => rfl
  | true =>
    cases h4 : PySem.W.dataLt b c with
    | true => 
      have := PyProof.Rows.lex_trans _ _ _ h4 h3
      unfold PySem.W.dataLt at h1
      rw [this] at h1
      cases h1
    | false =>
      have := PyProof.Rows.lex_total _ _ h2 h4
      unfold PySem.W.dataLt at h1 h3
      rw [this] at h3
      rw [h3] at h1
      cases h1
theorem le_total' (a b : D) : (PySem.W.dataLe false id a b || PySem.W.dataLe false id b a) = true := by
  rw [PySem.W.dataLe_eq]
  show (!PySem.W.dataLt b a || !PySem.W.dataLt a b) = true
  cases h1 : PySem.W.dataLt b a with
  | false => rfl
  | true =>
    cases h2 : PySem.W.dataLt a b with
    | false => rfl
    | true =>
      have := PyProof.Rows.lex_trans _ _ _ h1 h2
      rw [PyProof.Rows.lex_irrefl] at this
      cases this
section
variable {X : Cx}
theorem cr_sortA (hu : X.A.units + 65 < cLine) : CallR X (.builtin "sorted") (rSortA X.K) := by
  intro pins s σ H vs us Q I r h
  obtain ⟨a, xs, ds, R, rfl, hs, hp, hR, hal, htp, hdp, q⟩ := h
  obtain ⟨its, rv, hl, hz⟩ := I.list hs
  obtain ⟨u, rfl, ru⟩ := vals1 r
  obtain rfl : u = Value.ref a := ru
  have all : ∀ {xs : List V} {its : List Value} {ds : List D}, Vals xs its → Paired R xs ds → PySem.W.EachIs (fun u d => (R (backV u) d ∧ ∃ t, u = Value.ref t) ∧ ∃ as, Reads s.heap u d as) its ds := by
    intro xs its ds rv
    induction rv generalizing ds with
    | nil => intro hp; cases hp; exact .nil
    | cons h t ih =>
      intro hp
      cases hp with
      | cons h1 h2 =>
        obtain ⟨t, rfl, hd⟩ := hR _ _ h1
        have hr := Dp.reads I _ _ _ hd h
        have h' := h
        obtain rfl := h
        exact .cons ⟨⟨h1, _, rfl⟩, hr⟩ (ih h2)
  have ea := all rv hp
  have e1 : PySem.W.EachIs (fun u d => R (backV u) d ∧ ∃ t, u = Value.ref t) its ds := ea.mono fun _ _ h => h.1
  have e2 : PySem.W.EachIs (fun u d => ∃ as, Reads s.heap u (id d) as) its ds := ea.mono fun _ _ h => h.2
  have hn : its.length = ds.length := e1.length
  refine PySem.W.sorted_data (enc := id) hl.isList e1 e2 (by rw [List.map_id]; exact hal) (by rw [List.map_id]; exact .inl htp) (by rw [← hn, ← rv.length]; exact hz) (fun b hb => by have := hdp b hb; show X.A.units + 2 + b.depth < cLine; omega) fun out ho eo => ?_
  obtain ⟨c, hc⟩ := PyProof.Rows.sortedAll_at s.heap its out.toArray
  have kp : ∀ b o, s.heap.get? b = some o → (PyProof.Rows.sortedAll s.heap its out.toArray).get? b = some o := fun _ _ => PyProof.Rows.sortedAll_old
  have hd : s.heap.objs.size ≤ s.heap.objs.size + 1 := Nat.le_succ _
  have pr : ∀ {out : List Value} {ds : List D}, PySem.W.EachIs (fun u d => R (backV u) d ∧ ∃ t, u = Value.ref t) out ds → Paired R (out.map backV) ds ∧ ∀ u ∈ out, ∃ a, u = Value.ref a := by
    intro out ds e
    induction e with
    | nil => exact ⟨.nil, fun u hu => (nomatch hu)⟩
    | cons h _ ih => exact ⟨.cons h.1 ih.1, fun u hu => (List.mem_cons.mp hu).elim (fun e => e ▸ h.2) (ih.2 u)⟩
  obtain ⟨p1, p2⟩ := pr eo
  refine ⟨.ref (s.heap.objs.size + 1), upd H (s.heap.objs.size + 1) (.lst (out.map backV)), I.laid (t' := s.toks) kp hd ⟨?_, out, c, vals_back p2, hc⟩, rfl, q _ _ _ p1 (List.mergeSort_perm _ _) ?_ (I.hok.fresh hd)⟩
  · rw [List.length_map, ho, ← hn, ← rv.length]
    exact hz
  · have := List.pairwise_mergeSort (le := PySem.W.dataLe false id) le_trans' le_total' ds
    refine this.imp fun {x y} h => ?_
    rw [PySem.W.dataLe_eq] at h
    have h : (!PySem.W.dataLt y x) = true := h
    rwa [Bool.not_eq_true'] at h
end
def wSortA (a : WE) : WL := fun env Q => a env fun x => ∃ ds : List D, x = .list ds ∧ PySem.W.AllAlike ds ∧ (∀ d ∈ ds, tupD d) ∧ (∀ d ∈ ds, SeqAt.shaped d = true) ∧ (∀ d ∈ ds, d.depth ≤ 60) ∧ ∀ ds' : List D, ds'.Perm ds → ds'.Pairwise dle → Q ds'
section
variable {K : PySem.W.Frag} {ok : List D → Prop} {ta : TE} {wa : WE}
theorem rps_paired {H : Hp} : ∀ {vs : List V} {ds : List D}, Rps K H vs ds → Paired (fun v d => Rp K H v d ∧ d ∈ ds) vs ds
  | _, _, .nil => .nil
  | _, _, .cons h t => .cons ⟨h, .head _⟩ ((rps_paired t).mono fun _ _ h => ⟨h.1, .tail _ h.2⟩)
theorem rps_back {H : Hp} {P : D → Prop} : ∀ {vs : List V} {ds : List D}, Paired (fun v d => Rp K H v d ∧ P d) vs ds → Rps K H vs ds
  | _, _, .nil => .nil
  | _, _, .cons h t => .cons h.1 (rps_back t)
theorem sl_sortA (ha : SndB K ok ta wa) : SndL K ok (tCB (rSortA K) (tCons ta tNil)) (wSortA wa) := fun C H0 σ H env Q R rel hw k =>
  ha C H0 σ H env _ _ rel hw fun d v H1 H01 q r1 e1 x1 => by
    obtain ⟨ds, rfl, hal, htp, hsh, hdp, q⟩ := q
    obtain ⟨p, vs, rfl, r, h⟩ := (x1 H1 H01 r1 (Same.refl _)).lst r1.sub
    refine ⟨p, vs, ds, fun v d => Rp K H01 v d ∧ d ∈ ds, rfl, SqL.of h, rps_paired r, fun x d hx => ?_, hal, htp, hdp, fun ys ds' p' hp hperm hpw nl => k _ _ _ _ (q ds' hperm hpw) (r1.laid0 nl) e1 ⟨r1.fresh nl, ⟨r1.sub.free nl, _, upd_same, rps_back hp⟩, r1.noslot nl, r1.kp.free nl⟩⟩
    have hs := hsh d hx.2
    have ht := htp d hx.2
    have hx' := (hx.1.mono r1.sub)
    have hd := hx'.sh hs
    obtain ⟨y, rr, rfl⟩ := ht
    generalize hdd : PyData.tuple (y :: rr) = d at hx' hd
    cases hx' with
    | tup h1 h2 => exact ⟨_, rfl, hd⟩
    | _ => cases hdd
end
section
variable {X : Cx} {ok : List D → Prop} {a : Expr} {wa : WE} {pos p : Pos}
theorem l_sortA {j : Nat} (hr : Room j X.A) (hm : X.mg "sorted" = none) (ha : PDB X ok a wa) (hg : Gl X "sorted" := by rfl) (hs : starEach [a] X.env = (false, eval a X.env) :: starEach [] X.env := by rfl) (hpl : (backTo pos (starEach [] X.env)).any (·.1) = false := by rfl) :
    PDL X ok (.Call (.Name "sorted" p) [a] [] pos) (wSortA wa) := let ⟨_, a1, a2⟩ := ha; ⟨_, pe_callB (cr_sortA (units65 hr)) hg hm (by decide +kernel) (pa_cons a1 pa_nil hs) (by decide) (by decide) hs hpl, sl_sortA a2⟩
end
end DL
/-! DL: instances of an own class: made, their fields read, their methods called -/
namespace DL
open PySem L2
/-- an instance whose fields are ns, in this order -/
abbrev dObj (x : Str) (ns : List Str) (ds : List D) : D := dOb x (ns.zip ds)
structure ClsD (K : PySem.W.Frag) (mg : Str → Option Value) (x : Str) (C : Addr) : Prop where
  cl : Cls K C
  ns : PySem.W.nsIn K mainGlobals x = some (some (.ref C))
  mgC : mg x = some (.ref C)
structure HasM (P : Program) (w : World) (K : PySem.W.Frag) (mg : Str → Option Value) (base : Heap) (ok : List D → Prop) (k : Nat) (C : Addr) (m : Str) (n : Nat) (M : WM) : Prop where
  ex : ∃ f fd ps, FnOk P w K mg base CX0 k f fd ps (SpD K ok n M) ∧ Meth K C m f ∧ Binds K fd ps []
def wFld (x : Str) (ns : List Str) (i : Nat) (a : WE) : WE := fun env Q => a env fun d => ∃ ds v, d = dObj x ns ds ∧ ds.length = ns.length ∧ ds[i]? = some v ∧ Q v
def wMeth (x : Str) (ns : List Str) (n : Nat) (M : WM) (o : WE) (a : WA) : WE := fun env Q => o env fun d => ∃ ds, d = dObj x ns ds ∧ a env fun as => oneH as = true ∧ as.length + 1 = n ∧ M (.v d :: as) fun r => Q r.val
theorem ob_inj {x y : Str} {a b : List (Str × D)} (h : dOb x a = dOb y b) : x = y ∧ a = b := by
  injection h with h
  injection h with h1 h2
  injection h1 with _ h1
  injection h1 with h1
  refine ⟨h1, ?_⟩
  induction a generalizing b with
  | nil => cases b with
    | nil => rfl
    | cons _ _ => simp at h2
  | cons p a ih =>
    cases b with
    | nil => simp at h2
    | cons q b =>
      simp only [List.map_cons, List.cons.injEq, Prod.mk.injEq] at h2
      obtain ⟨⟨h3, h4⟩, h5⟩ := h2
      injection h3 with h3
      rw [ih h5]
      obtain ⟨p1, p2⟩ := p
      obtain ⟨q1, q2⟩ := q
      simp only at h3 h4
      rw [h3, h4]
theorem rp_ob {K : PySem.W.Frag} {H : Hp} {v : V} {x : Str} {kvs : List (Str × D)} (h : Rp K H v (dOb x kvs)) : ∃ a dx C fs, v = .ref a ∧ H a = some (.ins C dx fs) ∧ PySem.W.nsIn K mainGlobals x = some (some (.ref C)) ∧ fs.map (·.1) = kvs.map (·.1) ∧ Rps K H (fs.map (·.2)) (kvs.map (·.2)) := by
  generalize e : dOb x kvs = d at h
  cases h with
  | non => cases e
  | bl b => cases e
  | int j => cases e
  | str x => cases e
  | lst _ _ => cases e
  | tup _ _ => cases e
  | scr _ =>
    injection e with e
    injection e with e _
    injection e with e _
    cases e
  | dct _ _ _ _ =>
    injection e with e
    injection e with e _
    injection e with _ e
    cases e
  | dci _ _ _ =>
    injection e with e
    injection e with e _
    injection e with e _
    injection e with e
    cases e
  | fn _ =>
    injection e with e
    injection e with e _
    injection e with _ e
    cases e
  | ob h1 h2 h3 h4 =>
    obtain ⟨rfl, rfl⟩ := ob_inj e
    exact ⟨_, _, _, _, rfl, h1, h2, h3, h4⟩
theorem zip_fst {ns : List Str} {ds : List D} (h : ds.length = ns.length) : (ns.zip ds).map (·.1) = ns := by
  rw [List.map_fst_zip]
  omega
theorem zip_snd {ns : List Str} {ds : List D} (h : ds.length = ns.length) : (ns.zip ds).map (·.2) = ds := by
  rw [List.map_snd_zip]
  omega
theorem zip_take : ∀ (ns : List Str) (ds : List D), (ns.zip ds).map (·.1) = ns.take ds.length
  | [], ds => by simp
  | n :: ns, [] => rfl
  | n :: ns, d :: ds => by
    show n :: (ns.zip ds).map (·.1) = n :: ns.take ds.length
    rw [zip_take ns ds]
/-- the first place of a name -/
def fldIx (f : Str) : List Str → Option Nat
  | [] => none
  | n :: ns => if f = n then some 0 else (fldIx f ns).map (· + 1)
theorem lookup_ix {f : Str} : ∀ {fs : List (Str × V)} {i : Nat} {v : V}, fldIx f (fs.map (·.1)) = some i → (fs.map (·.2))[i]? = some v → fs.lookup f = some v
  | [], _, _, h, _ => by cases h
  | (n, u) :: fs, i, v, h, hv => by
    unfold fldIx at h
    rw [List.map_cons] at h
    dsimp only at h
    rw [List.lookup_cons]
    by_cases e : f = n
    · rw [if_pos e] at h
      cases h
      rw [show (f == n) = true from beq_iff_eq.mpr e]
      exact hv
    · rw [if_neg e] at h
      rw [show (f == n) = false from beq_eq_false_iff_ne.mpr e]
      obtain ⟨j, hj, rfl⟩ := Option.map_eq_some_iff.mp h
      exact lookup_ix hj hv
theorem lookup_no {f : Str} : ∀ {fs : List (Str × V)}, fldIx f (fs.map (·.1)) = none → fs.lookup f = none
  | [], _ => rfl
  | (n, u) :: fs, h => by
    unfold fldIx at h
    rw [List.map_cons] at h
    dsimp only at h
    rw [List.lookup_cons]
    by_cases e : f = n
    · rw [if_pos e] at h
      cases h
    · rw [if_neg e] at h
      rw [show (f == n) = false from beq_eq_false_iff_ne.mpr e]
      exact lookup_no (Option.map_eq_none_iff.mp h)
theorem fldIx_take {f : Str} : ∀ {ns ms : List Str} {i : Nat}, fldIx f ns = none → (∃ k, ms = ns.take k) → fldIx f ms = none
  | [], ms, _, h, ⟨k, e⟩ => by rw [e]; cases k <;> rfl
  | n :: ns, ms, i, h, ⟨k, e⟩ => by
    unfold fldIx at h
    by_cases z : f = n
    · rw [if_pos z] at h; cases h
    · rw [if_neg z] at h
      cases k with
      | zero => rw [e]; rfl
      | succ k =>
        rw [e, List.take_succ_cons]
        unfold fldIx
        rw [if_neg z, fldIx_take (i := i) (Option.map_eq_none_iff.mp h) ⟨k, rfl⟩]
        rfl
section
variable {K : PySem.W.Frag} {ok : List D → Prop} {ta : TE} {wa : WE} {tr : TA} {wr : WA} {mg : Str → Option Value} {x : Str} {ns : List Str} {C : Addr}
theorem snd_fld {f : Str} {i : Nat} (c : ClsD K mg x C) (na : NoAttr K C f) (hi : fldIx f ns = some i) (ha : SndE K ok ta wa) : SndE K ok (tFld K ta f) (wFld x ns i wa) := fun Ct H0 σ H env Q R rel hw k =>
  ha Ct H0 σ H env _ _ rel hw fun d v H1 H01 q r1 e1 x1 => by
    obtain ⟨ds, u, rfl, hl, hu, q⟩ := q
    obtain ⟨a, dx, C', fs, rfl, hp, hn, h1, h2⟩ := rp_ob x1
    rw [c.ns] at hn
    cases hn
    rw [zip_fst hl] at h1
    rw [zip_snd hl] at h2
    obtain ⟨y, hy, ry⟩ : ∃ y, (fs.map (·.2))[i]? = some y ∧ Rp K H01 y u := h2.get hu
    exact ⟨a, _, dx, fs, y, rfl, r1.sub _ _ hp, c.cl, na, lookup_ix (by rw [h1]; exact hi) hy, k _ _ _ _ q r1 e1 ry⟩
theorem snd_meth {m : Str} {n : Nat} {M : WM} {E : XK} (c : ClsD K mg x C) (nm : fldIx m ns = none) (ha : SndE K ok ta wa) (hr : SndA K ok tr wr) : SndE K ok (tMeth C m (SpD K ok n M) [] E ta tr) (wMeth x ns n M wa wr) := fun Ct H0 σ H env Q R rel hw k =>
  ha Ct H0 σ H env _ _ rel hw fun d v H1 H01 q r1 e1 x1 => by
    obtain ⟨ds, rfl, q⟩ := q
    obtain ⟨a, dx, C', fs, rfl, hp, hn, h1, h2⟩ := rp_ob x1
    rw [c.ns] at hn
    cases hn
    refine ⟨a, dx, fs, rfl, r1.sub _ _ hp, lookup_no (by
      rw [h1]
      refine fldIx_take (i := 0) nm ⟨ds.length, ?_⟩
      exact zip_take ns ds), hr Ct H01 σ H1 env _ _ r1 q fun as vs H2 H02 q2 r2 e2 x2 => ?_⟩
    obtain ⟨q1, q3, q4⟩ := q2
    rw [List.append_nil]
    refine SpD.exc (call_core (as := .v (dObj x ns ds) :: as) r2 (.cons (x1.mono e2) x2) q1 q3 q4 fun v r H3 H03 hq r3 e3 z => ?_)
    have e12 := (e1.trans e2).trans e3
    cases r with
    | v d => exact k _ _ H3 H03 hq r3 e12 z
    | own ds =>
      obtain ⟨p, rfl, f⟩ := z
      obtain ⟨n0, ws, hp, hr'⟩ := f.own
      obtain ⟨r4, e4⟩ := r3.know hp n0 f.he f.kq f.ns
      exact k _ _ H3 _ hq r4 (e12.trans e4) (.lst upd_same (hr'.mono e4))
    | two d ds =>
      obtain ⟨q, p, x, rfl, hne, heq, kq, nsq, q0, hqq, hx, f⟩ := z
      obtain ⟨n0, ws, hp, hr'⟩ := f.own
      obtain ⟨r4, e4⟩ := r3.know hp n0 f.he f.kq f.ns
      obtain ⟨r5, e5⟩ := r4.know hqq (by rw [upd_ne (Ne.symm hne)]; exact q0) heq kq nsq
      exact k _ _ H3 _ hq r5 ((e12.trans e4).trans e5) (.lst upd_same (.cons (hx.mono (e4.trans e5)) (.cons (.lst (e5 _ _ upd_same) ((hr'.mono e4).mono e5)) .nil)))
/-- at __init__: the new instance, what is known ahead; behind: its fields -/
def SpI (K : PySem.W.Frag) (C : Addr) (x : Str) (ns : List Str) (n : Nat) (M : WM) : Sp := fun us H Q _ => ∃ (p dx : Addr) (vs : List V) (H0 : Hp) (as : List Ar) (Q' : List D → Prop), us = .ref p :: vs ∧ as.length = n ∧ vs.length = n ∧ Same H0 H ∧ H0 p = none ∧ H p = some (.ins C dx []) ∧ ArgsOk K H0 none vs as ∧
  M as (fun r => ∃ ds, r = .v (dObj x ns ds) ∧ ds.length = ns.length ∧ Q' ds) ∧
  ∀ H' fs ds H01, Q' ds → ds.length = ns.length → H' p = some (.ins C dx fs) → fs.map (·.1) = ns → Rps K H01 (fs.map (·.2)) ds → H01 p = none → Same H0 H01 → Same H01 H' → (∀ b o, H01 b = some o → H0 b = some o ∨ H b = none) → (∀ b o, H b = some o → b ≠ p → H' b = some o) → Q .non H'
structure HasMk (P : Program) (w : World) (K : PySem.W.Frag) (mg : Str → Option Value) (base : Heap) (k : Nat) (x : Str) (ns : List Str) (C : Addr) (n : Nat) (M : WM) : Prop where
  ex : ∃ f fd ps, FnOk P w K mg base CX0 k f fd ps (SpI K C x ns n M) ∧ Mk K C f ∧ Binds K fd ps []
def wMake (x : Str) (ns : List Str) (n : Nat) (M : WM) (a : WA) : WE := fun env Q => a env fun as => plainA as = true ∧ as.length = n ∧ M as fun r => ∃ ds, r = .v (dObj x ns ds) ∧ ds.length = ns.length ∧ Q (dObj x ns ds)
theorem snd_make {n : Nat} {M : WM} {E : XK} (c : ClsD K mg x C) (hr : SndA K ok tr wr) : SndE K ok (tMake C (SpI K C x ns n M) [] E tr) (wMake x ns n M wr) := fun Ct H0 σ H env Q R rel hw k =>
  hr Ct H0 σ H env _ _ rel hw fun as vs H1 H01 q r1 e1 x1 => by
    obtain ⟨q1, q2, q3⟩ := q
    intro p dx np ndx ne
    rw [List.append_nil]
    have g : Same H1 (upd (upd H1 dx (.own p)) p (.ins C dx [])) := fun b o hb => by
      rw [upd_ne (ne_of_none hb np), upd_ne (ne_of_none hb ndx)]
      exact hb
    refine ⟨p, dx, vs, H01, as, fun ds => Q (dObj x ns ds), rfl, q2, by rw [← x1.length]; exact q2, fun b o hb => g _ _ (r1.sub _ _ hb), r1.sub.free np, upd_same, argsOk_plain x1 q1, q3, fun H' fs ds H02 hq hl hp hf hs n0 e2 s2 nw fr => ⟨rfl, ?_⟩⟩
    have r2 : Rel K ok Ct H02 σ H' env := r1.step e2 s2 (fun b o hb => (nw b o hb).imp id fun z => by
      by_cases h1 : b = p
      · rw [h1]; exact np
      · by_cases h2 : b = dx
        · rw [h2]; exact ndx
        · rw [upd_ne h1, upd_ne h2] at z
          exact z) fun b o hb => fr b o (g _ _ hb) (ne_of_none hb np)
    obtain ⟨r3, e3⟩ := r2.know hp n0 (r1.fresh np) (r1.kp.free np) (r1.noslot np)
    refine k _ _ H' _ hq r3 ((e1.trans e2).trans e3) (.ob upd_same c.ns (by rw [hf, zip_fst hl]) ?_)
    rw [zip_snd hl]
    exact hs.mono e3
end
section
variable {X : Cx} {ok : List D → Prop} {e o : Expr} {es : List Expr} {wa : WE} {wr : WA} {pos p apos : Pos} {x f m : Str} {ns : List Str} {C : Addr}
theorem d_fld (i : Nat) (c : ClsD X.K X.mg x C) (na : NoAttr X.K C f) (ha : PDE X ok e wa) (hi : fldIx f ns = some i := by decide +kernel) (hb : attributeBase e f X.env (eval e X.env) = eval e X.env := by rfl) : PDE X ok (.Attribute e f pos) (wFld x ns i wa) := let ⟨_, a1, a2⟩ := ha; ⟨_, pe_fld a1 hb, snd_fld c na hi a2⟩
theorem d_meth {k j n : Nat} {M : WM} {pl : Sem Bool} (c : ClsD X.K X.mg x C) (h : HasM X.prog X.w X.K X.mg X.base ok k C m n M) (hr : Room j X.A) (hk : k ≤ j) (ha : PDE X ok o wa) (hes : PDA X ok (e :: es) wr) (nm : fldIx m ns = none := by decide +kernel)
    (hst : starEach (e :: es) X.env = (false, eval e X.env) :: starEach es X.env := by rfl) (hpl : (backTo pos (starEach es X.env)).any (·.1) = false := by rfl)
    (ht : eval (.Call (.Attribute o m apos) (e :: es) [] pos) X.env = (do
      let ov ← eval o X.env
      standAt apos.atName
      let (f, first) ← holding [ov] (getMethod ov m pl)
      callWith pos f first (backTo pos (starEach (e :: es) X.env)) (backToKw pos (keywordEach [] X.env))) := by rfl) : PDE X ok (.Call (.Attribute o m apos) (e :: es) [] pos) (wMeth x ns n M wa wr) :=
  let ⟨f, fd, ps, G, hm, bs⟩ := h.ex; let ⟨_, a1, a2⟩ := ha; let ⟨_, b1, b2⟩ := hes; ⟨_, pe_meth a1 c.cl hm G (hr.mono hk) bs .nil pass0 b1 hst hpl ht, snd_meth c nm a2 b2⟩
theorem d_meth0 {k j n : Nat} {M : WM} {pl : Sem Bool} (c : ClsD X.K X.mg x C) (h : HasM X.prog X.w X.K X.mg X.base ok k C m n M) (hr : Room j X.A) (hk : k ≤ j) (ha : PDE X ok o wa) (nm : fldIx m ns = none := by decide +kernel)
    (ht : eval (.Call (.Attribute o m apos) [] [] pos) X.env = (do
      let ov ← eval o X.env
      standAt apos.atName
      let (f, first) ← holding [ov] (getMethod ov m pl)
      callWith pos f first (backTo pos (starEach [] X.env)) (backToKw pos (keywordEach [] X.env))) := by rfl) : PDE X ok (.Call (.Attribute o m apos) [] [] pos) (wMeth x ns n M wa wNil) :=
  let ⟨f, fd, ps, G, hm, bs⟩ := h.ex; let ⟨_, a1, a2⟩ := ha; ⟨_, pe_meth0 a1 c.cl hm G (hr.mono hk) bs .nil pass0 ht, snd_meth c nm a2 snd_nil⟩
theorem d_make {k j n : Nat} {M : WM} (c : ClsD X.K X.mg x C) (h : HasMk X.prog X.w X.K X.mg X.base k x ns C n M) (hr : Room j X.A) (hk : k + 1 ≤ j) (hes : PDA X ok (e :: es) wr) (hg : Gl X x := by rfl) (hdb : (x == ("__debug__" : Str)) = false := by decide)
    (he : starEach (e :: es) X.env = (false, eval e X.env) :: starEach es X.env := by rfl) (hpl : (backTo pos (starEach es X.env)).any (·.1) = false := by rfl) : PDE X ok (.Call (.Name x p) (e :: es) [] pos) (wMake x ns n M wr) :=
  let ⟨f, fd, ps, G, hm, bs⟩ := h.ex; let ⟨_, b1, b2⟩ := hes; ⟨_, pe_make hm G (hr.mono hk) hg c.mgC bs .nil pass0 b1 hdb he hpl, snd_make c b2⟩
end
end DL
namespace DL
open PySem L2
section
variable {X : Cx} {ok : List D → Prop} {e o : Expr} {es : List Expr} {ta : TE} {t : TA} {pos p apos : Pos} {x f m : Str} {ns : List Str} {C : Addr}
theorem pe_hasM {k j n : Nat} {M : WM} {pl : Sem Bool} (c : ClsD X.K X.mg x C) (h : HasM X.prog X.w X.K X.mg X.base ok k C m n M) (hr : Room j X.A) (hk : k ≤ j) (ha : PE X o ta) (hes : PA X (e :: es) t)
    (hst : starEach (e :: es) X.env = (false, eval e X.env) :: starEach es X.env := by rfl) (hpl : (backTo pos (starEach es X.env)).any (·.1) = false := by rfl)
    (ht : eval (.Call (.Attribute o m apos) (e :: es) [] pos) X.env = (do
      let ov ← eval o X.env
      standAt apos.atName
      let (f, first) ← holding [ov] (getMethod ov m pl)
      callWith pos f first (backTo pos (starEach (e :: es) X.env)) (backToKw pos (keywordEach [] X.env))) := by rfl) : PE X (.Call (.Attribute o m apos) (e :: es) [] pos) (tMeth C m (SpD X.K ok n M) [] E0 ta t) :=
  let ⟨_, _, _, G, hm, bs⟩ := h.ex; pe_meth ha c.cl hm G (hr.mono hk) bs .nil pass0 hes hst hpl ht
theorem pe_hasM0 {k j n : Nat} {M : WM} {pl : Sem Bool} (c : ClsD X.K X.mg x C) (h : HasM X.prog X.w X.K X.mg X.base ok k C m n M) (hr : Room j X.A) (hk : k ≤ j) (ha : PE X o ta)
    (ht : eval (.Call (.Attribute o m apos) [] [] pos) X.env = (do
      let ov ← eval o X.env
      standAt apos.atName
      let (f, first) ← holding [ov] (getMethod ov m pl)
      callWith pos f first (backTo pos (starEach [] X.env)) (backToKw pos (keywordEach [] X.env))) := by rfl) : PE X (.Call (.Attribute o m apos) [] [] pos) (tMeth C m (SpD X.K ok n M) [] E0 ta tNil) :=
  let ⟨_, _, _, G, hm, bs⟩ := h.ex; pe_meth0 ha c.cl hm G (hr.mono hk) bs .nil pass0 ht
end
end DL
/-! DM, part l: sorted(d.items()), d a dict of one's own with whole numbers for keys and values. -/
namespace DL
open PySem PySem.Spec PyProof.Rows L2 L2.DX
abbrev itE (P : Int × Int) : Key × V := (.inl P.1, .int P.2)
def rItemsK : V → List V → Hp → VK → Prop := fun x xs H Q => ∃ (a : Addr) (kvs : List (Key × V)), x = .ref a ∧ xs = [] ∧ H a = some (.dK kvs) ∧ ∀ p, H p = none → Q (.ref p) (upd H p (itemsO p a))
def rSortItK : List V → Hp → VK → Prop := fun vs H Q => ∃ (p a : Addr) (L : List (Int × Int)), vs = [.ref p] ∧ H p = some (itemsO p a) ∧ H a = some (.dK (L.map itE)) ∧
  ∀ (H' : Hp) (l : Addr) (ts : List Addr) (L' : List (Int × Int)), (∀ b o, H b = some o → H' b = some o) → H l = none → (∀ t ∈ ts, H t = none) → l ∉ ts → L'.Perm L → L'.Pairwise leP → H' l = some (.lst (ts.map V.ref)) →
    Paired (fun (t : Addr) (P : Int × Int) => H' t = some (.tup [.int P.1, .int P.2])) ts L' → Q (.ref l) H'
theorem vals_refsL : ∀ as : List Addr, Vals (as.map V.ref) (as.map Value.ref)
  | [] => .nil
  | _ :: as => .cons rfl (vals_refsL as)
section
variable {X : Cx}
theorem mt_itemsK : MtR X "dict.items" rItemsK := by
  intro pins s σ H x xs v us Q I rx rxs h
  obtain ⟨a, kvs, rfl, rfl, ha, q⟩ := h
  cases rx
  cases rxs
  obtain ⟨hz, hs0, vs, kv, hdo⟩ := I.hok a _ ha
  obtain ⟨es, ep, hraw, _⟩ := hdo.raw
  refine DT.callItems (es := es) (ep := ep) hs0 hraw ?_
  have hf : H s.heap.objs.size = none := I.hok.fresh (Nat.le_refl _)
  exact ⟨.ref s.heap.objs.size, upd H s.heap.objs.size (itemsO s.heap.objs.size a), I.laid (t' := s.toks) (fun b u e => Heap.get?_push_of_some _ e) (Nat.le_refl _) (itemsO_ok (Heap.get?_push_size _ rfl)), rfl, q _ hf⟩
theorem cr_sortItK (hc : X.calm = true) : CallR X (.builtin "sorted") rSortItK := by
  intro pins s σ H xs us Q I r h
  obtain ⟨p, a, L, rfl, hp, ha, q⟩ := h
  obtain rfl := Vals.ref1 r
  have view : s.heap.IsItemsView p a := (show ObjOk X.prog X.w H s.heap p (itemsO p a) from I.hok p _ hp).1
  obtain ⟨hz, hs0, vs, kv, hdo⟩ := I.hok a _ ha
  obtain ⟨es, ep, hraw, hsz, hes⟩ := hdo.raw
  have lk : (L.map itE).length = vs.length := Paired.length kv
  rw [List.length_map] at lk hz
  have hh : X.A.handled = none := I.ok.hd hc
  refine DT.sortedI (es := es) (ep := ep) hh view hraw (by omega) fun h' tk as hk hlt hl hG => ?_
  have lak : as.length = L.length := by omega
  have nd : as.Nodup := List.Pairwise.imp (fun h => Nat.ne_of_lt h) hG.rise
  -- the pairs that were made
  have pr : ∀ (j : Nat) (b : Addr), as[j]? = some b → ∃ (P : Int × Int) (t1 t2 : Tok), L[j]? = some P ∧ h'.get? b = some { cls := .type "tuple", data := .seq #[Value.int P.1 t1, Value.int P.2 t2] } := by
    intro j b hj
    obtain ⟨en, he, hg⟩ := hG.pairs j b hj
    have hj' : j < es.size := (Array.getElem?_eq_some_iff.mp he).1
    obtain ⟨k, v, hkv⟩ : ∃ k v, vs[j]? = some (k, v) := ⟨_, _, List.getElem?_eq_getElem (by omega)⟩
    obtain ⟨e1, e2⟩ := hes j hj' k v hkv
    have e0 : es[j] = en := (Array.getElem?_eq_some_iff.mp he).2
    obtain ⟨pk, f1, f2, f3⟩ := pget kv hkv
    rw [List.getElem?_map] at f1
    obtain ⟨P, hP, rfl⟩ := Option.map_eq_some_iff.mp f1
    have f2 : Sum.inl P.1 = k := f2
    subst f2
    obtain ⟨t2, ev⟩ : ∃ t, v = Value.int P.2 t := f3
    have e1 : keyIs (Sum.inl P.1) es[j].key = true := e1
    rcases keyIs_shape e1 with ⟨i, t1, z1, z2⟩ | ⟨x, t1, z1, _⟩
    · cases z1
      refine ⟨P, t1, t2, hP, ?_⟩
      rw [hg, ← e0, z2, e2, ev]
    · cases z1
  -- the heap of the sort
  have hob : (h'.push { cls := .type "list", data := .seq (as.map Value.ref).toArray }).get? h'.objs.size = some (seqObj "list" (as.map Value.ref).toArray 0) := Heap.get?_push_size _ rfl
  have kb : ∀ b o, s.heap.get? b = some o → (h'.push { cls := .type "list", data := .seq (as.map Value.ref).toArray }).get? b = some o := fun b o e => Heap.get?_push_of_some _ (hk b o e)
  have ne0 : ∀ b o, h'.get? b = some o → b ≠ h'.objs.size := fun b o e => Nat.ne_of_lt (Heap.lt_size e)
  generalize hh2 : h'.push { cls := .type "list", data := .seq (as.map Value.ref).toArray } = h2 at hob kb ⊢
  have ka : ∀ b o, h'.get? b = some o → h2.get? b = some o := fun b o e => by rw [← hh2]; exact Heap.get?_push_of_some _ e
  -- what each address stands for
  have isP : ∀ (j : Nat) (b : Addr) (P : Int × Int), as[j]? = some b → L[j]? = some P → Srt.IsPair h2 (.ref b) P.1 P.2 := fun j b P hj hP => by
    obtain ⟨P', t1, t2, hP', hg⟩ := pr j b hj
    cases hP.symm.trans hP'
    exact ⟨b, _, t1, t2, _, rfl, ka _ _ hg, rfl, rfl⟩
  have at_ : ∀ v ∈ as.map Value.ref, ∃ (j : Nat) (b : Addr) (P : Int × Int), v = .ref b ∧ as[j]? = some b ∧ L[j]? = some P := by
    intro v hv'
    obtain ⟨b, hb, rfl⟩ := List.mem_map.mp hv'
    obtain ⟨j, hj⟩ := List.mem_iff_getElem?.mp hb
    obtain ⟨P, _, _, hP, _⟩ := pr j b hj
    exact ⟨j, b, P, rfl, hj, hP⟩
  have tx : ∀ (j : Nat) (b : Addr) (P : Int × Int), as[j]? = some b → L[j]? = some P → pairOf h2 (.ref b) = P := fun j b P hj hP => pairOf_eq (isP j b P hj hP)
  refine wpAny_call_entry PyProof.Rows.slot_list_sort ⟨_, hob, rfl⟩ PyProof.Rows.entry_list_sort
    (SrtO.list_sort_ord (s := { s with heap := h2, toks := tk }) (SrtO.swo_lex (pairOf h2)) hob (by rw [List.length_map]; omega) (fun h2' => ?_) fun out o1 o2 => ⟨.none, rfl, ?_⟩) (PyProof.Rows.args_list_sort _)
  · refine SrtO.pairs_sortableO (s := { s with heap := h2, toks := tk }) (by omega) (fun v hv' => ?_) fun o e => ?_
    · obtain ⟨j, b, P, rfl, hj, hP⟩ := at_ v hv'
      have := isP j b P hj hP
      rwa [← tx j b P hj hP] at this
    · have e : h2.get? h'.objs.size = some o := e
      rw [hob] at e
      cases e
      intro c
      exact absurd (Value.type.inj c) (by decide)
  · show EP X pins σ Q (.ref h'.objs.size) { s with heap := sortedHeap h2 h'.objs.size (as.map Value.ref) out.toArray, toks := tk }
    -- the addresses in their new order
    have hall : ∀ v ∈ out, ∃ (j : Nat) (b : Addr) (P : Int × Int), v = .ref b ∧ as[j]? = some b ∧ L[j]? = some P := fun v hv => at_ v (o2.perm.mem_iff.mp hv)
    obtain ⟨ts, hts⟩ : ∃ ts : List Addr, out = ts.map Value.ref := by
      clear o1 o2
      induction out with
      | nil => exact ⟨[], rfl⟩
      | cons v out ih =>
        obtain ⟨ts, e⟩ := ih fun u hu => hall u (List.mem_cons_of_mem _ hu)
        obtain ⟨_, b, _, e2, _⟩ := hall v (List.mem_cons_self ..)
        exact ⟨b :: ts, by rw [e, e2]; rfl⟩
    have hpt : ts.Perm as := by
      have := o2.perm
      rw [hts] at this
      have h3 := this.map (fun v : Value => match v with | .ref b => b | _ => 0)
      rw [List.map_map, List.map_map] at h3
      have e : ∀ l : List Addr, l.map ((fun v : Value => match v with | .ref b => b | _ => 0) ∘ Value.ref) = l := fun l => by
        induction l with
        | nil => rfl
        | cons b l ih => rw [List.map_cons, ih]; rfl
      rwa [e, e] at h3
    have hL : as.map (fun b => pairOf h2 (.ref b)) = L := by
      refine List.ext_getElem? fun j => ?_
      rw [List.getElem?_map]
      cases hj : as[j]? with
      | none =>
        rw [List.getElem?_eq_none (by rw [← lak]; exact List.getElem?_eq_none_iff.mp hj)]
        rfl
      | some b =>
        obtain ⟨P, _, _, hP, _⟩ := pr j b hj
        rw [hP, Option.map_some, tx j b P hj hP]
    have hsort : (ts.map fun b => pairOf h2 (.ref b)).Pairwise leP := by
      rw [hts] at o1
      have o1 := List.pairwise_map.mp o1
      refine List.pairwise_map.mpr (o1.imp fun {x y} h => ?_)
      have := SrtO.lexB_no.mp h
      unfold leP
      omega
    have kF : ∀ b o, b ≠ h'.objs.size → h2.get? b = some o → (sortedHeap h2 h'.objs.size (as.map Value.ref) out.toArray).get? b = some o := fun b o hb e => (PyProof.Rows.sortedHeap_old hb (Heap.lt_size e)).trans e
    have kS : ∀ b o, s.heap.get? b = some o → (sortedHeap h2 h'.objs.size (as.map Value.ref) out.toArray).get? b = some o := fun b o e => kF b o (ne0 _ _ (hk b o e)) (kb b o e)
    obtain ⟨eF, heF⟩ := PyProof.Rows.sortedHeap_at (vs := as.map Value.ref) (out := out.toArray) hob
    have I1 : Inv X pins σ H { s with heap := sortedHeap h2 h'.objs.size (as.map Value.ref) out.toArray, toks := tk } := I.kept (t' := tk) kS
    have hn0 : H h'.objs.size = none := I.hok.fresh (Nat.le_of_lt hlt)
    have hlen : (ts.map V.ref).length ≤ sizeLine := by
      rw [List.length_map, hpt.length_eq, lak]
      exact hz
    have I2 : Inv X pins σ (upd H h'.objs.size (.lst (ts.map V.ref))) { s with heap := sortedHeap h2 h'.objs.size (as.map Value.ref) out.toArray, toks := tk } :=
      I1.take (h' := sortedHeap h2 h'.objs.size (as.map Value.ref) out.toArray) (t' := tk) (fun b ob _ e => e) (I.fpOk (Nat.le_of_lt hlt) hn0) ⟨hlen, out, eF, by rw [hts]; exact vals_refsL ts, heF⟩
    have new : ∀ b ∈ as, H b = none := fun b hb => I.hok.fresh (Nat.le_of_lt (hG.above b hb))
    have nol : h'.objs.size ∉ as := fun z => by
      obtain ⟨j, hj⟩ := List.mem_iff_getElem?.mp z
      obtain ⟨_, _, _, _, hg⟩ := pr j _ hj
      exact ne0 _ _ hg rfl
    obtain ⟨H2, I3, g, qt⟩ := takeT (P := fun b vs => vs = [.int (pairOf h2 (.ref b)).1, .int (pairOf h2 (.ref b)).2]) I as _ I2 nd fun b hb => by
      obtain ⟨j, hj⟩ := List.mem_iff_getElem?.mp hb
      obtain ⟨P, t1, t2, hP, hg⟩ := pr j b hj
      have hbl : s.heap.objs.size ≤ b := Nat.le_of_lt (hG.above b hb)
      refine ⟨hbl, ?_, _, rfl, fun H3 => ⟨(by rw [sizeLine_eq]; show 2 ≤ 16777216; omega), [Value.int P.1 t1, Value.int P.2 t2], ?_, ⟨_, kF _ _ (ne0 _ _ hg) (ka _ _ hg), rfl, 0, rfl⟩⟩⟩
      · rw [upd_ne (ne0 _ _ hg)]
        exact I.hok.fresh hbl
      · rw [tx j b P hj hP]
        exact .cons ⟨t1, rfl⟩ (.cons ⟨t2, rfl⟩ .nil)
    have gr : ∀ b o, H b = some o → H2 b = some o := fun b o e => g b o (by rw [upd_ne (ne_of_none e hn0)]; exact e)
    refine ⟨.ref h'.objs.size, H2, I3, rfl, q H2 h'.objs.size ts (ts.map fun b => pairOf h2 (.ref b)) gr hn0 (fun t ht => new t (hpt.mem_iff.mp ht)) (fun z => nol (hpt.mem_iff.mp z)) ?_ hsort (g _ _ upd_same) ?_⟩
    · rw [← hL]
      exact hpt.map _
    · have : ∀ l : List Addr, (∀ b ∈ l, b ∈ as) → Paired (fun (t : Addr) (P : Int × Int) => H2 t = some (.tup [.int P.1, .int P.2])) l (l.map fun b => pairOf h2 (.ref b)) := fun l => by
        induction l with
        | nil => exact fun _ => .nil
        | cons b l ih =>
          intro hb
          refine .cons ?_ (ih fun c hc => hb c (List.mem_cons_of_mem _ hc))
          obtain ⟨vs, rfl, hv⟩ := qt b (hb b (List.mem_cons_self ..))
          exact hv
      exact this ts fun b hb => hpt.mem_iff.mp hb
end
/-- sorted(d.items()) -/
def wSortIt (i : Nat) : WL := fun env Q => match get env i with
  | some (.dct kvs) => ∃ L : List (Int × Int), kvs = L.map (fun P => (Sum.inl P.1, PyData.int P.2)) ∧ ∀ L' : List (Int × Int), L'.Perm L → L'.Pairwise leP → Q (L'.map d2)
  | _ => False
section
variable {K : PySem.W.Frag} {ok : List D → Prop} {i : Nat}
theorem krps_its {H : Hp} : ∀ {ks : List (Key × V)} {L : List (Int × Int)}, KRps K H ks (L.map fun P => (Sum.inl P.1, PyData.int P.2)) → ks = L.map itE
  | [], [], _ => rfl
  | [], P :: L, h => by have := h.1; cases this
  | k :: ks, [], h => by have := h.1; cases this
  | (k, v) :: ks, P :: L, ⟨h1, h2⟩ => by
    have h1 : k :: ks.map Prod.fst = Sum.inl P.1 :: _ := h1
    injection h1 with e1 e2
    have h2 : Rps K H (v :: ks.map Prod.snd) (PyData.int P.2 :: _) := h2
    cases h2 with
    | cons a b =>
      cases a
      subst e1
      rw [krps_its (ks := ks) (L := L) ⟨e2, b⟩]
      rfl
theorem sl_sortIt : SndL K ok (tCB rSortItK (tCons (tBM0 K "dict" rItemsK (tVar i)) tNil)) (wSortIt i) := fun C H0 σ H env Q R rel hw k => by
  unfold wSortIt at hw
  split at hw
  · rename_i kvs hd
    obtain ⟨L, hL, q⟩ := hw
    subst hL
    obtain ⟨a, ks, e, n, n0, hp, kr⟩ := rel.slot i _ (get_eq hd)
    have eks := krps_its kr
    subst eks
    refine ⟨.ref a, e, .inr (.inr (.inl ⟨rfl, .inl ⟨_, hp⟩⟩)), a, _, rfl, rfl, hp, fun p np => ?_⟩
    refine ⟨p, a, L, rfl, upd_same, by rw [upd_ne (ne_of_none hp np)]; exact hp, fun H' l ts L' gr nl nts nlt hperm hpw hl hts => ?_⟩
    have sub : Same (upd H p (itemsO p a)) H' := gr
    have r1 : Rel K ok C H0 σ (upd H p (itemsO p a)) env := rel.laid0 np
    obtain ⟨H01, hH01⟩ : ∃ H01 : Hp, H01 = fun b => if b ∈ ts then H' b else H0 b := ⟨_, rfl⟩
    have e0 : Same H0 H01 := fun b o z => by
      rw [hH01]
      show (if b ∈ ts then H' b else H0 b) = some o
      rw [if_neg fun y => by have := nts b y; rw [r1.sub b o z] at this; cases this]
      exact z
    have s1 : Same H01 H' := fun b o z => by
      rw [hH01] at z
      have z : (if b ∈ ts then H' b else H0 b) = some o := z
      split at z
      · exact z
      · exact sub b o (r1.sub b o z)
    have r2 : Rel K ok C H01 σ H' env := r1.step e0 s1 (fun b o z => by
      rw [hH01] at z
      have z : (if b ∈ ts then H' b else H0 b) = some o := z
      split at z
      · rename_i y
        exact .inr (nts b y)
      · exact .inl z) sub
    have hres : Rps K H01 (ts.map V.ref) (L'.map d2) := by
      have at1 : ∀ t ∈ ts, H01 t = H' t := fun t ht => by rw [hH01]; exact if_pos ht
      clear hl nlt nts hH01 e0 s1 r2 hperm hpw
      induction hts with
      | nil => exact .nil
      | cons h t ih =>
        refine .cons (.tup (.inl (.inl ?_)) (.cons (.int _) (.cons (.int _) .nil))) (ih fun c hc => at1 c (List.mem_cons_of_mem _ hc))
        rw [at1 _ (List.mem_cons_self ..)]
        exact h
    have nl0 : H01 l = none := by
      rw [hH01]
      show (if l ∈ ts then H' l else H0 l) = none
      rw [if_neg nlt]
      exact r1.sub.free nl
    have ns : ∀ (j : Nat) s, env[j]? = some (some s) → s.isOwn = true → σ[j]? ≠ some (some (.ref l)) := r1.noslot nl
    exact k _ _ H' H01 (q L' hperm hpw) r2 e0 ⟨r1.fresh nl, ⟨nl0, _, hl, hres⟩, ns, r1.kp.free nl⟩
  · exact hw.elim
end
section
variable {X : Cx} {ok : List D → Prop} {pos p apos cpos : Pos} {x : Str}
theorem l_sortIt (i : Nat) {mp : Pos} (hc : X.calm = true) (hm : X.mg "sorted" = none) (hN : X.N[i]? = some x := by rfl) (hv : Vis X.env.scope x := by first | exact Or.inl rfl | exact Or.inr (Or.inl rfl) | exact Or.inr (Or.inr rfl)) (hd : (x == ("__debug__" : Str)) = false := by decide) (hcd : (x == ("__classdict__" : Str)) = false := by decide)
    (hbase : attributeBase (.Name x mp) "items" X.env (eval (.Name x mp) X.env) = eval (.Name x mp) X.env := by rfl) (hline : (apos.endLine == cpos.line) = true := by rfl)
    (hg : Gl X "sorted" := by rfl) (hs : starEach [.Call (.Attribute (.Name x mp) "items" apos) [] [] cpos] X.env = (false, eval (.Call (.Attribute (.Name x mp) "items" apos) [] [] cpos) X.env) :: starEach [] X.env := by rfl) (hpl : (backTo pos (starEach [] X.env)).any (·.1) = false := by rfl) :
    PDL X ok (.Call (.Name "sorted" p) [.Call (.Attribute (.Name x mp) "items" apos) [] [] cpos] [] pos) (wSortIt i) :=
  ⟨_, pe_callB (cr_sortItK hc) hg hm (by decide +kernel) (pa_cons (pe_bm0 F.plainAttrs_dict F.slot_dict_items F.type_dict_items mt_itemsK (pe_var hN hv hd hcd) hbase hline) pa_nil hs) (by decide) (by decide) hs hpl, sl_sortIt⟩
end
end DL
/-! DM, part m: a def whose last parameter has the default None, called without it. -/
namespace DL
open PySem L2
/-- such a def as a caller sees it: n counts all parameters -/
structure HasD (P : Program) (w : World) (K : PySem.W.Frag) (mg : Str → Option Value) (base : Heap) (ok : List D → Prop) (k : Nat) (x : Str) (n : Nat) (M : WM) : Prop where
  ex : ∃ f fd ps ds, FnOk P w K mg base CX0 k f fd ps (SpD K ok n M) ∧ mg x = some (.ref f) ∧ PySem.W.keepIn K (.ref f) = true ∧ Binds K fd ps ds ∧ Vals [V.non] ds
def wCallD (n : Nat) (M : WM) (a : WA) : WE := fun env Q => a env fun as => oneH (as ++ [Ar.v .none]) = true ∧ (as ++ [Ar.v .none]).length = n ∧ M (as ++ [Ar.v .none]) fun r => Q r.val
section
variable {K : PySem.W.Frag} {ok : List D → Prop}
theorem ArgsR.snoc {H0 : Hp} {σ : L2.St} {env : EnvD} {a : Ar} {x : V} (h : ArgR K H0 σ env a x) : ∀ {as : List Ar} {xs : List V}, ArgsR K H0 σ env as xs → ArgsR K H0 σ env (as ++ [a]) (xs ++ [x])
  | _, _, .nil => .cons h .nil
  | _, _, .cons q t => .cons q (ArgsR.snoc h t)
theorem snd_callD {n : Nat} {M : WM} {tr : TA} {wr : WA} {E : XK} (hr : SndA K ok tr wr) : SndE K ok (tCall (SpD K ok n M) [V.non] E tr) (wCallD n M wr) := fun C H0 σ H env Q R rel hw k =>
  hr C H0 σ H env _ _ rel hw fun as vs H1 H01 q r1 e1 x1 => by
    obtain ⟨q1, q2, q3⟩ := q
    show SpD K ok n M (vs ++ [V.non]) H1 R E
    have x2 : ArgsR K H01 σ env (as ++ [.v .none]) (vs ++ [V.non]) := ArgsR.snoc (a := .v .none) (x := V.non) Rp.non x1
    refine SpD.exc (call_core r1 x2 q1 q2 q3 fun v r H2 H02 hq r2 e2 z => ?_)
    cases r with
    | v d => exact k _ _ H2 H02 hq r2 (e1.trans e2) z
    | own ds =>
      obtain ⟨p, rfl, f⟩ := z
      obtain ⟨n0, ws, hp, hr'⟩ := f.own
      obtain ⟨r3, e3⟩ := r2.know hp n0 f.he f.kq f.ns
      exact k _ _ H2 _ hq r3 ((e1.trans e2).trans e3) (.lst upd_same (hr'.mono e3))
    | two d ds =>
      obtain ⟨q, p, x, rfl, hne, heq, kq, nsq, q0, hqq, hx, f⟩ := z
      obtain ⟨n0, ws, hp, hr'⟩ := f.own
      obtain ⟨r3, e3⟩ := r2.know hp n0 f.he f.kq f.ns
      obtain ⟨r4, e4⟩ := r3.know hqq (by rw [upd_ne (Ne.symm hne)]; exact q0) heq kq nsq
      exact k _ _ H2 _ hq r4 (((e1.trans e2).trans e3).trans e4) (.lst upd_same (.cons (hx.mono (e3.trans e4)) (.cons (.lst (e4 _ _ upd_same) ((hr'.mono e3).mono e4)) .nil)))
end
section
variable {X : Cx} {ok : List D → Prop} {e : Expr} {es : List Expr} {wr : WA} {pos p : Pos} {x : Str}
theorem d_callD {k j n : Nat} {M : WM} (h : HasD X.prog X.w X.K X.mg X.base ok k x n M) (hr : Room j X.A) (hk : k ≤ j) (ha : PDA X ok (e :: es) wr) (hg : Gl X x := by rfl) (hdb : (x == ("__debug__" : Str)) = false := by decide)
    (he : starEach (e :: es) X.env = (false, eval e X.env) :: starEach es X.env := by rfl) (hpl : (backTo pos (starEach es X.env)).any (·.1) = false := by rfl) : PDE X ok (.Call (.Name x p) (e :: es) [] pos) (wCallD n M wr) :=
  let ⟨f, fd, ps, ds, G, hm, kp, bs, hd⟩ := h.ex; let ⟨_, a1, a2⟩ := ha; ⟨_, pe_call G (hr.mono hk) hg hm kp bs hd pass0 a1 hdb he hpl, snd_callD a2⟩
end
section
variable {P : Program} {w : World} {K : PySem.W.Frag} {mg : Str → Option Value} {base : Heap} {ok : List D → Prop}
theorem def_okD {x qual : Str} {st : Stmt} {f : Addr} {fd : FuncData} {N ps : List Str} {k n : Nat} {M : WM} {ws : WS} {dvs : List V} (F : FunD K x qual (defArgs st) (defBody st) (defScope st) dvs [] f fd) (S : FnScope N ps (defScope st)) (hn : ps.length = n)
    (hb : ∀ (cdv : Value) (A : Around) (outer : List Env) (s : Shared) (H : Hp) (E : XK), Room k (A.deeper (PyProof.Rows.envOfC qual (defScope st) s.heap.objs.size f cdv)) → PDSs (cxOf CX0 P w K mg base N qual (defScope st) f cdv A outer s H E).nox ok (defBody st) ws)
    (hM : ∀ as Q, as.length = n → M as Q → ws { nx := fun _ => Q (.v .none), rt := Q } (stE as (N.length - n))) : FnOk P w K mg base CX0 (k + 1) f fd ps (SpD K ok n M) := by
  refine F.ok S (fun vs H Q E h => ?_) (fun cdv A outer s H vs Q E hr h => ?_)
  · obtain ⟨H0, ha, as, Q', h1, h2, _⟩ := h
    rw [h2, hn]
  · obtain ⟨H0, ha, as, Q', h1, h2, one, s0, hargs, hv, hMQ, k0⟩ := h
    obtain ⟨ts, p, snd⟩ := hb cdv A outer s H E hr
    refine ⟨ts, p.nox, ?_⟩
    have rel : Rel K ok ⟨H, H0, ha, fun _ => none⟩ H0 (L2.start N vs) H (stE as (N.length - n)) := by
      have z := rel_start (ok := ok) (m := N.length - n) s0 hargs (by rw [h2, h1]) one hv
      unfold L2.start
      rw [h2]
      exact z
    have post : ∀ {r : Rt} {v : V} {σ' : L2.St} {H' H01 : Hp} {env' : EnvD}, Rel K ok ⟨H, H0, ha, fun _ => none⟩ H01 σ' H' env' → Q' r → RetOk K H H01 H' v r → Q v H' := fun {r v σ' H' H01 env'} R q rr =>
      k0 v H' r H01 q ⟨R.grow, R.sub, R.new, R.fr, fun a z => (R.hv a z).2, rr⟩
    exact snd _ H0 _ H _ _ _ rel (hM as Q' h1 hMQ) ⟨fun env' σ' H' H01 e R q => post (r := .v .none) R q .non, fun r v σ' H' H01 env' e R q rr => post R q rr, fun _ _ _ _ _ _ q => q.elim, fun _ _ _ _ _ _ q => q.elim⟩
/-- a def with one default, None -/
theorem funD_mk {x qual : Str} {st : Stmt} {f T : Addr} {oc : Value} {od an : Option Addr} {osl : Array (Option Value)} {kV doc pm cdv ct : Value} {o : Obj} {m : Nat} (l : K.lookup f = some ⟨oc, od, .func (PySem.W.fnOf x qual (defArgs st) (defBody st) (defScope st) (.ref T) kV doc pm an cdv ct), osl⟩)
    (c : PySem.W.codeIn K cdv qual = true) (k : PySem.W.keepIn K (.ref f) = true) (lT : K.lookup T = some o) (oT : o.data = .seq #[.none] m) : FunD K x qual (defArgs st) (defBody st) (defScope st) [V.non] [] f (PySem.W.fnOf x qual (defArgs st) (defBody st) (defScope st) (.ref T) kV doc pm an cdv ct) :=
  ⟨⟨oc, od, .ref T, kV, doc, pm, an, cdv, ct, osl, rfl, l, c, .inr ⟨fun z => (by cases z), T, o, [.none], m, rfl, lT, oT, .cons rfl .nil⟩, .inl rfl⟩, k⟩
end
end DL
/-! DM, part n: d[k] and k in d of a dict with any keys that is only read. -/
namespace DL
open PySem PySem.Spec PyProof.Rows L2 DN
def wVIx (o k : WE) : WE := fun env Q => o env fun x => ∃ kvs, x = dFrz kvs ∧ k env fun y => ∃ z d, nKey 8 y = some z ∧ mAt kvs z = some d ∧ Q d
section
variable {K : PySem.W.Frag} {ok : List D → Prop} {to tk : TE} {wo wk : WE}
theorem snd_vix (ho : SndE K ok to wo) (hk : SndE K ok tk wk) : SndE K ok (tMGet K to tk) (wVIx wo wk) := fun C H0 σ H env Q R rel hw k =>
  ho C H0 σ H env _ _ rel hw fun x u H1 H01 q r1 e1 x1 => by
    obtain ⟨kvs, rfl, q⟩ := q
    obtain ⟨p, ks, rfl, hp, kr⟩ := x1.frz
    refine hk C H01 σ H1 env _ _ r1 q fun y v H2 H02 q r2 e2 x2 => ?_
    obtain ⟨z, d, hz, hd', q⟩ := q
    have kr2 := kr.mono e2
    rcases mrps_at kr2 z with ⟨a1, a2⟩ | ⟨w, d', a1, a2, r⟩
    · rw [hd'] at a2; cases a2
    · rw [hd'] at a2
      cases a2
      exact ⟨p, w, rfl, ⟨ks, z, r2.sub _ _ (e2 _ _ hp), kr2.keys r2.sub, nv_of (x2.mono r2.sub) hz, a1.symm⟩, k _ _ H2 H02 q r2 (e1.trans e2) r⟩
end
section
variable {X : Cx} {ok : List D → Prop} {a : Expr} {wa : WE} {pos : Pos} {x : Str}
theorem d_vix {k : Nat} (i : Nat) {mp : Pos} (hr : Room k X.A) (ha : PDE X ok a wa) (hN : X.N[i]? = some x := by rfl) (hv : Vis X.env.scope x := by first | exact Or.inl rfl | exact Or.inr (Or.inl rfl) | exact Or.inr (Or.inr rfl)) (hd : (x == ("__debug__" : Str)) = false := by decide) (hcd : (x == ("__classdict__" : Str)) = false := by decide)
    (hs : NoSl a := by exact fun _ _ => rfl) : PDE X ok (.Subscript (.Name x mp) a pos) (wVIx (wVar i) wa) := let ⟨_, a1, a2⟩ := ha; ⟨_, pe_mget (by have := units65 hr; omega) (pe_var hN hv hd hcd) a1 hs, snd_vix snd_var a2⟩
end
end DL
/-! DL: xs.index(y) of a list of data -/
namespace DL
open PySem L2
def wIndex (a b : WE) : WE := fun env Q => a env fun x => match x with
  | .list ds => b env fun y => SeqAt.shaped (.list ds) = true ∧ SeqAt.shaped y = true ∧ ∃ (j : Nat) (z : D), ds[j]? = some z ∧ PyData.eqv z y = true ∧ (∀ (m : Nat) (z' : D), m < j → ds[m]? = some z' → PyData.eqv z' y = false) ∧ Q (.int (j : Int))
  | _ => False
section
variable {K : PySem.W.Frag} {ok : List D → Prop} {ta tb : TE} {wa wb : WE}
theorem snd_index (ha : SndB K ok ta wa) (hb : SndE K ok tb wb) : SndE K ok (tBM K "list" (rIndexD K) ta (tCons tb tNil)) (wIndex wa wb) := fun C H0 σ H env Q R rel hw k =>
  ha C H0 σ H env _ _ rel hw fun d v H1 H01 q r1 e1 x1 => by
    try dsimp only at q
    split at q
    · rename_i ds
      obtain ⟨p, vs, rfl, r, h⟩ := (x1 H1 H01 r1 (Same.refl _)).lst r1.sub
      refine ⟨.inl ⟨rfl, vs, SqL.of h⟩, hb C H01 σ H1 env _ _ r1 q fun e u H2 H02 ⟨s1, s2, j, z, z1, z2, z3, q2⟩ r2 e2 x2 => ?_⟩
      have b := (x1 H2 H02 r2 e2).rp r2.sub
      exact ⟨p, u, e, ds, j, z, rfl, rfl, b.sh s1, (x2.mono r2.sub).sh s2, s1, s2, z1, z2, z3, k _ _ H2 H02 q2 r2 (e1.trans e2) (.int _)⟩
    · exact q.elim
end
section
variable {X : Cx} {ok : List D → Prop} {a b : Expr} {wa wb : WE} {apos cpos pos p1 p2 p3 : Pos} {kk : Nat}
theorem d_index {j : Nat} (hr : Room j X.A) (ha : PDB X ok a wa) (hb : PDE X ok b wb)
    (hbase : attributeBase a "index" X.env (eval a X.env) = eval a X.env := by rfl)
    (hfew : ((backTo cpos (starEach [b] X.env)).all (fun x => !x.1) && (backToKw cpos (keywordEach [] X.env)).all (fun x => x.1.isSome)
      && decide ([b].length + ([] : List Keyword).length + (if ([] : List Keyword).isEmpty then 0 else 1) < 30)) = true := by rfl)
    (hline : (apos.endLine == cpos.line) = true := by rfl) (hs : starEach [b] X.env = (false, eval b X.env) :: starEach [] X.env := by rfl) (hplain : (backTo cpos (starEach [] X.env)).any (·.1) = false := by rfl) :
    PDE X ok (.Call (.Attribute a "index" apos) [b] [] cpos) (wIndex wa wb) := let ⟨_, a1, a2⟩ := ha; let ⟨_, b1, b2⟩ := hb
  ⟨_, pe_bm PySem.F.plainAttrs_list PySem.F.slot_list_index PySem.F.type_list_index (mt_indexD (units65 hr)) a1 (pa_cons b1 pa_nil hs) hbase hfew hline hs hplain, snd_index a2 b2⟩
end
end DL
/-! DM, part p: len of a dict with any keys; x in d, x not in d of a dict that is only read; a list of one's own lent as the last of five arguments. -/
namespace DN
open PySem PySem.Spec PyProof.Rows L2
open Sem (wp)
section
variable {prog : Program} {w : World} {A : Around} {E : Value → Shared → Prop} {s : Shared}
theorem meets_dict_lenD (d : Addr) (hd : (d == sysModules) = false) :
    MeetsIn prog w (Builtin.«dict.__len__» ⟨[.ref d], []⟩) (fun _ R s => ∃ xs, Dict w s.heap d xs ∧ R (.ok (.ret (.int xs.length s.toks))) { s with toks := s.toks + 1 }) :=
  .of_wp fun A R s ⟨xs, hm, h⟩ => by
    obtain ⟨o, es, ep, ho, hc, hdat, he, hk, hn⟩ := hm
    show wpAny _ _ (dictSize d >>= _) _ _ s
    unfold dictSize
    refine wpAny_bind (wpAny_bind (wpAny_dictEntries ho hdat (wpAny_pure ?_)))
    show wpAny _ _ (Builtin.Dict.pendingCount d >>= _) _ _ s
    refine wpAny_bind (wpAny_pendingCount_other hd ?_)
    refine wpAny_ret_mkInt ?_
    have el : es.size = xs.length := by rw [← Array.length_toList, he, List.length_map]
    rw [Nat.add_zero, el]; exact h
theorem wpAny_len_body_dictD {d : Addr} {xs : List Row} {Q : Value → Shared → Prop} (hd : (d == sysModules) = false) (hm : Dict w s.heap d xs) (hfit : (xs.length : Int) < 2 ^ 63)
    (h : Q (.int xs.length (s.toks + 1)) { s with toks := s.toks + 1 + 1 }) : wpAny (model prog w) A (Builtin.«len» ⟨[.ref d], []⟩) (fun fin s' => ∃ r, fin = .done (.ret r) ∧ Q r s') E s := by
  unfold Builtin.«len»
  refine wpAny_bind (m := oneArg "len" _) (wpAny_pure ?_)
  refine wpAny_bind (m := callSpecial? (.ref d) (Str.ofString "__len__")) (wpAny_callSpecial?_slot (name := Str.ofString "__len__") (Dict.typeIs hm) F.slot_dict_len
    (call_meetsIn F.slot_dict_len (Dict.typeIs hm) F.entry_dict_len (F.args_dict_len_1 _) (meets_dict_lenD d hd) ⟨xs, hm, ?_⟩))
  show wpAny _ _ _ _ _ { s with toks := s.toks + 1 }
  refine wpAny_bind (wpAny_holding (wpAny_pure ?_))
  refine wpAny_bind (wpAny_letGo ?_)
  show wpAny _ _ (if ((xs.length : Nat) : Int) < 0 then _ else _) _ _ _
  rw [if_neg (by omega)]
  show wpAny _ _ (if ((xs.length : Nat) : Int) ≥ 2 ^ 63 then _ else _) _ _ _
  rw [if_neg (by omega)]
  exact wpAny_bind (wpAny_mkInt (wpAny_pure ⟨_, rfl, h⟩))
theorem call_len_dictD {d : Addr} {xs : List Row} {Q : Value → Shared → Prop} (hd : (d == sysModules) = false) (hm : Dict w s.heap d xs) (hfit : (xs.length : Int) < 2 ^ 63)
    (h : Q (.int xs.length (s.toks + 1)) { s with toks := s.toks + 1 + 1 }) : wpAny (model prog w) A (call (.builtin "len") [.ref d]) Q E s :=
  Calls.call_function_entry kind_len plain_len entry_len (args_len1 _) (wpAny_len_body_dictD hd hm hfit h)
end
/-- len(d) of a dict with any keys -/
def rLenD (K : PySem.W.Frag) : List V → Hp → VK → Prop := fun vs H Q => ∃ a ks, vs = [V.ref a] ∧ H a = some (dN a ks) ∧ (∀ x ∈ ks, NV K H 8 x.1 x.2.1) ∧ Q (.int ((ks.length : Nat) : Int)) H
theorem cr_lenD {X : Cx} : CallR X (.builtin "len") (rLenD X.K) := by
  intro pins s σ H vs us Q I r h
  obtain ⟨a, ks, rfl, e, hk, q⟩ := h
  obtain ⟨u, rfl, ru⟩ := vals1 r
  obtain rfl : u = Value.ref a := ru
  obtain ⟨hd, xs, rel, hz, dd⟩ := dn_rd I e hk
  refine call_len_dictD hd dd (by rw [sizeLine_eq] at hz; omega) ?_
  rw [← Paired.length rel]
  exact ⟨.int ((ks.length : Nat) : Int), H, I.tok _, ⟨_, rfl⟩, q⟩
end DN
namespace DL
open PySem PySem.Spec PyProof.Rows L2 DN
/-- len of a dict that is only read -/
def wVLen (o : WE) : WE := fun env Q => o env fun x => ∃ kvs, x = dFrz kvs ∧ Q (.int ((kvs.length : Nat) : Int))
def wVIn (o k : WE) : WE := fun env Q => k env fun y => o env fun x => ∃ kvs, x = dFrz kvs ∧ ∃ z w, nKey 8 y = some z ∧ (mAt kvs z).isSome = w ∧ Q (.bool w)
def wVNin (o k : WE) : WE := fun env Q => k env fun y => o env fun x => ∃ kvs, x = dFrz kvs ∧ ∃ z w, nKey 8 y = some z ∧ (mAt kvs z).isSome = w ∧ Q (.bool (!w))
section
variable {K : PySem.W.Frag} {ok : List D → Prop} {to tk : TE} {wo wk : WE}
theorem snd_vlen (ho : SndE K ok to wo) : SndE K ok (tCB (rLenD K) (tCons to tNil)) (wVLen wo) := fun C H0 σ H env Q R rel hw k =>
  ho C H0 σ H env _ _ rel hw fun x u H1 H01 q r1 e1 x1 => by
    obtain ⟨kvs, rfl, q⟩ := q
    obtain ⟨p, ks, rfl, hp, kr⟩ := x1.frz
    refine ⟨p, ks, rfl, r1.sub _ _ hp, kr.keys r1.sub, k _ _ H1 H01 ?_ r1 e1 (.int _)⟩
    rw [mrps_len kr]
    exact q
theorem snd_vin (ho : SndE K ok to wo) (hk : SndE K ok tk wk) : SndE K ok (tMIn K tk to) (wVIn wo wk) := fun C H0 σ H env Q R rel hw k =>
  hk C H0 σ H env _ _ rel hw fun y v H1 H01 q r1 e1 x1 => ho C H01 σ H1 env _ _ r1 q fun x u H2 H02 q r2 e2 x2 => by
    obtain ⟨kvs, rfl, z, w0, hz, hw0, q⟩ := q
    subst hw0
    obtain ⟨p, ks, rfl, hp, kr⟩ := x2.frz
    refine ⟨p, _, rfl, ⟨ks, z, r2.sub _ _ hp, kr.keys r2.sub, nv_of ((x1.mono e2).mono r2.sub) hz, rfl⟩, ?_⟩
    have : (valM ks z).isSome = (mAt kvs z).isSome := by
      rcases mrps_at kr z with ⟨a1, a2⟩ | ⟨w, d', a1, a2, r⟩ <;> rw [a1, a2] <;> rfl
    rw [this]
    exact k _ _ H2 H02 q r2 (e1.trans e2) (.bl _)
theorem snd_vnin (ho : SndE K ok to wo) (hk : SndE K ok tk wk) : SndE K ok (tMNotIn K tk to) (wVNin wo wk) := fun C H0 σ H env Q R rel hw k =>
  hk C H0 σ H env _ _ rel hw fun y v H1 H01 q r1 e1 x1 => ho C H01 σ H1 env _ _ r1 q fun x u H2 H02 q r2 e2 x2 => by
    obtain ⟨kvs, rfl, z, w0, hz, hw0, q⟩ := q
    subst hw0
    obtain ⟨p, ks, rfl, hp, kr⟩ := x2.frz
    refine ⟨p, _, rfl, ⟨ks, z, r2.sub _ _ hp, kr.keys r2.sub, nv_of ((x1.mono e2).mono r2.sub) hz, rfl⟩, ?_⟩
    have : (valM ks z).isSome = (mAt kvs z).isSome := by
      rcases mrps_at kr z with ⟨a1, a2⟩ | ⟨w, d', a1, a2, r⟩ <;> rw [a1, a2] <;> rfl
    rw [this]
    exact k _ _ H2 H02 q r2 (e1.trans e2) (.bl _)
def wLend5 (M : WM) (a1 a2 a3 a4 : WE) (i : Nat) : WE := fun env Q => match get env i with
  | some (.own ds) => a1 env fun x1 => a2 env fun x2 => a3 env fun x3 => a4 env fun x4 => M [.v x1, .v x2, .v x3, .v x4, .v (.list ds)] fun r => (∃ k, noL k r.val = true) ∧ Q r.val
  | _ => False
theorem snd_lend5 {M : WM} {t1 t2 t3 t4 : TE} {w1 w2 w3 w4 : WE} {i : Nat} {E : XK} (h1 : SndE K ok t1 w1) (h2 : SndE K ok t2 w2) (h3 : SndE K ok t3 w3) (h4 : SndE K ok t4 w4) :
    SndE K ok (tCall (SpD K ok 5 M) [] E (tCons t1 (tCons t2 (tCons t3 (tCons t4 (tCons (tVar i) tNil)))))) (wLend5 M w1 w2 w3 w4 i) := fun C H0 σ H env Q R rel hw k => by
  unfold wLend5 at hw
  split at hw
  · rename_i ds hd
    refine h1 C H0 σ H env _ _ rel hw fun x1 u1 Ha H0a q ra ea xa => h2 C H0a σ Ha env _ _ ra q fun x2 u2 Hb H0b q rb eb xb => h3 C H0b σ Hb env _ _ rb q fun x3 u3 Hc H0c q rc ec xc => h4 C H0c σ Hc env _ _ rc q fun x4 u4 H1 H01 q r1 e1 xd => ?_
    obtain ⟨p, e, n, n0, vs, hp, hr⟩ := r1.slot i _ (get_eq hd)
    refine ⟨.ref p, e, ?_⟩
    show SpD K ok 5 M ([u1, u2, u3, u4, .ref p] ++ []) H1 R E
    rw [List.append_nil]
    have g0 : Same H01 (upd H01 p (.lst vs)) := same_new n0
    refine ⟨upd H01 p (.lst vs), none, [.v x1, .v x2, .v x3, .v x4, .v (.list ds)], _, rfl, rfl, rfl, fun b o hb => ?_, .cons (((xa.mono eb).mono ec).mono e1 |>.mono g0) (.cons ((xb.mono ec).mono e1 |>.mono g0) (.cons (xc.mono e1 |>.mono g0) (.cons (xd.mono g0) (.cons (.lst upd_same (hr.mono g0)) .nil)))), fun a z => (by cases z), q, fun v H' r H02 hq P => ?_⟩
    · by_cases h : b = p
      · subst h; rw [upd_same] at hb; rw [hp]; exact hb
      · rw [upd_ne h] at hb; exact r1.sub _ _ hb
    have hp2 : H02 p = some (.lst vs) := P.grow _ _ upd_same
    have e0 : Same H01 (delA H02 p) := fun b o hb => by
      have hbp : b ≠ p := fun z => by subst z; rw [n0] at hb; cases hb
      rw [delA_ne hbp]
      exact P.grow _ _ (g0 _ _ hb)
    have kp : Same H1 H' := fun b o hb => P.fr b o hb (by simp)
    have r2 := r1.step e0 (H1 := H') (fun b o hb => by
      have hbp : b ≠ p := fun z => by subst z; rw [delA_self] at hb; cases hb
      rw [delA_ne hbp] at hb
      exact P.sub _ _ hb) (fun b o hb => by
      have hbp : b ≠ p := fun z => by subst z; rw [delA_self] at hb; cases hb
      rw [delA_ne hbp] at hb
      rcases P.new b o hb with z | z
      · rw [upd_ne hbp] at z; exact .inl z
      · exact .inr z) kp
    obtain ⟨⟨m, hm⟩, hq2⟩ := hq
    have z := P.res
    have es := ea.trans (eb.trans (ec.trans (e1.trans e0)))
    cases r with
    | v d => exact k _ _ H' _ hq2 r2 es (rp_del hp2 m _ _ z hm)
    | own ds' => cases m <;> cases hm
    | two d ds' => cases m <;> cases hm
  · exact hw.elim
end
section
variable {X : Cx} {ok : List D → Prop} {a a1 a2 a3 a4 : Expr} {wa w1 w2 w3 w4 : WE} {pos : Pos} {x : Str}
theorem d_lend5 {k j : Nat} {M : WM} {f : Str} {p mp : Pos} (i : Nat) (h : Has X.prog X.w X.K X.mg X.base ok k f 5 M) (hr : Room j X.A) (hk : k ≤ j) (h1 : PDE X ok a1 w1) (h2 : PDE X ok a2 w2) (h3 : PDE X ok a3 w3) (h4 : PDE X ok a4 w4) (hN : X.N[i]? = some x := by rfl) (hv : Vis X.env.scope x := by first | exact Or.inl rfl | exact Or.inr (Or.inl rfl) | exact Or.inr (Or.inr rfl)) (hd : (x == ("__debug__" : Str)) = false := by decide) (hcd : (x == ("__classdict__" : Str)) = false := by decide)
    (hg : Gl X f := by rfl) (hdb : (f == ("__debug__" : Str)) = false := by decide)
    (he1 : starEach [a1, a2, a3, a4, .Name x mp] X.env = (false, eval a1 X.env) :: starEach [a2, a3, a4, .Name x mp] X.env := by rfl) (hpl : (backTo pos (starEach [a2, a3, a4, .Name x mp] X.env)).any (·.1) = false := by rfl)
    (he2 : starEach [a2, a3, a4, .Name x mp] X.env = (false, eval a2 X.env) :: starEach [a3, a4, .Name x mp] X.env := by rfl)
    (he3 : starEach [a3, a4, .Name x mp] X.env = (false, eval a3 X.env) :: starEach [a4, .Name x mp] X.env := by rfl)
    (he4 : starEach [a4, .Name x mp] X.env = (false, eval a4 X.env) :: starEach [.Name x mp] X.env := by rfl)
    (he5 : starEach [.Name x mp] X.env = (false, eval (.Name x mp) X.env) :: starEach [] X.env := by rfl) :
    PDE X ok (.Call (.Name f p) [a1, a2, a3, a4, .Name x mp] [] pos) (wLend5 M w1 w2 w3 w4 i) :=
  let ⟨f, fd, ps, G, hm, kp, bs⟩ := h.ex; let ⟨_, b1, c1⟩ := h1; let ⟨_, b2, c2⟩ := h2; let ⟨_, b3, c3⟩ := h3; let ⟨_, b4, c4⟩ := h4
  ⟨_, pe_call G (hr.mono hk) hg hm kp bs .nil pass0 (pa_cons b1 (pa_cons b2 (pa_cons b3 (pa_cons b4 (pa_cons (pe_var hN hv hd hcd) pa_nil he5) he4) he3) he2) he1) hdb he1 hpl, snd_lend5 c1 c2 c3 c4⟩
theorem t_vnin {k : Nat} (i : Nat) {mp : Pos} (hr : Room k X.A) (ha : PDE X ok a wa) (hN : X.N[i]? = some x := by rfl) (hv : Vis X.env.scope x := by first | exact Or.inl rfl | exact Or.inr (Or.inl rfl) | exact Or.inr (Or.inr rfl)) (hd : (x == ("__debug__" : Str)) = false := by decide) (hcd : (x == ("__classdict__" : Str)) = false := by decide)
    (hm : behindInMarks .NotIn (.Name x mp) = false := by rfl) : PDT X ok (.Compare a [.NotIn] [.Name x mp] pos) (wTest (wVNin (wVar i) wa)) := let ⟨_, a1, a2⟩ := ha; ⟨_, pt_cmp (pc_mnotin (by have := units65 hr; omega) a1 (pe_var hN hv hd hcd)) hm, snd_tB (snd_vnin snd_var a2)⟩
theorem t_vin {k : Nat} (i : Nat) {mp : Pos} (hr : Room k X.A) (ha : PDE X ok a wa) (hN : X.N[i]? = some x := by rfl) (hv : Vis X.env.scope x := by first | exact Or.inl rfl | exact Or.inr (Or.inl rfl) | exact Or.inr (Or.inr rfl)) (hd : (x == ("__debug__" : Str)) = false := by decide) (hcd : (x == ("__classdict__" : Str)) = false := by decide)
    (hm : behindInMarks .In (.Name x mp) = false := by rfl) : PDT X ok (.Compare a [.In] [.Name x mp] pos) (wTest (wVIn (wVar i) wa)) := let ⟨_, a1, a2⟩ := ha; ⟨_, pt_cmp (pc_min (by have := units65 hr; omega) a1 (pe_var hN hv hd hcd)) hm, snd_tB (snd_vin snd_var a2)⟩
theorem d_vlen (i : Nat) {mp p : Pos} (hm : X.mg "len" = none) (hN : X.N[i]? = some x := by rfl) (hv : Vis X.env.scope x := by first | exact Or.inl rfl | exact Or.inr (Or.inl rfl) | exact Or.inr (Or.inr rfl)) (hd : (x == ("__debug__" : Str)) = false := by decide) (hcd : (x == ("__classdict__" : Str)) = false := by decide)
    (hg : Gl X "len" := by rfl) (hs : starEach [.Name x mp] X.env = (false, eval (.Name x mp) X.env) :: starEach [] X.env := by rfl) (hpl : (backTo pos (starEach [] X.env)).any (·.1) = false := by rfl) :
    PDE X ok (.Call (.Name "len" p) [.Name x mp] [] pos) (wVLen (wVar i)) := ⟨_, pe_callB cr_lenD hg hm PySem.boot_len (pa_cons (pe_var hN hv hd hcd) pa_nil hs) (by decide) (by decide) hs hpl, snd_vlen snd_var⟩
end
end DL
/-! DM, part q: t[::-1] of a tuple; d[k] where the dict is told by any expression. -/
namespace RT
open PySem PySem.Spec PyProof.Rows L2 HT
section
variable {prog : Program} {w : World} {A : Around} {E : Value → Shared → Prop} {s : Shared}
theorem adjust_rev (n : Nat) : Builtin.Slice.sliceAdjust none none (-1) (n : Int) = ((n : Int) - 1, -1) := by
  unfold Builtin.Slice.sliceAdjust
  rfl
theorem places_rev (n : Nat) : Builtin.Slice.slicePlaces ((n : Int) - 1) (-1) (-1) = n := by
  unfold Builtin.Slice.slicePlaces
  rw [if_neg (by decide)]
  show (if (n : Int) - 1 > -1 then ((n : Int) - 1 - -1 - 1) / 1 + 1 else 0).toNat = n
  rw [Int.ediv_one]
  split <;> omega
theorem sliceApplied_rev {sl : Addr} {vl vu vs : Value} {n : Nat} {Q : Int × Int × Nat → Shared → Prop} (hs : s.heap.IsSliceOf sl vl vu vs) (pl : IsPart vl none) (pu : IsPart vu none) (ps : IsPart vs (some (-1)))
    (h : Q ((n : Int) - 1, -1, n) s) : wpAny (model prog w) A (Builtin.Slice.sliceApplied (.ref sl) (pure (n : Int))) Q E s := by
  obtain ⟨os, hos, hcs, hds⟩ := id hs
  unfold Builtin.Slice.sliceApplied Builtin.Slice.sliceFields
  refine wpAny_bind (wpAny_bind (wpAny_field hos hds (x := vl) rfl (wpAny_bind (wpAny_field hos hds (x := vu) rfl (wpAny_bind (wpAny_field hos hds (x := vs) rfl (wpAny_pure ?_)))))))
  refine wpAny_bind (slicePart_ ps ?_)
  show wpAny _ _ (if ((-1 : Int) == 0) = true then _ else _) _ _ s
  rw [if_neg (by decide)]
  refine wpAny_bind (slicePart_ pl (wpAny_bind (slicePart_ pu (wpAny_bind (wpAny_pure ?_)))))
  show wpAny _ _ (match Builtin.Slice.sliceAdjust none none (-1) (n : Int) with | (lo, hi) => pure (lo, (-1 : Int), Builtin.Slice.slicePlaces lo hi (-1))) _ _ s
  rw [adjust_rev n]
  show wpAny _ _ (pure ((n : Int) - 1, (-1 : Int), Builtin.Slice.slicePlaces ((n : Int) - 1) (-1) (-1))) _ _ s
  rw [places_rev]
  exact wpAny_pure h
theorem fm_eq {α β : Type} {f g : α → Option β} : ∀ {l : List α}, (∀ x ∈ l, f x = g x) → l.filterMap f = l.filterMap g
  | [], _ => rfl
  | x :: l, h => by
    rw [List.filterMap_cons, List.filterMap_cons, h x (List.mem_cons_self ..), fm_eq fun y hy => h y (List.mem_cons_of_mem _ hy)]
theorem pick_rev (xs : Array Value) : ((List.range xs.size).filterMap fun (m : Nat) => xs[((xs.size : Int) - 1 + (m : Int) * -1).toNat]?).toArray = xs.toList.reverse.toArray := by
  congr 1
  have e : (List.range xs.size).filterMap (fun (m : Nat) => xs[((xs.size : Int) - 1 + (m : Int) * -1).toNat]?) = (List.range xs.size).filterMap (fun m => some (xs.toList.reverse.getD m .none)) := by
    refine fm_eq fun m hm => ?_
    have hm := List.mem_range.mp hm
    have : ((xs.size : Int) - 1 + (m : Int) * -1).toNat = xs.size - 1 - m := by omega
    rw [this]
    have h1 : xs.toList.reverse[m]? = xs[xs.size - 1 - m]? := by
      rw [List.getElem?_reverse (by rw [Array.length_toList]; exact hm), Array.length_toList, Array.getElem?_toList]
    rw [← h1, List.getD_eq_getElem?_getD]
    have h2 : m < xs.toList.reverse.length := by rw [List.length_reverse, Array.length_toList]; exact hm
    rw [List.getElem?_eq_getElem h2]
    rfl
  rw [e, List.filterMap_eq_map']
  refine List.ext_getElem? fun i => ?_
  rw [List.getElem?_map]
  by_cases hi : i < xs.size
  · rw [List.getElem?_range hi]
    have h2 : i < xs.toList.reverse.length := by rw [List.length_reverse, Array.length_toList]; exact hi
    rw [Option.map_some, List.getD_eq_getElem?_getD, List.getElem?_eq_getElem h2]
    rfl
  · rw [List.getElem?_eq_none (by rw [List.length_range]; omega), List.getElem?_eq_none (by rw [List.length_reverse, Array.length_toList]; omega)]
    rfl
theorem getItem_tuple_rev {t sl : Addr} {items : Array Value} {vl vu vs : Value} {Q : Value → Shared → Prop} (ht : IsTup s.heap t items) (hs : s.heap.IsSliceOf sl vl vu vs) (pl : IsPart vl none) (pu : IsPart vu none) (ps : IsPart vs (some (-1)))
    (h : Q (.ref s.heap.objs.size) { s with heap := s.heap.push { cls := .type "tuple", data := .seq items.toList.reverse.toArray } })
    (hsz : items.size ≤ sizeLine) : wpAny (model prog w) A (getItem (.ref t) (.ref sl)) Q E s := by
  have htake : sizeOk (.seq items.toList.reverse.toArray) := by
    show items.toList.reverse.toArray.size ≤ sizeLine
    rw [List.size_toArray, List.length_reverse, Array.length_toList]
    exact hsz
  obtain ⟨os, hos, hcs, hds⟩ := id hs
  have hTs : s.TypeIs (.ref sl) "slice" := ⟨os, hos, hcs⟩
  unfold getItem
  try with_reducible refine wpAny_holding ?_
  first | refine wpAny_bind (wpAny_pure ?_) | skip
  refine wpAny_bind (wpAny_sequenceKey ht.typeIs (by decide) ?_)
  refine wpAny_bind (wpAny_callSpecial?_slot (name := Str.ofString "__getitem__") ht.typeIs PyProof.Rows.slot_tuple_getitem
    (wpAny_call_entry PyProof.Rows.slot_tuple_getitem ht.typeIs entry_tuple_getitem ?_ (args_tuple_getitem _ _)))
  show wpAny _ _ (Builtin.Tuple.tupleItemsOf (.ref t) >>= _) _ _ s
  refine wpAny_bind (tupleItemsOf_ ht ?_)
  refine wpAny_bind (wpAny_typeOf hTs ?_)
  rw [if_pos (by decide)]
  refine wpAny_bind (sliceApplied_rev hs pl pu ps ?_)
  have hno : ¬ ((((items.size : Int) - 1) == 0 && (-1 : Int) == 1 && items.size == items.size) = true) := by
    rw [Bool.and_eq_true, Bool.and_eq_true]
    exact fun q => absurd q.1.2 (by decide)
  show wpAny _ _ (if ((((items.size : Int) - 1) == 0 && (-1 : Int) == 1 && items.size == items.size)) = true then _ else _) _ _ s
  rw [if_neg hno, pick_rev]
  first
    | exact wpAny_bind (m := Builtin.Tuple.tupleExact _) (wpAny_newObj_type (wpAny_pure ⟨_, rfl, wpAny_pure h⟩) htake)
    | exact wpAny_bind (m := Builtin.Tuple.tupleExact _) (wpAny_newObj_type (wpAny_bind (wpAny_pure (wpAny_pure ⟨_, rfl, wpAny_pure h⟩))) htake)
    | exact wpAny_bind (wpAny_bind (m := Builtin.Tuple.tupleExact _) (wpAny_newObj_type (wpAny_pure (wpAny_pure ⟨_, rfl, wpAny_pure h⟩)) htake))
    | exact wpAny_bind (wpAny_bind (m := Builtin.Tuple.tupleExact _) (wpAny_newObj_type (wpAny_pure ⟨_, rfl, wpAny_pure h⟩) htake))
end
section
variable {X : Cx}
def tRevT (K : PySem.W.Frag) (te : TE) : TE := fun σ H Q => te σ H fun x H1 => ∃ a xs, x = .ref a ∧ SqT K H1 a xs ∧ ∀ p, H1 p = none → Q (.ref p) (upd H1 p (.tup xs.reverse))
theorem pe_revT {e : Expr} {te : TE} {k : Nat} {p1 p2 p3 pos : Pos} (he : PE X e te) : PE X (.Subscript e (.Slice none none (some (.UnaryOp .USub (.Constant (.int 1) k p1) p2)) p3) pos) (tRevT X.K te) := by
  refine ⟨fun pins s σ H Q I h => ?_⟩
  refine Subscript_ (thn (he.run pins s σ H _ I h) fun v s1 ⟨x, H1, I1, r1, q1⟩ => ?_)
  obtain ⟨a, xs, ex, hx, q⟩ := q1
  subst ex
  cases r1
  have hst : PO X (some (.UnaryOp .USub (.Constant (.int 1) k p1) p2)) (tPart (tUn (rU fun i => .int (-i)) (tC (.int 1)))) := po_some (pe_un un_neg pe_int)
  refine wpAny_Slice (thn (po_none.run pins s1 σ H1 (fun o H2 => o = none ∧ H2 = H1) I1 ⟨rfl, rfl⟩) fun vl s2 ⟨l, H2, I2, pl, el, e2⟩ => ?_)
  subst el e2
  refine thn (po_none.run pins s2 σ H2 (fun o H3 => o = none ∧ H3 = H2) I2 ⟨rfl, rfl⟩) fun vu s3 ⟨u, H3, I3, pu, eu, e3⟩ => ?_
  subst eu e3
  refine thn (hst.run pins s3 σ H3 (fun o H4 => o = some (-1) ∧ H4 = H3) I3 ⟨1, rfl, -1, rfl, rfl, rfl⟩) fun vs s4 ⟨o, H4, I4, ps, eo, e4⟩ => ?_
  subst eo e4
  have I5 : Inv X pins σ H4 { s4 with heap := s4.heap.push { cls := .type "slice", data := .fields #[vl, vu, vs] } } := I4.kept (t' := s4.toks) fun b ob q => Heap.get?_push_of_some _ q
  obtain ⟨its, r, ht, hz⟩ := I5.tuple hx
  show wpAny (model X.prog X.w) X.A (subscriptTail e (.Slice none none (some (.UnaryOp .USub (.Constant (.int 1) k p1) p2)) p3) (.ref a) (.ref s4.heap.objs.size)) (EP X pins σ Q) X.xe { s4 with heap := s4.heap.push { cls := .type "slice", data := .fields #[vl, vu, vs] } }
  refine tail_any (ops := [.ref a, .ref s4.heap.objs.size]) ht.typeIs (PyProof.Rows.slot_tuple_getitem.lookup) ?_ (by with_unfolding_all rfl)
  have hlen := r.length
  refine getItem_tuple_rev ht (Heap.IsSliceOf.new _ vl vu vs) pl pu ps ?_ (by rw [List.size_toArray]; omega)
  refine ⟨.ref _, _, I5.laid (t' := s4.toks) (o := .tup xs.reverse) (fun b ob q => Heap.get?_push_of_some _ q) (Nat.le_refl _) ?_, rfl, q _ (I5.hok.fresh (Nat.le_refl _))⟩
  exact ⟨by rw [List.length_reverse]; exact hz, _, r.reverse, IsTup.new _ _⟩
end
end RT
namespace DL
open PySem PySem.Spec PyProof.Rows L2 DN
def wTupRev (a : WE) : WE := fun env Q => a env fun x => match x with
  | .tuple ds => Q (.tuple ds.reverse)
  | _ => False
section
variable {K : PySem.W.Frag} {ok : List D → Prop} {ta to tk : TE} {wa wo wk : WE}
theorem snd_tupRev (ha : SndE K ok ta wa) : SndE K ok (RT.tRevT K ta) (wTupRev wa) := fun C H0 σ H env Q R rel hw k =>
  ha C H0 σ H env _ _ rel hw fun d v H1 H01 q r1 e1 x1 => by
    try dsimp only at q
    split at q
    · cases x1 with
      | tup h r =>
        rename_i a xs
        refine ⟨a, xs, rfl, Same.tup r1.sub h, fun p np => ?_⟩
        obtain ⟨r4, e4⟩ := r1.laid (o := .tup xs.reverse) np
        exact k _ _ _ _ q r4 (e1.trans e4) (.tup (SqT.of upd_same) ((r.rev).mono e4))
    · exact q.elim
end
section
variable {X : Cx} {ok : List D → Prop} {a b : Expr} {wa wb : WE} {p1 p2 p3 pos : Pos} {kk k : Nat}
theorem d_tupRev (ha : PDE X ok a wa) : PDE X ok (.Subscript a (.Slice none none (some (.UnaryOp .USub (.Constant (.int 1) kk p1) p2)) p3) pos) (wTupRev wa) := let ⟨_, a1, a2⟩ := ha; ⟨_, RT.pe_revT a1, snd_tupRev a2⟩
theorem d_vixE (hr : Room k X.A) (hb : PDE X ok b wb) (ha : PDE X ok a wa) (hs : NoSl a := by exact fun _ _ => rfl) : PDE X ok (.Subscript b a pos) (wVIx wb wa) := let ⟨_, b1, b2⟩ := hb; let ⟨_, a1, a2⟩ := ha; ⟨_, pe_mget (by have := units65 hr; omega) b1 a1 hs, snd_vix b2 a2⟩
end
end DL
/-! DM, part r: list(reversed(t)), t a tuple. -/
namespace RT
open PySem PySem.Spec PyProof.Rows L2
section
variable {prog : Program} {w : World} {A : Around} {E : Value → Shared → Prop} {s : Shared}
theorem nolen_rt : typeLookup (.type "reversed") "__len__" = pure none := by rw [typeLookup_type, builtinLookup_eq_fast]; kernel_rfl
theorem hint_rt : typeLookup (.type "reversed") "__length_hint__" = pure (some (.builtin "reversed.__length_hint__")) := by rw [typeLookup_type, builtinLookup_eq_fast]; kernel_rfl
theorem slot_rt_hint : Slot "reversed" "__length_hint__" "reversed.__length_hint__" :=
  .of (owner := "reversed") (n := "__length_hint__") (by rw [typeLookup_type, builtinLookup_eq_fast]; kernel_rfl) (by decide +kernel) (by decide +kernel) (by decide +kernel)
    (by first | exact .inl (by decide +kernel) | exact .inr (by decide +kernel)) (by rw [isSubtype_type]; kernel_rfl)
theorem entry_rt_hint : entryFor table "reversed.__length_hint__" = some Builtin.«reversed.__length_hint__» := entryFor_of_tree (by kernel_rfl)
theorem args_rt_hint (a : Value) : argsOk "reversed.__length_hint__" ⟨[a], []⟩ := by
  unfold argsOk; rw [signature?_of (id := "reversed.__length_hint__") (n := ['_', '_', 't', 'n', 'i', 'h', '_', 'h', 't', 'g', 'n', 'e', 'l', '_', '_']) (o := ['d', 'e', 's', 'r', 'e', 'v', 'e', 'r']) (by kernel_rfl) owner_rt]; kernel_rfl
theorem call_rt_hint {it t : Addr} {items : Array Value} {Q : Value → Shared → Prop} (hit : IsRt s.heap it t ((items.size : Int) - 1)) (ht : IsTup s.heap t items) (hsz : items.size ≤ sizeLine)
    (hQ : Q (.int (items.size : Int) (s.toks + 1 + 1)) { s with toks := s.toks + 1 + 1 + 1 }) : wpAny (model prog w) A (call (.builtin "reversed.__length_hint__") [.ref it]) Q E s := by
  obtain ⟨o, ho, hc, hd⟩ := id hit
  have hn := line63
  rw [sizeLine_eq] at hsz
  refine wpAny_call_entry slot_rt_hint hit.typeIs entry_rt_hint ?_ (args_rt_hint _)
  unfold Builtin.«reversed.__length_hint__»
  refine wpAny_bind (wpAny_of_eq (a := Value.ref it) rfl ?_)
  try dsimp only
  refine wpAny_bind (wpAny_field ho hd (x := .ref t) rfl ?_)
  rw [show (Value.ref t == Value.none) = false from rfl, if_neg (by decide)]
  refine wpAny_bind (len_tuple ht (by omega) ?_)
  refine wpAny_bind (m := asInt? _) (wpAny_pure ?_)
  try dsimp only
  refine wpAny_bind (wpAny_field (s := { s with toks := s.toks + 1 + 1 }) ho hd (x := rawInt ((items.size : Int) - 1)) rfl ?_)
  show wpAny _ _ (if (items.size : Int) < (items.size : Int) - 1 + 1 then _ else _) _ _ _
  rw [if_neg (by omega), show (items.size : Int) - 1 + 1 = items.size by omega]
  refine wpAny_bind (wpAny_mkInt ?_)
  exact wpAny_pure ⟨_, rfl, hQ⟩
theorem hint_rt_all {it t : Addr} {items : Array Value} {Q : Bool → Shared → Prop} (hit : IsRt s.heap it t ((items.size : Int) - 1)) (ht : IsTup s.heap t items) (hsz : items.size ≤ sizeLine)
    (hQ : ∀ tk', Q ((items.size : Int) != 0) { s with toks := tk' }) : wpAny (model prog w) A (Builtin.List.listLengthHint (.ref it)) Q E s := by
  have hT : s.TypeIs (.ref it) "reversed" := hit.typeIs
  unfold Builtin.List.listLengthHint
  refine wpAny_bind (wpAny_specialOf hT nolen_rt ?_)
  show wpAny _ A (specialOf (Value.ref it) (Str.ofString "__length_hint__") >>= _) _ _ _
  refine wpAny_bind (wpAny_specialOf hT hint_rt ?_)
  generalize hid : ("reversed.__length_hint__" : String) = id0
  wp_delta
  rw [show splitId id0 = some ("reversed", "__length_hint__") from by subst hid; decide +kernel]
  subst hid
  refine wpAny_bind (wpAny_isInstance (b := true) hT (by rw [isSubtype_type]; kernel_rfl) ?_)
  refine wpAny_ite_split (fun hab => absurd hab (by decide)) (fun _ => ?_)
  refine wpAny_ite_split (fun hab => absurd hab (by decide +kernel)) (fun _ => ?_)
  refine wpAny_bind (wpAny_rule ?_)
  refine wpAny_bind (wpAny_of_eq (slot_rt_hint.bind _) ?_)
  try dsimp only
  refine wpAny_bind (wpAny_attempt (call_rt_hint hit ht hsz ?_))
  have htl : Builtin.List.listTooLong ((items.size : Int).toNat) = false := by
    unfold Builtin.List.listTooLong
    rw [Int.toNat_natCast]
    exact decide_eq_false (Nat.not_lt.mpr hsz)
  clear ht hit
  generalize items.size = n at *
  try dsimp only
  refine wpAny_bind (m := asInt? (.int (n : Int) (s.toks + 1 + 1))) ?_
  unfold asInt?
  try dsimp only
  refine wpAny_pure ?_
  try dsimp only
  have hfi : Builtin.List.listFitsIndex (n : Int) = true := by
    have := line63
    simp [Builtin.List.listFitsIndex]; omega
  have hn0 : ¬ (n : Int) < 0 := by omega
  simp only [hfi, htl, hn0, Bool.not_true, Bool.false_eq_true, if_false]
  exact wpAny_pure (hQ _)
theorem walks_rt {prog : Program} {w : World} {A : Around} (hh : A.handled = none) (I l : Addr) (hne : l ≠ I) (items : Array Value) (hn : items.size ≤ sizeLine) :
    Walks prog w A I [I, l] [I] items.size (fun i v => items[items.size - 1 - i]? = some v) (fun i h => i ≤ items.size ∧ IsRt h I l ((items.size : Int) - 1 - (i : Int)) ∧ IsTup h l items) where
  sub := fun b hb => by simp at hb; simp [hb]
  frame := fun _ _ _ x hk => ⟨x.1, x.2.1.at fun o e => hk I (by simp) o e, by
    obtain ⟨o, ho, r⟩ := x.2.2
    exact ⟨o, hk l (by simp) o ho, r⟩⟩
  item := fun i s Q E hi x hQ => by
    have e : (items.size : Int) - 1 - (i : Int) = ((items.size - 1 - i : Nat) : Int) := by omega
    have hit := x.2.1
    rw [e] at hit
    have hx : items[items.size - 1 - i]? = some (items[items.size - 1 - i]'(by omega)) := Array.getElem?_eq_getElem (by omega)
    refine next_rt_item hit x.2.2 hx hn fun h' hit' hs' => ?_
    have e2 : ((items.size - 1 - i : Nat) : Int) - 1 = (items.size : Int) - 1 - ((i + 1 : Nat) : Int) := by omega
    rw [e2] at hit'
    have tup : IsTup h' l items := by
      obtain ⟨o, ho, r⟩ := x.2.2
      exact ⟨o, (hs'.2 l hne).trans ho, r⟩
    exact hQ _ h' (s.toks + 1) hx ⟨hi, hit', tup⟩ fun b o hb eo => hs'.extBut b o (fun h => hb (by simp [h])) eo
  done := fun s Q E x hQ => by
    have e : (items.size : Int) - 1 - (items.size : Int) = -1 := by omega
    have hit := x.2.1
    rw [e] at hit
    exact next_rt_end hh hit fun h' he' => hQ h' s.toks fun b o hb eo => he' b o (fun h => hb (by simp [h])) eo
  self := fun _ _ _ _ x hQ => iter_rt x.2.1 hQ
theorem extend_rt {R : Result → Shared → Prop} {it l : Addr} {items : Array Value} (hh : A.handled = none) (hit : IsRt s.heap it l ((items.size : Int) - 1)) (hl : IsTup s.heap l items) (hne : l ≠ it) (hn : items.size ≤ sizeLine) (S : Addr) (c₀ : Nat) (hS : s.heap.get? S = some { cls := .type "list", data := .seq #[] c₀ }) (hSi : S ≠ it) (hSl : S ≠ l)
    (hR : ∀ h' tk acc' c', (∀ b o, b ≠ S → b ≠ it → s.heap.get? b = some o → h'.get? b = some o) → h'.get? S = some { cls := .type "list", dict := none, data := .seq acc' c', slots := #[] } →
      ItemsOf (fun i v => items[items.size - 1 - i]? = some v) acc' items.size → R (.ok (.ret .none)) { s with heap := h', toks := tk }) :
    wpAny (model prog w) A.in1 (Builtin.List.listExtendWith (.ref S) (.ref it) .none)
      (fun fin s' => match fin with | .done f => R (.ok f) s' | .again c' => c'.quiet = true ∧ codeAny (model prog w) A c' R s') (fun e s' => R (.error e) s') s := by
  have W := (walks_rt (prog := prog) (w := w) (A := A.in1) hh it l hne items hn).toS
  have hSf : S ∉ [it, l] := by simp only [List.mem_cons, List.not_mem_nil, or_false, not_or]; exact ⟨hSi, hSl⟩
  have hT : s.TypeIs (.ref it) "reversed" := hit.typeIs
  have h1 : Builtin.List.listSameRef (.ref S) (.ref it) = false := by simp [Builtin.List.listSameRef, hSi]
  unfold Builtin.List.listExtendWith
  refine wpAny_bind (wpAny_typeOf hT ?_)
  rw [if_neg (by rw [h1]; decide)]
  refine wpAny_bind (iter_rt hit ?_)
  refine wpAny_bind (wpAny_holding (hint_rt_all hit hl hn fun tk => ?_))
  have e0 : ((items.size : Nat) : Int) - 1 - ((0 : Nat) : Int) = (items.size : Int) - 1 := by omega
  have key : ∀ (h : Heap) (c₁ tk : Nat), IsRt h it l ((items.size : Int) - 1) → IsTup h l items → (∀ b o, b ≠ S → s.heap.get? b = some o → h.get? b = some o) →
      h.get? S = some { cls := .type "list", data := .seq #[] c₁ } → codeAny (model prog w) A (.builtin "list.extend.loop" ⟨[.ref S, .ref it, .none], []⟩) R { s with heap := h, toks := tk } := by
    intro h c₁ tk h1 h2 hk hS₁
    refine codeAny_extend_loopS W hn S hSf .none items.size 0 _ #[] c₁ rfl (Nat.zero_le _) ⟨Nat.zero_le _, by rw [e0]; exact h1, h2⟩ hS₁ (ItemsOf.nil _) fun s' acc' c' hm hS' hacc => ?_
    rw [Moved.eq_with hm]
    refine hR s'.heap s'.toks acc' c' (fun b o hb hbi e => hm.heap b o (fun hmem => ?_) (hk b o hb e)) hS' hacc
    rcases List.mem_cons.mp hmem with e' | hmem
    · exact hb e'
    · exact hbi (List.mem_singleton.mp hmem)
  refine wpAny_ite_split (fun _ => ?_) (fun _ => wpAny_pure ⟨plainId_quiet F.plain_extend_loop _, key _ _ _ hit hl (fun b o _ e => e) hS⟩)
  refine wpAny_bind (wpAny_rule ?_)
  refine wpAny_bind ?_
  show wpAny _ _ (updateSeq S (·.push .none) >>= fun _ => updateSeq S (·.pop)) _ _ _
  refine wpAny_bind (wpAny_updateSeq hS rfl ?_)
  have hS₂ := Heap.get?_update_self (Obj.mapSeq (·.push Value.none)) hS rfl
  refine wpAny_updateSeq (hz := by seq_fits) hS₂ rfl ?_
  have hS₃ := Heap.get?_update_self (Obj.mapSeq (·.pop)) hS₂ rfl
  have oth : ∀ b o, b ≠ S → s.heap.get? b = some o → ((s.heap.update S (Obj.mapSeq (·.push Value.none))).update S (Obj.mapSeq (·.pop))).get? b = some o := fun b o hb e => (Heap.get?_update_other _ _ (Ne.symm hb)).trans ((Heap.get?_update_other _ _ (Ne.symm hb)).trans e)
  refine wpAny_pure ⟨plainId_quiet F.plain_extend_loop _, key _ _ _ (hit.at fun o e => oth it o (Ne.symm hSi) e) ?_ oth hS₃⟩
  obtain ⟨o, ho, r⟩ := hl
  exact ⟨o, oth l o (Ne.symm hSl) ho, r⟩
theorem list_init_rt {R : Result → Shared → Prop} {it l : Addr} {items : Array Value} (hh : A.handled = none) (hit : IsRt s.heap it l ((items.size : Int) - 1)) (hl : IsTup s.heap l items) (hne : l ≠ it) (hn : items.size ≤ sizeLine) (S : Addr) (hS : s.heap.get? S = some { cls := .type "list", data := .seq #[] }) (hSi : S ≠ it) (hSl : S ≠ l)
    (hR : ∀ h' tk acc' c', (∀ b o, b ≠ S → b ≠ it → s.heap.get? b = some o → h'.get? b = some o) → h'.get? S = some { cls := .type "list", dict := none, data := .seq acc' c', slots := #[] } →
      ItemsOf (fun i v => items[items.size - 1 - i]? = some v) acc' items.size → R (.ok (.ret .none)) { s with heap := h', toks := tk }) :
    wpAny (model prog w) A.in1 (Builtin.«list.__init__» ⟨[.ref S, .ref it], []⟩)
      (fun fin s' => match fin with | .done f => R (.ok f) s' | .again c' => c'.quiet = true ∧ codeAny (model prog w) A c' R s') (fun e s' => R (.error e) s') s := by
  show wpAny _ _ (do let old ← Builtin.List.listItems (.ref S); Builtin.List.listUpdate (.ref S) (fun _ => #[]); letGo old.toList.reverse; Builtin.List.listExtendWith (.ref S) (.ref it) .none) _ _ s
  refine wpAny_bind ?_
  unfold Builtin.List.listItems
  refine wpAny_bind (wpAny_seqItems hS rfl (wpAny_pure ?_))
  show wpAny _ _ (updateSeq S (fun _ => #[]) >>= fun _ => letGo (#[] : Array Value).toList.reverse >>= fun _ => Builtin.List.listExtendWith (.ref S) (.ref it) .none) _ _ s
  refine wpAny_bind (wpAny_updateSeq hS rfl ?_)
  have hS₂ := Heap.get?_update_self (Obj.mapSeq (fun _ => (#[] : Array Value))) hS rfl
  have oth : ∀ b o, b ≠ S → s.heap.get? b = some o → (s.heap.update S (Obj.mapSeq (fun _ => (#[] : Array Value)))).get? b = some o :=
    fun b o hb e => (Heap.get?_update_other _ _ (Ne.symm hb)).trans e
  refine wpAny_bind (wpAny_letGo ?_)
  have hit' : IsRt (s.heap.update S (Obj.mapSeq (fun _ => (#[] : Array Value)))) it l ((items.size : Int) - 1) := hit.at fun o e => oth it o (Ne.symm hSi) e
  have hl' : IsTup (s.heap.update S (Obj.mapSeq (fun _ => (#[] : Array Value)))) l items := by
    obtain ⟨o, ho, h2⟩ := hl
    exact ⟨o, oth l o (Ne.symm hSl) ho, h2⟩
  refine extend_rt hh hit' hl' hne hn S _ hS₂ hSi hSl (fun h' tk acc' c' hk hS' hacc => ?_)
  exact hR h' tk acc' c' (fun b o hb hbi e => hk b o hb hbi (oth b o hb e)) hS' hacc
theorem call_list_rt {it l : Addr} {items : Array Value} {Q : Value → Shared → Prop} (hh : A.handled = none) (hit : IsRt s.heap it l ((items.size : Int) - 1)) (hl : IsTup s.heap l items) (hne : l ≠ it) (hn : items.size ≤ sizeLine)
    (hQ : ∀ h' tk acc' c', (∀ b o, b ≠ it → s.heap.get? b = some o → h'.get? b = some o) → h'.get? s.heap.objs.size = some { cls := .type "list", dict := none, data := .seq acc' c', slots := #[] } →
      ItemsOf (fun i v => items[items.size - 1 - i]? = some v) acc' items.size → Q (.ref s.heap.objs.size) { s with heap := h', toks := tk }) :
    wpAny (model prog w) A (call (.type "list") [.ref it]) Q E s := by
  obtain ⟨oi, hoi, _⟩ := id hit
  obtain ⟨ol, hol, _⟩ := id hl
  have hSi : s.heap.objs.size ≠ it := Nat.ne_of_gt (Heap.lt_size hoi)
  have hSl : s.heap.objs.size ≠ l := Nat.ne_of_gt (Heap.lt_size hol)
  refine callType_codes (Q₁ := fun obj s₁ => obj = .ref s.heap.objs.size ∧ s₁ = { s with heap := s.heap.push { cls := .type "list", data := .seq #[] } }) PySem.F.called_list (PySem.F.typeCall_list_1 _) PySem.F.entry_list_init
    (code_list_new _ ⟨rfl, rfl⟩) fun obj s₁ h₁ => ?_
  obtain ⟨rfl, rfl⟩ := h₁
  have hS : (s.heap.push { cls := .type "list", data := .seq #[] }).get? s.heap.objs.size = some { cls := .type "list", data := .seq #[] } := Heap.get?_push_size _ rfl
  refine ⟨⟨_, hS, rfl⟩, PySem.F.args_list_init_2 _ _, list_init_rt (A := A.in1) (s := { s with heap := s.heap.push { cls := .type "list", data := .seq #[] } }) hh (hit.at fun o e => Heap.get?_push_of_some _ e) (hl.push _) hne hn _ hS hSi hSl (fun h' tk acc' c' hk hS' hacc => ?_)⟩
  exact ⟨rfl, hQ h' tk acc' c' (fun b o hb e => hk b o (Nat.ne_of_lt (Heap.lt_size e)) hb (Heap.get?_push_of_some _ e)) hS' hacc⟩
end
def tLstRevT (K : PySem.W.Frag) (te : TE) : TE := fun σ H Q => te σ H fun v H1 => ∃ (a : Addr) (xs : List V), v = .ref a ∧ SqT K H1 a xs ∧ ∀ q, H1 q = none → Q (.ref q) (upd H1 q (.lst xs.reverse))
theorem pe_lstRevT {X : Cx} {e : Expr} {te : TE} {p p2 pos pos2 : Pos} (hc : X.calm = true) (hg : Gl X "list") (hm : X.mg "list" = none) (hg2 : Gl X "reversed") (hm2 : X.mg "reversed" = none) (he : PE X e te)
    (hs : starEach [e] X.env = (false, eval e X.env) :: starEach [] X.env := by rfl)
    (hs2 : starEach [.Call (.Name "reversed" p2) [e] [] pos2] X.env = (false, eval (.Call (.Name "reversed" p2) [e] [] pos2) X.env) :: starEach [] X.env := by rfl) :
    PE X (.Call (.Name "list" p) [.Call (.Name "reversed" p2) [e] [] pos2] [] pos) (tLstRevT X.K te) := by
  refine ⟨fun pins s σ H Q I h => ?_⟩
  refine Call_ (ld_blt I hg hm boot_list (PyProof.Rows.callWith_type1 (args_cons (Call_ (ld_blt I hg2 hm2 PyProof.Rows.boot_reversed (PyProof.Rows.callWith_type1 (args_cons (thn (he.run pins s σ H _ I h) fun u s1 ⟨v, H1, I1, r1, q1⟩ => args_nil ?_) hs) hs rfl))) hs2) hs2 rfl))
  obtain ⟨a, xs, ev, hq, q⟩ := q1
  subst ev
  obtain rfl : u = Value.ref a := r1
  obtain ⟨its, rv, p', hz⟩ := I1.tuple hq
  have hn63 := line63
  refine call_reversed_tup p' (fun A E Q k => len_tuple p' (by have := rv.length; simp only [List.size_toArray] <;> omega) k) (args_nil ?_)
  obtain ⟨ol, hol, _⟩ := id p'
  have hne : a ≠ s1.heap.objs.size := Nat.ne_of_lt (Heap.lt_size hol)
  have hn : its.toArray.size ≤ sizeLine := by rw [List.size_toArray, ← rv.length]; exact hz
  refine call_list_rt (s := { s1 with heap := s1.heap.push (rtObj a ((its.toArray.size : Int) - 1)), toks := s1.toks + 1 + 1 }) (I1.ok.hd hc) ⟨_, Heap.get?_push_size _ rfl, rfl, rfl⟩ (p'.push _) hne hn fun h' tk acc c' hk e' hi => ?_
  have hle : s1.heap.objs.size ≤ (s1.heap.push (rtObj a ((its.toArray.size : Int) - 1))).objs.size := by
    show _ ≤ (Array.push _ _).size
    rw [Array.size_push]
    exact Nat.le_succ _
  have k : ∀ b o, s1.heap.get? b = some o → h'.get? b = some o := fun b o e => hk b o (Nat.ne_of_lt (Heap.lt_size e)) (Heap.get?_push_of_some _ e)
  refine ⟨.ref (s1.heap.push (rtObj a ((its.toArray.size : Int) - 1))).objs.size, upd H1 (s1.heap.push (rtObj a ((its.toArray.size : Int) - 1))).objs.size (.lst xs.reverse), I1.laid (t' := tk) k hle (show ObjOk X.prog X.w _ _ _ (.lst xs.reverse) from ⟨by rw [List.length_reverse]; exact hz, acc.toList, c', vals_rev rv hi, ?_⟩), rfl, q _ (I1.hok.fresh hle)⟩
  rw [Array.toArray_toList]
  exact e'
end RT

namespace DL
open PySem L2
def wLstRevT (a : WE) : WL := fun env Q => a env fun x => match x with
  | .tuple ds => Q ds.reverse
  | _ => False
section
variable {K : PySem.W.Frag} {ok : List D → Prop} {ta : TE} {wa : WE}
theorem sl_lstRevT (ha : SndE K ok ta wa) : SndL K ok (RT.tLstRevT K ta) (wLstRevT wa) := fun C H0 σ H env Q R rel hw k =>
  ha C H0 σ H env _ _ rel hw fun d v H1 H01 q r1 e1 x1 => by
    try dsimp only at q
    split at q
    · cases x1 with
      | tup h r => exact ⟨_, _, rfl, Same.tup r1.sub h, fun l nl => k _ _ _ _ q (r1.laid0 nl) e1 ⟨r1.fresh nl, ⟨r1.sub.free nl, _, upd_same, r.reverse⟩, r1.noslot nl, r1.kp.free nl⟩⟩
    · exact q.elim
end
section
variable {X : Cx} {ok : List D → Prop} {a : Expr} {wa : WE} {p p2 pos pos2 : Pos}
theorem l_lstRevT (hc : X.calm = true) (hm : X.mg "list" = none) (hm2 : X.mg "reversed" = none) (ha : PDE X ok a wa) (hg : Gl X "list" := by rfl) (hg2 : Gl X "reversed" := by rfl) (hs : starEach [a] X.env = (false, eval a X.env) :: starEach [] X.env := by rfl)
    (hs2 : starEach [.Call (.Name "reversed" p2) [a] [] pos2] X.env = (false, eval (.Call (.Name "reversed" p2) [a] [] pos2) X.env) :: starEach [] X.env := by rfl) :
    PDL X ok (.Call (.Name "list" p) [.Call (.Name "reversed" p2) [a] [] pos2] [] pos) (wLstRevT wa) := let ⟨_, a1, a2⟩ := ha; ⟨_, RT.pe_lstRevT hc hg hm hg2 hm2 a1 hs hs2, sl_lstRevT a2⟩
end
end DL
/-! mathematics: remainders and powers. -/
namespace MB
theorem emod_mul_l (a b m : Int) : (a % m) * b % m = a * b % m := by
  rw [Int.mul_emod, Int.emod_emod_of_dvd _ (Int.dvd_refl m), ← Int.mul_emod]
theorem emod_mul_r (a b m : Int) : a * (b % m) % m = a * b % m := by
  rw [Int.mul_emod, Int.emod_emod_of_dvd _ (Int.dvd_refl m), ← Int.mul_emod]
theorem emod_pow (a m : Int) (k : Nat) : (a % m) ^ k % m = a ^ k % m := by
  induction k with
  | zero => rw [Int.pow_zero, Int.pow_zero]
  | succ k ih =>
    rw [Int.pow_succ, Int.pow_succ, emod_mul_r, Int.mul_emod, ih, ← Int.mul_emod]
theorem cong_mul {a b c d m : Int} (h : a % m = b % m) (k : c % m = d % m) : a * c % m = b * d % m := by
  rw [Int.mul_emod, h, k, ← Int.mul_emod]
theorem cong_add {a b c d m : Int} (h : a % m = b % m) (k : c % m = d % m) : (a + c) % m = (b + d) % m := by
  rw [Int.add_emod, h, k, ← Int.add_emod]
theorem cong_pow {a b m : Int} (h : a % m = b % m) (k : Nat) : a ^ k % m = b ^ k % m := by
  rw [← emod_pow, h, emod_pow]
/-- one turn of the ladder -/
theorem ladder_odd (r b m : Int) {j : Int} (h0 : 0 ≤ j) (h : j % 2 = 1) : (r * b % m) * (b * b % m) ^ (j / 2).toNat % m = r * b ^ j.toNat % m := by
  have e : j.toNat = (j / 2).toNat + (j / 2).toNat + 1 := by omega
  rw [emod_mul_l, ← emod_mul_r, emod_pow, emod_mul_r, e, Int.pow_succ, Int.pow_add, Int.mul_pow]
  congr 1
  grind
theorem ladder_even (r b m : Int) {j : Int} (h0 : 0 ≤ j) (h : ¬ j % 2 = 1) : r * (b * b % m) ^ (j / 2).toNat % m = r * b ^ j.toNat % m := by
  have e : j.toNat = (j / 2).toNat + (j / 2).toNat := by omega
  rw [← emod_mul_r, emod_pow, emod_mul_r, e, Int.pow_add, Int.mul_pow]
theorem two_pow_cast (k : Nat) : ((2 ^ k : Nat) : Int) = 2 ^ k := by rw [Int.natCast_pow]; rfl
theorem mul_bd {u v A B : Int} (u0 : -A ≤ u) (u1 : u ≤ A) (v0 : 0 ≤ v) (v1 : v ≤ B) (A0 : 0 ≤ A) : -(A * B) ≤ u * v ∧ u * v ≤ A * B := by
  have h1 := Int.mul_le_mul_of_nonneg_right u1 v0
  have h2 := Int.mul_le_mul_of_nonneg_left v1 A0
  have h3 := Int.mul_le_mul_of_nonneg_right u0 v0
  rw [Int.neg_mul] at h3
  omega
theorem sq_nonneg (a : Int) : 0 ≤ a * a := by
  rcases Int.le_total 0 a with h | h
  · exact Int.mul_nonneg h h
  · have := Int.mul_nonneg (a := -a) (b := -a) (by omega) (by omega)
    rwa [Int.neg_mul_neg] at this
theorem gcd_dvd_iff {a b c d : Int} (h1 : ∀ k : Int, k ∣ a ∧ k ∣ b ↔ k ∣ c ∧ k ∣ d) : Int.gcd a b = Int.gcd c d := by
  apply Nat.dvd_antisymm
  · have := (h1 (Int.gcd a b)).mp ⟨Int.gcd_dvd_left _ _, Int.gcd_dvd_right _ _⟩
    exact Int.natCast_dvd_natCast.mp (Int.dvd_coe_gcd this.1 this.2)
  · have := (h1 (Int.gcd c d)).mpr ⟨Int.gcd_dvd_left _ _, Int.gcd_dvd_right _ _⟩
    exact Int.natCast_dvd_natCast.mp (Int.dvd_coe_gcd this.1 this.2)
theorem gcd_mod (n v : Int) : Int.gcd n (v % n) = Int.gcd n v := gcd_dvd_iff fun k => by
  constructor
  · rintro ⟨h1, h2⟩
    refine ⟨h1, ?_⟩
    have := Int.dvd_add h2 (Int.dvd_trans h1 (Int.dvd_mul_right n (v / n)))
    rwa [Int.emod_add_mul_ediv] at this
  · rintro ⟨h1, h2⟩
    refine ⟨h1, ?_⟩
    rw [Int.emod_def]
    exact Int.dvd_sub h2 (Int.dvd_trans h1 (Int.dvd_mul_right n (v / n)))
theorem gcd_mod_r (a b : Int) : Int.gcd b (a % b) = Int.gcd a b := by rw [gcd_mod, Int.gcd_comm]
theorem dvd_of_gcd_one {k m n : Int} (h : Int.gcd k m = 1) (hd : k ∣ m * n) : k ∣ n := by
  rw [← Int.natAbs_dvd_natAbs, Int.natAbs_mul] at hd
  rw [← Int.natAbs_dvd_natAbs]
  exact Nat.Coprime.dvd_of_dvd_mul_left h hd
end MB
namespace DL
open PySem L2
theorem rng_at {lo : Int} {n i : Nat} {d : D} (h : (rng lo n)[i]? = some d) : i < n ∧ d = .int (lo + i) := by
  by_cases hi : i < n
  · rw [rng_get hi] at h
    exact ⟨hi, (Option.some.inj h).symm⟩
  · rw [List.getElem?_eq_none (by rw [rng_len]; omega)] at h
    cases h
theorem dr {n : Int} {Q : Rt → Prop} (h0 : 0 < n) (h : n < 2 ^ 200) (hq : ∀ r : Int, 0 ≤ r → r < n → Q (.v (.int r))) : oneH [.hnd, .v (.int n)] = true ∧ [Ar.hnd, Ar.v (.int n)].length = 2 ∧ M_draw [.hnd, .v (.int n)] Q := ⟨rfl, rfl, n, rfl, h0, h, hq⟩
theorem lk {n : Nat} (h : Nat.ble n 1000 = true) : n ≤ 1000 := Nat.le_of_ble_eq_true h
theorem no_ne {i j : Int} (e : i = j) : (!decide (i = j)) = false := by rw [decide_eq_true e]; rfl
theorem pass {i j : Int} {P Q : Prop} (e : i = j) (q : Q) : ((!decide (i = j)) = true → P) ∧ ((!decide (i = j)) = false → Q) := ⟨fun h => (by rw [no_ne e] at h; cases h), fun _ => q⟩
/-- a break, a fall through: told by what stands behind (the kernel must not unfold a named tail first) -/
theorem onBk {W : WEnds} {env : EnvD} (h : W.bk env) : wBk W env := h
theorem onNx {W : WEnds} {env : EnvD} (h : W.nx env) : wNx W env := h
end DL
/-! plain data: no dict, no truth value, at most k deep. Equality of such data is being alike. -/
namespace DL
open PySem L2
def pl : Nat → D → Bool
  | _, .none => true
  | _, .int _ => true
  | 0, _ => false
  | k + 1, .list ds => ds.all (pl k)
  | k + 1, .tuple ds => ds.all (pl k)
  | _, _ => false
theorem pl_none (k : Nat) : pl k .none = true := by cases k <;> rfl
theorem pl_int (k : Nat) (i : Int) : pl k (.int i) = true := by cases k <;> rfl
theorem pl_ints (k : Nat) (ns : List Int) : (dints ns).all (pl k) = true := by
  rw [List.all_eq_true]
  intro x hx
  obtain ⟨i, _, rfl⟩ := List.mem_map.mp hx
  exact pl_int k i
theorem pl_dlist (k : Nat) (ns : List Int) : pl (k + 1) (.list (dints ns)) = true := pl_ints k ns
theorem pl_dtup (k : Nat) (ns : List Int) : pl (k + 1) (.tuple (dints ns)) = true := pl_ints k ns
theorem canAll {k : Nat} (ih : ∀ d : D, pl k d = true → d.canLay0 = true ∧ d.depth ≤ k) : ∀ ds : List D, ds.all (pl k) = true → PyData.canLayAll0 ds = true ∧ PyData.depthAll ds ≤ k
  | [], _ => ⟨rfl, Nat.zero_le _⟩
  | d :: ds, h => by
    rw [List.all_cons, Bool.and_eq_true] at h
    have h1 := ih d h.1
    have h2 := canAll ih ds h.2
    refine ⟨?_, ?_⟩
    · show (_ && _) = true
      rw [h1.1, h2.1]
      rfl
    · show max _ _ ≤ k
      omega
theorem pl_can : ∀ (k : Nat) (d : D), pl k d = true → d.canLay0 = true ∧ d.depth ≤ k
  | k, .none, _ => ⟨rfl, Nat.zero_le _⟩
  | k, .int _, _ => ⟨rfl, Nat.zero_le _⟩
  | 0, .bool _, h => by cases h
  | 0, .str _, h => by cases h
  | 0, .list _, h => by cases h
  | 0, .tuple _, h => by cases h
  | 0, .dict _, h => by cases h
  | k + 1, .bool _, h => by cases h
  | k + 1, .str _, h => by cases h
  | k + 1, .dict _, h => by cases h
  | k + 1, .list ds, h => by
    have := canAll (pl_can k) ds h
    exact ⟨this.1, Nat.succ_le_succ this.2⟩
  | k + 1, .tuple ds, h => by
    have := canAll (pl_can k) ds h
    exact ⟨this.1, Nat.succ_le_succ this.2⟩
theorem shp {k : Nat} {d : D} (h : pl k d = true) (hk : k ≤ 64 := by decide) : SeqAt.shaped d = true := by
  have := pl_can k d h
  unfold SeqAt.shaped
  rw [this.1, Bool.true_and, decide_eq_true_iff]
  omega
theorem eqvAll_iff {k : Nat} (ih : ∀ d e : D, pl k d = true → pl k e = true → (PyData.eqv d e = true ↔ d = e)) : ∀ ds es : List D, ds.all (pl k) = true → es.all (pl k) = true → (PyData.eqvAll ds es = true ↔ ds = es)
  | [], [], _, _ => ⟨fun _ => rfl, fun _ => rfl⟩
  | [], _ :: _, _, _ => ⟨(nomatch ·), (nomatch ·)⟩
  | _ :: _, [], _, _ => ⟨(nomatch ·), (nomatch ·)⟩
  | d :: ds, e :: es, h1, h2 => by
    rw [List.all_cons, Bool.and_eq_true] at h1 h2
    show (_ && _) = true ↔ _
    rw [Bool.and_eq_true, ih d e h1.1 h2.1, eqvAll_iff ih ds es h1.2 h2.2, List.cons.injEq]
theorem eqv_iff : ∀ (k : Nat) (d e : D), pl k d = true → pl k e = true → (PyData.eqv d e = true ↔ d = e)
  | k, .none, .none, _, _ => ⟨fun _ => rfl, fun _ => rfl⟩
  | k, .int i, .int j, _, _ => by
    show (i == j) = true ↔ _
    rw [beq_iff_eq, PyData.int.injEq]
  | k, .none, .int _, _, _ => ⟨(nomatch ·), (nomatch ·)⟩
  | k, .int _, .none, _, _ => ⟨(nomatch ·), (nomatch ·)⟩
  | k + 1, .list ds, .list es, h1, h2 => by
    show PyData.eqvAll ds es = true ↔ _
    rw [eqvAll_iff (eqv_iff k) ds es h1 h2, PyData.list.injEq]
  | k + 1, .tuple ds, .tuple es, h1, h2 => by
    show PyData.eqvAll ds es = true ↔ _
    rw [eqvAll_iff (eqv_iff k) ds es h1 h2, PyData.tuple.injEq]
  | k + 1, .none, .list _, _, _ => ⟨(nomatch ·), (nomatch ·)⟩
  | k + 1, .none, .tuple _, _, _ => ⟨(nomatch ·), (nomatch ·)⟩
  | k + 1, .int _, .list _, _, _ => ⟨(nomatch ·), (nomatch ·)⟩
  | k + 1, .int _, .tuple _, _, _ => ⟨(nomatch ·), (nomatch ·)⟩
  | k + 1, .list _, .none, _, _ => ⟨(nomatch ·), (nomatch ·)⟩
  | k + 1, .tuple _, .none, _, _ => ⟨(nomatch ·), (nomatch ·)⟩
  | k + 1, .list _, .int _, _, _ => ⟨(nomatch ·), (nomatch ·)⟩
  | k + 1, .tuple _, .int _, _, _ => ⟨(nomatch ·), (nomatch ·)⟩
  | k + 1, .list _, .tuple _, _, _ => ⟨(nomatch ·), (nomatch ·)⟩
  | k + 1, .tuple _, .list _, _, _ => ⟨(nomatch ·), (nomatch ·)⟩
  | 0, .bool _, _, h, _ => by cases h
  | 0, .str _, _, h, _ => by cases h
  | 0, .list _, _, h, _ => by cases h
  | 0, .tuple _, _, h, _ => by cases h
  | 0, .dict _, _, h, _ => by cases h
  | k + 1, .bool _, _, h, _ => by cases h
  | k + 1, .str _, _, h, _ => by cases h
  | k + 1, .dict _, _, h, _ => by cases h
  | 0, _, .bool _, _, h => by cases h
  | 0, _, .str _, _, h => by cases h
  | 0, _, .list _, _, h => by cases h
  | 0, _, .tuple _, _, h => by cases h
  | 0, _, .dict _, _, h => by cases h
  | k + 1, _, .bool _, _, h => by cases h
  | k + 1, _, .str _, _, h => by cases h
  | k + 1, _, .dict _, _, h => by cases h
theorem eqv_self {k : Nat} {d : D} (h : pl k d = true) : PyData.eqv d d = true := (eqv_iff k d d h h).mpr rfl
theorem eqv_ne {k : Nat} {d e : D} (h : pl k d = true) (h2 : pl k e = true) (n : d ≠ e) : PyData.eqv d e = false := by
  cases hh : PyData.eqv d e with
  | false => rfl
  | true => exact absurd ((eqv_iff k d e h h2).mp hh) n
theorem eqv_dec {k : Nat} {d e : D} [Decidable (d = e)] (h : pl k d = true) (h2 : pl k e = true) : PyData.eqv d e = decide (d = e) := by
  by_cases n : d = e
  · rw [decide_eq_true n, (eqv_iff k d e h h2).mpr n]
  · rw [decide_eq_false n, eqv_ne h h2 n]
/-- a comparison that answers: alike -/
theorem same {k : Nat} {d e : D} {P Q : Prop} (h : pl k d = true) (he : d = e) (q : Q) : ((!PyData.eqv d e) = true → P) ∧ ((!PyData.eqv d e) = false → Q) := by
  subst he
  rw [eqv_self h]
  exact ⟨fun h => (by cases h), fun _ => q⟩
theorem tk {n : Int} {Q : Rt → Prop} (h0 : 0 < n) (h : n < 2 ^ 200) (hq : ∀ r : Int, 0 ≤ r → r < n → Q (.v (.int r))) : oneH [.hnd, .v (.int n)] = true ∧ [Ar.hnd, Ar.v (.int n)].length = 2 ∧ M_take [.hnd, .v (.int n)] Q := ⟨rfl, rfl, n, rfl, h0, h, hq⟩
theorem nxt {ms : List Int} {n : Int} {Q : Rt → Prop} (h0 : 0 < n) (hq : ∀ r : Int, 0 ≤ r → r < n → Q (.v (.int r))) : oneH [.v (.list (dints ms)), .hnd, .v (.int n)] = true ∧ [Ar.v (.list (dints ms)), Ar.hnd, Ar.v (.int n)].length = 3 ∧ M_next [.v (.list (dints ms)), .hnd, .v (.int n)] Q := ⟨rfl, rfl, ms, n, rfl, h0, hq⟩
end DL
namespace DL
open PySem L2
theorem cut_lo {α : Type} (xs : List α) (k : Nat) : cutD xs (some (k : Int)) none = xs.drop k := by
  unfold cutD
  rw [HT.sIx_nat, HT.sIx_none]
  by_cases h : k ≤ xs.length
  · rw [Nat.min_eq_left h, List.take_of_length_le (by rw [List.length_drop]; omega)]
  · rw [Nat.min_eq_right (by omega), List.drop_of_length_le (by omega), List.drop_of_length_le (by omega), List.take_nil]
theorem cut_hi {α : Type} (xs : List α) (k : Nat) : cutD xs none (some (k : Int)) = xs.take k := by
  unfold cutD
  rw [HT.sIx_nat, HT.sIx_none, List.drop_zero, Nat.sub_zero]
  by_cases h : k ≤ xs.length
  · rw [Nat.min_eq_left h]
  · rw [Nat.min_eq_right (by omega), List.take_of_length_le (by omega), List.take_of_length_le (by omega)]
theorem cut_no {α : Type} (xs : List α) : cutD xs none none = xs := by
  unfold cutD
  rw [HT.sIx_none, HT.sIx_none, List.drop_zero, Nat.sub_zero, List.take_length]
theorem cut_mid {α : Type} (xs : List α) (k m : Nat) (h : k ≤ m) (hm : m ≤ xs.length) : cutD xs (some (k : Int)) (some (m : Int)) = (xs.drop k).take (m - k) := by
  unfold cutD
  rw [HT.sIx_nat, HT.sIx_nat, Nat.min_eq_left (by omega), Nat.min_eq_left (by omega)]
/-- f 0, .. f (n - 1) -/
abbrev tab (n : Nat) (f : Nat → Int) : List Int := (List.range n).map f
theorem dints_app (a b : List Int) : dints (a ++ b) = dints a ++ dints b := List.map_append
theorem dints_snoc (a : List Int) (x : Int) : dints (a ++ [x]) = dints a ++ [.int x] := List.map_append
theorem tab_len (n : Nat) (f : Nat → Int) : (tab n f).length = n := by rw [List.length_map, List.length_range]
theorem dtab_len (n : Nat) (f : Nat → Int) : (dints (tab n f)).length = n := by rw [List.length_map, tab_len]
theorem tab_succ (n : Nat) (f : Nat → Int) : dints (tab (n + 1) f) = dints (tab n f) ++ [.int (f n)] := by
  unfold tab
  rw [List.range_succ, List.map_append]
  show ((List.range n).map f ++ [f n]).map PyData.int = _
  rw [List.map_append]
  rfl
theorem tab_get {n i : Nat} {f : Nat → Int} (h : i < n) : (dints (tab n f))[i]? = some (.int (f i)) := by
  rw [List.getElem?_map, List.getElem?_map, List.getElem?_range h]
  rfl
theorem tab_at {n i : Nat} {f : Nat → Int} {d : D} (h : (dints (tab n f))[i]? = some d) : i < n ∧ d = .int (f i) := by
  by_cases hi : i < n
  · rw [tab_get hi] at h
    exact ⟨hi, (Option.some.inj h).symm⟩
  · rw [List.getElem?_eq_none (by rw [dtab_len]; omega)] at h
    cases h
theorem tab_atI {n i : Nat} {f : Nat → Int} {j : Int} (e : j = i) (h : i < n) : atI (dints (tab n f)) j = some (.int (f i)) := by
  rw [e]
  exact atI_nat (tab_get h)
theorem tab_drop {n k : Nat} {f : Nat → Int} (h : k ≤ n) : (dints (tab n f)).drop k = dints (tab (n - k) fun i => f (k + i)) := by
  apply List.ext_getElem?
  intro i
  rw [List.getElem?_drop]
  by_cases hi : i < n - k
  · rw [tab_get hi, tab_get (by omega)]
  · rw [List.getElem?_eq_none (by rw [dtab_len]; omega), List.getElem?_eq_none (by rw [dtab_len]; omega)]
theorem tab_take {n k : Nat} {f : Nat → Int} (h : k ≤ n) : (dints (tab n f)).take k = dints (tab k f) := by
  apply List.ext_getElem?
  intro i
  by_cases hi : i < k
  · rw [List.getElem?_take_of_lt hi, tab_get hi, tab_get (by omega)]
  · rw [List.getElem?_eq_none (by rw [List.length_take, dtab_len]; omega), List.getElem?_eq_none (by rw [dtab_len]; omega)]
theorem atI_nats {α : Type} {xs : List α} {j : Int} {i : Nat} {v : α} (e : j = i) (h : xs[i]? = some v) : atI xs j = some v := by
  rw [e]
  exact atI_nat h
/-- an item of a list of ints, told by its bounds -/
theorem atI_ints {xs : List Int} {j : Int} (h0 : 0 ≤ j) (h : j < xs.length) : ∃ v, atI (dints xs) j = some (.int v) ∧ v ∈ xs := by
  obtain ⟨i, rfl⟩ : ∃ i : Nat, j = i := ⟨j.toNat, by omega⟩
  have hi : i < xs.length := by omega
  refine ⟨xs[i], atI_nat ?_, List.getElem_mem hi⟩
  rw [List.getElem?_map, List.getElem?_eq_getElem hi]
  rfl
theorem wtrue {P Q : Prop} (p : P) : ((true : Bool) = true → P) ∧ ((true : Bool) = false → Q) := ⟨fun _ => p, (nomatch ·)⟩
theorem wfalse {P Q : Prop} (q : Q) : ((false : Bool) = true → P) ∧ ((false : Bool) = false → Q) := ⟨(nomatch ·), fun _ => q⟩
/-- what a slot holds that is wiped by a block -/
abbrev Val (t : Option Sl) : Prop := t = none ∨ ∃ d, t = some (.v d)
theorem valN {t : Option Sl} : Val t → (match t with | some s => s.isOwn = false | none => True)
  | .inl e => by subst e; exact trivial
  | .inr ⟨d, e⟩ => by subst e; exact rfl
theorem map_comp {ms : List Int} {f : Int → Int} {k : Nat} {m : Int} (h : ms[k]? = some m) : dints ((ms.take k).map f) ++ [PyData.int (f m)] = dints ((ms.take (k + 1)).map f) := by
  rw [List.take_add_one, h, List.map_append]
  show _ = dints (_ ++ [f m])
  rw [dints_snoc]
theorem dints_at {ms : List Int} {i : Nat} {d : D} (h : (dints ms)[i]? = some d) : ∃ m, ms[i]? = some m ∧ d = .int m := by
  rw [List.getElem?_map] at h
  obtain ⟨m, hm, rfl⟩ := Option.map_eq_some_iff.mp h
  exact ⟨m, hm, rfl⟩
theorem dints_len (ms : List Int) : (dints ms).length = ms.length := List.length_map _
theorem sameF {k : Nat} {d e : D} {P Q : Prop} (h : pl k d = true) (he : d = e) (q : Q) : ((!PyData.eqv d e || false) = true → P) ∧ ((!PyData.eqv d e || false) = false → Q) := by
  subst he
  rw [eqv_self h]
  exact ⟨fun h => (by cases h), fun _ => q⟩
theorem eqT {k : Nat} {d e : D} {Q : Rt → Prop} (h : pl k d = true) (he : d = e) (q : Q (.v (.bool true))) : Q (.v (.bool (PyData.eqv d e))) := by
  subst he
  rw [eqv_self h]
  exact q
end DL
namespace DL
open PySem L2
theorem ixN_nat {n j : Nat} {z : Int} (e : z = j) (h : j < n) : ixN n z = some j := by
  subst e
  unfold ixN
  rw [if_pos (by omega), if_pos (by omega), Int.toNat_natCast]
theorem rep_zero (n : Nat) (c : Int) : (List.replicate n [PyData.int c]).flatten = dints (List.replicate n c) := by
  induction n with
  | zero => rfl
  | succ n ih => rw [List.replicate_succ, List.flatten_cons, ih, List.replicate_succ]; rfl
theorem dints_set (f : List Int) (i : Nat) (v : Int) : (dints f).set i (.int v) = dints (f.set i v) := List.map_set.symm
theorem dints_drop (f : List Int) : (dints f).dropLast = dints f.dropLast := List.map_dropLast.symm
theorem dints_get {f : List Int} {i : Nat} {v : Int} (h : f[i]? = some v) : (dints f)[i]? = some (.int v) := by
  rw [List.getElem?_map, h]; rfl
theorem dints_atI {f : List Int} {i : Nat} {j v : Int} (e : j = i) (h : f[i]? = some v) : atI (dints f) j = some (.int v) := atI_nats e (dints_get h)
theorem ixN_neg {n : Nat} (k : Nat) (h0 : 0 < k) (h : k ≤ n) : ixN n (-(k : Int)) = some (n - k) := by
  unfold ixN
  rw [if_neg (by omega), if_pos (by omega)]
  congr 1
  omega
theorem atI_neg {α : Type} {xs : List α} {n : Nat} {v : α} (hl : xs.length = n) (k : Nat) (h0 : 0 < k ∧ k ≤ n) (h : xs[n - k]? = some v) : atI xs (-(k : Int)) = some v := by
  unfold atI
  rw [hl, ixN_neg k h0.1 h0.2]
  exact h
/-- comparisons of data that are not seen through -/
theorem fNe_of {d e : D} {Q : D → Prop} (h1 : SeqAt.shaped d = true) (h2 : SeqAt.shaped e = true) (q : Q (.bool (!PyData.eqv d e))) : fNe d e Q := by
  unfold fNe
  split
  · rw [eqv_int] at q; exact q
  · exact ⟨h1, h2, q⟩
theorem fEq_of {d e : D} {Q : D → Prop} (h1 : SeqAt.shaped d = true) (h2 : SeqAt.shaped e = true) (q : Q (.bool (PyData.eqv d e))) : fEq d e Q := by
  unfold fEq
  split
  · rw [eqv_int] at q; exact q
  · exact ⟨h1, h2, q⟩
theorem wVar_at {i : Nat} {env : EnvD} {d : D} {Q : D → Prop} (h : get env i = some (.v d)) (q : Q d) : wVar i env Q := by
  unfold wVar
  rw [h]
  exact q
end DL
/-! primes, by divisors -/
namespace MB
def PrimeI (p : Int) : Prop := 2 ≤ p ∧ ∀ d : Int, 2 ≤ d → d < p → p % d ≠ 0
theorem prime_of_trial {p : Int} (m : Int) (h2 : 2 ≤ p) (hp : p < m * m) (hm : 0 < m) (h : ∀ d : Int, 2 ≤ d → d < m → d * d ≤ p → p % d ≠ 0) : PrimeI p := by
  refine ⟨h2, fun d d2 dp e => ?_⟩
  obtain ⟨q, hq⟩ := Int.dvd_of_emod_eq_zero e
  have q0 : 0 < q := by
    apply Int.not_le.mp
    intro z
    have := Int.mul_nonpos_of_nonneg_of_nonpos (a := d) (b := q) (by omega) z
    omega
  have q1 : q ≠ 1 := fun z => by rw [z, Int.mul_one] at hq; omega
  have lt : ∀ x : Int, 0 ≤ x → x * x ≤ p → x < m := fun x x0 hx => by
    apply Int.not_le.mp
    intro z
    have := Int.mul_le_mul z z (by omega) x0
    omega
  rcases Int.le_total d q with l | l
  · have := Int.mul_le_mul_of_nonneg_left l (by omega : 0 ≤ d)
    exact h d d2 (lt d (by omega) (by omega)) (by omega) e
  · have := Int.mul_le_mul_of_nonneg_right l (by omega : 0 ≤ q)
    exact h q (by omega) (lt q (by omega) (by omega)) (by omega) (by rw [hq]; exact Int.mul_emod_left _ _)
end MB
/-! Fermat's little theorem; primes shown by it -/
namespace MB
theorem perm_of_sub : ∀ (l1 l2 : List Nat), l1.Nodup → (∀ x ∈ l1, x ∈ l2) → l2.length ≤ l1.length → l1.Perm l2
  | [], l2, _, _, hl => by
    have : l2 = [] := List.eq_nil_of_length_eq_zero (by simpa using hl)
    rw [this]
  | a :: l1, l2, hn, hs, hl => by
    have ha : a ∈ l2 := hs a List.mem_cons_self
    have hp := List.perm_cons_erase ha
    have hn' := List.nodup_cons.mp hn
    have := perm_of_sub l1 (l2.erase a) hn'.2 (fun x hx => by
      have hxa : x ≠ a := fun z => hn'.1 (z ▸ hx)
      exact (List.mem_erase_of_ne hxa).mpr (hs x (List.mem_cons_of_mem _ hx))) (by
      rw [List.length_erase_of_mem ha]
      rw [List.length_cons] at hl
      omega)
    exact (this.cons a).trans hp.symm
def pr : List Nat → Nat
  | [] => 1
  | a :: l => a * pr l
theorem pr_perm {l1 l2 : List Nat} (h : l1.Perm l2) : pr l1 = pr l2 := by
  induction h with
  | nil => rfl
  | cons a _ ih => show a * _ = a * _; rw [ih]
  | swap a b l => show b * (a * pr l) = a * (b * pr l); rw [← Nat.mul_assoc, Nat.mul_comm b a, Nat.mul_assoc]
  | trans _ _ ih1 ih2 => rw [ih1, ih2]
theorem pr_map (a p : Nat) : ∀ l : List Nat, pr (l.map fun x => a * x % p) % p = a ^ l.length * pr l % p
  | [] => by rw [List.map_nil, List.length_nil, Nat.pow_zero, Nat.one_mul]
  | x :: l => by
    show (a * x % p) * pr (l.map _) % p = a ^ (l.length + 1) * (x * pr l) % p
    rw [Nat.mul_mod, pr_map a p l, Nat.mod_mod, ← Nat.mul_mod]
    congr 1
    rw [Nat.pow_succ]
    grind
/-- a prime, of Nat -/
def PrimeN (p : Nat) : Prop := 2 ≤ p ∧ ∀ d, d ∣ p → d = 1 ∨ d = p
theorem PrimeN.euclid {p a b : Nat} (hp : PrimeN p) (h : p ∣ a * b) : p ∣ a ∨ p ∣ b := by
  rcases hp.2 (Nat.gcd p a) (Nat.gcd_dvd_left p a) with h1 | h1
  · exact .inr (Nat.Coprime.dvd_of_dvd_mul_left h1 h)
  · exact .inl (h1 ▸ Nat.gcd_dvd_right p a)
theorem PrimeN.of {p : Int} (h : PrimeI p) : PrimeN p.toNat := by
  refine ⟨by have := h.1; omega, fun d hd => ?_⟩
  have h1 := h.1
  have d0 : 0 < d := Nat.pos_of_dvd_of_pos hd (by omega)
  have dl := Nat.le_of_dvd (by omega) hd
  by_cases e1 : d = 1
  · exact .inl e1
  by_cases e2 : d = p.toNat
  · exact .inr e2
  have hd' : (d : Int) ∣ p := by
    have : ((p.toNat : Nat) : Int) = p := by omega
    rw [← this]
    exact Int.natCast_dvd_natCast.mpr hd
  exact absurd (Int.emod_eq_zero_of_dvd hd') (h.2 d (by omega) (by omega))
theorem PrimeN.toI {n : Nat} (h : PrimeN n) : PrimeI (n : Int) := by
  refine ⟨by have := h.1; omega, fun d h2 h3 e => ?_⟩
  have hd := Int.dvd_of_emod_eq_zero e
  obtain ⟨m, rfl⟩ : ∃ m : Nat, d = m := ⟨d.toNat, by omega⟩
  rcases h.2 m (Int.natCast_dvd_natCast.mp hd) with rfl | rfl <;> omega
theorem prime_pr {p : Nat} (hp : PrimeN p) : ∀ l : List Nat, (∀ x ∈ l, ¬ p ∣ x) → ¬ p ∣ pr l
  | [], _, h => by
    have := Nat.le_of_dvd (by decide) h
    have := hp.1
    show False
    have e : pr [] = 1 := rfl
    omega
  | x :: l, hl, h => by
    rcases hp.euclid (show p ∣ x * pr l from h) with h | h
    · exact hl x List.mem_cons_self h
    · exact prime_pr hp l (fun y hy => hl y (List.mem_cons_of_mem _ hy)) h
theorem fermatN {p a : Nat} (hp : PrimeN p) (ha : ¬ p ∣ a) : a ^ (p - 1) % p = 1 := by
  have h2 := hp.1
  let l := List.range' 1 (p - 1)
  have ml : ∀ {x}, x ∈ l ↔ 1 ≤ x ∧ x < p := fun {x} => by
    show x ∈ List.range' 1 (p - 1) ↔ _
    rw [List.mem_range'_1]
    omega
  have nd : ∀ x, x ∈ l → ¬ p ∣ x := fun x hx hd => by
    have := ml.mp hx
    have := Nat.le_of_dvd (by omega) hd
    omega
  have cancel : ∀ {x y z : Nat}, ¬ p ∣ x → x * y % p = x * z % p → y ≤ z → p ∣ z - y := fun {x y z} hx he hle => by
    have : p ∣ x * z - x * y := Nat.dvd_of_mod_eq_zero (Nat.sub_mod_eq_zero_of_mod_eq he.symm)
    rw [← Nat.mul_sub] at this
    exact (hp.euclid this).resolve_left hx
  have inj : ∀ {x y : Nat}, x ∈ l → y ∈ l → a * x % p = a * y % p → x = y := fun {x y} hx hy he => by
    have hx := ml.mp hx
    have hy := ml.mp hy
    rcases Nat.le_total x y with h | h
    · have := cancel ha he h
      have := Nat.eq_zero_of_dvd_of_lt this (by omega)
      omega
    · have := cancel ha he.symm h
      have := Nat.eq_zero_of_dvd_of_lt this (by omega)
      omega
  have perm : (l.map fun x => a * x % p).Perm l := by
    refine perm_of_sub _ _ ?_ (fun y hy => ?_) (by rw [List.length_map]; exact Nat.le_refl _)
    · show List.Pairwise (· ≠ ·) _
      rw [List.pairwise_map]
      refine List.Pairwise.imp_of_mem ?_ (List.nodup_range' (s := 1) (n := p - 1) (step := 1))
      intro x y hx hy hne he
      exact hne (inj hx hy he)
    · obtain ⟨x, hx, rfl⟩ := List.mem_map.mp hy
      refine ml.mpr ⟨?_, Nat.mod_lt _ (by omega)⟩
      have : a * x % p ≠ 0 := fun z => by
        rcases hp.euclid (Nat.dvd_of_mod_eq_zero z) with h | h
        · exact ha h
        · exact nd x hx h
      omega
  have hl : l.length = p - 1 := List.length_range'
  have e := pr_map a p l
  rw [pr_perm perm, hl] at e
  have np := prime_pr hp l nd
  have a1 : 1 ≤ a ^ (p - 1) := Nat.pow_pos (Nat.pos_of_ne_zero fun z => ha (z ▸ Nat.dvd_zero p))
  have := cancel np (y := 1) (z := a ^ (p - 1)) (by rw [Nat.mul_one, e, Nat.mul_comm]) a1
  obtain ⟨c, hc⟩ := this
  have : a ^ (p - 1) = 1 + p * c := by omega
  rw [this, Nat.add_mul_mod_self_left]
  exact Nat.mod_eq_of_lt (by omega)
theorem fermat {p a : Int} (hp : PrimeI p) (ha : ¬ p ∣ a) : a ^ (p - 1).toNat % p = 1 := by
  have h2 := hp.1
  have b0 : 0 ≤ a % p := Int.emod_nonneg _ (by omega)
  obtain ⟨b, hb⟩ : ∃ b : Nat, a % p = b := ⟨(a % p).toNat, by omega⟩
  obtain ⟨n, rfl⟩ : ∃ n : Nat, p = n := ⟨p.toNat, by omega⟩
  have hpn : PrimeN n := by
    have := PrimeN.of hp
    rwa [Int.toNat_natCast] at this
  have hb' : ¬ n ∣ b := fun z => ha (by
    have h1 : (n : Int) ∣ a % n := by rw [hb]; exact Int.natCast_dvd_natCast.mpr z
    exact Int.dvd_of_emod_eq_zero (by rw [← Int.emod_emod_of_dvd a (Int.dvd_refl (n : Int))]; exact Int.emod_eq_zero_of_dvd h1))
  have f := fermatN hpn hb'
  rw [← emod_pow, hb, show ((n : Int) - 1).toNat = n - 1 by omega]
  have : (((b ^ (n - 1) % n : Nat)) : Int) = 1 := by rw [f]; rfl
  rwa [Int.natCast_emod, Int.natCast_pow] at this
theorem fermat_inv {p a : Int} (hp : PrimeI p) (ha : ¬ p ∣ a) : a ^ (p - 2).toNat % p * a % p = 1 := by
  have h2 := hp.1
  rw [emod_mul_l, ← Int.pow_succ, show (p - 2).toNat.succ = (p - 1).toNat by omega]
  exact fermat hp ha
/-! ### primes shown -/
def trialB (n m : Nat) : Bool := decide (2 ≤ n) && decide (n < m * m) && (List.range m).all fun d => d < 2 || n % d != 0 || n == d
theorem trialB_ok {n m : Nat} (h : trialB n m = true) : PrimeN n := by
  unfold trialB at h
  rw [Bool.and_eq_true, Bool.and_eq_true, decide_eq_true_iff, decide_eq_true_iff, List.all_eq_true] at h
  obtain ⟨⟨h2, hm⟩, ht⟩ := h
  have small : ∀ d, d ∣ n → d < m → d = 1 ∨ d = n := fun d hd hlt => by
    have h1 := ht d (List.mem_range.mpr hlt)
    have d0 : 0 < d := Nat.pos_of_dvd_of_pos hd (by omega)
    rw [Bool.or_eq_true, Bool.or_eq_true, decide_eq_true_iff, bne_iff_ne, beq_iff_eq] at h1
    rcases h1 with (h1 | h1) | h1
    · left; omega
    · exact absurd (Nat.mod_eq_zero_of_dvd hd) h1
    · exact .inr h1.symm
  refine ⟨h2, fun d hd => ?_⟩
  by_cases hlt : d < m
  · exact small d hd hlt
  · obtain ⟨e, he⟩ := hd
    have elt : e < m := by
      apply Nat.lt_of_not_le
      intro z
      have := Nat.mul_le_mul (Nat.le_of_not_lt hlt) z
      omega
    rcases small e ⟨d, by rw [he, Nat.mul_comm]⟩ elt with h | h
    · right; rw [he, h, Nat.mul_one]
    · left
      have : d * e = 1 * e := by rw [← he, h, Nat.one_mul]
      exact Nat.eq_of_mul_eq_mul_right (by omega) this
/-- the power, worked out fast -/
def pm (n : Nat) : Nat → Nat → Nat → Nat
  | 0, _, _ => 1 % n
  | f + 1, a, k => if k = 0 then 1 % n else if k % 2 = 1 then a * pm n f (a * a % n) (k / 2) % n else pm n f (a * a % n) (k / 2)
theorem powmod (a n : Nat) : ∀ k, (a % n) ^ k % n = a ^ k % n := fun k => (Nat.pow_mod a k n).symm
theorem pm_eq (n : Nat) : ∀ f a k, k < 2 ^ f → pm n f a k = a ^ k % n
  | 0, a, k, h => by
    have : k = 0 := by omega
    subst this
    rfl
  | f + 1, a, k, h => by
    unfold pm
    by_cases k0 : k = 0
    · rw [if_pos k0, k0, Nat.pow_zero]
    · rw [if_neg k0]
      have hk : k / 2 < 2 ^ f := by rw [Nat.pow_succ] at h; omega
      rw [pm_eq n f _ _ hk]
      have e2 : (a * a % n) ^ (k / 2) % n = a ^ (2 * (k / 2)) % n := by
        rw [powmod, Nat.pow_mul, Nat.pow_two]
      by_cases o : k % 2 = 1
      · rw [if_pos o, e2]
        rw [Nat.mul_mod, Nat.mod_mod, ← Nat.mul_mod, Nat.mul_comm, ← Nat.pow_succ]
        congr 2
        omega
      · rw [if_neg o, e2]
        congr 2
        omega
theorem exists_prime (n : Nat) (h : 2 ≤ n) : ∃ r, PrimeN r ∧ r ∣ n := by
  induction n using Nat.strongRecOn with
  | ind n ih =>
    by_cases hp : ∀ d, d ∣ n → d = 1 ∨ d = n
    · exact ⟨n, ⟨h, hp⟩, Nat.dvd_refl n⟩
    · obtain ⟨d, hd⟩ := Classical.not_forall.mp hp
      have hd' := Classical.not_imp.mp hd
      have d0 : 0 < d := Nat.pos_of_dvd_of_pos hd'.1 (by omega)
      have dl := Nat.le_of_dvd (by omega) hd'.1
      have h12 := not_or.mp hd'.2
      obtain ⟨r, h1, h2⟩ := ih d (by omega) (by omega)
      exact ⟨r, h1, Nat.dvd_trans h2 hd'.1⟩
theorem pow_one_of {a r x k : Nat} (hr : 2 ≤ r) (h : a ^ x % r = 1) : a ^ (x * k) % r = 1 := by
  rw [Nat.pow_mul, ← powmod, h, Nat.one_pow]
  exact Nat.mod_eq_of_lt (by omega)
theorem pow_one_gcd {a r : Nat} (hr : 2 ≤ r) : ∀ x y, a ^ x % r = 1 → a ^ y % r = 1 → a ^ (Nat.gcd x y) % r = 1 := by
  intro x y
  induction x, y using Nat.gcd.induction with
  | H0 y => intro _ h; rwa [Nat.gcd_zero_left]
  | H1 x y hx ih =>
    intro h1 h2
    rw [Nat.gcd_rec]
    refine ih ?_ h1
    have e : y = x * (y / x) + y % x := (Nat.div_add_mod y x).symm
    rw [e, Nat.pow_add, Nat.mul_mod, pow_one_of hr h1, Nat.one_mul, Nat.mod_mod] at h2
    exact h2
theorem prime_of_pr {q : Nat} (hq : PrimeN q) : ∀ qs : List Nat, (∀ x ∈ qs, PrimeN x) → q ∣ pr qs → q ∈ qs
  | [], _, h => by
    have := Nat.le_of_dvd (by decide) h
    have := hq.1
    have e : pr [] = 1 := rfl
    omega
  | x :: qs, hx, h => by
    rcases hq.euclid (show q ∣ x * pr qs from h) with h | h
    · rcases (hx x List.mem_cons_self).2 q h with h | h
      · have := hq.1; omega
      · rw [h]; exact List.mem_cons_self
    · exact List.mem_cons_of_mem _ (prime_of_pr hq qs (fun y hy => hx y (List.mem_cons_of_mem _ hy)) h)
/-- shown by a number of full order -/
theorem lucas {n a : Nat} (qs : List Nat) (hn : 2 ≤ n) (hq : ∀ q ∈ qs, PrimeN q) (he : pr qs = n - 1) (h1 : a ^ (n - 1) % n = 1) (h2 : ∀ q ∈ qs, Nat.gcd (a ^ ((n - 1) / q) % n + n - 1) n = 1) : PrimeN n := by
  obtain ⟨r, hr, hrn⟩ := exists_prime n hn
  have r2 := hr.1
  have modr : ∀ k, a ^ k % n % r = a ^ k % r := fun k => Nat.mod_mod_of_dvd _ hrn
  have hm : a ^ (n - 1) % r = 1 := by
    rw [← modr, h1]
    exact Nat.mod_eq_of_lt (by omega)
  have har : ¬ r ∣ a := fun z => by
    have e : a ^ (n - 1) = a ^ (n - 2) * a := by rw [← Nat.pow_succ]; congr 1; omega
    have : r ∣ a ^ (n - 1) := by rw [e]; exact Nat.dvd_trans z (Nat.dvd_mul_left _ _)
    have := Nat.mod_eq_zero_of_dvd this
    omega
  have hf := fermatN hr har
  have hg := pow_one_gcd r2 _ _ hf hm
  have gd : Nat.gcd (r - 1) (n - 1) ∣ n - 1 := Nat.gcd_dvd_right _ _
  by_cases eg : Nat.gcd (r - 1) (n - 1) = n - 1
  · have : n - 1 ∣ r - 1 := eg ▸ Nat.gcd_dvd_left _ _
    have := Nat.le_of_dvd (by omega) this
    have := Nat.le_of_dvd (by omega) hrn
    have : r = n := by omega
    rwa [← this]
  · exfalso
    obtain ⟨k, hk⟩ := gd
    have k2 : 2 ≤ k := by
      have : k ≠ 0 := fun z => by rw [z, Nat.mul_zero] at hk; omega
      have : k ≠ 1 := fun z => by rw [z, Nat.mul_one] at hk; exact eg hk.symm
      omega
    obtain ⟨q, hqp, j, hj⟩ := exists_prime k k2
    have hqm : q ∈ qs := prime_of_pr hqp qs hq (by
      rw [he, hk, hj]
      exact ⟨Nat.gcd (r - 1) (n - 1) * j, by grind⟩)
    have e : (n - 1) / q = Nat.gcd (r - 1) (n - 1) * j := by
      have : n - 1 = q * (Nat.gcd (r - 1) (n - 1) * j) := by
        have : k = q * j := hj
        rw [this] at hk
        have e2 : Nat.gcd (r - 1) (n - 1) * (q * j) = q * (Nat.gcd (r - 1) (n - 1) * j) := by grind
        rw [← e2]
        exact hk
      generalize Nat.gcd (r - 1) (n - 1) * j = t at *
      rw [this]
      exact Nat.mul_div_cancel_left _ (by have := hqp.1; omega)
    have hone : a ^ ((n - 1) / q) % r = 1 := by rw [e]; exact pow_one_of r2 hg
    have hc := h2 q hqm
    have hx : r ∣ a ^ ((n - 1) / q) % n + n - 1 := by
      have h3 : (a ^ ((n - 1) / q) % n) % r = 1 := by rw [modr, hone]
      have h4 := Nat.div_add_mod (a ^ ((n - 1) / q) % n) r
      rw [h3] at h4
      obtain ⟨c, hc⟩ := hrn
      refine ⟨a ^ ((n - 1) / q) % n / r + c, ?_⟩
      rw [Nat.mul_add, ← hc]
      omega
    have := Nat.dvd_gcd hx hrn
    rw [hc] at this
    have := Nat.le_of_dvd (by decide) this
    omega
theorem prime_101 : PrimeN 101 := trialB_ok (m := 11) (by decide +kernel)
theorem prime_65537 : PrimeN 65537 := trialB_ok (m := 257) (by decide +kernel)
theorem prime_m31 : PrimeN 2147483647 := by
  refine lucas (a := 7) [2, 3, 3, 7, 11, 31, 151, 331] (by decide) (fun q hq => ?_) (by decide +kernel) ?_ (fun q hq => ?_)
  · have : ∀ q ∈ [2, 3, 3, 7, 11, 31, 151, 331], trialB q 20 = true := by decide +kernel
    exact trialB_ok (this q hq)
  · rw [← pm_eq _ 64 _ _ (by decide)]
    decide +kernel
  · have : ∀ q ∈ [2, 3, 3, 7, 11, 31, 151, 331], Nat.gcd (pm 2147483647 64 7 (2147483646 / q) + 2147483647 - 1) 2147483647 = 1 := by decide +kernel
    rw [← pm_eq _ 64 _ _ (Nat.lt_of_le_of_lt (Nat.div_le_self _ _) (by decide))]
    exact this q hq
theorem prime_m61 : PrimeN 2305843009213693951 := by
  refine lucas (a := 37) [2, 3, 3, 5, 5, 7, 11, 13, 31, 41, 61, 151, 331, 1321] (by decide) (fun q hq => ?_) (by decide +kernel) ?_ (fun q hq => ?_)
  · have : ∀ q ∈ [2, 3, 3, 5, 5, 7, 11, 13, 31, 41, 61, 151, 331, 1321], trialB q 40 = true := by decide +kernel
    exact trialB_ok (this q hq)
  · rw [← pm_eq _ 64 _ _ (by decide)]
    decide +kernel
  · have : ∀ q ∈ [2, 3, 3, 5, 5, 7, 11, 13, 31, 41, 61, 151, 331, 1321], Nat.gcd (pm 2305843009213693951 64 37 (2305843009213693950 / q) + 2305843009213693951 - 1) 2305843009213693951 = 1 := by decide +kernel
    rw [← pm_eq _ 64 _ _ (Nat.lt_of_le_of_lt (Nat.div_le_self _ _) (by decide))]
    exact this q hq
end MB
/-! rows of coefficients modulo p: a commutative ring -/
namespace MS
/-- products of rows -/
def conv : (Nat → Int) → (Nat → Int) → Nat → Int
  | u, v, 0 => u 0 * v 0
  | u, v, k + 1 => u 0 * v (k + 1) + conv (fun i => u (i + 1)) v k
theorem conv_add (u v w : Nat → Int) : ∀ k, conv u (fun i => v i + w i) k = conv u v k + conv u w k := by
  intro k
  induction k generalizing u with
  | zero => show u 0 * (v 0 + w 0) = u 0 * v 0 + u 0 * w 0; grind
  | succ k ih =>
    show u 0 * (v (k + 1) + w (k + 1)) + conv _ _ k = u 0 * v (k + 1) + conv _ _ k + (u 0 * w (k + 1) + conv _ _ k)
    rw [ih]
    grind
theorem conv_succ (u v : Nat → Int) : ∀ k, conv u v (k + 1) = v 0 * u (k + 1) + conv u (fun i => v (i + 1)) k := by
  intro k
  induction k generalizing u with
  | zero =>
    show u 0 * v 1 + u 1 * v 0 = v 0 * u 1 + u 0 * v 1
    grind
  | succ k ih =>
    show u 0 * v (k + 2) + conv (fun i => u (i + 1)) v (k + 1) = v 0 * u (k + 2) + (u 0 * v (k + 2) + conv (fun i => u (i + 1)) (fun i => v (i + 1)) k)
    rw [ih]
    grind
theorem conv_comm (u v : Nat → Int) : ∀ k, conv u v k = conv v u k := by
  intro k
  induction k generalizing u v with
  | zero => show u 0 * v 0 = v 0 * u 0; grind
  | succ k ih =>
    rw [conv_succ]
    show v 0 * u (k + 1) + conv u (fun i => v (i + 1)) k = v 0 * u (k + 1) + conv (fun i => v (i + 1)) u k
    rw [ih]
theorem conv_smul (a : Int) (u v : Nat → Int) : ∀ k, conv (fun i => a * u i) v k = a * conv u v k := by
  intro k
  induction k generalizing u with
  | zero => show a * u 0 * v 0 = a * (u 0 * v 0); grind
  | succ k ih =>
    show a * u 0 * v (k + 1) + conv (fun i => a * u (i + 1)) v k = a * (u 0 * v (k + 1) + conv (fun i => u (i + 1)) v k)
    rw [ih (fun i => u (i + 1))]
    grind
theorem conv_addl (u v w : Nat → Int) (k : Nat) : conv (fun i => u i + v i) w k = conv u w k + conv v w k := by
  rw [conv_comm, conv_add, conv_comm w u, conv_comm w v]
theorem conv_assoc (u v w : Nat → Int) : ∀ k, conv (conv u v) w k = conv u (conv v w) k := by
  intro k
  induction k generalizing u with
  | zero => show u 0 * v 0 * w 0 = u 0 * (v 0 * w 0); grind
  | succ k ih =>
    show u 0 * v 0 * w (k + 1) + conv (fun i => conv u v (i + 1)) w k = u 0 * (v 0 * w (k + 1) + conv (fun i => v (i + 1)) w k) + conv (fun i => u (i + 1)) (conv v w) k
    have e : (fun i => conv u v (i + 1)) = fun i => (fun i => u 0 * v (i + 1)) i + conv (fun i => u (i + 1)) v i := by
      funext i
      rfl
    rw [e, conv_addl, conv_smul (u 0) (fun i => v (i + 1)) w k, ih]
    grind
theorem conv_mod {p : Int} {u u' v v' : Nat → Int} (h : ∀ k, u k % p = u' k % p) (h2 : ∀ k, v k % p = v' k % p) : ∀ k, conv u v k % p = conv u' v' k % p := by
  intro k
  induction k generalizing u u' with
  | zero => exact MB.cong_mul (h 0) (h2 0)
  | succ k ih => exact MB.cong_add (MB.cong_mul (h 0) (h2 (k + 1))) (ih fun i => h (i + 1))
/-- a row modulo p -/
structure Ser (p : Int) where
  c : Nat → Int
  n : ∀ k, c k % p = c k
theorem Ser.ext {p : Int} {a b : Ser p} (h : ∀ k, a.c k = b.c k) : a = b := by
  cases a; cases b
  congr
  funext k
  exact h k
variable {p : Int}
def mk (p : Int) (u : Nat → Int) : Ser p := ⟨fun k => u k % p, fun k => Int.emod_emod_of_dvd _ (Int.dvd_refl p)⟩
theorem mk_eq {u v : Nat → Int} (h : ∀ k, u k % p = v k % p) : mk p u = mk p v := Ser.ext h
theorem eq_mk {u v : Nat → Int} (h : mk p u = mk p v) (k : Nat) : u k % p = v k % p := congrArg (fun a => a.c k) h
theorem mk_c (a : Ser p) : mk p a.c = a := Ser.ext a.n
def cst (n : Int) : Nat → Int := fun k => if k = 0 then n else 0
instance : Add (Ser p) := ⟨fun a b => mk p fun k => a.c k + b.c k⟩
instance : Mul (Ser p) := ⟨fun a b => mk p (conv a.c b.c)⟩
instance : Neg (Ser p) := ⟨fun a => mk p fun k => -a.c k⟩
instance : Sub (Ser p) := ⟨fun a b => a + -b⟩
instance : NatCast (Ser p) := ⟨fun n => mk p (cst n)⟩
instance : IntCast (Ser p) := ⟨fun n => mk p (cst n)⟩
instance (n : Nat) : OfNat (Ser p) n := ⟨mk p (cst n)⟩
instance : SMul Nat (Ser p) := ⟨fun n a => (n : Ser p) * a⟩
instance : SMul Int (Ser p) := ⟨fun n a => (n : Ser p) * a⟩
def npw (a : Ser p) : Nat → Ser p
  | 0 => 1
  | n + 1 => npw a n * a
instance : HPow (Ser p) Nat (Ser p) := ⟨npw⟩
theorem mk_add (u v : Nat → Int) : mk p (fun k => u k + v k) = mk p u + mk p v := mk_eq fun k => by
  show _ = (u k % p + v k % p) % p
  exact Int.add_emod ..
theorem mk_mul (u v : Nat → Int) : mk p (conv u v) = mk p u * mk p v := mk_eq fun k => conv_mod (fun k => (Int.emod_emod_of_dvd _ (Int.dvd_refl p)).symm) (fun k => (Int.emod_emod_of_dvd _ (Int.dvd_refl p)).symm) k
theorem mk_neg (u : Nat → Int) : mk p (fun k => -u k) = -mk p u := mk_eq fun k => by
  show _ = (-(u k % p)) % p
  have := MB.cong_mul (a := -1) (b := -1) (m := p) rfl (Int.emod_emod_of_dvd (u k) (Int.dvd_refl p)).symm
  rw [show -1 * u k = -u k by omega, show -1 * (u k % p) = -(u k % p) by omega] at this
  exact this
theorem rep (a : Ser p) : ∃ u, a = mk p u := ⟨a.c, (mk_c a).symm⟩
theorem add_comm' (a b : Ser p) : a + b = b + a := mk_eq fun k => by rw [Int.add_comm]
theorem conv_cst (n : Int) (u : Nat → Int) (k : Nat) : conv (cst n) u k = n * u k := by
  cases k with
  | zero => rfl
  | succ k =>
    have z : ∀ k, conv (fun _ => 0) u k = 0 := by
      intro k
      induction k with
      | zero => exact Int.zero_mul _
      | succ k ih => show 0 * _ + conv _ _ k = 0; rw [ih]; simp
    show n * u (k + 1) + conv (fun i => cst n (i + 1)) u k = n * u (k + 1)
    have : (fun i => cst n (i + 1)) = fun _ => 0 := by funext i; rfl
    rw [this, z, Int.add_zero]
theorem mul_comm' (a b : Ser p) : a * b = b * a := by
  obtain ⟨v, rfl⟩ := rep b
  obtain ⟨u, rfl⟩ := rep a
  rw [← mk_mul, ← mk_mul]
  exact mk_eq fun k => by rw [conv_comm]
theorem mul_one' (a : Ser p) : a * 1 = a := by
  obtain ⟨u, rfl⟩ := rep a
  show mk p u * mk p (cst 1) = mk p u
  rw [← mk_mul]
  exact mk_eq fun k => by rw [conv_comm, conv_cst, Int.one_mul]
theorem dist' (a b c : Ser p) : a * (b + c) = a * b + a * c := by
  obtain ⟨w, rfl⟩ := rep c
  obtain ⟨v, rfl⟩ := rep b
  obtain ⟨u, rfl⟩ := rep a
  rw [← mk_mul, ← mk_mul, ← mk_add, ← mk_mul, ← mk_add]
  exact mk_eq fun k => by rw [conv_add]
theorem zero_mul' (a : Ser p) : 0 * a = 0 := by
  obtain ⟨u, rfl⟩ := rep a
  show mk p (cst 0) * mk p u = mk p (cst 0)
  rw [← mk_mul]
  exact mk_eq fun k => by
    rw [conv_cst, Int.zero_mul]
    show _ = cst 0 k % p
    rw [show cst 0 k = 0 by unfold cst; split <;> rfl]
instance : Lean.Grind.CommRing (Ser p) where
  add_zero a := by
    obtain ⟨u, rfl⟩ := rep a
    show mk p u + mk p (cst 0) = mk p u
    rw [← mk_add]
    refine mk_eq fun k => ?_
    show (u k + cst 0 k) % p = _
    rw [show cst 0 k = 0 by unfold cst; split <;> rfl, Int.add_zero]
  add_comm := add_comm'
  add_assoc a b c := by
    obtain ⟨w, rfl⟩ := rep c
    obtain ⟨v, rfl⟩ := rep b
    obtain ⟨u, rfl⟩ := rep a
    rw [← mk_add, ← mk_add, ← mk_add, ← mk_add]
    exact mk_eq fun k => by rw [Int.add_assoc]
  mul_assoc a b c := by
    obtain ⟨w, rfl⟩ := rep c
    obtain ⟨v, rfl⟩ := rep b
    obtain ⟨u, rfl⟩ := rep a
    rw [← mk_mul, ← mk_mul, ← mk_mul, ← mk_mul]
    exact mk_eq fun k => by rw [conv_assoc]
  mul_comm := mul_comm'
  mul_one := mul_one'
  one_mul a := (mul_comm' 1 a).trans (mul_one' a)
  left_distrib := dist'
  right_distrib a b c := by rw [mul_comm', dist', mul_comm' c a, mul_comm' c b]
  zero_mul := zero_mul'
  mul_zero a := (mul_comm' a 0).trans (zero_mul' a)
  pow_zero a := rfl
  pow_succ a n := rfl
  ofNat_succ n := by
    show mk p (cst ((n + 1 : Nat) : Int)) = mk p (cst n) + mk p (cst 1)
    rw [← mk_add]
    refine mk_eq fun k => ?_
    congr 1
    unfold cst
    split
    · exact Int.natCast_succ n
    · rfl
  ofNat_eq_natCast n := rfl
  nsmul_eq_natCast_mul n a := rfl
  neg_add_cancel a := by
    obtain ⟨u, rfl⟩ := rep a
    show -mk p u + mk p u = mk p (cst 0)
    rw [← mk_neg, ← mk_add]
    refine mk_eq fun k => ?_
    rw [show cst 0 k = 0 by unfold cst; split <;> rfl]
    congr 1
    omega
  sub_eq_add_neg a b := rfl
  neg_zsmul n a := by
    obtain ⟨u, rfl⟩ := rep a
    show mk p (cst (-n)) * mk p u = -(mk p (cst n) * mk p u)
    rw [← mk_mul, ← mk_mul, ← mk_neg]
    refine mk_eq fun k => ?_
    rw [conv_cst, conv_cst]
    congr 1
    grind
  zsmul_natCast_eq_nsmul n a := rfl
  intCast_ofNat n := rfl
  intCast_neg n := by
    show mk p (cst (-n)) = -mk p (cst n)
    rw [← mk_neg]
    refine mk_eq fun k => ?_
    congr 1
    unfold cst
    split <;> rfl
end MS
/-! polynomials modulo p as lists of coefficients -/
namespace MS
variable {p : Int}
def co (f : List Int) : Nat → Int := fun k => f.getD k 0
def cl (p : Int) (f : List Int) : Ser p := mk p (co f)
def X (p : Int) : Ser p := mk p fun k => if k = 1 then 1 else 0
def C (p : Int) (a : Int) : Ser p := mk p (cst a)
theorem C_add (a b : Int) : C p (a + b) = C p a + C p b := by
  unfold C
  rw [← mk_add]
  exact mk_eq fun k => by congr 1; unfold cst; split <;> rfl
theorem C_neg (a : Int) : C p (-a) = -C p a := by
  unfold C
  rw [← mk_neg]
  exact mk_eq fun k => by congr 1; unfold cst; split <;> rfl
theorem C_sub (a b : Int) : C p (a - b) = C p a - C p b := by
  rw [Int.sub_eq_add_neg, C_add, C_neg]
  rfl
theorem C_mul (a b : Int) : C p (a * b) = C p a * C p b := by
  unfold C
  rw [← mk_mul]
  exact mk_eq fun k => by rw [conv_cst]; congr 1; unfold cst; split <;> simp
theorem C_zero : C p 0 = 0 := rfl
theorem C_one : C p 1 = 1 := rfl
theorem C_mod {a b : Int} (h : a % p = b % p) : C p a = C p b := mk_eq fun k => by
  unfold cst
  split
  · exact h
  · rfl
theorem C_emod (a : Int) : C p (a % p) = C p a := C_mod (Int.emod_emod_of_dvd _ (Int.dvd_refl p))
theorem C_inj {a b : Int} (h : C p a = C p b) : a % p = b % p := eq_mk h 0
theorem cl_nil : cl p [] = 0 := mk_eq fun k => by unfold cst; split <;> rfl
theorem cl_cons (a : Int) (f : List Int) : cl p (a :: f) = C p a + X p * cl p f := by
  unfold cl C X
  rw [← mk_mul, ← mk_add]
  refine mk_eq fun k => ?_
  congr 1
  cases k with
  | zero =>
    show a = a + 0 * co f 0
    omega
  | succ k =>
    show co f k = 0 + (0 * co f (k + 1) + conv (fun i => if i + 1 = 1 then 1 else 0) (co f) k)
    have : (fun i : Nat => if i + 1 = 1 then (1 : Int) else 0) = cst 1 := by
      funext i
      unfold cst
      by_cases h : i = 0
      · rw [if_pos h, if_pos (by omega)]
      · rw [if_neg h, if_neg (by omega)]
    rw [this, conv_cst]
    omega
theorem cl_snoc (f : List Int) (a : Int) : cl p (f ++ [a]) = cl p f + C p a * X p ^ f.length := by
  induction f with
  | nil =>
    rw [List.nil_append, cl_cons, cl_nil]
    show _ = _ + _ * X p ^ 0
    grind
  | cons b f ih =>
    rw [List.cons_append, cl_cons, cl_cons, ih]
    show _ = _ + _ * X p ^ (f.length + 1)
    grind
theorem cl_set : ∀ (f : List Int) (i : Nat) (v w : Int), f[i]? = some w → cl p (f.set i v) = cl p f + C p (v - w) * X p ^ i
  | [], i, v, w, h => by rw [List.getElem?_nil] at h; cases h
  | a :: f, 0, v, w, h => by
    cases h
    show cl p (v :: f) = _
    rw [cl_cons, cl_cons, C_sub]
    show _ = _ + _ * X p ^ 0
    grind
  | a :: f, i + 1, v, w, h => by
    rw [List.getElem?_cons_succ] at h
    show cl p (a :: f.set i v) = _
    rw [cl_cons, cl_cons, cl_set f i v w h]
    show _ = _ + _ * X p ^ (i + 1)
    grind
theorem cl_zeros : ∀ n : Nat, cl p (List.replicate n 0) = 0
  | 0 => cl_nil
  | n + 1 => by
    rw [List.replicate_succ, cl_cons, cl_zeros n, C_zero]
    grind
theorem co_cons_zero (a : Int) (f : List Int) : co (a :: f) 0 = a := rfl
theorem cl_map_mod : ∀ f : List Int, cl p (f.map fun v => v % p) = cl p f
  | [] => rfl
  | a :: f => by rw [List.map_cons, cl_cons, cl_cons, cl_map_mod f, C_emod]
theorem cl_map_mul (c : Int) : ∀ f : List Int, cl p (f.map fun v => c * v) = C p c * cl p f
  | [] => by rw [List.map_nil, cl_nil]; grind
  | a :: f => by
    rw [List.map_cons, cl_cons, cl_cons, cl_map_mul c f, C_mul]
    grind
theorem cl_app (f g : List Int) : cl p (f ++ g) = cl p f + X p ^ f.length * cl p g := by
  induction f with
  | nil =>
    rw [List.nil_append, cl_nil]
    show _ = _ + X p ^ 0 * _
    grind
  | cons b f ih =>
    rw [List.cons_append, cl_cons, cl_cons, ih]
    show _ = _ + X p ^ (f.length + 1) * _
    grind
/-- no zeros at the end -/
def Ends (f : List Int) : Prop := f.getLast? ≠ some 0
structure NF (p : Int) (f : List Int) : Prop where
  bd : ∀ c ∈ f, 0 ≤ c ∧ c < p
  last : f.getLast? ≠ some 0
theorem NF.nil : NF p [] := ⟨fun c h => (nomatch h), by simp⟩
theorem co_ge {f : List Int} {k : Nat} (h : f.length ≤ k) : co f k = 0 := by
  unfold co
  rw [List.getD_eq_getElem?_getD, List.getElem?_eq_none h]
  rfl
theorem co_lt {f : List Int} {k : Nat} (h : k < f.length) : co f k = f[k] := by
  unfold co
  rw [List.getD_eq_getElem?_getD, List.getElem?_eq_getElem h]
  rfl
theorem NF.cob {f : List Int} (h : NF p f) (p0 : 0 < p) (k : Nat) : 0 ≤ co f k ∧ co f k < p := by
  by_cases hk : k < f.length
  · rw [co_lt hk]; exact h.bd _ (List.getElem_mem hk)
  · rw [co_ge (by omega)]; omega
theorem NF.top {f : List Int} (h : NF p f) (hf : f ≠ []) : MS.co f (f.length - 1) ≠ 0 := by
  have hl : 0 < f.length := List.length_pos_iff.mpr hf
  rw [co_lt (by omega)]
  intro z
  apply h.last
  rw [List.getLast?_eq_getElem?, List.getElem?_eq_getElem (by omega), z]
theorem NF.inj {f g : List Int} (p0 : 0 < p) (hf : NF p f) (hg : NF p g) (h : cl p f = cl p g) : f = g := by
  have e : ∀ k, MS.co f k = MS.co g k := fun k => by
    have := eq_mk h k
    have h1 := hf.cob p0 k
    have h2 := hg.cob p0 k
    rwa [Int.emod_eq_of_lt h1.1 h1.2, Int.emod_eq_of_lt h2.1 h2.2] at this
  have le : ∀ {f g : List Int}, NF p f → (∀ k, MS.co f k = MS.co g k) → f.length ≤ g.length := fun {f g} hf e => by
    apply Nat.le_of_not_lt
    intro z
    have h1 := hf.top (fun y => by rw [y] at z; exact absurd z (Nat.not_lt_zero _))
    rw [e, co_ge (by omega)] at h1
    exact h1 rfl
  apply List.ext_getElem
  · have := le hf e
    have := le hg fun k => (e k).symm
    omega
  · intro i h1 h2
    have := e i
    rwa [co_lt h1, co_lt h2] at this
/-! ### degrees -/
def Dl (a : Ser p) (n : Nat) : Prop := ∀ k, n ≤ k → a.c k = 0
theorem Dl.cl (f : List Int) : Dl (cl p f) f.length := fun k hk => by
  show MS.co f k % p = 0
  rw [co_ge hk, Int.zero_emod]
theorem Dl.mono {a : Ser p} {n m : Nat} (h : Dl a n) (l : n ≤ m) : Dl a m := fun k hk => h k (by omega)
theorem Dl.add {a b : Ser p} {n : Nat} (h : Dl a n) (h2 : Dl b n) : Dl (a + b) n := fun k hk => by
  show (a.c k + b.c k) % p = 0
  rw [h k hk, h2 k hk]
  exact Int.zero_emod p
theorem Dl.neg {a : Ser p} {n : Nat} (h : Dl a n) : Dl (-a) n := fun k hk => by
  show (-a.c k) % p = 0
  rw [h k hk]
  exact Int.zero_emod p
theorem Dl.sub {a b : Ser p} {n : Nat} (h : Dl a n) (h2 : Dl b n) : Dl (a - b) n := h.add h2.neg
theorem Dl.zero {a : Ser p} (h : Dl a 0) : a = 0 := Ser.ext fun k => by
  rw [h k (Nat.zero_le k)]
  show _ = cst 0 k % p
  rw [show cst 0 k = 0 by unfold cst; split <;> rfl, Int.zero_emod]
theorem conv_top {u v : Nat → Int} {n : Nat} (hv : ∀ k, n < k → v k = 0) : ∀ m, (∀ k, m < k → u k = 0) → conv u v (m + n) = u m * v n := by
  intro m
  induction m generalizing u with
  | zero =>
    intro hu
    rw [Nat.zero_add]
    cases n with
    | zero => rfl
    | succ n =>
      show u 0 * v (n + 1) + conv (fun i => u (i + 1)) v n = _
      have : (fun i => u (i + 1)) = fun i => 0 * u i := by
        funext i
        rw [hu (i + 1) (by omega), Int.zero_mul]
      rw [this, conv_smul]
      omega
  | succ m ih =>
    intro hu
    rw [show m + 1 + n = (m + n) + 1 by omega]
    show u 0 * v (m + n + 1) + conv (fun i => u (i + 1)) v (m + n) = _
    rw [ih (u := fun i => u (i + 1)) (fun k hk => hu (k + 1) (by omega)), hv (m + n + 1) (by omega)]
    omega
theorem top_mul {a b : Ser p} {m n : Nat} (ha : Dl a (m + 1)) (hb : Dl b (n + 1)) : (a * b).c (m + n) = a.c m * b.c n % p := by
  show conv a.c b.c (m + n) % p = _
  rw [conv_top (fun k hk => hb k (by omega)) m fun k hk => ha k (by omega)]
theorem Dl.mul {a b : Ser p} : ∀ {m n : Nat}, Dl a (m + 1) → Dl b (n + 1) → Dl (a * b) (m + n + 1) := fun {m n} ha hb k hk => by
  have := top_mul (m := m + (k - (m + n))) (n := n) (ha.mono (by omega)) hb
  rw [show m + (k - (m + n)) + n = k by omega, ha _ (by omega), Int.zero_mul, Int.zero_emod] at this
  exact this
theorem prime_mul {x y : Int} (hp : MB.PrimeI p) (h : x * y % p = 0) : x % p = 0 ∨ y % p = 0 := by
  have hd := Int.dvd_of_emod_eq_zero h
  have hg : (Int.gcd p x : Nat) ∣ p.toNat := by
    have : ((Int.gcd p x : Nat) : Int) ∣ ((p.toNat : Nat) : Int) := by
      rw [show ((p.toNat : Nat) : Int) = p by have := hp.1; omega]
      exact Int.gcd_dvd_left _ _
    exact Int.natCast_dvd_natCast.mp this
  rcases (MB.PrimeN.of hp).2 _ hg with h1 | h1
  · exact .inr (Int.emod_eq_zero_of_dvd (MB.dvd_of_gcd_one h1 hd))
  · left
    have : ((Int.gcd p x : Nat) : Int) ∣ x := Int.gcd_dvd_right _ _
    rw [h1, show ((p.toNat : Nat) : Int) = p by have := hp.1; omega] at this
    exact Int.emod_eq_zero_of_dvd this
/-- a product that is shorter than a factor -/
theorem zero_of_short {D G : Ser p} {n : Nat} (hp : MB.PrimeI p) (hG : Dl G (n + 1)) (ht : G.c n ≠ 0) (h : Dl (D * G) n) : ∀ N, Dl D N → D = 0
  | 0, hD => hD.zero
  | N + 1, hD => by
    refine zero_of_short hp hG ht h N fun k hk => ?_
    by_cases hk' : k = N
    · subst hk'
      have := top_mul hD hG
      rw [h _ (by omega)] at this
      rcases prime_mul hp this.symm with z | z
      · rwa [D.n] at z
      · rw [G.n] at z
        exact absurd z ht
    · exact hD k (by omega)
theorem NF.ctop {f : List Int} (h : NF p f) (p0 : 0 < p) (hf : f ≠ []) : (MS.cl p f).c (f.length - 1) ≠ 0 := by
  show MS.co f (f.length - 1) % p ≠ 0
  have := h.cob p0 (f.length - 1)
  rw [Int.emod_eq_of_lt this.1 this.2]
  exact h.top hf
theorem div_uniq {g q q' r r' : List Int} (hp : MB.PrimeI p) (hg : NF p g) (g0 : g ≠ []) (hr : r.length < g.length) (hr' : r'.length < g.length) (h : cl p q * cl p g + cl p r = cl p q' * cl p g + cl p r') : cl p q = cl p q' ∧ cl p r = cl p r' := by
  have p0 : 0 < p := by have := hp.1; omega
  have e : (cl p q - cl p q') * cl p g = cl p r' - cl p r := by grind
  have hn : g.length = (g.length - 1) + 1 := by omega
  have hG : Dl (cl p g) (g.length - 1 + 1) := by rw [← hn]; exact Dl.cl g
  have hs : Dl ((cl p q - cl p q') * cl p g) (g.length - 1) := by
    rw [e]
    exact ((Dl.cl r').mono (by omega)).sub ((Dl.cl r).mono (by omega))
  have z := zero_of_short hp hG (hg.ctop p0 g0) hs (q.length + q'.length) (((Dl.cl q).mono (by omega)).sub ((Dl.cl q').mono (by omega)))
  have z1 : cl p q = cl p q' := by grind
  refine ⟨z1, ?_⟩
  rw [z1] at h
  grind
/-! ### trimming -/
theorem NF.trim : ∀ (n : Nat) (f : List Int), f.length = n → (∀ c ∈ f, 0 ≤ c ∧ c < p) → ∃ g, NF p g ∧ MS.cl p g = MS.cl p f ∧ g.length ≤ f.length
  | 0, f, hn, _ => by
    have : f = [] := List.eq_nil_of_length_eq_zero hn
    subst this
    exact ⟨[], NF.nil, rfl, Nat.le_refl _⟩
  | n + 1, f, hn, hb => by
    by_cases h : f.getLast? = some 0
    · obtain ⟨g, rfl⟩ := List.getLast?_eq_some_iff.mp h
      rw [List.length_append] at hn
      obtain ⟨g', h1, h2, h3⟩ := NF.trim n g (by simpa using hn) fun c hc => hb c (List.mem_append_left _ hc)
      refine ⟨g', h1, ?_, by rw [List.length_append]; omega⟩
      rw [h2, cl_snoc, C_zero]
      grind
    · exact ⟨f, ⟨hb, h⟩, rfl, Nat.le_refl _⟩
end MS
/-! what the walks of the polynomial defs lean on -/
namespace MS
variable {p : Int}
theorem getLast_co {f : List Int} {v : Int} (h : f.getLast? = some v) : f[f.length - 1]? = some v := by
  rw [List.getLast?_eq_getElem?] at h; exact h
theorem cl_tab (n : Nat) (u : Nat → Int) (h : ∀ k, n ≤ k → u k = 0) : cl p ((List.range n).map u) = mk p u := mk_eq fun k => by
  congr 1
  by_cases hk : k < n
  · rw [co_lt (by rw [List.length_map, List.length_range]; exact hk), List.getElem_map, List.getElem_range]
  · rw [co_ge (by rw [List.length_map, List.length_range]; omega), h k (by omega)]
theorem cl_pad (f : List Int) (n : Nat) : cl p (f ++ List.replicate n 0) = cl p f := by
  rw [cl_app, cl_zeros]
  grind
theorem C_neg1 : C p (p - 1) = -1 := by
  rw [C_sub, C_one, show C p p = C p 0 from C_mod (by rw [Int.emod_self, Int.zero_emod]), C_zero]
  grind
theorem take_cl {f : List Int} {j : Nat} {c : Int} (h : f[j]? = some c) : cl p (f.take (j + 1)) = cl p (f.take j) + C p c * X p ^ j := by
  have hj : j < f.length := (List.getElem?_eq_some_iff.mp h).1
  rw [List.take_add_one, h]
  show cl p (f.take j ++ [c]) = _
  rw [cl_snoc, List.length_take, Nat.min_eq_left (by omega)]
theorem NF.len {r : List Int} {n : Nat} (p0 : 0 < p) (h : NF p r) (hd : Dl (MS.cl p r) n) : r.length ≤ n := by
  apply Nat.le_of_not_lt
  intro z
  have hr : r ≠ [] := fun e => by rw [e] at z; exact absurd z (Nat.not_lt_zero _)
  exact h.ctop p0 hr (hd _ (by omega))
theorem Dl.of_zero {f : List Int} {n : Nat} (h : ∀ k, n ≤ k → MS.co f k = 0) : Dl (MS.cl p f) n := fun k hk => by
  show MS.co f k % p = 0
  rw [h k hk, Int.zero_emod]
theorem co_some {f : List Int} {k : Nat} {v : Int} (h : f[k]? = some v) : co f k = v := by
  unfold co
  rw [List.getD_eq_getElem?_getD, h]
  rfl
theorem C_small {v : Int} (h0 : 0 ≤ v) (h1 : v < p) (h : C p v = 0) : v = 0 := by
  have := C_inj (h.trans C_zero.symm)
  rwa [Int.zero_emod, Int.emod_eq_of_lt h0 h1] at this
abbrev Sm (f : List Int) : Prop := ∀ c ∈ f, -(2 ^ 64) < c ∧ c < 2 ^ 64
theorem NF.sm {f : List Int} (h : NF p f) (h1 : p < 2 ^ 62) : Sm f := fun c hc => by
  have := h.bd c hc
  omega
/-! ### finite rows, divisors -/
def Fi (a : Ser p) : Prop := ∃ n, Dl a n
theorem Fi.cl (f : List Int) : Fi (MS.cl p f) := ⟨_, Dl.cl f⟩
theorem Fi.add {a b : Ser p} : Fi a → Fi b → Fi (a + b) := fun ⟨n, h⟩ ⟨m, h2⟩ => ⟨max n m, (h.mono (by omega)).add (h2.mono (by omega))⟩
theorem Fi.neg {a : Ser p} : Fi a → Fi (-a) := fun ⟨n, h⟩ => ⟨n, h.neg⟩
theorem Fi.sub {a b : Ser p} (h : Fi a) (h2 : Fi b) : Fi (a - b) := h.add h2.neg
theorem Fi.mul {a b : Ser p} : Fi a → Fi b → Fi (a * b) := fun ⟨n, h⟩ ⟨m, h2⟩ => ⟨n + m + 1, (h.mono (Nat.le_succ n)).mul (h2.mono (Nat.le_succ m))⟩
theorem Fi.C (c : Int) : Fi (MS.C p c) := ⟨1, fun k hk => by
  show cst c k % p = 0
  unfold cst
  rw [if_neg (by omega), Int.zero_emod]⟩
theorem Fi.zero : Fi (0 : Ser p) := Fi.C 0
theorem Fi.one : Fi (1 : Ser p) := Fi.C 1
def Dv (d f : Ser p) : Prop := ∃ q, Fi q ∧ f = q * d
theorem Dv.refl (d : Ser p) : Dv d d := ⟨1, Fi.one, by grind⟩
theorem Dv.zero (d : Ser p) : Dv d 0 := ⟨0, Fi.zero, by grind⟩
theorem Dv.trans {a b c : Ser p} : Dv a b → Dv b c → Dv a c := fun ⟨q, h, e⟩ ⟨r, h2, e2⟩ => ⟨r * q, h2.mul h, by rw [e2, e]; grind⟩
theorem Dv.add {d a b : Ser p} : Dv d a → Dv d b → Dv d (a + b) := fun ⟨q, h, e⟩ ⟨r, h2, e2⟩ => ⟨q + r, h.add h2, by rw [e2, e]; grind⟩
theorem Dv.mul {d a b : Ser p} (hb : Fi b) : Dv d a → Dv d (b * a) := fun ⟨q, h, e⟩ => ⟨b * q, hb.mul h, by rw [e]; grind⟩
theorem cl_zero {f : List Int} (p0 : 0 < p) (h : NF p f) (e : MS.cl p f = 0) : f = [] := h.inj p0 NF.nil (e.trans cl_nil.symm)
/-- a product is at least as long as its factor -/
theorem len_le {f d : List Int} {q : Ser p} (hp : MB.PrimeI p) (hf : NF p f) (hd : NF p d) (f0 : f ≠ []) (hq : Fi q) (e : MS.cl p f = q * MS.cl p d) : d.length ≤ f.length := by
  have p0 : 0 < p := by have := hp.1; omega
  apply Nat.le_of_not_lt
  intro z
  have d0 : d ≠ [] := fun y => by rw [y] at z; exact absurd z (Nat.not_lt_zero _)
  have hG : Dl (MS.cl p d) (d.length - 1 + 1) := (Dl.cl d).mono (by omega)
  obtain ⟨n, hn⟩ := hq
  have := zero_of_short hp hG (hd.ctop p0 d0) (D := q) (by rw [← e]; exact (Dl.cl f).mono (by omega)) n hn
  rw [this] at e
  exact f0 (cl_zero p0 hf (by rw [e]; grind))
/-- the remainder of a multiple -/
theorem rest_zero {f g r : List Int} {q : Ser p} (hp : MB.PrimeI p) (hg : NF p g) (hr : NF p r) (hl : r.length < g.length) (hq : Fi q) (e : MS.cl p f = q * MS.cl p g + MS.cl p r) (hd : Dv (MS.cl p g) (MS.cl p f)) : r = [] := by
  have p0 : 0 < p := by have := hp.1; omega
  obtain ⟨q', hq', e'⟩ := hd
  have g0 : g ≠ [] := fun y => by rw [y] at hl; exact absurd hl (Nat.not_lt_zero _)
  by_cases r0 : r = []
  · exact r0
  · exfalso
    have := len_le hp hr hg r0 (hq'.sub hq) (by rw [e'] at e; grind)
    omega
theorem rest_uniq {g r r' : List Int} {q q' : Ser p} (hp : MB.PrimeI p) (hg : NF p g) (hr : NF p r) (hr' : NF p r') (hl : r.length < g.length) (hl' : r'.length < g.length) (hq : Fi q) (hq' : Fi q') (e : q * MS.cl p g + MS.cl p r = q' * MS.cl p g + MS.cl p r') : r = r' := by
  have p0 : 0 < p := by have := hp.1; omega
  have g0 : g ≠ [] := fun y => by rw [y] at hl; exact absurd hl (Nat.not_lt_zero _)
  have hG : Dl (MS.cl p g) (g.length - 1 + 1) := (Dl.cl g).mono (by omega)
  obtain ⟨n, hn⟩ := hq.sub hq'
  have z := zero_of_short hp hG (hg.ctop p0 g0) (D := q - q') (n := g.length - 1) (by
    have : (q - q') * MS.cl p g = MS.cl p r' - MS.cl p r := by grind
    rw [this]
    exact ((Dl.cl r').mono (by omega)).sub ((Dl.cl r).mono (by omega))) n hn
  have : q = q' := by grind
  subst this
  exact hr.inj p0 hr' (by grind)
/-- d: a monic greatest common divisor (or nothing) -/
structure Gcd (p : Int) (f g d : List Int) : Prop where
  nf : NF p d
  mon : d = [] ∨ d.getLast? = some 1
  df : Dv (MS.cl p d) (MS.cl p f)
  dg : Dv (MS.cl p d) (MS.cl p g)
  ex : ∃ a b : Ser p, Fi a ∧ Fi b ∧ MS.cl p d = a * MS.cl p f + b * MS.cl p g
theorem Gcd.great {f g d : List Int} (h : Gcd p f g d) {c : Ser p} (h1 : Dv c (MS.cl p f)) (h2 : Dv c (MS.cl p g)) : Dv c (MS.cl p d) := by
  obtain ⟨a, b, ha, hb, e⟩ := h.ex
  rw [e]
  exact (h1.mul ha).add (h2.mul hb)
theorem last_c {d : List Int} {v : Int} (h : d.getLast? = some v) : co d (d.length - 1) = v := co_some (getLast_co h)
theorem mon_uniq {d d' : List Int} (hp : MB.PrimeI p) (h : NF p d) (h' : NF p d') (m : d = [] ∨ d.getLast? = some 1) (m' : d' = [] ∨ d'.getLast? = some 1) (e : Dv (MS.cl p d) (MS.cl p d')) (e' : Dv (MS.cl p d') (MS.cl p d)) : d = d' := by
  have p0 : 0 < p := by have := hp.1; omega
  obtain ⟨q, hq, e⟩ := e
  obtain ⟨q', hq', e'⟩ := e'
  by_cases d0 : d = []
  · rw [d0, cl_nil] at e
    rw [d0, cl_zero p0 h' (by rw [e]; grind)]
  · by_cases d0' : d' = []
    · rw [d0', cl_nil] at e'
      exact absurd (cl_zero p0 h (by rw [e']; grind)) d0
    · have l1 := len_le hp h' h d0' hq e
      have l2 := len_le hp h h' d0 hq' e'
      have hl : d.length = d'.length := by omega
      have hn : 0 < d.length := List.length_pos_iff.mpr d0
      have hG : Dl (MS.cl p d) (d.length - 1 + 1) := (Dl.cl d).mono (by omega)
      obtain ⟨n, hn'⟩ := hq.sub Fi.one
      have z := zero_of_short hp hG (h.ctop p0 d0) (D := q - 1) (n := d.length - 1) (by
        have : (q - 1) * MS.cl p d = MS.cl p d' - MS.cl p d := by rw [e]; grind
        rw [this]
        intro k hk
        by_cases e1 : k = d.length - 1
        · show (co d' k % p + (-(co d k % p)) % p) % p = 0
          rw [e1, last_c (m.resolve_left d0), hl, last_c (m'.resolve_left d0')]
          have := MB.cong_add (a := 1 % p) (b := 1) (c := (-(1 % p)) % p) (d := -1) (m := p) (Int.emod_emod_of_dvd _ (Int.dvd_refl p)) (by
            rw [Int.emod_emod_of_dvd _ (Int.dvd_refl p)]
            have := MB.cong_mul (a := -1) (b := -1) (m := p) rfl (Int.emod_emod_of_dvd 1 (Int.dvd_refl p))
            rw [show -1 * (1 % p) = -(1 % p) by omega, show (-1 : Int) * 1 = -1 by decide] at this
            exact this)
          rw [this]
          exact Int.zero_emod p
        · exact (((Dl.cl d').mono (by omega)).sub ((Dl.cl d).mono (by omega)) : Dl _ d.length) k (by omega)) n hn'
      have : q = 1 := by grind
      subst this
      exact h.inj p0 h' (by rw [e]; grind)
theorem Gcd.uniq {f g d d' : List Int} (hp : MB.PrimeI p) (h : Gcd p f g d) (h' : Gcd p f g d') : d = d' := mon_uniq hp h.nf h'.nf h.mon h'.mon (h'.great h.df h.dg) (h.great h'.df h'.dg)
theorem Gcd.symm {f g d : List Int} (h : Gcd p f g d) : Gcd p g f d := ⟨h.nf, h.mon, h.dg, h.df, let ⟨a, b, ha, hb, e⟩ := h.ex; ⟨b, a, hb, ha, by rw [e]; grind⟩⟩
theorem Fi.X : Fi (MS.X p) := ⟨2, fun k hk => by
  show (if k = 1 then (1 : Int) else 0) % p = 0
  rw [if_neg (by omega), Int.zero_emod]⟩
theorem Fi.pow {a : Ser p} (h : Fi a) : ∀ n : Nat, Fi (a ^ n)
  | 0 => Fi.one
  | n + 1 => (Fi.pow h n).mul h
theorem Fi.Xp (n : Nat) : Fi (MS.X p ^ n) := Fi.X.pow n
theorem scaled_last {as r : List Int} {m t : Int} (p2 : 2 ≤ p) (r1 : NF p r) (ht : C p t * C p m = 1) (r2 : MS.cl p r = C p t * MS.cl p (as ++ [m])) (r3 : r.length ≤ (as ++ [m]).length) : r.getLast? = some 1 := by
  have e := eq_mk (u := co r) (v := fun k => t * co (as ++ [m]) k) (p := p) (by
    show MS.cl p r = _
    rw [r2]
    unfold C MS.cl
    rw [← mk_mul]
    exact mk_eq fun k => by rw [conv_cst]) as.length
  have em : co (as ++ [m]) as.length = m := co_some (by rw [List.getElem?_append_right (Nat.le_refl _), Nat.sub_self]; rfl)
  have e2 : t * m % p = 1 % p := C_inj (by rw [C_mul, ht, C_one])
  have e : co r as.length % p = t * co (as ++ [m]) as.length % p := e
  rw [em, e2, Int.emod_eq_of_lt (by omega) (by omega : (1 : Int) < p)] at e
  have rb := r1.cob (by omega) as.length
  rw [Int.emod_eq_of_lt rb.1 rb.2] at e
  have hlt : as.length < r.length := by
    apply Nat.lt_of_not_le
    intro z
    rw [co_ge z] at e
    cases e
  rw [List.length_append, List.length_singleton] at r3
  rw [List.getLast?_eq_getElem?, show r.length - 1 = as.length by omega, List.getElem?_eq_getElem hlt]
  rw [co_lt hlt] at e
  rw [e]
theorem NF.one (p2 : 2 ≤ p) : NF p [1] := ⟨fun c hc => by rw [List.mem_singleton.mp hc]; omega, by simp⟩
theorem cl_one : MS.cl p [1] = 1 := by
  rw [cl_cons, cl_nil, C_one]
  grind
theorem last_at {f : List Int} (h : f ≠ []) : ∃ as m, f = as ++ [m] := ⟨f.dropLast, f.getLast h, (List.dropLast_concat_getLast h).symm⟩
theorem NF.lastb {as : List Int} {m : Int} (h : NF p (as ++ [m])) : 0 ≤ m ∧ m < p ∧ m ≠ 0 := by
  have := h.bd m (List.mem_append_right _ List.mem_cons_self)
  exact ⟨this.1, this.2, fun z => h.last (by rw [z, List.getLast?_append]; rfl)⟩
end MS
namespace DL
open PySem L2
theorem last_atI (as : List Int) (m : Int) : atI (dints (as ++ [m])) (-1) = some (.int m) := by
  rw [dints_snoc]
  exact atI_last _ _
end DL
namespace DL
open PySem L2
theorem kit_tt : kitB "tuple" "tuple" = some true := by decide +kernel
theorem pl_tuple (k : Nat) (ns : List Int) : pl (k + 1) (.tuple (dints ns)) = true := pl_ints k ns
theorem eqv_tup (f g : List Int) : PyData.eqv (.tuple (dints f)) (.tuple (dints g)) = decide (f = g) := by
  by_cases h : f = g
  · rw [decide_eq_true h, h, eqv_self (pl_tuple 0 g)]
  · rw [decide_eq_false h, eqv_ne (pl_tuple 0 f) (pl_tuple 0 g) fun z => h (dints_inj (PyData.tuple.inj z))]
theorem eqv_bl (a b : Bool) : PyData.eqv (.bool a) (.bool b) = (a == b) := rfl
theorem sh_tup (f : List Int) : SeqAt.shaped (.tuple (dints f)) = true := shp (pl_tuple 0 f)
end DL
namespace MS
theorem Gcd.nil_iff {p : Int} {f g d : List Int} (p0 : 0 < p) (hf : NF p f) (hg : NF p g) (h : Gcd p f g d) : d = [] ↔ f = [] ∧ g = [] := by
  constructor
  · rintro rfl
    obtain ⟨q, _, e⟩ := h.df
    obtain ⟨q', _, e'⟩ := h.dg
    rw [cl_nil] at e e'
    exact ⟨cl_zero p0 hf (by rw [e]; grind), cl_zero p0 hg (by rw [e']; grind)⟩
  · rintro ⟨rfl, rfl⟩
    obtain ⟨a, b, _, _, e⟩ := h.ex
    rw [cl_nil] at e
    exact cl_zero p0 h.nf (by rw [e]; grind)
end MS
/-! sums to a prime power; composition -/
namespace MS
def ch : Nat → Nat → Nat
  | _, 0 => 1
  | 0, _ + 1 => 0
  | n + 1, k + 1 => ch n k + ch n (k + 1)
theorem ch_gt : ∀ (n k : Nat), n < k → ch n k = 0
  | 0, 0, h => absurd h (Nat.not_lt_zero _)
  | 0, _ + 1, _ => rfl
  | n + 1, 0, h => absurd h (Nat.not_lt_zero _)
  | n + 1, k + 1, h => by
    show ch n k + ch n (k + 1) = 0
    rw [ch_gt n k (by omega), ch_gt n (k + 1) (by omega)]
theorem ch_self : ∀ n : Nat, ch n n = 1
  | 0 => rfl
  | n + 1 => by
    show ch n n + ch n (n + 1) = 1
    rw [ch_self n, ch_gt n (n + 1) (by omega)]
theorem ch_mul : ∀ n k : Nat, (k + 1) * ch (n + 1) (k + 1) = (n + 1) * ch n k
  | 0, 0 => rfl
  | 0, k + 1 => by
    show (k + 2) * (ch 0 (k + 1) + ch 0 (k + 2)) = 1 * ch 0 (k + 1)
    rw [show ch 0 (k + 1) = 0 from rfl, show ch 0 (k + 2) = 0 from rfl]
    simp
  | n + 1, 0 => by
    have ih : 1 * ch (n + 1) 1 = (n + 1) * ch n 0 := ch_mul n 0
    show 1 * (ch (n + 1) 0 + ch (n + 1) 1) = (n + 2) * ch (n + 1) 0
    have e0 : ∀ m, ch m 0 = 1 := fun m => by cases m <;> rfl
    rw [e0] at ih ⊢
    omega
  | n + 1, k + 1 => by
    have i1 := ch_mul n k
    have i2 := ch_mul n (k + 1)
    show (k + 2) * (ch (n + 1) (k + 1) + ch (n + 1) (k + 2)) = (n + 2) * ch (n + 1) (k + 1)
    have e : ch (n + 1) (k + 1) = ch n k + ch n (k + 1) := rfl
    generalize ch (n + 1) (k + 1) = x at *
    generalize ch (n + 1) (k + 2) = y at *
    generalize ch n k = u at *
    generalize ch n (k + 1) = v at *
    have e2 : (k + 2) * (x + y) = (k + 1) * x + x + (k + 1 + 1) * y := by grind
    rw [e2, i1, i2, e]
    grind
theorem ch_prime {q k : Nat} (hq : MB.PrimeN q) (h0 : 0 < k) (h1 : k < q) : q ∣ ch q k := by
  have := hq.1
  obtain ⟨n, rfl⟩ : ∃ n, q = n + 1 := ⟨q - 1, by omega⟩
  obtain ⟨j, rfl⟩ : ∃ j, k = j + 1 := ⟨k - 1, by omega⟩
  have h := ch_mul n j
  rcases hq.euclid (a := j + 1) (b := ch (n + 1) (j + 1)) ⟨ch n j, h⟩ with z | z
  · have := Nat.le_of_dvd (by omega) z
    omega
  · exact z
variable {p : Int}
def N (p : Int) (n : Nat) : Ser p := C p (n : Int)
theorem N_add (a b : Nat) : N p (a + b) = N p a + N p b := by
  unfold N
  rw [← C_add]
  rfl
def bs (a b : Ser p) (n : Nat) : Nat → Ser p
  | 0 => 0
  | m + 1 => bs a b n m + N p (ch n m) * a ^ m * b ^ (n - m)
theorem bs_step (a b : Ser p) (n : Nat) : ∀ m, m ≤ n → (a + b) * bs a b n (m + 1) = bs a b (n + 1) (m + 1) + N p (ch n m) * a ^ (m + 1) * b ^ (n - m)
  | 0, _ => by
    have e0 : ∀ m, ch m 0 = 1 := fun m => by cases m <;> rfl
    show (a + b) * (0 + N p (ch n 0) * a ^ 0 * b ^ (n - 0)) = 0 + N p (ch (n + 1) 0) * a ^ 0 * b ^ (n + 1) + N p (ch n 0) * a ^ 1 * b ^ n
    rw [e0, e0, Nat.sub_zero]
    grind
  | m + 1, h => by
    have ih := bs_step a b n m (by omega)
    have e1 : bs a b n (m + 1 + 1) = bs a b n (m + 1) + N p (ch n (m + 1)) * a ^ (m + 1) * b ^ (n - (m + 1)) := rfl
    have e2 : bs a b (n + 1) (m + 1 + 1) = bs a b (n + 1) (m + 1) + N p (ch (n + 1) (m + 1)) * a ^ (m + 1) * b ^ (n + 1 - (m + 1)) := rfl
    have e3 : ch (n + 1) (m + 1) = ch n m + ch n (m + 1) := rfl
    have e4 : n + 1 - (m + 1) = n - m := by omega
    obtain ⟨j, hj⟩ : ∃ j, n - m = j + 1 := ⟨n - m - 1, by omega⟩
    have e5 : n - (m + 1) = j := by omega
    rw [e1, e2, e3, e4, e5, N_add]
    rw [hj] at ih ⊢
    have : (a + b) * (bs a b n (m + 1) + N p (ch n (m + 1)) * a ^ (m + 1) * b ^ j) = (a + b) * bs a b n (m + 1) + (a + b) * (N p (ch n (m + 1)) * a ^ (m + 1) * b ^ j) := by grind
    rw [this, ih]
    grind
theorem binom (a b : Ser p) : ∀ n : Nat, (a + b) ^ n = bs a b n (n + 1)
  | 0 => by
    show (a + b) ^ 0 = 0 + N p 1 * a ^ 0 * b ^ 0
    have : N p 1 = 1 := C_one
    rw [this]
    grind
  | n + 1 => by
    have h := bs_step a b n n (Nat.le_refl _)
    have e : bs a b (n + 1) (n + 1 + 1) = bs a b (n + 1) (n + 1) + N p (ch (n + 1) (n + 1)) * a ^ (n + 1) * b ^ (n + 1 - (n + 1)) := rfl
    rw [e, ch_self, Nat.sub_self]
    rw [ch_self, Nat.sub_self] at h
    have : (a + b) ^ (n + 1) = (a + b) * (a + b) ^ n := by grind
    rw [this, binom a b n, h]
theorem N_dvd {n : Nat} (h : p ∣ (n : Int)) : N p n = 0 := by
  unfold N
  rw [← C_zero]
  exact C_mod (by rw [Int.emod_eq_zero_of_dvd h, Int.zero_emod])
theorem frob (hp : MB.PrimeI p) (a b : Ser p) : (a + b) ^ p.toNat = a ^ p.toNat + b ^ p.toNat := by
  have h2 := hp.1
  have hq := MB.PrimeN.of hp
  obtain ⟨q, hqe⟩ : ∃ q, q = p.toNat := ⟨_, rfl⟩
  rw [← hqe] at hq ⊢
  have q2 := hq.1
  have part : ∀ m, m + 1 ≤ q → bs a b q (m + 1) = b ^ q := by
    intro m
    induction m with
    | zero =>
      intro _
      show 0 + N p (ch q 0) * a ^ 0 * b ^ (q - 0) = _
      have e0 : ∀ m, ch m 0 = 1 := fun m => by cases m <;> rfl
      have : N p 1 = 1 := C_one
      rw [e0, this, Nat.sub_zero]
      grind
    | succ m ih =>
      intro hm
      have hd := ch_prime hq (k := m + 1) (by omega) (by omega)
      have hz : N p (ch q (m + 1)) = 0 := N_dvd (by
        have : ((q : Nat) : Int) ∣ ((ch q (m + 1) : Nat) : Int) := Int.natCast_dvd_natCast.mpr hd
        rwa [show ((q : Nat) : Int) = p by omega] at this)
      show bs a b q (m + 1) + N p (ch q (m + 1)) * a ^ (m + 1) * b ^ (q - (m + 1)) = _
      rw [ih (by omega), hz]
      grind
  rw [binom]
  obtain ⟨j, hj⟩ : ∃ j, q = j + 1 := ⟨q - 1, by omega⟩
  show bs a b q q + N p (ch q q) * a ^ q * b ^ (q - q) = _
  have h1 : bs a b q q = b ^ q := by
    have := part j (by omega)
    rwa [← hj] at this
  have : N p 1 = 1 := C_one
  rw [h1, ch_self, this, Nat.sub_self]
  grind
/-- f at G -/
def ev (G : Ser p) : List Int → Ser p
  | [] => 0
  | a :: f => C p a + G * ev G f
theorem ev_snoc (G : Ser p) (a : Int) : ∀ f : List Int, ev G (f ++ [a]) = ev G f + C p a * G ^ f.length
  | [] => by
    show C p a + G * 0 = 0 + C p a * G ^ 0
    grind
  | b :: f => by
    show C p b + G * ev G (f ++ [a]) = C p b + G * ev G f + C p a * G ^ (f.length + 1)
    rw [ev_snoc G a f]
    grind
theorem ev_take (G : Ser p) {f : List Int} {j : Nat} {c : Int} (h : f[j]? = some c) : ev G (f.take (j + 1)) = ev G (f.take j) + C p c * G ^ j := by
  have hj : j < f.length := (List.getElem?_eq_some_iff.mp h).1
  rw [List.take_add_one, h]
  show ev G (f.take j ++ [c]) = _
  rw [ev_snoc, List.length_take, Nat.min_eq_left (by omega)]
/-- r: the remainder of a by m -/
def Rem (p : Int) (m : List Int) (a : Ser p) (r : List Int) : Prop := NF p r ∧ r.length < m.length ∧ ∃ q, Fi q ∧ a = q * MS.cl p m + MS.cl p r
theorem Rem.uniq {m r r' : List Int} {a b : Ser p} (hp : MB.PrimeI p) (hm : NF p m) (h : Rem p m a r) (h' : Rem p m b r') (e : ∃ q, Fi q ∧ a = b + q * MS.cl p m) : r = r' := by
  obtain ⟨n1, l1, q1, f1, e1⟩ := h
  obtain ⟨n2, l2, q2, f2, e2⟩ := h'
  obtain ⟨q, hq, e⟩ := e
  exact rest_uniq hp hm n1 n2 l1 l2 f1 (f2.add hq) (by rw [← e1, e, e2]; grind)
/-- the ladder for polynomials -/
theorem pow_dbl (B : Ser p) : ∀ n : Nat, (B * B) ^ n = B ^ (n + n)
  | 0 => by grind
  | n + 1 => by
    have ih := pow_dbl B n
    have e : n + 1 + (n + 1) = (n + n) + 1 + 1 := by omega
    rw [e]
    have : (B * B) ^ (n + 1) = (B * B) ^ n * (B * B) := by grind
    rw [this, ih]
    generalize n + n = m
    grind
theorem pow_ad (B : Ser p) (m : Nat) : ∀ n : Nat, B ^ (m + n) = B ^ m * B ^ n
  | 0 => by
    rw [Nat.add_zero]
    grind
  | n + 1 => by
    have ih := pow_ad B m n
    rw [← Nat.add_assoc]
    have e1 : B ^ (m + n + 1) = B ^ (m + n) * B := by
      generalize m + n = k
      grind
    rw [e1, ih]
    grind
theorem pow_mulp (A B : Ser p) : ∀ n : Nat, (A * B) ^ n = A ^ n * B ^ n
  | 0 => by grind
  | n + 1 => by
    have ih := pow_mulp A B n
    have : (A * B) ^ (n + 1) = (A * B) ^ n * (A * B) := by grind
    rw [this, ih]
    grind
theorem pow_odd (R B : Ser p) {j : Int} (h0 : 0 ≤ j) (h : j % 2 = 1) : (R * B) * (B * B) ^ (j / 2).toNat = R * B ^ j.toNat := by
  have e : j.toNat = (j / 2).toNat + (j / 2).toNat + 1 := by omega
  rw [e, pow_dbl]
  generalize (j / 2).toNat + (j / 2).toNat = n
  have : B ^ (n + 1) = B ^ n * B := pow_ad B n 1 |>.trans (by grind)
  rw [this]
  grind
theorem pow_even (R B : Ser p) {j : Int} (h0 : 0 ≤ j) (h : ¬ j % 2 = 1) : R * (B * B) ^ (j / 2).toNat = R * B ^ j.toNat := by
  have e : j.toNat = (j / 2).toNat + (j / 2).toNat := by omega
  rw [e, pow_dbl]
end MS
/-! values of polynomials -/
namespace MS
variable {p : Int}
/-- a has the value v at x -/
def Ev (p : Int) (x : Int) (a : Ser p) (v : Int) : Prop := ∃ q, Fi q ∧ a = q * (X p - C p x) + C p v
theorem Ev.C (x c : Int) : Ev p x (MS.C p c) c := ⟨0, Fi.zero, by grind⟩
theorem Ev.add {x v w : Int} {a b : Ser p} : Ev p x a v → Ev p x b w → Ev p x (a + b) (v + w) := fun ⟨q, h, e⟩ ⟨r, h2, e2⟩ => ⟨q + r, h.add h2, by rw [e, e2, C_add]; grind⟩
theorem Ev.mul {x v w : Int} {a b : Ser p} (fb : Fi b) : Ev p x a v → Ev p x b w → Ev p x (a * b) (v * w) := fun ⟨q, h, e⟩ ⟨r, h2, e2⟩ => ⟨q * b + MS.C p v * r, (h.mul fb).add ((Fi.C v).mul h2), by
  have h1 : a * b = q * b * (X p - MS.C p x) + MS.C p v * b := by rw [e]; grind
  have h3 : MS.C p v * b = MS.C p v * r * (X p - MS.C p x) + MS.C p v * MS.C p w := by rw [e2]; grind
  rw [h1, h3, C_mul]
  grind⟩
theorem Ev.mod {x v w : Int} {a : Ser p} (h : Ev p x a v) (e : MS.C p v = MS.C p w) : Ev p x a w := let ⟨q, f, h⟩ := h; ⟨q, f, by rw [h, e]⟩
theorem Fi.ev {G : Ser p} (hG : Fi G) : ∀ f : List Int, Fi (MS.ev G f)
  | [] => Fi.zero
  | a :: f => (Fi.C a).add (hG.mul (Fi.ev hG f))
theorem Ev.x (x : Int) : Ev p x (X p) x := ⟨1, Fi.one, by grind⟩
/-- composition -/
theorem Ev.comp {x u : Int} {G : Ser p} (hG : Fi G) (h : Ev p x G u) : ∀ (f : List Int) (w : Int), MS.C p w = ev (MS.C p u) f → Ev p x (ev G f) w
  | [], w, e => ⟨0, Fi.zero, by rw [e]; show (0 : Ser p) = _ + 0; grind⟩
  | a :: f, w, e => by
    obtain ⟨v, hv⟩ : ∃ v, MS.C p v = ev (MS.C p u) f := evc u f
    have := (Ev.C (p := p) x a).add (h.mul (Fi.ev hG f) (Ev.comp hG h f v hv))
    refine this.mod ?_
    rw [e, C_add, C_mul, hv]
    rfl
where evc (u : Int) : ∀ f : List Int, ∃ v, MS.C p v = ev (MS.C p u) f
  | [] => ⟨0, rfl⟩
  | a :: f => let ⟨v, h⟩ := evc u f; ⟨a + u * v, by rw [C_add, C_mul, h]; rfl⟩
theorem ev_X : ∀ f : List Int, ev (X p) f = MS.cl p f
  | [] => cl_nil.symm
  | a :: f => by
    rw [cl_cons, ← ev_X f]
    rfl
theorem Ev.cl {x w : Int} {f : List Int} (e : MS.C p w = ev (MS.C p x) f) : Ev p x (MS.cl p f) w := ev_X (p := p) f ▸ Ev.comp Fi.X (Ev.x x) f w e
theorem Ev.uniq {x v w : Int} {a : Ser p} (hp : MB.PrimeI p) (h : Ev p x a v) (h' : Ev p x a w) : MS.C p v = MS.C p w := by
  obtain ⟨q, hq, e⟩ := h
  obtain ⟨r, hr, e'⟩ := h'
  have p2 := hp.1
  have d : (q - r) * (X p - MS.C p x) = MS.C p (w - v) := by rw [C_sub]; grind
  obtain ⟨n, hn⟩ := hq.sub hr
  have hG : Dl (X p - MS.C p x) (1 + 1) := by
    refine Dl.sub (fun k hk => ?_) (fun k hk => ?_)
    · show (if k = 1 then (1 : Int) else 0) % p = 0
      rw [if_neg (by omega), Int.zero_emod]
    · show cst x k % p = 0
      unfold cst
      rw [if_neg (by omega), Int.zero_emod]
  have hc : (X p - MS.C p x).c 1 ≠ 0 := by
    show ((if (1 : Nat) = 1 then (1 : Int) else 0) % p + (-(cst x 1 % p)) % p) % p ≠ 0
    rw [if_pos rfl, show cst x 1 = 0 from rfl, Int.zero_emod, Int.neg_zero, Int.zero_emod, Int.add_zero, Int.emod_emod_of_dvd _ (Int.dvd_refl p), Int.emod_eq_of_lt (by decide) (by omega)]
    decide
  have z := zero_of_short hp hG hc (D := q - r) (by
    rw [d]
    intro k hk
    show cst (w - v) k % p = 0
    unfold cst
    rw [if_neg (by omega), Int.zero_emod]) n hn
  rw [z] at d
  have : MS.C p (w - v) = 0 := by rw [← d]; grind
  rw [C_sub] at this
  grind
theorem C_eq {v w : Int} (hv : 0 ≤ v ∧ v < p) (hw : 0 ≤ w ∧ w < p) (h : MS.C p v = MS.C p w) : v = w := by
  have := C_inj h
  rwa [Int.emod_eq_of_lt hv.1 hv.2, Int.emod_eq_of_lt hw.1 hw.2] at this
theorem Dl.ev {G : Ser p} {m : Nat} (hG : Dl G (m + 1)) : ∀ (f : List Int) (a : Int), Dl (MS.ev G (a :: f)) (m * f.length + 1)
  | [], a => by
    have : MS.ev G [a] = MS.C p a := by show MS.C p a + G * 0 = _; grind
    rw [this]
    intro k hk
    show cst a k % p = 0
    unfold cst
    rw [if_neg (by omega), Int.zero_emod]
  | b :: f, a => by
    have ih := Dl.ev hG f b
    have h1 := hG.mul ih
    refine Dl.add (fun k hk => ?_) (h1.mono ?_)
    · show cst a k % p = 0
      unfold cst
      rw [if_neg (by omega), Int.zero_emod]
    · rw [List.length_cons, Nat.mul_succ]
      omega
end MS
/-! rows of polynomials; the division polynomials by their recurrence -/
namespace DL
open PySem L2
theorem cut_neg1 {α : Type} (xs : List α) : cutD xs none (some (-1)) = xs.dropLast := by
  unfold cutD
  rw [HT.sIx_none]
  show (xs.drop 0).take ((if (-1 : Int) < 0 then ((-1 : Int) + (xs.length : Int)).toNat else min (-1 : Int).toNat xs.length) - 0) = _
  rw [if_pos (by decide), List.drop_zero, Nat.sub_zero, List.dropLast_eq_take]
  congr 1
  omega
/-- polynomials as a row of tuples -/
def pls (fs : List (List Int)) : List D := fs.map fun f => .tuple (dints f)
theorem pls_len (fs : List (List Int)) : (pls fs).length = fs.length := List.length_map _
theorem pls_get {fs : List (List Int)} {i : Nat} {f : List Int} (h : fs[i]? = some f) : (pls fs)[i]? = some (.tuple (dints f)) := by
  unfold pls
  rw [List.getElem?_map, h]
  rfl
theorem pls_at {fs : List (List Int)} {i : Nat} {d : D} (h : (pls fs)[i]? = some d) : ∃ f, fs[i]? = some f ∧ d = .tuple (dints f) := by
  unfold pls at h
  rw [List.getElem?_map] at h
  obtain ⟨f, hf, rfl⟩ := Option.map_eq_some_iff.mp h
  exact ⟨f, hf, rfl⟩
theorem pls_atI {fs : List (List Int)} {i : Nat} {j : Int} {f : List Int} (e : j = i) (h : fs[i]? = some f) : atI (pls fs) j = some (.tuple (dints f)) := atI_nats e (pls_get h)
theorem pls_snoc (fs : List (List Int)) (f : List Int) : pls (fs ++ [f]) = pls fs ++ [.tuple (dints f)] := List.map_append
theorem pls_take (fs : List (List Int)) (n : Nat) : (pls fs).take n = pls (fs.take n) := List.map_take.symm
theorem pl_pls (fs : List (List Int)) : pl 2 (.list (pls fs)) = true := by
  show (pls fs).all (pl 1) = true
  rw [List.all_eq_true]
  intro d hd
  obtain ⟨f, _, rfl⟩ := List.mem_map.mp hd
  exact pl_tuple 0 f
end DL
namespace MS
variable {p : Int}
def at' (L : List (Ser p)) (k : Nat) : Ser p := L.getD k 0
/-- the next one, by those before -/
def nxt1 (S : Ser p) (L : List (Ser p)) : Ser p :=
  let n := L.length
  let m := n / 2
  if n % 2 = 0 then at' L m * (at' L (m + 2) * at' L (m - 1) * at' L (m - 1) - at' L (m - 2) * at' L (m + 1) * at' L (m + 1))
  else if m % 2 = 0 then S * (at' L (m + 2) * at' L m * at' L m * at' L m) - at' L (m - 1) * at' L (m + 1) * at' L (m + 1) * at' L (m + 1)
  else at' L (m + 2) * at' L m * at' L m * at' L m - S * (at' L (m - 1) * at' L (m + 1) * at' L (m + 1) * at' L (m + 1))
def psi (S : Ser p) (L0 : List (Ser p)) : Nat → List (Ser p)
  | 0 => L0
  | k + 1 => psi S L0 k ++ [nxt1 S (psi S L0 k)]
def cubS (p a b : Int) : Ser p := C p 16 * cl p [b, a, 0, 1] * cl p [b, a, 0, 1]
def thirdL (a b : Int) : List Int := [-a * a, 12 * b, 6 * a, 0, 3]
def fourthL (a b : Int) : List Int := [-8 * b * b - a * a * a, -4 * a * b, -5 * a * a, 20 * b, 5 * a, 0, 1]
def L0 (p a b : Int) : List (Ser p) := [0, 1, 1, cl p (thirdL a b), C p 2 * cl p (fourthL a b)]
theorem psi_len (S : Ser p) (L : List (Ser p)) : ∀ k, (psi S L k).length = L.length + k
  | 0 => rfl
  | k + 1 => by
    show (psi S L k ++ [_]).length = _
    rw [List.length_append, psi_len S L k]
    rfl
theorem psi_pre (S : Ser p) (L : List (Ser p)) (k : Nat) : ∀ j, psi S L k = (psi S L (k + j)).take (L.length + k)
  | 0 => by
    rw [← psi_len S L k]
    exact (List.take_length).symm
  | j + 1 => by
    show _ = (psi S L (k + j) ++ [_]).take _
    rw [List.take_append_of_le_length (by rw [psi_len]; omega)]
    exact psi_pre S L k j
/-- bounds of the lengths -/
def lb (n : Nat) : Nat := [0, 1, 1, 5, 7, 21, 29, 37, 51, 69, 85, 105, 123].getD n 0
/-- polynomials, normal, with these rows -/
structure PL (p : Int) (fs : List (List Int)) (L : List (Ser p)) : Prop where
  e : fs.map (MS.cl p) = L
  nf : ∀ f ∈ fs, NF p f
  len : ∀ (j : Nat) f, fs[j]? = some f → f.length ≤ lb j
theorem PL.at {fs : List (List Int)} {L : List (Ser p)} (h : PL p fs L) {j : Nat} (hj : j < fs.length) : ∃ f, fs[j]? = some f ∧ NF p f ∧ MS.cl p f = at' L j ∧ f.length ≤ lb j := by
  have e := List.getElem?_eq_getElem hj
  refine ⟨_, e, h.nf _ (List.getElem_mem hj), ?_, h.len j _ e⟩
  have : (fs.map (MS.cl p))[j]? = some (MS.cl p fs[j]) := by rw [List.getElem?_map, e]; rfl
  rw [h.e] at this
  unfold at'
  rw [List.getD_eq_getElem?_getD, this]
  rfl
theorem PL.length {fs : List (List Int)} {L : List (Ser p)} (h : PL p fs L) : fs.length = L.length := by rw [← h.e, List.length_map]
theorem PL.snoc {fs : List (List Int)} {L : List (Ser p)} (h : PL p fs L) {f : List Int} {s : Ser p} (nf : NF p f) (e : MS.cl p f = s) (l : f.length ≤ lb fs.length) : PL p (fs ++ [f]) (L ++ [s]) := ⟨by rw [List.map_append, h.e, ← e]; rfl, fun g hg => by
    rcases List.mem_append.mp hg with hg | hg
    · exact h.nf g hg
    · rw [List.mem_singleton.mp hg]; exact nf, fun j g hg => by
    by_cases hj : j < fs.length
    · rw [List.getElem?_append_left hj] at hg
      exact h.len j g hg
    · rw [List.getElem?_append_right (by omega)] at hg
      have : j - fs.length = 0 := by
        have := (List.getElem?_eq_some_iff.mp hg).1
        have e1 : [f].length = 1 := rfl
        omega
      rw [this] at hg
      have hg' : f = g := Option.some.inj hg
      rw [← hg', show j = fs.length by omega]
      exact l⟩
theorem PL.uniq {fs gs : List (List Int)} {L : List (Ser p)} (p0 : 0 < p) (h : PL p fs L) (h2 : PL p gs L) : fs = gs := by
  have l1 := h.length
  have l2 := h2.length
  apply List.ext_getElem (by omega)
  intro j h3 h4
  obtain ⟨f, ef, nf, cf, _⟩ := h.at h3
  obtain ⟨g, eg, ng, cg, _⟩ := h2.at h4
  rw [List.getElem?_eq_getElem h3] at ef
  rw [List.getElem?_eq_getElem h4] at eg
  rw [Option.some.inj ef, Option.some.inj eg]
  exact nf.inj p0 ng (cf.trans cg.symm)
theorem PL.take {fs : List (List Int)} {L : List (Ser p)} (h : PL p fs L) (n : Nat) : PL p (fs.take n) (L.take n) := ⟨by rw [List.map_take, h.e], fun f hf => h.nf f (List.mem_of_mem_take hf), fun j f hf => by
  by_cases hj : j < n
  · rw [List.getElem?_take_of_lt hj] at hf
    exact h.len j f hf
  · rw [List.getElem?_eq_none (by rw [List.length_take]; omega)] at hf
    cases hf⟩
/-- a product of some -/
def prodS (p : Int) (rows : List (List Int)) : Ser p := rows.foldl (fun a f => a * MS.cl p f) 1
theorem prodS_take {rows : List (List Int)} {i : Nat} {f : List Int} (h : rows[i]? = some f) : prodS p (rows.take (i + 1)) = prodS p (rows.take i) * MS.cl p f := by
  unfold prodS
  rw [List.take_add_one, h, List.foldl_append]
  rfl
def sumL (rows : List (List Int)) : Nat := (rows.map List.length).sum
theorem sumL_take {rows : List (List Int)} {i : Nat} {f : List Int} (h : rows[i]? = some f) : sumL (rows.take (i + 1)) = sumL (rows.take i) + f.length := by
  unfold sumL
  rw [List.take_add_one, h, List.map_append, List.sum_append]
  rfl
theorem lb_bd : ∀ n, n < 13 → lb n ≤ 123 := by decide
end MS
namespace MS
variable {p : Int}
theorem cl_single (a : Int) : MS.cl p [a] = C p a := by
  rw [cl_cons, cl_nil]
  grind
theorem lb_even : ∀ N, N < 13 → 5 ≤ N → N % 2 = 0 → lb (N / 2) + max (1 + (lb (N / 2 + 2) + (lb (N / 2 - 1) + (lb (N / 2 - 1) + 0)))) (1 + (lb (N / 2 - 2) + (lb (N / 2 + 1) + (lb (N / 2 + 1) + 0)))) ≤ lb N := by decide
theorem lb_odd0 : ∀ N, N < 13 → 5 ≤ N → ¬ N % 2 = 0 → N / 2 % 2 = 0 → max (1 + (lb (N / 2 + 2) + (lb (N / 2) + (lb (N / 2) + (lb (N / 2) + 0)))) + 10) (1 + (lb (N / 2 - 1) + (lb (N / 2 + 1) + (lb (N / 2 + 1) + (lb (N / 2 + 1) + 0))))) ≤ lb N := by decide
theorem lb_odd1 : ∀ N, N < 13 → 5 ≤ N → ¬ N % 2 = 0 → ¬ N / 2 % 2 = 0 → max (1 + (lb (N / 2 + 2) + (lb (N / 2) + (lb (N / 2) + (lb (N / 2) + 0))))) (1 + (lb (N / 2 - 1) + (lb (N / 2 + 1) + (lb (N / 2 + 1) + (lb (N / 2 + 1) + 0)))) + 10) ≤ lb N := by decide
theorem PL.it {fs : List (List Int)} {L : List (Ser p)} (h : PL p fs L) (l13 : fs.length ≤ 13) {z : Int} (j : Nat) (hz : z = j) (hj : j < fs.length) : ∃ f, L2.atI (DL.pls fs) z = some (.tuple (DL.dints f)) ∧ NF p f ∧ MS.cl p f = at' L j ∧ f.length ≤ lb j ∧ f.length ≤ 123 := by
  obtain ⟨f, ef, nf, cf, lf⟩ := h.at hj
  exact ⟨f, DL.pls_atI hz ef, nf, cf, lf, Nat.le_trans lf (lb_bd j (by omega))⟩
theorem PL.start {a b : Int} {r3 r4 : List Int} (p2 : 2 ≤ p) (n3 : NF p r3) (n4 : NF p r4) (e3 : MS.cl p r3 = MS.cl p (thirdL a b)) (e4 : MS.cl p r4 = C p 2 * MS.cl p (fourthL a b)) (l3 : r3.length ≤ 5) (l4 : r4.length ≤ 7) : PL p [[], [1], [1], r3, r4] (L0 p a b) := ⟨by
  show [MS.cl p [], MS.cl p [1], MS.cl p [1], MS.cl p r3, MS.cl p r4] = L0 p a b
  rw [cl_nil, cl_one, e3, e4]
  rfl, fun f hf => by
  rcases List.mem_cons.mp hf with rfl | hf
  · exact NF.nil
  rcases List.mem_cons.mp hf with rfl | hf
  · exact NF.one p2
  rcases List.mem_cons.mp hf with rfl | hf
  · exact NF.one p2
  rcases List.mem_cons.mp hf with rfl | hf
  · exact n3
  rw [List.mem_singleton.mp hf]
  exact n4, fun j f hf => by
  match j, hf with
  | 0, hf => rw [← Option.some.inj hf]; decide
  | 1, hf => rw [← Option.some.inj hf]; decide
  | 2, hf => rw [← Option.some.inj hf]; decide
  | 3, hf => rw [← Option.some.inj hf]; exact l3
  | 4, hf => rw [← Option.some.inj hf]; exact l4
  | j + 5, hf => cases hf⟩
end MS
namespace DL
open PySem L2
theorem noL_ints (r : List Int) : noL 1 (.tuple (dints r)) = true := by
  show (dints r).all (noL 0) = true
  rw [List.all_eq_true]
  intro d hd
  obtain ⟨i, _, rfl⟩ := List.mem_map.mp hd
  rfl
end DL
namespace MS
variable {p : Int}
theorem at_pre (S : Ser p) (L : List (Ser p)) (k j n : Nat) (h : n < L.length + k) : at' (psi S L k) n = at' (psi S L (k + j)) n := by
  rw [psi_pre S L k j]
  unfold at'
  rw [List.getD_eq_getElem?_getD, List.getD_eq_getElem?_getD, List.getElem?_take_of_lt h]
end MS
/-! points of a curve over a prime -/
namespace MC
open MS
variable {p a b : Int}
def inv (p v : Int) : Int := v ^ (p - 2).toNat % p
theorem C_zero_iff {x : Int} : C p x = 0 ↔ x % p = 0 := ⟨fun h => by
  have := C_inj (a := x) (b := 0) h
  rwa [Int.zero_emod] at this, fun h => by
  have : C p x = C p 0 := C_mod (by rw [h, Int.zero_emod])
  exact this⟩
theorem inv_mul {v : Int} (hp : MB.PrimeI p) (hv : v % p ≠ 0) : C p (inv p v) * C p v = 1 := by
  have h2 := hp.1
  have hd : ¬ p ∣ v := fun z => hv (Int.emod_eq_zero_of_dvd z)
  have := MB.fermat_inv hp hd
  rw [← C_mul, ← C_one]
  refine C_mod ?_
  rw [show (1 : Int) % p = 1 from Int.emod_eq_of_lt (by omega) (by omega)]
  exact this
theorem inv_bd {v : Int} (p0 : 0 < p) : 0 ≤ inv p v ∧ inv p v < p := ⟨Int.emod_nonneg _ (by omega), Int.emod_lt_of_pos _ p0⟩
theorem inv_uniq {v t : Int} (hp : MB.PrimeI p) (t0 : 0 ≤ t) (t1 : t < p) (h : C p t * C p v = 1) (hv : v % p ≠ 0) : t = inv p v := by
  have h2 := hp.1
  have h1 := inv_mul hp hv
  have e : C p t = C p (inv p v) := by grind
  have := C_inj e
  have b := inv_bd (p := p) (v := v) (by omega)
  rwa [Int.emod_eq_of_lt t0 t1, Int.emod_eq_of_lt b.1 b.2] at this
theorem inv_mod (v : Int) : inv p (v % p) = inv p v := MB.emod_pow v p _
theorem gcd_one {x : Int} (hp : MB.PrimeI p) (h : x % p ≠ 0) : Int.gcd p x = 1 := by
  have h2 := hp.1
  have hg : Int.gcd p x ∣ p.toNat := by
    have : ((Int.gcd p x : Nat) : Int) ∣ ((p.toNat : Nat) : Int) := by
      rw [show ((p.toNat : Nat) : Int) = p by omega]
      exact Int.gcd_dvd_left _ _
    exact Int.natCast_dvd_natCast.mp this
  rcases (MB.PrimeN.of hp).2 _ hg with h1 | h1
  · exact h1
  · exfalso
    apply h
    have : ((Int.gcd p x : Nat) : Int) ∣ x := Int.gcd_dvd_right _ _
    rw [h1, show ((p.toNat : Nat) : Int) = p by omega] at this
    exact Int.emod_eq_zero_of_dvd this
/-- what the law of the great common divisor gives -/
theorem inv_of_gcd {v t : Int} (hp : MB.PrimeI p) (hv : v % p ≠ 0) (t0 : 0 ≤ t) (t1 : t < p) (h : p ∣ t * v - (Int.gcd p v : Nat)) : t = inv p v := by
  rw [gcd_one hp hv] at h
  refine inv_uniq hp t0 t1 ?_ hv
  rw [← C_mul, ← C_one]
  exact C_mod ((Int.emod_eq_emod_iff_emod_sub_eq_zero).mpr (Int.emod_eq_zero_of_dvd h))
theorem C_prod {x y : Int} (hp : MB.PrimeI p) (h : C p x * C p y = 0) : C p x = 0 ∨ C p y = 0 := by
  rw [← C_mul, C_zero_iff] at h
  rcases prime_mul hp h with h | h
  · exact .inl (C_zero_iff.mpr h)
  · exact .inr (C_zero_iff.mpr h)
/-! ### points -/
abbrev Pt := Option (Int × Int)
def dpt : Pt → DL.D
  | none => .none
  | some (x, y) => .tuple [.int x, .int y]
structure Cu (p a b : Int) : Prop where
  hp : MB.PrimeI p
  p5 : 5 ≤ p
  p1 : p < 2 ^ 62
  a0 : 0 ≤ a
  a1 : a < p
  b0 : 0 ≤ b
  b1 : b < p
def side (p a b x : Int) : Int := (x * x * x + a * x + b) % p
def On (p a b : Int) : Pt → Prop
  | none => True
  | some (x, y) => 0 ≤ x ∧ x < p ∧ 0 ≤ y ∧ y < p ∧ y * y % p = side p a b x
def slp (p a : Int) (x1 y1 x2 y2 : Int) : Int := if x1 = x2 then (3 * x1 * x1 + a) * inv p (2 * y1 % p) % p else (y2 - y1) * inv p ((x2 - x1) % p) % p
def addM (p m x1 y1 x2 : Int) : Int × Int := ((m * m - x1 - x2) % p, (m * (x1 - (m * m - x1 - x2) % p) - y1) % p)
def addP (p a : Int) : Pt → Pt → Pt
  | none, Q => Q
  | P, none => P
  | some (x1, y1), some (x2, y2) => if x1 = x2 ∧ (y1 + y2) % p = 0 then none else some (addM p (slp p a x1 y1 x2 y2) x1 y1 x2)
def negP (p : Int) : Pt → Pt
  | none => none
  | some (x, y) => some (x, -y % p)
theorem add_none (P : Pt) : addP p a P none = P := by cases P <;> rfl
theorem onE {x y : Int} (h : y * y % p = side p a b x) : C p y * C p y = C p x * C p x * C p x + C p a * C p x + C p b := by
  rw [← C_mul, ← C_mul, ← C_mul, ← C_mul, ← C_add, ← C_add]
  exact C_mod h
theorem onI {x y : Int} (h : C p y * C p y = C p x * C p x * C p x + C p a * C p x + C p b) : y * y % p = side p a b x := by
  rw [← C_mul, ← C_mul, ← C_mul, ← C_mul, ← C_add, ← C_add] at h
  exact C_inj h
theorem C_eq {x y : Int} (x0 : 0 ≤ x) (x1 : x < p) (y0 : 0 ≤ y) (y1 : y < p) (h : C p x = C p y) : x = y := by
  have := C_inj h
  rwa [Int.emod_eq_of_lt x0 x1, Int.emod_eq_of_lt y0 y1] at this
/-- equal first coordinates, no opposite points -/
theorem same_y {x y1 y2 : Int} (hp : MB.PrimeI p) (h1 : On p a b (some (x, y1))) (h2 : On p a b (some (x, y2))) (hn : ¬ (y1 + y2) % p = 0) : y1 = y2 := by
  obtain ⟨_, _, u0, u1, e1⟩ := h1
  obtain ⟨_, _, v0, v1, e2⟩ := h2
  have e1 := onE e1
  have e2 := onE e2
  have : C p (y1 + y2) * C p (y1 - y2) = 0 := by
    rw [C_add, C_sub]
    grind
  rcases C_prod hp this with h | h
  · exact absurd (C_zero_iff.mp h) hn
  · rw [C_sub] at h
    exact C_eq u0 u1 v0 v1 (by grind)
theorem two_y {y : Int} (hp : MB.PrimeI p) (hn : ¬ (y + y) % p = 0) : 2 * y % p ≠ 0 := by
  rwa [show 2 * y = y + y by omega]
theorem sub_ne {x1 x2 : Int} (h10 : 0 ≤ x1) (h11 : x1 < p) (h20 : 0 ≤ x2) (h21 : x2 < p) (h : ¬ x1 = x2) : (x2 - x1) % p ≠ 0 := fun z => by
  have : C p (x2 - x1) = 0 := C_zero_iff.mpr z
  rw [C_sub] at this
  exact h (C_eq h10 h11 h20 h21 (by grind))
theorem mod_ne {x : Int} (h : x % p ≠ 0) : x % p % p ≠ 0 := by rwa [Int.emod_emod_of_dvd _ (Int.dvd_refl p)]
/-- the slope: what it is told by -/
theorem slp_eq {x1 y1 x2 y2 : Int} (hp : MB.PrimeI p) (h1 : On p a b (some (x1, y1))) (h2 : On p a b (some (x2, y2))) (hn : ¬ (x1 = x2 ∧ (y1 + y2) % p = 0)) :
    (x1 = x2 ∧ y1 = y2 ∧ 2 * y1 % p ≠ 0 ∧ C p (slp p a x1 y1 x2 y2) * (2 * C p y1) = 3 * C p x1 * C p x1 + C p a) ∨ (x1 ≠ x2 ∧ (x2 - x1) % p ≠ 0 ∧ C p (slp p a x1 y1 x2 y2) * (C p x2 - C p x1) = C p y2 - C p y1) := by
  have c2 : C p 2 = 2 := by
    have : C p (1 + 1) = C p 1 + C p 1 := C_add 1 1
    rw [C_one] at this
    have h2 : C p 2 = 1 + 1 := this
    rw [h2]
    grind
  have c3 : C p 3 = 3 := by
    have : C p (2 + 1) = C p 2 + C p 1 := C_add 2 1
    rw [C_one, c2] at this
    have h2 : C p 3 = 2 + 1 := this
    rw [h2]
    grind
  by_cases hx : x1 = x2
  · subst hx
    have hn' : ¬ (y1 + y2) % p = 0 := fun z => hn ⟨rfl, z⟩
    have hy := same_y hp h1 h2 hn'
    subst hy
    have h2y := two_y hp hn'
    refine .inl ⟨rfl, rfl, h2y, ?_⟩
    unfold slp
    rw [if_pos rfl, C_emod, C_mul, inv_mod]
    have := inv_mul hp h2y
    rw [C_mul, c2] at this
    rw [C_add, C_mul, C_mul, c3]
    grind
  · have hd := sub_ne h1.1 h1.2.1 h2.1 h2.2.1 hx
    refine .inr ⟨hx, hd, ?_⟩
    unfold slp
    rw [if_neg hx, C_emod, C_mul, inv_mod]
    have := inv_mul hp hd
    rw [C_sub] at this ⊢
    grind
theorem chord {m X1 Y1 X2 Y2 I A B : Ser p} (h1 : Y1 * Y1 = X1 * X1 * X1 + A * X1 + B) (h2 : Y2 * Y2 = X2 * X2 * X2 + A * X2 + B) (hm : m * (X2 - X1) = Y2 - Y1) (hi : I * (X2 - X1) = 1) :
    (m * (X1 - (m * m - X1 - X2)) - Y1) * (m * (X1 - (m * m - X1 - X2)) - Y1) = (m * m - X1 - X2) * (m * m - X1 - X2) * (m * m - X1 - X2) + A * (m * m - X1 - X2) + B := by
  -- A and B by the two points
  have e1 : (X2 - X1) * A = (Y2 - Y1) * (Y2 + Y1) - (X2 * X2 * X2 - X1 * X1 * X1) := by grind
  have eA : A = m * (Y2 + Y1) - (X2 * X2 + X1 * X2 + X1 * X1) := by grind
  have eY : Y2 = Y1 + m * (X2 - X1) := by grind
  have eB : B = Y1 * Y1 - X1 * X1 * X1 - A * X1 := by grind
  subst eY
  subst eB
  subst eA
  grind
theorem tangent {m X1 Y1 I A B : Ser p} (h1 : Y1 * Y1 = X1 * X1 * X1 + A * X1 + B) (hm : m * (2 * Y1) = 3 * X1 * X1 + A) :
    (m * (X1 - (m * m - X1 - X1)) - Y1) * (m * (X1 - (m * m - X1 - X1)) - Y1) = (m * m - X1 - X1) * (m * m - X1 - X1) * (m * m - X1 - X1) + A * (m * m - X1 - X1) + B := by
  have eA : A = m * (2 * Y1) - 3 * X1 * X1 := by grind
  have eB : B = Y1 * Y1 - X1 * X1 * X1 - A * X1 := by grind
  subst eB
  subst eA
  grind
theorem addM_C {m x1 y1 x2 : Int} : C p (addM p m x1 y1 x2).1 = C p m * C p m - C p x1 - C p x2 ∧ C p (addM p m x1 y1 x2).2 = C p m * (C p x1 - (C p m * C p m - C p x1 - C p x2)) - C p y1 := by
  have h1 : C p ((m * m - x1 - x2) % p) = C p m * C p m - C p x1 - C p x2 := by rw [C_emod, C_sub, C_sub, C_mul]
  refine ⟨h1, ?_⟩
  show C p ((m * (x1 - (m * m - x1 - x2) % p) - y1) % p) = _
  rw [C_emod, C_sub, C_mul, C_sub, h1]
theorem addM_bd {m x1 y1 x2 : Int} (p0 : 0 < p) : 0 ≤ (addM p m x1 y1 x2).1 ∧ (addM p m x1 y1 x2).1 < p ∧ 0 ≤ (addM p m x1 y1 x2).2 ∧ (addM p m x1 y1 x2).2 < p :=
  ⟨Int.emod_nonneg _ (by omega), Int.emod_lt_of_pos _ p0, Int.emod_nonneg _ (by omega), Int.emod_lt_of_pos _ p0⟩
theorem On.add (c : Cu p a b) : ∀ {P Q : Pt}, On p a b P → On p a b Q → On p a b (addP p a P Q)
  | none, Q, _, h => h
  | some (x, y), none, h, _ => h
  | some (x1, y1), some (x2, y2), h1, h2 => by
    have hp := c.hp
    have p5 := c.p5
    show On p a b (if _ then _ else _)
    by_cases hn : x1 = x2 ∧ (y1 + y2) % p = 0
    · rw [if_pos hn]; trivial
    rw [if_neg hn]
    obtain ⟨m, hm⟩ : ∃ m, m = slp p a x1 y1 x2 y2 := ⟨_, rfl⟩
    have bd := addM_bd (p := p) (m := m) (x1 := x1) (y1 := y1) (x2 := x2) (by omega)
    have e := addM_C (p := p) (m := m) (x1 := x1) (y1 := y1) (x2 := x2)
    rw [← hm]
    refine ⟨bd.1, bd.2.1, bd.2.2.1, bd.2.2.2, onI ?_⟩
    show C p (addM p m x1 y1 x2).2 * C p (addM p m x1 y1 x2).2 = C p (addM p m x1 y1 x2).1 * C p (addM p m x1 y1 x2).1 * C p (addM p m x1 y1 x2).1 + C p a * C p (addM p m x1 y1 x2).1 + C p b
    rw [e.1, e.2]
    have o1 := onE h1.2.2.2.2
    have o2 := onE h2.2.2.2.2
    rcases slp_eq hp h1 h2 hn with ⟨ex, ey, h2y, hs⟩ | ⟨ex, hd, hs⟩
    · subst ex ey
      rw [← hm] at hs
      exact tangent (I := 0) o1 hs
    · rw [← hm] at hs
      have hi := inv_mul hp hd
      rw [C_sub] at hi
      exact chord o1 o2 hs hi
theorem On.neg (c : Cu p a b) : ∀ {P : Pt}, On p a b P → On p a b (negP p P)
  | none, _ => trivial
  | some (x, y), h => by
    have p5 := c.p5
    refine ⟨h.1, h.2.1, Int.emod_nonneg _ (by omega), Int.emod_lt_of_pos _ (by omega), onI ?_⟩
    have := onE h.2.2.2.2
    rw [C_emod, C_neg]
    grind
theorem add_neg (c : Cu p a b) : ∀ P : Pt, addP p a P (negP p P) = none
  | none => rfl
  | some (x, y) => by
    show (if x = x ∧ (y + -y % p) % p = 0 then none else _) = none
    rw [if_pos ⟨rfl, by
      rw [Int.add_emod, Int.emod_emod_of_dvd _ (Int.dvd_refl p), ← Int.add_emod, show y + -y = 0 by omega, Int.zero_emod]⟩]
theorem add_comm (c : Cu p a b) : ∀ {P Q : Pt}, On p a b P → On p a b Q → addP p a P Q = addP p a Q P
  | none, none, _, _ => rfl
  | none, some (x, y), _, _ => rfl
  | some (x, y), none, _, _ => rfl
  | some (x1, y1), some (x2, y2), h1, h2 => by
    have hp := c.hp
    have p5 := c.p5
    show (if x1 = x2 ∧ (y1 + y2) % p = 0 then none else _) = if x2 = x1 ∧ (y2 + y1) % p = 0 then none else _
    by_cases hn : x1 = x2 ∧ (y1 + y2) % p = 0
    · rw [if_pos hn, if_pos ⟨hn.1.symm, by rw [Int.add_comm]; exact hn.2⟩]
    have hn' : ¬ (x2 = x1 ∧ (y2 + y1) % p = 0) := fun z => hn ⟨z.1.symm, by rw [Int.add_comm]; exact z.2⟩
    rw [if_neg hn, if_neg hn']
    congr 1
    obtain ⟨m, hm⟩ : ∃ m, m = slp p a x1 y1 x2 y2 := ⟨_, rfl⟩
    obtain ⟨n, hn2⟩ : ∃ n, n = slp p a x2 y2 x1 y1 := ⟨_, rfl⟩
    have e := addM_C (p := p) (m := m) (x1 := x1) (y1 := y1) (x2 := x2)
    have e' := addM_C (p := p) (m := n) (x1 := x2) (y1 := y2) (x2 := x1)
    have bd := addM_bd (p := p) (m := m) (x1 := x1) (y1 := y1) (x2 := x2) (by omega)
    have bd' := addM_bd (p := p) (m := n) (x1 := x2) (y1 := y2) (x2 := x1) (by omega)
    rcases slp_eq hp h1 h2 hn with ⟨ex, ey, h2y, hs⟩ | ⟨ex, hd, hs⟩
    · subst ex ey
      rfl
    · rcases slp_eq hp h2 h1 hn' with ⟨ex', _⟩ | ⟨_, hd', hs'⟩
      · exact absurd ex'.symm ex
      rw [← hm, ← hn2]
      rw [← hm] at hs
      rw [← hn2] at hs'
      have hi := inv_mul hp hd
      rw [C_sub] at hi
      have emn : C p m = C p n := by grind
      refine Prod.ext (C_eq bd.1 bd.2.1 bd'.1 bd'.2.1 ?_) (C_eq bd.2.2.1 bd.2.2.2 bd'.2.2.1 bd'.2.2.2 ?_)
      · rw [e.1, e'.1, emn]
        grind
      · rw [e.2, e'.2, ← emn]
        grind
/-! ### all points -/
def rootsK (p : Int) (k : Nat) (s : Int) : List Int := ((List.range k).map Int.ofNat).filter fun y => y * y % p = s
def ptsK (p a b : Int) (k : Nat) : List Pt := none :: ((List.range k).map Int.ofNat).flatMap fun x => (rootsK p p.toNat (side p a b x)).map fun y => some (x, y)
theorem rootsK_succ (k : Nat) (s : Int) : rootsK p (k + 1) s = if (k : Int) * k % p = s then rootsK p k s ++ [(k : Int)] else rootsK p k s := by
  unfold rootsK
  rw [List.range_succ, List.map_append, List.filter_append]
  show _ ++ List.filter _ [(k : Int)] = _
  by_cases h : (k : Int) * k % p = s
  · rw [if_pos h, List.filter_cons_of_pos (by rw [decide_eq_true h]), List.filter_nil]
  · rw [if_neg h, List.filter_cons_of_neg (by rw [decide_eq_false h]; decide), List.filter_nil, List.append_nil]
theorem ptsK_succ (k : Nat) : ptsK p a b (k + 1) = ptsK p a b k ++ (rootsK p p.toNat (side p a b k)).map fun y => some ((k : Int), y) := by
  unfold ptsK
  rw [List.range_succ, List.map_append, List.flatMap_append]
  show none :: (_ ++ List.flatMap _ [(k : Int)]) = none :: _ ++ _
  rw [List.cons_append, List.flatMap_cons, List.flatMap_nil, List.append_nil]
theorem rootsK_len (k : Nat) (s : Int) : (rootsK p k s).length ≤ k := by
  unfold rootsK
  refine Nat.le_trans (List.length_filter_le _ _) ?_
  rw [List.length_map, List.length_range]
  exact Nat.le_refl _
theorem rootsK_mem {k : Nat} {s y : Int} : y ∈ rootsK p k s ↔ 0 ≤ y ∧ y < k ∧ y * y % p = s := by
  unfold rootsK
  rw [List.mem_filter, List.mem_map, decide_eq_true_iff]
  constructor
  · rintro ⟨⟨i, hi, rfl⟩, h⟩
    have := List.mem_range.mp hi
    exact ⟨by show (0 : Int) ≤ (i : Int); omega, by show ((i : Nat) : Int) < k; omega, h⟩
  · rintro ⟨h0, h1, h⟩
    exact ⟨⟨y.toNat, List.mem_range.mpr (by omega), by show ((y.toNat : Nat) : Int) = y; omega⟩, h⟩
theorem pts_mem (c : Cu p a b) (P : Pt) : P ∈ ptsK p a b p.toNat ↔ On p a b P := by
  have p5 := c.p5
  unfold ptsK
  rw [List.mem_cons, List.mem_flatMap]
  constructor
  · rintro (rfl | ⟨x, hx, hP⟩)
    · trivial
    · obtain ⟨i, hi, rfl⟩ := List.mem_map.mp hx
      have := List.mem_range.mp hi
      obtain ⟨y, hy, rfl⟩ := List.mem_map.mp hP
      have hy := rootsK_mem.mp hy
      exact ⟨by show (0 : Int) ≤ (i : Int); omega, by show ((i : Nat) : Int) < p; omega, hy.1, by have := hy.2.1; omega, hy.2.2⟩
  · cases P with
    | none => exact fun _ => .inl rfl
    | some q =>
      obtain ⟨x, y⟩ := q
      rintro ⟨x0, x1, y0, y1, h⟩
      exact .inr ⟨x, List.mem_map.mpr ⟨x.toNat, List.mem_range.mpr (by omega), by show ((x.toNat : Nat) : Int) = x; omega⟩, List.mem_map.mpr ⟨y, rootsK_mem.mpr ⟨y0, by omega, h⟩, rfl⟩⟩
end MC
namespace DL
open PySem L2
theorem pl_pt (P : MC.Pt) : pl 1 (MC.dpt P) = true := by
  cases P with
  | none => rfl
  | some q => obtain ⟨x, y⟩ := q; exact pl_dtup 0 [x, y]
theorem pl_pts (L : List MC.Pt) : pl 2 (.list (L.map MC.dpt)) = true := by
  show (L.map MC.dpt).all (pl 1) = true
  rw [List.all_eq_true]
  intro d hd
  obtain ⟨P, _, rfl⟩ := List.mem_map.mp hd
  exact pl_pt P
theorem dpt_inj {P Q : MC.Pt} (h : MC.dpt P = MC.dpt Q) : P = Q := by
  cases P with
  | none =>
    cases Q with
    | none => rfl
    | some q => obtain ⟨x, y⟩ := q; cases h
  | some q =>
    obtain ⟨x, y⟩ := q
    cases Q with
    | none => cases h
    | some q => obtain ⟨u, v⟩ := q; cases h; rfl
end DL
/-! Squares modulo an odd prime: roots of polynomials, Euler's test, one of t and d t. -/
namespace MQ
open MB
theorem euclid {p a b : Int} (hp : PrimeI p) (h : p ∣ a * b) : p ∣ a ∨ p ∣ b := by
  have hp2 := hp.1
  have hN := PrimeN.of hp
  have e : (p.toNat : Int) = p := Int.toNat_of_nonneg (by omega)
  have h1 : p.toNat ∣ a.natAbs * b.natAbs := by
    rw [← Int.natAbs_mul]
    exact Int.ofNat_dvd_left.mp (by rw [e]; exact h)
  rcases hN.euclid h1 with h | h
  · exact .inl (by rw [← e]; exact Int.ofNat_dvd_left.mpr h)
  · exact .inr (by rw [← e]; exact Int.ofNat_dvd_left.mpr h)
def ev (x : Int) : List Int → Int
  | [] => 0
  | a :: f => a + x * ev x f
def addL : List Int → List Int → List Int
  | [], g => g
  | f, [] => f
  | a :: f, b :: g => (a + b) :: addL f g
theorem ev_addL (x : Int) : ∀ f g : List Int, ev x (addL f g) = ev x f + ev x g
  | [], g => by simp [addL, ev]
  | a :: f, [] => by simp [addL, ev]
  | a :: f, b :: g => by
    have := ev_addL x f g
    simp only [addL, ev]
    rw [this]
    grind
theorem ev_mul (x r : Int) : ∀ f : List Int, ev x (f.map fun v => r * v) = r * ev x f
  | [] => by simp [ev]
  | a :: f => by
    have := ev_mul x r f
    simp only [List.map_cons, ev]
    rw [this]
    grind
def dq (r : Int) : List Int → List Int
  | [] => []
  | _ :: f => addL f ((dq r f).map fun v => r * v)
theorem ev_dq (s r : Int) : ∀ f : List Int, ev s f = ev r f + (s - r) * ev s (dq r f)
  | [] => by simp [ev, dq]
  | a :: f => by
    have := ev_dq s r f
    simp only [ev, dq, ev_addL, ev_mul]
    grind
theorem addL_snoc (c : Int) : ∀ (g h : List Int), h.length ≤ g.length → ∃ g', addL (g ++ [c]) h = g' ++ [c] ∧ g'.length = g.length
  | [], [], _ => ⟨[], rfl, rfl⟩
  | a :: g, [], _ => ⟨a :: g, rfl, rfl⟩
  | [], b :: h, hl => by simp at hl
  | a :: g, b :: h, hl => by
    obtain ⟨g', e, l⟩ := addL_snoc c g h (by simpa using hl)
    exact ⟨(a + b) :: g', by show (a + b) :: addL (g ++ [c]) h = _; rw [e]; rfl, by simp [l]⟩
theorem dq_snoc (r c : Int) : ∀ (a : Int) (g : List Int), ∃ g', dq r (a :: g ++ [c]) = g' ++ [c] ∧ g'.length = g.length
  | a, [] => ⟨[], by simp [dq, addL], rfl⟩
  | a, b :: g => by
    obtain ⟨g', e, l⟩ := dq_snoc r c b g
    show ∃ g'', addL (b :: g ++ [c]) ((dq r (b :: g ++ [c])).map fun v => r * v) = g'' ++ [c] ∧ _
    exact addL_snoc c (b :: g) _ (by rw [e]; simp [l])
theorem roots_le {p : Int} (hp : PrimeI p) {c : Int} (hc : ¬ p ∣ c) : ∀ (g : List Int) (rs : List Int), rs.Nodup → (∀ r ∈ rs, 0 ≤ r ∧ r < p ∧ p ∣ ev r (g ++ [c])) → rs.length ≤ g.length := by
  intro g
  generalize hn : g.length = n
  induction n generalizing g with
  | zero =>
    intro rs _ h
    cases List.length_eq_zero_iff.mp hn
    cases rs with
    | nil => exact Nat.le_refl _
    | cons r rs =>
      have := (h r List.mem_cons_self).2.2
      simp [ev] at this
      exact absurd this hc
  | succ n ih =>
    intro rs nd h
    cases rs with
    | nil => exact Nat.zero_le _
    | cons r rs =>
      cases g with
      | nil => simp at hn
      | cons a g =>
        obtain ⟨g', e, l⟩ := dq_snoc r c a g
        have hr := h r List.mem_cons_self
        have nd' := List.nodup_cons.mp nd
        have := ih g' (by rw [l]; simpa using hn) rs nd'.2 fun s hs => by
          have h1 := h s (List.mem_cons_of_mem _ hs)
          refine ⟨h1.1, h1.2.1, ?_⟩
          have e2 := ev_dq s r (a :: g ++ [c])
          rw [e] at e2
          have hd : p ∣ (s - r) * ev s (g' ++ [c]) := by
            have : (s - r) * ev s (g' ++ [c]) = ev s (a :: g ++ [c]) - ev r (a :: g ++ [c]) := by omega
            rw [this]
            exact Int.dvd_sub h1.2.2 hr.2.2
          rcases euclid hp hd with h3 | h3
          · exfalso
            have : s - r = 0 := by
              refine Int.eq_zero_of_dvd_of_natAbs_lt_natAbs h3 ?_
              omega
            have : s = r := by omega
            subst this
            exact nd'.1 hs
          · exact h3
        simpa using this
theorem ev_x (x : Int) : ∀ k : Nat, ev x (List.replicate k 0 ++ [1]) = x ^ k
  | 0 => by simp [ev]
  | k + 1 => by
    show 0 + x * ev x (List.replicate k 0 ++ [1]) = _
    rw [ev_x x k, Int.pow_succ]
    grind
theorem ev_xm1 (x : Int) (k : Nat) : ev x ((-1 :: List.replicate k 0) ++ [1]) = x ^ (k + 1) - 1 := by
  show -1 + x * ev x (List.replicate k 0 ++ [1]) = _
  rw [ev_x, Int.pow_succ]
  grind
theorem up_nodup (n : Nat) : ((List.range n).map fun k : Nat => (k : Int) + 1).Nodup := by
  refine List.pairwise_map.mpr (List.Pairwise.imp ?_ (List.nodup_range (n := n)))
  intro a b hab h
  have : (a : Int) + 1 = b + 1 := h
  omega
/-- some residue has another power than 1 -/
theorem exists_pow_ne {p : Int} (hp : PrimeI p) {m : Nat} (m0 : 0 < m) (hm : (m : Int) < p - 1) : ∃ t : Int, 0 < t ∧ t < p ∧ ¬ p ∣ t ^ m - 1 := by
  refine Classical.byContradiction fun hn => ?_
  have p2 := hp.1
  have all : ∀ t : Int, 0 < t → t < p → p ∣ t ^ m - 1 := fun t h0 h1 => Classical.byContradiction fun z => hn ⟨t, h0, h1, z⟩
  obtain ⟨k, rfl⟩ : ∃ k, m = k + 1 := ⟨m - 1, by omega⟩
  have := roots_le hp (c := 1) (fun z => by have := Int.le_of_dvd (by decide) z; omega) (-1 :: List.replicate k 0) ((List.range (p - 1).toNat).map fun k : Nat => (k : Int) + 1) (up_nodup _) fun r hr => by
    obtain ⟨j, hj, rfl⟩ := List.mem_map.mp hr
    have := List.mem_range.mp hj
    refine ⟨by omega, by omega, ?_⟩
    rw [ev_xm1]
    exact all _ (by omega) (by omega)
  simp at this
  omega
def Sq (p x : Int) : Prop := ∃ y : Int, y * y % p = x % p
theorem dvd_iff {p a b : Int} : a % p = b % p ↔ p ∣ a - b := ⟨fun h => Int.dvd_of_emod_eq_zero (Int.emod_eq_emod_iff_emod_sub_eq_zero.mp h), fun h => Int.emod_eq_emod_iff_emod_sub_eq_zero.mpr (Int.emod_eq_zero_of_dvd h)⟩
theorem Sq.dvd {p x : Int} : Sq p x ↔ ∃ y : Int, p ∣ y * y - x := ⟨fun ⟨y, h⟩ => ⟨y, dvd_iff.mp h⟩, fun ⟨y, h⟩ => ⟨y, dvd_iff.mpr h⟩⟩
/-- an inverse -/
theorem inv_ex {p y : Int} (hp : PrimeI p) (hy : ¬ p ∣ y) : ∃ z : Int, p ∣ z * y - 1 := by
  have p2 := hp.1
  have := fermat_inv hp hy
  rw [MB.emod_mul_l] at this
  exact ⟨y ^ (p - 2).toNat, dvd_iff.mp (by rw [this, Int.emod_eq_of_lt (by decide) (by omega)])⟩
theorem not_both {p d t : Int} (hp : PrimeI p) (hd : ¬ Sq p d) (ht : ¬ p ∣ t) (h1 : Sq p t) (h2 : Sq p (d * t)) : False := by
  obtain ⟨y, hy⟩ := Sq.dvd.mp h1
  obtain ⟨z, hz⟩ := Sq.dvd.mp h2
  have hy0 : ¬ p ∣ y := fun h => ht (by
    have : t = y * y - (y * y - t) := by omega
    rw [this]
    exact Int.dvd_sub (Int.dvd_trans h (Int.dvd_mul_right y y)) hy)
  obtain ⟨i, hi⟩ := inv_ex hp hy0
  refine hd (Sq.dvd.mpr ⟨z * i, ?_⟩)
  obtain ⟨a, ha⟩ := hy
  obtain ⟨b, hb⟩ := hz
  obtain ⟨c, hc⟩ := hi
  have e1 : t = y * y - p * a := by omega
  have e2 : z * z = d * t + p * b := by omega
  have e3 : i * y = 1 + p * c := by omega
  have : z * i * (z * i) - d = p * (b * (i * i) - d * a * (i * i) + d * c * (2 + p * c)) := by
    have : z * i * (z * i) = (z * z) * (i * i) := by grind
    rw [this, e2, e1]
    have : d * (y * y) * (i * i) = d * ((i * y) * (i * y)) := by grind
    grind
  exact ⟨_, this⟩
theorem half {p : Int} (hp : PrimeI p) (p3 : 2 < p) : p % 2 = 1 := by
  have := hp.2 2 (by decide) p3
  omega
theorem list_all {p : Nat} (L : List Nat) (nd : L.Nodup) (hb : ∀ x ∈ L, 0 < x ∧ x < p) (hl : L.length = p - 1) {t : Nat} (t0 : 0 < t) (t1 : t < p) : t ∈ L := by
  have := perm_of_sub L ((List.range (p - 1)).map (· + 1)) nd (fun x hx => by
    obtain ⟨h0, h1⟩ := hb x hx
    exact List.mem_map.mpr ⟨x - 1, List.mem_range.mpr (by omega), by omega⟩) (by simp [hl])
  exact this.mem_iff.mpr (List.mem_map.mpr ⟨t - 1, List.mem_range.mpr (by omega), by omega⟩)
theorem one_of {p d t : Int} (hp : PrimeI p) (p3 : 2 < p) (hd : ¬ Sq p d) : Sq p t ∨ Sq p (d * t) := by
  have p2 := hp.1
  have hodd := half hp p3
  by_cases ht : p ∣ t
  · exact .inl (Sq.dvd.mpr ⟨0, by have := Int.dvd_neg.mpr ht; simpa using this⟩)
  have hd0 : ¬ p ∣ d := fun h => hd (Sq.dvd.mpr ⟨0, by have := Int.dvd_neg.mpr h; simpa using this⟩)
  let m := ((p - 1) / 2).toNat
  have em : (m : Int) = (p - 1) / 2 := Int.toNat_of_nonneg (by omega)
  have md : ∀ x : Int, ¬ p ∣ x → 0 < (x % p).toNat ∧ (x % p).toNat < p.toNat := fun x hx => by
    have h0 := Int.emod_nonneg x (show p ≠ 0 by omega)
    have h1 := Int.emod_lt_of_pos x (show 0 < p by omega)
    have h2 : x % p ≠ 0 := fun z => hx (Int.dvd_of_emod_eq_zero z)
    omega
  have back : ∀ x : Int, ((x % p).toNat : Int) = x % p := fun x => Int.toNat_of_nonneg (Int.emod_nonneg x (show p ≠ 0 by omega))
  let S := (List.range m).map fun k : Nat => (((k : Int) + 1) * ((k : Int) + 1) % p).toNat
  let T := (List.range m).map fun k : Nat => (d * (((k : Int) + 1) * ((k : Int) + 1)) % p).toNat
  have sm : ∀ k : Nat, k < m → ¬ p ∣ (k : Int) + 1 := fun k hk h => by
    have := Int.le_of_dvd (by omega) h
    omega
  have sq0 : ∀ k : Nat, k < m → ¬ p ∣ ((k : Int) + 1) * ((k : Int) + 1) := fun k hk h => (euclid hp h).elim (sm k hk) (sm k hk)
  have dsq0 : ∀ k : Nat, k < m → ¬ p ∣ d * (((k : Int) + 1) * ((k : Int) + 1)) := fun k hk h => (euclid hp h).elim hd0 (sq0 k hk)
  have inj : ∀ a b : Nat, a < m → b < m → p ∣ ((a : Int) + 1) * ((a : Int) + 1) - ((b : Int) + 1) * ((b : Int) + 1) → a = b := fun a b ha hb h => by
    have : ((a : Int) + 1) * ((a : Int) + 1) - ((b : Int) + 1) * ((b : Int) + 1) = ((a : Int) - b) * ((a : Int) + b + 2) := by grind
    rw [this] at h
    rcases euclid hp h with h | h
    · have := Int.eq_zero_of_dvd_of_natAbs_lt_natAbs h (by omega)
      omega
    · have := Int.le_of_dvd (by omega) h
      omega
  have eqd : ∀ x y : Int, (x % p).toNat = (y % p).toNat → p ∣ x - y := fun x y h => dvd_iff.mp (by rw [← back x, ← back y, h])
  have nodup_of : ∀ f : Nat → Nat, (∀ a b, a < m → b < m → f a = f b → a = b) → ((List.range m).map f).Nodup := fun f hf => by
    refine List.pairwise_map.mpr ?_
    refine List.Pairwise.imp_of_mem ?_ (List.nodup_range (n := m))
    intro a b ha hb hab z
    exact hab (hf a b (List.mem_range.mp ha) (List.mem_range.mp hb) z)
  have ndS : S.Nodup := nodup_of _ fun a b ha hb h => inj a b ha hb (eqd _ _ h)
  have ndT : T.Nodup := nodup_of _ fun a b ha hb h => inj a b ha hb (by
    have h1 := eqd _ _ h
    rw [← Int.mul_sub] at h1
    exact (euclid hp h1).resolve_left hd0)
  have dis : ∀ x ∈ S, x ∉ T := fun x hs htT => by
    obtain ⟨a, ha, rfl⟩ := List.mem_map.mp hs
    obtain ⟨b, hb, e⟩ := List.mem_map.mp htT
    have hb' := List.mem_range.mp hb
    have h1 := eqd _ _ e
    refine not_both hp hd (sq0 b hb') ⟨_, rfl⟩ (Sq.dvd.mpr ⟨(a : Int) + 1, ?_⟩)
    have := Int.dvd_neg.mpr h1
    rwa [Int.neg_sub] at this
  have nd : (S ++ T).Nodup := List.nodup_append.mpr ⟨ndS, ndT, fun a ha b hb z => dis a ha (z ▸ hb)⟩
  have mem := list_all (p := p.toNat) (S ++ T) nd (fun x hx => by
    rcases List.mem_append.mp hx with h | h
    · obtain ⟨a, ha, rfl⟩ := List.mem_map.mp h
      exact md _ (sq0 a (List.mem_range.mp ha))
    · obtain ⟨a, ha, rfl⟩ := List.mem_map.mp h
      exact md _ (dsq0 a (List.mem_range.mp ha))) (by
      rw [List.length_append, List.length_map, List.length_map, List.length_range]
      omega) (md t ht).1 (md t ht).2
  rcases List.mem_append.mp mem with h | h
  · obtain ⟨a, ha, e⟩ := List.mem_map.mp h
    exact .inl (Sq.dvd.mpr ⟨_, eqd _ _ e⟩)
  · obtain ⟨a, ha, e⟩ := List.mem_map.mp h
    have h1 := eqd _ _ e
    refine .inr (Sq.dvd.mpr ⟨d * ((a : Int) + 1), ?_⟩)
    have : d * ((a : Int) + 1) * (d * ((a : Int) + 1)) - d * t = d * (d * (((a : Int) + 1) * ((a : Int) + 1)) - t) := by grind
    rw [this]
    exact Int.dvd_trans h1 (Int.dvd_mul_left _ _)
theorem pow_dvd {p a b : Int} (h : p ∣ a - b) (k : Nat) : p ∣ a ^ k - b ^ k := dvd_iff.mp (MB.cong_pow (dvd_iff.mpr h) k)
theorem sq_pow {p x : Int} (hp : PrimeI p) (p3 : 2 < p) (hx : ¬ p ∣ x) (h : Sq p x) : p ∣ x ^ ((p - 1) / 2).toNat - 1 := by
  have p2 := hp.1
  have hodd := half hp p3
  obtain ⟨y, hy⟩ := Sq.dvd.mp h
  have hy0 : ¬ p ∣ y := fun h => hx (by
    have : x = y * y - (y * y - x) := by omega
    rw [this]
    exact Int.dvd_sub (Int.dvd_trans h (Int.dvd_mul_right y y)) hy)
  have h1 := pow_dvd hy ((p - 1) / 2).toNat
  have e : (y * y) ^ ((p - 1) / 2).toNat = y ^ (p - 1).toNat := by
    rw [show y * y = y ^ 2 by rw [Int.pow_succ, Int.pow_succ, Int.pow_zero, Int.one_mul], ← Int.pow_mul]
    congr 1
    omega
  rw [e] at h1
  have h2 : p ∣ y ^ (p - 1).toNat - 1 := dvd_iff.mp (by rw [fermat hp hy0, Int.emod_eq_of_lt (by decide) (by omega)])
  have := Int.dvd_sub h2 h1
  rwa [show y ^ (p - 1).toNat - 1 - (y ^ (p - 1).toNat - x ^ ((p - 1) / 2).toNat) = x ^ ((p - 1) / 2).toNat - 1 by omega] at this
theorem exists_non {p : Int} (hp : PrimeI p) (p3 : 2 < p) : ∃ t : Int, 1 < t ∧ t < p ∧ ¬ p ∣ t ^ ((p - 1) / 2).toNat - 1 := by
  have hodd := half hp p3
  obtain ⟨t, t0, t1, h⟩ := exists_pow_ne hp (m := ((p - 1) / 2).toNat) (by omega) (by omega)
  refine ⟨t, ?_, t1, h⟩
  refine Classical.byContradiction fun z => ?_
  have : t = 1 := by omega
  subst this
  rw [Int.one_pow] at h
  exact h ⟨0, by omega⟩
theorem nd_of {p t : Int} (t0 : 0 < t) (t1 : t < p) : ¬ p ∣ t := fun h => by have := Int.le_of_dvd t0 h; omega
/-- Euler's test -/
theorem euler {p x : Int} (hp : PrimeI p) (p3 : 2 < p) (hx : ¬ p ∣ x) : Sq p x ↔ p ∣ x ^ ((p - 1) / 2).toNat - 1 := by
  refine ⟨sq_pow hp p3 hx, fun h => Classical.byContradiction fun hn => ?_⟩
  obtain ⟨t, t0, t1, ht⟩ := exists_non hp p3
  have ht0 : ¬ p ∣ t := nd_of (by omega) t1
  rcases one_of (t := t) hp p3 hn with h2 | h2
  · exact ht (sq_pow hp p3 ht0 h2)
  · have h3 := sq_pow hp p3 (fun z => (euclid hp z).elim hx ht0) h2
    rw [Int.mul_pow] at h3
    have : t ^ ((p - 1) / 2).toNat - 1 = (x ^ ((p - 1) / 2).toNat * t ^ ((p - 1) / 2).toNat - 1) - t ^ ((p - 1) / 2).toNat * (x ^ ((p - 1) / 2).toNat - 1) := by grind
    refine ht ?_
    rw [this]
    exact Int.dvd_sub h3 (Int.dvd_trans h (Int.dvd_mul_left _ _))
def sqB (p x : Int) : Bool := decide (x % p = 0) || decide (x ^ ((p - 1) / 2).toNat % p = 1)
theorem sqB_iff {p x : Int} (hp : PrimeI p) (p3 : 2 < p) : sqB p x = true ↔ Sq p x := by
  unfold sqB
  rw [Bool.or_eq_true, decide_eq_true_iff, decide_eq_true_iff]
  by_cases hx : p ∣ x
  · exact ⟨fun _ => Sq.dvd.mpr ⟨0, by have := Int.dvd_neg.mpr hx; simpa using this⟩, fun _ => .inl (Int.emod_eq_zero_of_dvd hx)⟩
  · rw [euler hp p3 hx, ← dvd_iff, Int.emod_eq_of_lt (a := 1) (by decide) (by omega)]
    exact ⟨fun h => h.resolve_left fun z => hx (Int.dvd_of_emod_eq_zero z), .inr⟩
theorem Sq.mod {p x : Int} : Sq p (x % p) ↔ Sq p x := by
  unfold Sq
  rw [Int.emod_emod_of_dvd _ (Int.dvd_refl p)]
theorem sqB_mod {p x : Int} (hp : PrimeI p) (p3 : 2 < p) : sqB p (x % p) = sqB p x := by
  rw [Bool.eq_iff_iff, sqB_iff hp p3, sqB_iff hp p3]
  exact Sq.mod
theorem non_ex {p : Int} (hp : PrimeI p) (p3 : 2 < p) : ∃ t : Int, 1 < t ∧ t < p ∧ sqB p t = false := by
  obtain ⟨t, t0, t1, h⟩ := exists_non hp p3
  refine ⟨t, t0, t1, Bool.eq_false_iff.mpr fun z => h ?_⟩
  exact (euler hp p3 (nd_of (by omega) t1)).mp ((sqB_iff hp p3).mp z)
end MQ
/-! twisted curves: points counted -/
namespace MQ
open MB MC
theorem len_le : ∀ (l1 l2 : List Int), l1.Nodup → (∀ x ∈ l1, x ∈ l2) → l1.length ≤ l2.length
  | [], _, _, _ => Nat.zero_le _
  | x :: l1, l2, nd, h => by
    have nd' := List.nodup_cons.mp nd
    have hx := h x List.mem_cons_self
    have := len_le l1 (l2.erase x) nd'.2 fun y hy => (List.mem_erase_of_ne (fun z : y = x => nd'.1 (by rw [← z]; exact hy))).mpr (h y (List.mem_cons_of_mem _ hy))
    rw [List.length_erase_of_mem hx] at this
    have : 0 < l2.length := List.length_pos_of_mem hx
    simp only [List.length_cons]
    omega
theorem len_eq {l1 l2 : List Int} (n1 : l1.Nodup) (n2 : l2.Nodup) (h : ∀ x, x ∈ l1 ↔ x ∈ l2) : l1.length = l2.length := Nat.le_antisymm (len_le _ _ n1 fun x => (h x).mp) (len_le _ _ n2 fun x => (h x).mpr)
theorem rootsK_nodup (p : Int) (k : Nat) (s : Int) : (rootsK p k s).Nodup := by
  unfold rootsK
  refine List.Pairwise.filter _ (List.pairwise_map.mpr (List.Pairwise.imp ?_ List.nodup_range))
  intro a b hab z
  exact hab (Int.ofNat.inj z)
def cR (p s : Int) : Nat := (rootsK p p.toNat s).length
theorem sq_root {p s y : Int} (hp : PrimeI p) (p3 : 2 < p) (y0 : 0 < y) (y1 : y < p) (s0 : 0 ≤ s) (s1 : s < p) (h : y * y % p = s) (z : Int) : (0 ≤ z ∧ z < p ∧ z * z % p = s) ↔ z = y ∨ z = p - y := by
  constructor
  · rintro ⟨z0, z1, hz⟩
    have : p ∣ z * z - y * y := dvd_iff.mp (hz.trans h.symm)
    rw [show z * z - y * y = (z - y) * (z + y) by grind] at this
    rcases euclid hp this with h | h
    · have := Int.eq_zero_of_dvd_of_natAbs_lt_natAbs h (by omega)
      omega
    · obtain ⟨c, hc⟩ := h
      have : c = 1 := by
        have c0 : 0 < c := Int.pos_of_mul_pos_right (a := p) (by omega) (by omega)
        have c1 : c < 2 := by
          refine Int.lt_of_mul_lt_mul_left (a := p) ?_ (by omega)
          omega
        omega
      subst this
      right
      omega
  · rintro (rfl | rfl)
    · exact ⟨by omega, y1, h⟩
    · refine ⟨by omega, by omega, ?_⟩
      rw [← h]
      exact dvd_iff.mpr ⟨p - 2 * y, by grind⟩
theorem cR_eq {p s : Int} (hp : PrimeI p) (p3 : 2 < p) (s0 : 0 ≤ s) (s1 : s < p) : cR p s = if s = 0 then 1 else if sqB p s = true then 2 else 0 := by
  have hodd := half hp p3
  have mem : ∀ y, y ∈ rootsK p p.toNat s ↔ 0 ≤ y ∧ y < p ∧ y * y % p = s := fun y => by
    rw [rootsK_mem, Int.toNat_of_nonneg (by omega)]
  unfold cR
  split
  · rename_i h
    subst h
    rw [len_eq (l2 := [0]) (rootsK_nodup _ _ _) (by simp) fun y => by
      rw [mem, List.mem_singleton]
      constructor
      · rintro ⟨y0, y1, h⟩
        have := (euclid hp (Int.dvd_of_emod_eq_zero h)).elim id id
        exact Int.eq_zero_of_dvd_of_natAbs_lt_natAbs this (by omega)
      · rintro rfl
        exact ⟨by omega, by omega, by simp⟩]
    rfl
  · rename_i h
    split
    · rename_i h2
      obtain ⟨y, hy⟩ := (sqB_iff hp p3).mp h2
      rw [Int.emod_eq_of_lt s0 s1] at hy
      have y0 := Int.emod_nonneg y (show p ≠ 0 by omega)
      have y1 := Int.emod_lt_of_pos y (show 0 < p by omega)
      have hy' : y % p * (y % p) % p = s := by rw [MB.emod_mul_l, MB.emod_mul_r, hy]
      have yn : y % p ≠ 0 := fun z => by rw [z] at hy'; simp at hy'; omega
      rw [len_eq (l2 := [y % p, p - y % p]) (rootsK_nodup _ _ _) (by
        refine List.nodup_cons.mpr ⟨?_, by simp⟩
        rw [List.mem_singleton]
        omega) fun z => by
        rw [mem, sq_root hp p3 (by omega) y1 s0 s1 hy' z]
        simp]
      rfl
    · rename_i h2
      rw [show rootsK p p.toNat s = [] from List.eq_nil_iff_forall_not_mem.mpr fun y hy => h2 ((sqB_iff hp p3).mpr ⟨y, by rw [((mem y).mp hy).2.2, Int.emod_eq_of_lt s0 s1]⟩)]
      rfl
theorem Sq.mul {p x y : Int} (h1 : Sq p x) (h2 : Sq p y) : Sq p (x * y) := by
  obtain ⟨u, hu⟩ := h1
  obtain ⟨v, hv⟩ := h2
  exact ⟨u * v, by rw [show u * v * (u * v) = u * u * (v * v) by grind]; exact MB.cong_mul hu hv⟩
theorem Sq.self (p y : Int) : Sq p (y * y) := ⟨y, rfl⟩
theorem Sq.cancel {p d x : Int} (hp : PrimeI p) (hd : ¬ p ∣ d) (h : Sq p (d * d * x)) : Sq p x := by
  obtain ⟨i, hi⟩ := inv_ex hp hd
  have h2 := Sq.mul (Sq.self p i) h
  have e : i * i * (d * d * x) % p = x % p := by
    obtain ⟨c, hc⟩ := hi
    refine dvd_iff.mpr ⟨c * (2 + p * c) * x, ?_⟩
    have : i * d = 1 + p * c := by omega
    have : i * i * (d * d * x) = (i * d) * (i * d) * x := by grind
    grind
  obtain ⟨y, hy⟩ := h2
  exact ⟨y, hy.trans e⟩
theorem cR_twist {p d s : Int} (hp : PrimeI p) (p3 : 2 < p) (d0 : 0 < d) (d1 : d < p) (s0 : 0 ≤ s) (s1 : s < p) : (sqB p d = true → cR p (d * d * d * s % p) = cR p s) ∧ (sqB p d = false → cR p (d * d * d * s % p) + cR p s = 2) := by
  have hd := nd_of d0 d1
  have b0 := Int.emod_nonneg (d * d * d * s) (show p ≠ 0 by omega)
  have b1 := Int.emod_lt_of_pos (d * d * d * s) (show 0 < p by omega)
  have z : d * d * d * s % p = 0 ↔ s = 0 := by
    constructor
    · intro h
      rcases euclid hp (Int.dvd_of_emod_eq_zero h) with h | h
      · rcases euclid hp h with h | h
        · exact ((euclid hp h).elim hd hd).elim
        · exact (hd h).elim
      · exact Int.eq_zero_of_dvd_of_natAbs_lt_natAbs h (by omega)
    · rintro rfl
      simp
  rw [cR_eq hp p3 b0 b1, cR_eq hp p3 s0 s1, sqB_mod hp p3]
  by_cases hs : s = 0
  · rw [if_pos (z.mpr hs), if_pos hs]
    exact ⟨fun _ => rfl, fun _ => rfl⟩
  rw [if_neg fun h => hs (z.mp h), if_neg hs]
  have hs0 : ¬ p ∣ s := nd_of (by omega) s1
  have e : d * d * d * s = d * d * (d * s) := by grind
  refine ⟨fun h => ?_, fun h => ?_⟩
  · have hsd := (sqB_iff hp p3).mp h
    have : sqB p (d * d * d * s) = sqB p s := by
      rw [Bool.eq_iff_iff, sqB_iff hp p3, sqB_iff hp p3]
      constructor
      · intro h2
        rw [e] at h2
        have h3 := Sq.mul hsd (Sq.cancel hp hd h2)
        rw [← Int.mul_assoc] at h3
        exact Sq.cancel hp hd h3
      · intro h2
        exact Sq.mul (Sq.mul (Sq.self p d) hsd) h2
    rw [this]
  · have hnd : ¬ Sq p d := fun h2 => by rw [(sqB_iff hp p3).mpr h2] at h; cases h
    by_cases h2 : Sq p s
    · have h3 : sqB p (d * d * d * s) = false := Bool.eq_false_iff.mpr fun h3 => by
        have h3 := (sqB_iff hp p3).mp h3
        rw [e] at h3
        exact not_both hp hnd hs0 h2 (Sq.cancel hp hd h3)
      rw [h3, (sqB_iff hp p3).mpr h2]
      rfl
    · have h3 : sqB p (d * d * d * s) = true := (sqB_iff hp p3).mpr (by
        rw [e]
        exact Sq.mul (Sq.self p d) ((one_of hp p3 hnd).resolve_left h2))
      have h4 : sqB p s = false := Bool.eq_false_iff.mpr fun h3 => h2 ((sqB_iff hp p3).mp h3)
      rw [h3, h4]
      rfl
def sm (f : Nat → Nat) : List Nat → Nat
  | [] => 0
  | x :: l => f x + sm f l
theorem sm_app (f : Nat → Nat) : ∀ l m : List Nat, sm f (l ++ m) = sm f l + sm f m
  | [], m => by simp [sm]
  | x :: l, m => by simp [sm, sm_app f l m, Nat.add_assoc]
theorem sm_perm (f : Nat → Nat) {l m : List Nat} (h : l.Perm m) : sm f l = sm f m := by
  induction h with
  | nil => rfl
  | cons x _ ih => simp [sm, ih]
  | swap x y l => simp [sm]; omega
  | trans _ _ h1 h2 => exact h1.trans h2
theorem sm_map (f : Nat → Nat) (g : Nat → Nat) : ∀ l : List Nat, sm f (l.map g) = sm (fun x => f (g x)) l
  | [] => rfl
  | x :: l => by simp [sm, sm_map f g l]
theorem sm_congr {f g : Nat → Nat} : ∀ {l : List Nat}, (∀ x ∈ l, f x = g x) → sm f l = sm g l
  | [], _ => rfl
  | x :: l, h => by
    simp only [sm]
    rw [h x List.mem_cons_self, sm_congr fun y hy => h y (List.mem_cons_of_mem _ hy)]
theorem sm_two {f g : Nat → Nat} : ∀ {l : List Nat}, (∀ x ∈ l, f x + g x = 2) → sm f l + sm g l = 2 * l.length
  | [], _ => rfl
  | x :: l, h => by
    have h1 := h x List.mem_cons_self
    have h2 := sm_two (f := f) (g := g) fun y hy => h y (List.mem_cons_of_mem _ hy)
    simp only [sm, List.length_cons]
    omega
theorem ptsK_len (p a b : Int) : ∀ k : Nat, (ptsK p a b k).length = 1 + sm (fun x => cR p (side p a b x)) (List.range k)
  | 0 => rfl
  | k + 1 => by
    rw [ptsK_succ, List.length_append, List.length_map, ptsK_len p a b k, List.range_succ, sm_app]
    simp [sm, cR]
    omega
/-- x to d x -/
theorem perm_mul {p d : Int} (hp : PrimeI p) (hd : ¬ p ∣ d) : ((List.range p.toNat).map fun x : Nat => (d * (x : Int) % p).toNat).Perm (List.range p.toNat) := by
  have p2 := hp.1
  have back : ∀ x : Int, ((x % p).toNat : Int) = x % p := fun x => Int.toNat_of_nonneg (Int.emod_nonneg x (show p ≠ 0 by omega))
  refine perm_of_sub _ _ ?_ (fun x hx => ?_) (by simp)
  · refine List.pairwise_map.mpr (List.Pairwise.imp_of_mem ?_ (List.nodup_range (n := p.toNat)))
    intro x y hx hy hxy z
    have hx := List.mem_range.mp hx
    have hy := List.mem_range.mp hy
    have : p ∣ d * x - d * y := dvd_iff.mp (by rw [← back (d * x), ← back (d * y), z])
    rw [← Int.mul_sub] at this
    have := Int.eq_zero_of_dvd_of_natAbs_lt_natAbs ((euclid hp this).resolve_left hd) (by omega)
    omega
  · obtain ⟨y, hy, rfl⟩ := List.mem_map.mp hx
    have := Int.emod_lt_of_pos (d * y) (show 0 < p by omega)
    have := Int.emod_nonneg (d * y) (show p ≠ 0 by omega)
    exact List.mem_range.mpr (by omega)
theorem side_bd (p a b x : Int) (p0 : 0 < p) : 0 ≤ side p a b x ∧ side p a b x < p := ⟨Int.emod_nonneg _ (by omega), Int.emod_lt_of_pos _ p0⟩
theorem side_twist (p a b d x : Int) : side p (a * d * d % p) (b * d * d * d % p) (d * x % p) = d * d * d * side p a b x % p := by
  unfold side
  rw [MB.emod_mul_r]
  refine dvd_iff.mpr ?_
  have key : ∀ u v m : Int, ∃ k, u % v = u + v * k := fun u v _ => ⟨-(u / v), by have := Int.emod_add_mul_ediv u v; grind⟩
  obtain ⟨k1, e1⟩ := key (a * d * d) p 0
  obtain ⟨k2, e2⟩ := key (b * d * d * d) p 0
  obtain ⟨k3, e3⟩ := key (d * x) p 0
  rw [e1, e2, e3]
  exact ⟨k3 * ((d * x) * (d * x) + (d * x) * (d * x + p * k3) + (d * x + p * k3) * (d * x + p * k3)) + k1 * (d * x + p * k3) + a * d * d * k3 + k2, by grind⟩
abbrev nP (p a b : Int) : Nat := (ptsK p a b p.toNat).length
theorem twist_len {p a b d : Int} (hp : PrimeI p) (hd : ¬ p ∣ d) : nP p (a * d * d % p) (b * d * d * d % p) = 1 + sm (fun x => cR p (d * d * d * side p a b x % p)) (List.range p.toNat) := by
  have p2 := hp.1
  unfold nP
  rw [ptsK_len, ← sm_perm _ (perm_mul hp hd), sm_map]
  congr 1
  refine sm_congr fun x _ => ?_
  rw [Int.toNat_of_nonneg (Int.emod_nonneg _ (show p ≠ 0 by omega)), side_twist]
theorem twist_sq {p a b d : Int} (hp : PrimeI p) (p3 : 2 < p) (d0 : 0 < d) (d1 : d < p) (h : sqB p d = true) : nP p (a * d * d % p) (b * d * d * d % p) = nP p a b := by
  rw [twist_len hp (nd_of d0 d1)]
  unfold nP
  rw [ptsK_len]
  congr 1
  refine sm_congr fun x _ => ?_
  have sb := side_bd p a b x (by omega)
  exact (cR_twist hp p3 d0 d1 sb.1 sb.2).1 h
theorem twist_non {p a b d : Int} (hp : PrimeI p) (p3 : 2 < p) (d0 : 0 < d) (d1 : d < p) (h : sqB p d = false) : nP p (a * d * d % p) (b * d * d * d % p) + nP p a b = 2 * p.toNat + 2 := by
  rw [twist_len hp (nd_of d0 d1)]
  unfold nP
  rw [ptsK_len]
  have := sm_two (f := fun x : Nat => cR p (d * d * d * side p a b x % p)) (g := fun x : Nat => cR p (side p a b x)) (l := List.range p.toNat) fun x _ => by
    have sb := side_bd p a b x (by omega)
    exact (cR_twist hp p3 d0 d1 sb.1 sb.2).2 h
  rw [List.length_range] at this
  omega
/-! ### the invariant -/
abbrev dsc (a b : Int) : Int := 4 * a * a * a + 27 * b * b
def jv (p a b : Int) : Int := 6912 * a * a * a * inv p (dsc a b) % p
theorem jv_law {p a b : Int} (hp : PrimeI p) (hd : dsc a b % p ≠ 0) : (jv p a b * (4 * a ^ 3 + 27 * b ^ 2) - 6912 * a ^ 3) % p = 0 := by
  have hi := MC.inv_mul hp hd
  rw [← MS.C_mul, ← MS.C_one] at hi
  have h1 : p ∣ inv p (dsc a b) * dsc a b - 1 := dvd_iff.mp (by have := MS.C_inj hi; exact this)
  obtain ⟨c, hc⟩ := h1
  unfold jv
  refine Int.emod_eq_zero_of_dvd ?_
  have : ∃ k, 6912 * a * a * a * inv p (dsc a b) % p = 6912 * a * a * a * inv p (dsc a b) + p * k := ⟨-(6912 * a * a * a * inv p (dsc a b) / p), by have := Int.emod_add_mul_ediv (6912 * a * a * a * inv p (dsc a b)) p; grind⟩
  obtain ⟨k, ek⟩ := this
  rw [ek]
  have e2 : (4 * a ^ 3 + 27 * b ^ 2) = dsc a b := by unfold dsc; grind
  rw [e2]
  exact ⟨6912 * a ^ 3 * c + k * dsc a b, by grind⟩
theorem dsc_twist (p a b d : Int) : dsc (a * d * d % p) (b * d * d * d % p) % p = d * d * d * d * d * d * dsc a b % p := by
  have key : ∀ u : Int, ∃ k, u % p = u + p * k := fun u => ⟨-(u / p), by have := Int.emod_add_mul_ediv u p; grind⟩
  obtain ⟨k1, e1⟩ := key (a * d * d)
  obtain ⟨k2, e2⟩ := key (b * d * d * d)
  rw [e1, e2]
  unfold dsc
  refine dvd_iff.mpr ⟨4 * k1 * ((a * d * d) * (a * d * d) + (a * d * d) * (a * d * d + p * k1) + (a * d * d + p * k1) * (a * d * d + p * k1)) + 27 * k2 * (2 * (b * d * d * d) + p * k2), by grind⟩
theorem dsc_twist_ne {p a b d : Int} (hp : PrimeI p) (hd : dsc a b % p ≠ 0) (d0 : ¬ p ∣ d) : dsc (a * d * d % p) (b * d * d * d % p) % p ≠ 0 := by
  rw [dsc_twist]
  intro z
  have := Int.dvd_of_emod_eq_zero z
  rcases euclid hp this with h | h
  · have e : d * d * d * d * d * d = (d * d) * (d * d) * (d * d) := by grind
    rw [e] at h
    have dd : ¬ p ∣ d * d := fun h => (euclid hp h).elim d0 d0
    exact (euclid hp h).elim (fun h => (euclid hp h).elim dd dd) dd
  · exact hd (Int.emod_eq_zero_of_dvd h)
theorem jv_twist {p a b d : Int} (hp : PrimeI p) (hd : dsc a b % p ≠ 0) (d0 : ¬ p ∣ d) : jv p (a * d * d % p) (b * d * d * d % p) = jv p a b := by
  have h1 := MC.inv_mul hp hd
  have h2 := MC.inv_mul hp (dsc_twist_ne hp hd d0)
  have e1 : MS.C p (dsc (a * d * d % p) (b * d * d * d % p)) = MS.C p (d * d * d * d * d * d * dsc a b) := MS.C_mod (dsc_twist p a b d)
  rw [e1, MS.C_mul] at h2
  unfold jv
  refine MS.C_inj ?_
  rw [MS.C_mul (6912 * (a * d * d % p) * (a * d * d % p) * (a * d * d % p)), MS.C_mul (6912 * a * a * a)]
  have e3 : MS.C p (6912 * (a * d * d % p) * (a * d * d % p) * (a * d * d % p)) = MS.C p (d * d * d * d * d * d) * MS.C p (6912 * a * a * a) := by
    rw [← MS.C_mul]
    refine MS.C_mod (dvd_iff.mpr ?_)
    obtain ⟨k1, e1⟩ : ∃ k, (a * d * d) % p = (a * d * d) + p * k := ⟨-(a * d * d / p), by have := Int.emod_add_mul_ediv (a * d * d) p; grind⟩
    rw [e1]
    exact ⟨6912 * k1 * ((a * d * d) * (a * d * d) + (a * d * d) * (a * d * d + p * k1) + (a * d * d + p * k1) * (a * d * d + p * k1)), by grind⟩
  rw [e3]
  grind
/-! ### the list of the squares -/
def sqs (p : Int) : List Int := (List.range (p - 1).toNat).map fun k : Nat => (1 + (k : Int)) * (1 + (k : Int)) % p
theorem sqs_mem {p d : Int} (hp : PrimeI p) (p3 : 2 < p) (d0 : 0 < d) (d1 : d < p) : d ∈ sqs p ↔ sqB p d = true := by
  rw [sqB_iff hp p3]
  unfold sqs
  rw [List.mem_map]
  constructor
  · rintro ⟨k, hk, rfl⟩
    exact Sq.mod.mpr (Sq.self _ _)
  · rintro ⟨y, hy⟩
    rw [Int.emod_eq_of_lt (by omega) d1] at hy
    have y0 := Int.emod_nonneg y (show p ≠ 0 by omega)
    have y1 := Int.emod_lt_of_pos y (show 0 < p by omega)
    have hy' : y % p * (y % p) % p = d := by rw [MB.emod_mul_l, MB.emod_mul_r, hy]
    have yn : y % p ≠ 0 := fun z => by rw [z] at hy'; simp at hy'; omega
    refine ⟨(y % p - 1).toNat, List.mem_range.mpr (by omega), ?_⟩
    rw [show 1 + (((y % p - 1).toNat : Nat) : Int) = y % p by omega]
    exact hy'
end MQ
namespace DL
open PySem L2
theorem any_int {ns : List Int} {d : Int} : ((dints ns).any fun z => PyData.eqv z (.int d)) = decide (d ∈ ns) := by
  rw [Bool.eq_iff_iff, List.any_eq_true, decide_eq_true_iff]
  constructor
  · rintro ⟨z, hz, h⟩
    obtain ⟨v, hv, rfl⟩ := List.mem_map.mp hz
    have := (eqv_iff 0 (.int v) (.int d) rfl rfl).mp h
    cases this
    exact hv
  · intro h
    exact ⟨.int d, List.mem_map_of_mem h, (eqv_iff 0 (.int d) (.int d) rfl rfl).mpr rfl⟩
end DL
/-! The sum of points is associative. -/
namespace MC
open MS
variable {p a b : Int}
/-- m is a slope of the line through two points -/
structure Ln (p a m x1 y1 x2 y2 : Int) : Prop where
  i : C p y2 - C p y1 = C p m * (C p x2 - C p x1)
  ii : C p m * (C p y1 + C p y2) = C p x1 * C p x1 + C p x1 * C p x2 + C p x2 * C p x2 + C p a
theorem ln_slp {x1 y1 x2 y2 : Int} (hp : MB.PrimeI p) (h1 : On p a b (some (x1, y1))) (h2 : On p a b (some (x2, y2))) (hn : ¬ (x1 = x2 ∧ (y1 + y2) % p = 0)) : Ln p a (slp p a x1 y1 x2 y2) x1 y1 x2 y2 := by
  have e1 := onE h1.2.2.2.2
  have e2 := onE h2.2.2.2.2
  rcases slp_eq hp h1 h2 hn with ⟨rfl, rfl, _, e⟩ | ⟨_, hd, e⟩
  · exact ⟨by grind, by grind⟩
  · have hi := inv_mul hp hd
    rw [C_sub] at hi
    refine ⟨e.symm, ?_⟩
    generalize C p (slp p a x1 y1 x2 y2) = m at *
    have key : (C p x2 - C p x1) * (m * (C p y1 + C p y2) - (C p x1 * C p x1 + C p x1 * C p x2 + C p x2 * C p x2 + C p a)) = 0 := by
      have : (C p x2 - C p x1) * (m * (C p y1 + C p y2)) = (C p y2 - C p y1) * (C p y1 + C p y2) := by rw [← e]; grind
      grind
    grind
theorem nonopp {x1 y1 x2 y2 : Int} (hp : MB.PrimeI p) (h1 : On p a b (some (x1, y1))) (h2 : On p a b (some (x2, y2))) (hn : ¬ (x1 = x2 ∧ (y1 + y2) % p = 0)) : ∃ J : Ser p, J * (C p x2 - C p x1) = 1 ∨ J * (C p y1 + C p y2) = 1 := by
  by_cases hx : x1 = x2
  · have hy : (y1 + y2) % p ≠ 0 := fun z => hn ⟨hx, z⟩
    have := inv_mul hp hy
    rw [C_add] at this
    exact ⟨_, .inr this⟩
  · have := inv_mul hp (sub_ne h1.1 h1.2.1 h2.1 h2.2.1 hx)
    rw [C_sub] at this
    exact ⟨_, .inl this⟩
theorem ln_uniq {x1 y1 x2 y2 m n : Int} (hp : MB.PrimeI p) (h1 : On p a b (some (x1, y1))) (h2 : On p a b (some (x2, y2))) (hn : ¬ (x1 = x2 ∧ (y1 + y2) % p = 0)) (l1 : Ln p a m x1 y1 x2 y2) (l2 : Ln p a n x1 y1 x2 y2) : C p m = C p n := by
  obtain ⟨J, hJ⟩ := nonopp hp h1 h2 hn
  have a1 := l1.i
  have a2 := l1.ii
  have b1 := l2.i
  have b2 := l2.ii
  rcases hJ with hJ | hJ <;> grind
theorem pt_eq {x1 y1 x2 y2 : Int} (h1 : On p a b (some (x1, y1))) (h2 : On p a b (some (x2, y2))) (hx : C p x1 = C p x2) (hy : C p y1 = C p y2) : (some (x1, y1) : Pt) = some (x2, y2) := by
  rw [C_eq h1.1 h1.2.1 h2.1 h2.2.1 hx, C_eq h1.2.2.1 h1.2.2.2.1 h2.2.2.1 h2.2.2.2.1 hy]
theorem add_some {x1 y1 x2 y2 : Int} (c : Cu p a b) (h1 : On p a b (some (x1, y1))) (h2 : On p a b (some (x2, y2))) (hn : ¬ (x1 = x2 ∧ (y1 + y2) % p = 0)) :
    ∃ m x3 y3, addP p a (some (x1, y1)) (some (x2, y2)) = some (x3, y3) ∧ Ln p a m x1 y1 x2 y2 ∧ On p a b (some (x3, y3)) ∧ C p x3 = C p m * C p m - C p x1 - C p x2 ∧ C p y3 = C p m * (C p x1 - C p x3) - C p y1 := by
  have ha := h1.add c h2
  have e : addP p a (some (x1, y1)) (some (x2, y2)) = some (addM p (slp p a x1 y1 x2 y2) x1 y1 x2) := if_neg hn
  rw [e] at ha
  have ec := addM_C (p := p) (m := slp p a x1 y1 x2 y2) (x1 := x1) (y1 := y1) (x2 := x2)
  exact ⟨_, _, _, e, ln_slp c.hp h1 h2 hn, ha, ec.1, ec.2.trans (by rw [← ec.1]; rfl)⟩
theorem add_of {x1 y1 x2 y2 x3 y3 m : Int} (c : Cu p a b) (h1 : On p a b (some (x1, y1))) (h2 : On p a b (some (x2, y2))) (h3 : On p a b (some (x3, y3))) (hn : ¬ (x1 = x2 ∧ (y1 + y2) % p = 0)) (l : Ln p a m x1 y1 x2 y2)
    (hx : C p x3 = C p m * C p m - C p x1 - C p x2) (hy : C p y3 = C p m * (C p x1 - C p x3) - C p y1) : addP p a (some (x1, y1)) (some (x2, y2)) = some (x3, y3) := by
  obtain ⟨n, u, v, e, ln, hu, eu, ev⟩ := add_some c h1 h2 hn
  have := ln_uniq c.hp h1 h2 hn l ln
  rw [e]
  have ex : C p u = C p x3 := by rw [eu, hx, this]
  exact pt_eq hu h3 ex (by rw [ev, hy, this, ex])
theorem opp_C {x1 y1 x2 y2 : Int} (h1 : On p a b (some (x1, y1))) (h2 : On p a b (some (x2, y2))) : (x1 = x2 ∧ (y1 + y2) % p = 0) ↔ (C p x1 = C p x2 ∧ C p y1 + C p y2 = 0) := by
  rw [← C_add, C_zero_iff]
  exact ⟨fun h => ⟨by rw [h.1], h.2⟩, fun h => ⟨C_eq h1.1 h1.2.1 h2.1 h2.2.1 h.1, h.2⟩⟩
theorem neg_neg (c : Cu p a b) {P : Pt} (h : On p a b P) : negP p (negP p P) = P := by
  cases P with
  | none => rfl
  | some q =>
    obtain ⟨x, y⟩ := q
    exact pt_eq (h.neg c |>.neg c) h rfl (by rw [C_emod, C_neg, C_emod, C_neg]; grind)
theorem eq_neg {P Q : Pt} (c : Cu p a b) (h1 : On p a b P) (h2 : On p a b Q) (h : addP p a P Q = none) : Q = negP p P := by
  cases P with
  | none => exact h
  | some q =>
    obtain ⟨x1, y1⟩ := q
    cases Q with
    | none => exact absurd h (by intro z; cases z)
    | some q =>
      obtain ⟨x2, y2⟩ := q
      by_cases hn : x1 = x2 ∧ (y1 + y2) % p = 0
      · obtain ⟨e1, e2⟩ := (opp_C h1 h2).mp hn
        exact pt_eq h2 (h1.neg c) e1.symm (by rw [C_emod, C_neg]; grind)
      · obtain ⟨_, _, _, e, _⟩ := add_some c h1 h2 hn
        rw [e] at h
        cases h
theorem neg_add (c : Cu p a b) {P Q : Pt} (h1 : On p a b P) (h2 : On p a b Q) : negP p (addP p a P Q) = addP p a (negP p P) (negP p Q) := by
  cases P with
  | none => rfl
  | some q =>
    obtain ⟨x1, y1⟩ := q
    cases Q with
    | none => rfl
    | some q =>
      obtain ⟨x2, y2⟩ := q
      have n1 := h1.neg c
      have n2 := h2.neg c
      have ey1 : C p (-y1 % p) = -C p y1 := by rw [C_emod, C_neg]
      have ey2 : C p (-y2 % p) = -C p y2 := by rw [C_emod, C_neg]
      by_cases hn : x1 = x2 ∧ (y1 + y2) % p = 0
      · have hn2 := (opp_C n1 n2).mpr ⟨by rw [hn.1], by have := ((opp_C h1 h2).mp hn).2; rw [ey1, ey2]; grind⟩
        show negP p (if _ then _ else _) = if _ then _ else _
        rw [if_pos hn, if_pos hn2]
        rfl
      · have hn2 : ¬ (x1 = x2 ∧ (-y1 % p + -y2 % p) % p = 0) := fun z => hn ((opp_C h1 h2).mpr ⟨by rw [z.1], by have := ((opp_C n1 n2).mp z).2; rw [ey1, ey2] at this; grind⟩)
        obtain ⟨m, x3, y3, e, l, h3, ex, ey⟩ := add_some c h1 h2 hn
        rw [e]
        have n3 := h3.neg c
        have ey3 : C p (-y3 % p) = -C p y3 := by rw [C_emod, C_neg]
        refine (add_of (m := -m) c n1 n2 n3 hn2 ⟨?_, ?_⟩ ?_ ?_).symm
        · have := l.i
          rw [ey1, ey2, C_neg]
          grind
        · have := l.ii
          rw [ey1, ey2, C_neg]
          grind
        · rw [ex, C_neg]
          grind
        · rw [ey3, ey, ey1, C_neg]
          grind
theorem c1 {y1 y3 m x1 x3 : Ser p} (ey : y3 = m * (x1 - x3) - -y1) : y3 - y1 = -m * (x3 - x1) := by rw [ey]; grind
theorem c2a {m x1 x2 x3 y1 A : Ser p} (mm : m * m = x1 + x2 + x3) (h : m * (-y1 + (m * (x2 - x1) - y1)) = x1 * x1 + x1 * x2 + x2 * x2 + A) : -m * (y1 + (m * (x1 - x3) + y1)) = x1 * x1 + x1 * x3 + x3 * x3 + A := by
  have k1 : m * (-y1 + (m * (x2 - x1) - y1)) = (m * m) * (x2 - x1) - 2 * m * y1 := by clear h mm; grind
  have k2 : -m * (y1 + (m * (x1 - x3) + y1)) = -((m * m) * (x1 - x3)) - 2 * m * y1 := by clear h mm k1; grind
  rw [k1, mm] at h
  rw [k2, mm]
  clear k1 k2 mm
  grind
theorem c2 {m x1 x2 x3 y1 y2 y3 A : Ser p} (ex : x3 = m * m - x1 - x2) (ey : y3 = m * (x1 - x3) - -y1) (li : y2 - -y1 = m * (x2 - x1)) (lii : m * (-y1 + y2) = x1 * x1 + x1 * x2 + x2 * x2 + A) : -m * (y1 + y3) = x1 * x1 + x1 * x3 + x3 * x3 + A := by
  have k1 : y2 = m * (x2 - x1) - y1 := by rw [← li]; clear ex ey li lii; grind
  have k3 : y3 = m * (x1 - x3) + y1 := by rw [ey]; clear ex ey li lii k1; grind
  have k4 : m * m = x1 + x2 + x3 := by rw [ex]; clear ex ey li lii k1 k3; grind
  rw [k1] at lii
  have := c2a k4 lii
  rw [k3]
  exact this
theorem c3 {x1 x2 x3 m : Ser p} (ex : x3 = m * m - x1 - x2) : x2 = -m * -m - x1 - x3 := by rw [ex]; clear ex; grind
theorem c4 {x1 x2 y1 y2 m : Ser p} (li : y2 - -y1 = m * (x2 - x1)) : y2 = -m * (x1 - x2) - y1 := by grind
theorem c5 {y1 y3 m x1 x3 : Ser p} (ey : y3 = m * (x1 - x3) - -y1) (z : x1 = x3) : y3 = y1 := by rw [ey, z]; clear ey z; grind
theorem c6 {y1 y3 : Ser p} (h : y3 = y1) (z : y1 + y3 = 0) : (1 + 1) * y1 = 0 := by rw [h] at z; grind
theorem c7 : (1 + 1 + 1 + 1 : Ser p) = 4 := by grind
theorem c8 : (1 + 1 + 1 : Ser p) = 3 := by grind
theorem c9 : (3 * 3 * 3 : Ser p) = 27 := by grind
theorem sing1 {x1 x2 m A : Ser p} (mm : m * m = x1 + x1 + x2) (h : m * (-0 + m * (x2 - x1)) = x1 * x1 + x1 * x2 + x2 * x2 + A) : A = -(3 * x1 * x1) := by
  have k1 : m * (-0 + m * (x2 - x1)) = (m * m) * (x2 - x1) := by clear mm h; grind
  rw [k1, mm] at h
  clear k1 mm
  grind
theorem sing2 {x1 A B : Ser p} (hA : A = -(3 * x1 * x1)) (o : (0 : Ser p) * 0 = x1 * x1 * x1 + A * x1 + B) : 4 * A * A * A + 27 * B * B = 0 := by
  have hB : B = 2 * x1 * x1 * x1 := by rw [hA] at o; clear hA; grind
  rw [hA, hB]
  clear hA hB o
  grind
theorem sing3 {y2 t : Ser p} (li : y2 - -0 = t) : y2 = t := by grind
theorem sing {x1 x2 x3 y2 m A B : Ser p} (ex : x3 = m * m - x1 - x2) (z : x1 = x3) (li : y2 - -0 = m * (x2 - x1)) (lii : m * (-0 + y2) = x1 * x1 + x1 * x2 + x2 * x2 + A) (o : (0 : Ser p) * 0 = x1 * x1 * x1 + A * x1 + B) : 4 * A * A * A + 27 * B * B = 0 := by
  have mm : m * m = x1 + x1 + x2 := by rw [← z] at ex; clear li lii o z; grind
  rw [sing3 li] at lii
  exact sing2 (sing1 mm lii) o
theorem cancel (c : Cu p a b) (hd : (4 * a * a * a + 27 * b * b) % p ≠ 0) {P Q : Pt} (h1 : On p a b P) (h2 : On p a b Q) : addP p a P (addP p a (negP p P) Q) = Q := by
  cases P with
  | none => rfl
  | some q =>
    obtain ⟨x1, y1⟩ := q
    cases Q with
    | none => rw [add_none]; exact add_neg c _
    | some q =>
      obtain ⟨x2, y2⟩ := q
      have hp := c.hp
      have n1 := h1.neg c
      have ey1 : C p (-y1 % p) = -C p y1 := by rw [C_emod, C_neg]
      by_cases hn : x1 = x2 ∧ (-y1 % p + y2) % p = 0
      · have e : addP p a (negP p (some (x1, y1))) (some (x2, y2)) = none := if_pos hn
        rw [e, add_none]
        obtain ⟨e1, e2⟩ := (opp_C n1 h2).mp hn
        rw [ey1] at e2
        exact pt_eq h1 h2 e1 (by grind)
      · obtain ⟨m, x3, y3, e, l, h3, ex, ey⟩ := add_some c n1 h2 hn
        have e' : addP p a (negP p (some (x1, y1))) (some (x2, y2)) = some (x3, y3) := e
        rw [e']
        have li := l.i
        have lii := l.ii
        rw [ey1] at li lii ey
        have o1 := onE h1.2.2.2.2
        have hn2 : ¬ (x1 = x3 ∧ (y1 + y3) % p = 0) := fun z => by
          obtain ⟨z1, z2⟩ := (opp_C h1 h3).mp z
          have y30 : C p y3 = C p y1 := c5 ey z1
          have c2 : C p (1 + 1) * C p y1 = 0 := by rw [C_add, C_one]; exact c6 y30 z2
          have two : C p (1 + 1) ≠ 0 := fun y => by
            have := C_zero_iff.mp y
            have p5 := c.p5
            rw [Int.emod_eq_of_lt (by decide) (by omega)] at this
            cases this
          have y10 := (C_prod hp c2).resolve_left two
          rw [y10] at li lii o1
          refine hd (C_zero_iff.mp ?_)
          have c4 : C p 4 = 4 := by
            have : C p (1 + 1 + 1 + 1) = C p 1 + C p 1 + C p 1 + C p 1 := by rw [C_add, C_add, C_add]
            rw [C_one] at this
            have h : C p 4 = 1 + 1 + 1 + 1 := this
            rw [h]
            exact c7
          have c27 : C p 27 = 27 := by
            have c3 : C p 3 = 3 := by
              have : C p (1 + 1 + 1) = C p 1 + C p 1 + C p 1 := by rw [C_add, C_add]
              rw [C_one] at this
              have h : C p 3 = 1 + 1 + 1 := this
              rw [h]
              exact c8
            have : C p (3 * 3 * 3) = C p 3 * C p 3 * C p 3 := by rw [C_mul, C_mul]
            have h : C p 27 = C p 3 * C p 3 * C p 3 := this
            rw [h, c3]
            exact c9
          rw [C_add, C_mul, C_mul, C_mul, C_mul, C_mul, c4, c27]
          exact sing ex z1 li lii o1
        refine add_of (m := -m) c h1 h3 h2 hn2 ⟨?_, ?_⟩ ?_ ?_
        · rw [C_neg]
          exact c1 ey
        · rw [C_neg]
          exact c2 ex ey li lii
        · rw [C_neg]
          exact c3 ex
        · rw [C_neg]
          exact c4 li
theorem sub0 {u v : Ser p} (h : u - v = 0) : u = v := by grind
theorem opy {Y l x1 x3 y1 y2 y3 x2 : Ser p} (e : Y = l * (x1 - x3) - y1) (i12 : y2 - y1 = l * (x2 - x1)) (i23 : y3 - y2 = l * (x3 - x2)) : Y + y3 = 0 := by grind
theorem same1 {l x1 x3 y1 y2 y3 x2 : Ser p} (i12 : y2 - y1 = l * (x2 - x1)) (i23 : y3 - y2 = l * (x3 - x2)) (e : x1 = x3) : y1 = y3 := by grind
theorem dz1 {l x1 x2 x3 y2 A : Ser p} (ii12 : l * (y2 - l * (x2 - x1) + y2) = x1 * x1 + x1 * x2 + x2 * x2 + A) (ii23 : l * (y2 + (y2 + l * (x3 - x2))) = x2 * x2 + x2 * x3 + x3 * x3 + A) : (x3 - x1) * (l * l - x1 - x2 - x3) = 0 := by grind
theorem dz {l x1 x2 x3 y1 y2 y3 A : Ser p} (i12 : y2 - y1 = l * (x2 - x1)) (ii12 : l * (y1 + y2) = x1 * x1 + x1 * x2 + x2 * x2 + A) (i23 : y3 - y2 = l * (x3 - x2)) (ii23 : l * (y2 + y3) = x2 * x2 + x2 * x3 + x3 * x3 + A) : (x3 - x1) * (l * l - x1 - x2 - x3) = 0 := by
  have k1 : y1 = y2 - l * (x2 - x1) := by rw [← i12]; grind
  have k3 : y3 = y2 + l * (x3 - x2) := by rw [← i23]; grind
  rw [k1] at ii12
  rw [k3] at ii23
  exact dz1 ii12 ii23
theorem zz {d n u w t : Ser p} (h : w = n * u) (k : d * w = u * t) : u * (d * n - t) = 0 := by
  rw [h] at k
  grind
theorem flip {d x y u v t : Ser p} (k : d * (x - y) = (u - v) * t) : d * (y - x) = (v - u) * t := by grind
theorem eqA {A u t : Ser p} (h : u = t + A) : A = u - t := by grind
theorem uz {K u g : Ser p} (h : K * u = 1) (z : u * g = 0) : g = 0 := by grind
theorem hq1 {n X4 Y4 x3 y3 Z : Ser p} (h : y3 - Y4 = n * (x3 - X4)) : n * (X4 - Z) - Y4 = n * x3 - y3 - n * Z := by grind
theorem hq2 {n l m r x1 Z : Ser p} (h : r = n + (l - m)) : r * (x1 - Z) = n * x1 + (l - m) * x1 - n * Z - (l - m) * Z := by grind
theorem hq3 {l m r t : Ser p} (h : (m - l) * r = t) : (l - m) * r = -t := by grind
theorem hq5 {m n l x1 x2 x3 X5 : Ser p} (mm : m * m = X5 + x2 + x3) : n * (x3 - x1) + n * (x2 + x1 + X5 - l * m) = -(m * ((l - m) * n)) := by grind
theorem hq6 {m n l x1 x2 x3 X4 : Ser p} (ll : l * l = X4 + x1 + x2) (N1 : (l - m) * n = l * m - x2 - x3 - X4) : m * ((l - m) * n) + m * ((l - m) * l) = m * (x1 - x3) := by
  rw [N1]
  grind
theorem hX6 {n r l m X4 x2 x3 : Ser p} (rn : r = n + (l - m)) (N1 : (l - m) * n = l * m - x2 - x3 - X4) : n * n - X4 - x3 = n * r - l * m + x2 := by
  rw [rn]
  have : n * (n + (l - m)) = n * n + (l - m) * n := by grind
  rw [this, N1]
  grind
theorem hx67 {n r l m X4 X5 x1 x2 x3 : Ser p} (rn : r = n + (l - m)) (N1 : (l - m) * n = l * m - x2 - x3 - X4) (ll : l * l = X4 + x1 + x2) (mm : m * m = X5 + x2 + x3) : n * n - X4 - x3 = r * r - x1 - X5 := by
  rw [rn]
  have : (n + (l - m)) * (n + (l - m)) = n * n + (l - m) * n + (l - m) * n + (l * l - l * m - l * m + m * m) := by grind
  rw [this, N1, ll, mm]
  grind
theorem hr2 {n r l m : Ser p} (h : n - r + (l - m) = 0) : r = n + (l - m) := by grind
theorem hrn {n r l m X4 X5 x1 x2 x3 : Ser p} (N1 : (l - m) * n = l * m - x2 - x3 - X4) (N2 : (m - l) * r = l * m - x2 - x1 - X5) (ll : l * l = X4 + x1 + x2) (mm : m * m = X5 + x2 + x3) : (l - m) * (n - r + (l - m)) = 0 := by
  have : (l - m) * (n - r + (l - m)) = (l - m) * n + (m - l) * r + (l * l - l * m - l * m + m * m) := by grind
  rw [this, N1, N2, ll, mm]
  grind
section
variable {x1 y1 x2 y2 x3 y3 A l m n X4 Y4 X5 Y5 J : Ser p}
theorem r1 : l * (y2 - l * (x2 - x1) + y2) = 2 * y2 * l - (l * l) * (x2 - x1) := by grind
theorem r2 : m * (y2 + (y2 + m * (x3 - x2))) = 2 * y2 * m + (m * m) * (x3 - x2) := by grind
theorem r3 (h1 : 2 * y2 * l - (X4 + x1 + x2) * (x2 - x1) = x1 * x1 + x1 * x2 + x2 * x2 + A) (h2 : 2 * y2 * m + (X5 + x2 + x3) * (x3 - x2) = x2 * x2 + x2 * x3 + x3 * x3 + A) : 2 * y2 * (l - m) = (x3 - x2) * (X5 - x2) - (x1 - x2) * (X4 - x2) := by grind
theorem r4 : (l - m) * (y2 + m * (x3 - x2) - (l * (x2 - X4) - y2)) = 2 * y2 * (l - m) + l * m * (x3 - x2) - (m * m) * (x3 - x2) - (l * l) * (x2 - X4) + l * m * (x2 - X4) := by grind
theorem r5 : (x3 - x2) * (X5 - x2) - (x1 - x2) * (X4 - x2) + l * m * (x3 - x2) - (X5 + x2 + x3) * (x3 - x2) - (X4 + x1 + x2) * (x2 - X4) + l * m * (x2 - X4) = (x3 - X4) * (l * m - x2 - x3 - X4) := by grind
theorem r6 {S T : Ser p} : (l - m) * (S + (2 * y2 * l - T)) = l * (2 * y2 * (l - m)) + (l - m) * (S - T) := by grind
theorem r7 {V U : Ser p} : (l * U + m * V) * (l * m - x2 - x3 - X4) = (l * l) * m * U + (m * m) * l * V - (l * U + m * V) * (x2 + x3 + X4) := by grind
theorem r8 : l * ((x3 - x2) * (X5 - x2) - (x1 - x2) * (X4 - x2)) + (l - m) * (X4 * X4 + X4 * x3 + x3 * x3 - ((X4 + x1 + x2) * (x2 - x1) + (x1 * x1 + x1 * x2 + x2 * x2))) = (X4 + x1 + x2) * m * (x2 - X4) + (X5 + x2 + x3) * l * (x3 - x2) - (l * (x2 - X4) + m * (x3 - x2)) * (x2 + x3 + X4) := by grind
theorem r9 : l * (x2 - X4) - y2 + (y2 + m * (x3 - x2)) = l * (x2 - X4) + m * (x3 - x2) := by grind
theorem hN1 (I0 : 2 * y2 * (l - m) = (x3 - x2) * (X5 - x2) - (x1 - x2) * (X4 - x2)) (ll : l * l = X4 + x1 + x2) (mm : m * m = X5 + x2 + x3) (ey3 : y3 = y2 + m * (x3 - x2)) (f4 : Y4 = l * (x2 - X4) - y2)
    (hA : A = 2 * y2 * l - ((X4 + x1 + x2) * (x2 - x1) + (x1 * x1 + x1 * x2 + x2 * x2))) (i43 : y3 - Y4 = n * (x3 - X4)) (ii43 : n * (Y4 + y3) = X4 * X4 + X4 * x3 + x3 * x3 + A) (hJ : J * (x3 - X4) = 1 ∨ J * (Y4 + y3) = 1) : (l - m) * n = l * m - x2 - x3 - X4 := by
  have I1 : (l - m) * (y3 - Y4) = (x3 - X4) * (l * m - x2 - x3 - X4) := by rw [ey3, f4, r4, I0, ll, mm, r5]
  have I2 : (l - m) * (X4 * X4 + X4 * x3 + x3 * x3 + A) = (Y4 + y3) * (l * m - x2 - x3 - X4) := by rw [hA, r6, I0, f4, ey3, r9, r7, ll, mm, r8]
  have z1 := zz i43 I1
  have z2 := zz ii43.symm I2
  generalize hg : (l - m) * n - (l * m - x2 - x3 - X4) = g at z1 z2
  have : g = 0 := hJ.elim (fun h => uz h z1) fun h => uz h z2
  exact sub0 (hg.trans this)
end
theorem lm1 {X l u v : Ser p} (h : X = l * l - u - v) : l * l = X + u + v := by grind
theorem lm2 {X l u v : Ser p} (h : X = l * l - u - v) : l * l = X + v + u := by grind
theorem ey1' {y1 y2 l x1 x2 : Ser p} (h : y2 - y1 = l * (x2 - x1)) : y1 = y2 - l * (x2 - x1) := by rw [← h]; grind
theorem ey1'' {y1 y2 l x1 x2 : Ser p} (h : y2 - y1 = l * (x2 - x1)) : y1 = y2 + l * (x1 - x2) := by grind
theorem ey3' {y3 y2 m x3 x2 : Ser p} (h : y3 - y2 = m * (x3 - x2)) : y3 = y2 + m * (x3 - x2) := by rw [← h]; grind
theorem f4a {Y4 l x1 x2 X4 y1 y2 : Ser p} (f4 : Y4 = l * (x1 - X4) - y1) (e : y1 = y2 - l * (x2 - x1)) : Y4 = l * (x2 - X4) - y2 := by rw [f4, e]; grind
theorem neg0 {a b c d y l m : Ser p} (h : 2 * y * (l - m) = a * b - c * d) : 2 * y * (m - l) = c * d - a * b := by grind
theorem flp {a b n c d : Ser p} (h : b - a = n * (d - c)) : a - b = n * (c - d) := by grind
theorem flq {r u v x X A : Ser p} (h : r * (u + v) = x * x + x * X + X * X + A) : r * (v + u) = X * X + X * x + x * x + A := by grind
theorem flK {K X x y Y : Ser p} (h : K * (X - x) = 1 ∨ K * (y + Y) = 1) : ∃ J : Ser p, J * (x - X) = 1 ∨ J * (Y + y) = 1 := by
  rcases h with h | h
  · exact ⟨-K, .inl (by grind)⟩
  · exact ⟨K, .inr (by grind)⟩
theorem eqA2 {A y2 l T S : Ser p} (h : 2 * y2 * l - T = S + A) : A = 2 * y2 * l - (T + S) := by grind
theorem hAr {m y2 x2 x3 X5 A : Ser p} (h : 2 * y2 * m + (X5 + x2 + x3) * (x3 - x2) = x2 * x2 + x2 * x3 + x3 * x3 + A) : A = 2 * y2 * m - ((X5 + x3 + x2) * (x2 - x3) + (x3 * x3 + x3 * x2 + x2 * x2)) := by grind
theorem hq8 {m l x1 x2 x3 X5 y1 y3 n Z : Ser p} (key : n * (x3 - x1) + n * (x2 + x1 + X5 - l * m) + (y1 - y3) = -(m * (x1 - x3) - m * ((l - m) * l)) + (-(l * (x2 - x1)) - m * (x3 - x2))) : n * x3 - y3 - Z = n * x1 + (l - m) * x1 - Z - (n * -(l * m - x2 - x1 - X5) - (l - m) * (l * m - x2)) - y1 := by grind
theorem hq7 {l m n r x2 : Ser p} : (l - m) * (n * r - l * m + x2) = n * ((l - m) * r) - (l - m) * (l * m - x2) := by grind
theorem hq4 {l m x1 x2 x3 y2 : Ser p} : y2 - l * (x2 - x1) - (y2 + m * (x3 - x2)) = -(l * (x2 - x1)) - m * (x3 - x2) := by grind
theorem hq9 {a b c : Ser p} (h : a + b = c) : a = c - b := by grind
/-- the plain heart: what the four slopes tell -/
theorem heart {x1 y1 x2 y2 x3 y3 A l m n r X4 Y4 X5 Y5 I J K : Ser p} (i12 : y2 - y1 = l * (x2 - x1)) (ii12 : l * (y1 + y2) = x1 * x1 + x1 * x2 + x2 * x2 + A) (i23 : y3 - y2 = m * (x3 - x2)) (ii23 : m * (y2 + y3) = x2 * x2 + x2 * x3 + x3 * x3 + A)
    (e4 : X4 = l * l - x1 - x2) (f4 : Y4 = l * (x1 - X4) - y1) (e5 : X5 = m * m - x2 - x3) (f5 : Y5 = m * (x2 - X5) - y2)
    (i43 : y3 - Y4 = n * (x3 - X4)) (ii43 : n * (Y4 + y3) = X4 * X4 + X4 * x3 + x3 * x3 + A) (i15 : Y5 - y1 = r * (X5 - x1)) (ii15 : r * (y1 + Y5) = x1 * x1 + x1 * X5 + X5 * X5 + A)
    (hI : I * (l - m) = 1) (hJ : J * (x3 - X4) = 1 ∨ J * (Y4 + y3) = 1) (hK : K * (X5 - x1) = 1 ∨ K * (y1 + Y5) = 1) :
    n * n - X4 - x3 = r * r - x1 - X5 ∧ n * (X4 - (n * n - X4 - x3)) - Y4 = r * (x1 - (r * r - x1 - X5)) - y1 := by
  have ll := lm1 e4
  have mm := lm1 e5
  have ey1 := ey1' i12
  have ey3 := ey3' i23
  have f4' := f4a f4 ey1
  have ii12' := ii12
  rw [ey1, r1, ll] at ii12'
  have ii23' := ii23
  rw [ey3, r2, mm] at ii23'
  have I0 := r3 ii12' ii23'
  have N1 := hN1 I0 ll mm ey3 f4' (eqA2 ii12') i43 ii43 hJ
  obtain ⟨K', hK'⟩ := flK hK
  have N2 : (m - l) * r = m * l - x2 - x1 - X5 := hN1 (neg0 I0) (lm2 e5) (lm2 e4) (ey1'' i12) f5 (hAr ii23') (flp i15) (flq ii15) hK'
  rw [show m * l = l * m by grind] at N2
  have rn := hr2 (uz hI (hrn N1 N2 ll mm))
  have x67 := hx67 rn N1 ll mm
  refine ⟨x67, ?_⟩
  rw [← x67, hX6 rn N1]
  have q3 := hq3 N2
  have q5 := hq5 (n := n) (l := l) (x1 := x1) mm
  have q6 := hq6 ll N1
  rw [hq1 i43, hq2 rn, hq7, q3]
  refine hq8 ?_
  rw [q5, hq9 q6, ey1, ey3, hq4]
theorem assoc (c : Cu p a b) (hd : (4 * a * a * a + 27 * b * b) % p ≠ 0) {P Q R : Pt} (h1 : On p a b P) (h2 : On p a b Q) (h3 : On p a b R) : addP p a (addP p a P Q) R = addP p a P (addP p a Q R) := by
  have hp := c.hp
  cases P with
  | none => rfl
  | some P =>
  cases Q with
  | none => rfl
  | some Q =>
  cases R with
  | none => rw [add_none, add_none]
  | some R =>
  obtain ⟨x1, y1⟩ := P
  obtain ⟨x2, y2⟩ := Q
  obtain ⟨x3, y3⟩ := R
  by_cases n12 : x1 = x2 ∧ (y1 + y2) % p = 0
  · have e : addP p a (some (x1, y1)) (some (x2, y2)) = none := if_pos n12
    have e2 := eq_neg c h1 h2 e
    rw [e, e2, cancel c hd h1 h3]
    rfl
  by_cases n23 : x2 = x3 ∧ (y2 + y3) % p = 0
  · have e : addP p a (some (x2, y2)) (some (x3, y3)) = none := if_pos n23
    have e2 := eq_neg c h2 h3 e
    rw [e, e2, add_none, add_comm c (h1.add c h2) (h2.neg c), add_comm c h1 h2]
    have := cancel c hd (h2.neg c) h1
    rwa [neg_neg c h2] at this
  obtain ⟨l, X4, Y4, eA, lA, hA, eX4, eY4⟩ := add_some c h1 h2 n12
  obtain ⟨m, X5, Y5, eB, lB, hB, eX5, eY5⟩ := add_some c h2 h3 n23
  by_cases n43 : X4 = x3 ∧ (Y4 + y3) % p = 0
  · have e : addP p a (some (X4, Y4)) (some (x3, y3)) = none := if_pos n43
    have e2 := eq_neg c hA h3 e
    rw [eA, e, e2, ← eA, neg_add c h1 h2, add_comm c (h1.neg c) (h2.neg c), cancel c hd h2 (h1.neg c), add_neg c]
  by_cases n15 : x1 = X5 ∧ (y1 + Y5) % p = 0
  · have e : addP p a (some (x1, y1)) (some (X5, Y5)) = none := if_pos n15
    have e2 := eq_neg c h1 hB e
    have e3 : some (x1, y1) = negP p (some (X5, Y5)) := by rw [e2, neg_neg c h1]
    rw [eB, e, e3, ← eB, neg_add c h2 h3, add_comm c ((h2.neg c).add c (h3.neg c)) h2, cancel c hd h2 (h3.neg c), add_comm c (h3.neg c) h3, add_neg c]
  have i12 := lA.i
  have ii12 := lA.ii
  have i23 := lB.i
  have ii23 := lB.ii
  by_cases hd0 : (l - m) % p = 0
  · have ed : C p l = C p m := by
      have := C_zero_iff.mpr hd0
      rw [C_sub] at this
      grind
    rw [← ed] at i23 ii23 eX5 eY5
    have hz : C p (x3 - x1) * C p (X4 - x3) = 0 := by
      rw [C_sub, C_sub, eX4]
      exact dz i12 ii12 i23 ii23
    rcases C_prod hp hz with h | h
    · rw [C_sub] at h
      have ex : C p x1 = C p x3 := (sub0 h).symm
      have e : some (x1, y1) = some (x3, y3) := pt_eq h1 h3 ex (same1 i12 i23 ex)
      rw [← e, add_comm c (h1.add c h2) h1, add_comm c h1 h2]
    · exfalso
      rw [C_sub] at h
      have ex := sub0 h
      exact n43 ((opp_C hA h3).mpr ⟨ex, opy (by rw [eY4, ex]) i12 i23⟩)
  · obtain ⟨n, x6, y6, e6, l6, h6, ex6, ey6⟩ := add_some c hA h3 n43
    obtain ⟨r, x7, y7, e7, l7, h7, ex7, ey7⟩ := add_some c h1 hB n15
    rw [eA, eB, e6, e7]
    have hI := inv_mul hp hd0
    rw [C_sub] at hI
    obtain ⟨J, hJ⟩ := nonopp hp hA h3 n43
    obtain ⟨K, hK⟩ := nonopp hp h1 hB n15
    obtain ⟨g1, g2⟩ := heart i12 ii12 i23 ii23 eX4 eY4 eX5 eY5 l6.i l6.ii l7.i l7.ii hI hJ hK
    refine pt_eq h6 h7 (by rw [ex6, ex7, g1]) ?_
    rw [ey6, ey7, ex6, ex7]
    exact g2
end MC
/-! multiples -/
namespace MC
variable {p a b : Int}
def mulP (p a : Int) (P : Pt) : Nat → Pt
  | 0 => none
  | k + 1 => addP p a (mulP p a P k) P
theorem On.mul (c : Cu p a b) {P : Pt} (h : On p a b P) : ∀ k, On p a b (mulP p a P k)
  | 0 => trivial
  | k + 1 => (On.mul c h k).add c h
abbrev Ns (p a b : Int) : Prop := (4 * a * a * a + 27 * b * b) % p ≠ 0
theorem mul_add (c : Cu p a b) (hd : Ns p a b) {P : Pt} (h : On p a b P) (i : Nat) : ∀ j, mulP p a P (i + j) = addP p a (mulP p a P i) (mulP p a P j)
  | 0 => (add_none _).symm
  | j + 1 => by
    show addP p a (mulP p a P (i + j)) P = addP p a _ (addP p a (mulP p a P j) P)
    rw [mul_add c hd h i j, assoc c hd (h.mul c i) (h.mul c j) h]
theorem none_add (P : Pt) : addP p a none P = P := rfl
theorem mul_one (P : Pt) : mulP p a P 1 = P := rfl
theorem neg_mul (c : Cu p a b) {P : Pt} (h : On p a b P) : ∀ k, mulP p a (negP p P) k = negP p (mulP p a P k)
  | 0 => rfl
  | k + 1 => by
    show addP p a (mulP p a (negP p P) k) (negP p P) = negP p (addP p a (mulP p a P k) P)
    rw [neg_mul c h k, neg_add c (h.mul c k) h]
theorem mul_mul (c : Cu p a b) (hd : Ns p a b) {P : Pt} (h : On p a b P) {n : Nat} (hn : mulP p a P n = none) : ∀ k, mulP p a P (n * k) = none
  | 0 => rfl
  | k + 1 => by rw [Nat.mul_succ, mul_add c hd h, mul_mul c hd h hn k, hn]; rfl
theorem mul_mod (c : Cu p a b) (hd : Ns p a b) {P : Pt} (h : On p a b P) {n : Nat} (hn : mulP p a P n = none) (k : Nat) : mulP p a P k = mulP p a P (k % n) := by
  have e : k = n * (k / n) + k % n := (Nat.div_add_mod k n).symm
  rw [e, mul_add c hd h, mul_mul c hd h hn]
  show mulP p a P (k % n) = _
  rw [← e]
/-- some multiple is the zero point -/
theorem order_ex (c : Cu p a b) (hd : Ns p a b) {P : Pt} (h : On p a b P) : ∃ n, 0 < n ∧ n ≤ (ptsK p a b p.toNat).length ∧ mulP p a P n = none ∧ ∀ k, 0 < k → k < n → mulP p a P k ≠ none := by
  have some_ : ∃ n, 0 < n ∧ n ≤ (ptsK p a b p.toNat).length ∧ mulP p a P n = none := by
    refine Classical.byContradiction fun hne => ?_
    have no : ∀ n, 0 < n → n ≤ (ptsK p a b p.toNat).length → mulP p a P n ≠ none := fun n h0 h1 h2 => hne ⟨n, h0, h1, h2⟩
    have inj : ∀ i j, i < j → j ≤ (ptsK p a b p.toNat).length → mulP p a P i ≠ mulP p a P j := fun i j hij hj e => by
      have e2 := mul_add c hd h i (j - i)
      rw [show i + (j - i) = j by omega, ← e, add_comm c (h.mul c i) (h.mul c _)] at e2
      have e3 : addP p a (negP p (mulP p a P i)) (mulP p a P i) = addP p a (negP p (mulP p a P i)) (addP p a (mulP p a P (j - i)) (mulP p a P i)) := by rw [← e2]
      have hi := h.mul c i
      rw [add_comm c (hi.neg c) hi, add_neg c, add_comm c (h.mul c (j - i)) hi] at e3
      have := cancel c hd (hi.neg c) (h.mul c (j - i))
      rw [neg_neg c hi] at this
      exact no (j - i) (by omega) (by omega) (this.symm.trans e3.symm)
    have nd : ((List.range ((ptsK p a b p.toNat).length + 1)).map (mulP p a P)).Nodup := by
      refine List.pairwise_map.mpr (List.Pairwise.imp_of_mem ?_ (List.nodup_range (n := (ptsK p a b p.toNat).length + 1)))
      intro i j hi hj hij e
      have hi := List.mem_range.mp hi
      have hj := List.mem_range.mp hj
      rcases Nat.lt_or_ge i j with hl | hl
      · exact inj i j hl (by omega) e
      · exact inj j i (by omega) (by omega) e.symm
    have key : ∀ (l1 l2 : List Pt), l1.Nodup → (∀ x ∈ l1, x ∈ l2) → l1.length ≤ l2.length := by
      intro l1
      induction l1 with
      | nil => exact fun _ _ _ => Nat.zero_le _
      | cons x l1 ih =>
        intro l2 nd hs
        have nd' := List.nodup_cons.mp nd
        have hx := hs x List.mem_cons_self
        have := ih (l2.erase x) nd'.2 fun y hy => (List.mem_erase_of_ne (fun z : y = x => nd'.1 (by rw [← z]; exact hy))).mpr (hs y (List.mem_cons_of_mem _ hy))
        rw [List.length_erase_of_mem hx] at this
        have : 0 < l2.length := List.length_pos_of_mem hx
        simp only [List.length_cons]
        omega
    have := key _ (ptsK p a b p.toNat) nd fun x hx => by
      obtain ⟨k, _, rfl⟩ := List.mem_map.mp hx
      exact (pts_mem c _).mpr (h.mul c k)
    rw [List.length_map, List.length_range] at this
    omega
  obtain ⟨n, n0, n1, hn⟩ := some_
  induction n using Nat.strongRecOn with
  | ind n ih =>
    by_cases hx : ∃ k, 0 < k ∧ k < n ∧ mulP p a P k = none
    · obtain ⟨k, k0, k1, hk⟩ := hx
      exact ih k k1 k0 (by omega) hk
    · exact ⟨n, n0, n1, hn, fun k k0 k1 z => hx ⟨k, k0, k1, z⟩⟩
end MC
namespace MC
variable {p a b : Int}
theorem mul_dbl (c : Cu p a b) (hd : Ns p a b) {R : Pt} (h : On p a b R) : ∀ m, mulP p a (addP p a R R) m = mulP p a R (2 * m)
  | 0 => rfl
  | m + 1 => by
    show addP p a (mulP p a (addP p a R R) m) (addP p a R R) = mulP p a R (2 * m + 1 + 1)
    rw [mul_dbl c hd h m]
    show _ = addP p a (addP p a (mulP p a R (2 * m)) R) R
    rw [assoc c hd (h.mul c _) h h]
theorem mul_succ' (c : Cu p a b) (hd : Ns p a b) {R : Pt} (h : On p a b R) (m : Nat) : mulP p a R (m + 1) = addP p a R (mulP p a R m) := add_comm c (h.mul c m) h
/-- a multiple by any whole number -/
def zmul (p a : Int) (P : Pt) (z : Int) : Pt := if z < 0 then mulP p a (negP p P) (-z).toNat else mulP p a P z.toNat
theorem zmul_mod (c : Cu p a b) (hd : Ns p a b) {P : Pt} (h : On p a b P) {n : Nat} (n0 : 0 < n) (hn : mulP p a P n = none) (z : Int) : zmul p a P z = mulP p a P (z % n).toNat := by
  have b0 := Int.emod_nonneg z (show (n : Int) ≠ 0 by omega)
  unfold zmul
  split
  · rename_i hz
    rw [neg_mul c h]
    have hs : (z % n).toNat + (-z).toNat = n * (-(z / n)).toNat := by
      have e := Int.emod_add_mul_ediv z n
      have q0 : z / n ≤ 0 := by
        have := Int.ediv_lt_of_lt_mul (a := z) (b := 1) (c := n) (by omega) (by omega)
        omega
      have : (((z % n).toNat + (-z).toNat : Nat) : Int) = ((n * (-(z / n)).toNat : Nat) : Int) := by
        rw [Int.natCast_add, Int.natCast_mul, Int.toNat_of_nonneg b0, Int.toNat_of_nonneg (by omega), Int.toNat_of_nonneg (by omega), Int.mul_neg]
        omega
      omega
    have e := mul_mul c hd h hn (-(z / n)).toNat
    rw [← hs, mul_add c hd h] at e
    have e2 := eq_neg c (h.mul c _) (h.mul c _) e
    rw [e2, neg_neg c (h.mul c _)]
  · rename_i hz
    have := mul_mod c hd h hn z.toNat
    rw [this]
    congr 1
    have : ((z.toNat % n : Nat) : Int) = z % n := by rw [Int.natCast_emod, Int.toNat_of_nonneg (by omega)]
    omega
theorem ptsK_le (p a b : Int) (hp : p < 900) : ∀ k, (ptsK p a b k).length ≤ 1 + 900 * k
  | 0 => Nat.le_refl _
  | k + 1 => by
    have rl := rootsK_len (p := p) p.toNat (side p a b k)
    have := ptsK_le p a b hp k
    rw [ptsK_succ, List.length_append, List.length_map]
    omega
end MC
/-! values of division polynomials: d = 16 s s, b the third, t = 6 x x + 2 a (printed by wip/mkeds.py) -/
namespace MC
open MS
section
variable {p : Int}
def pf (d b t : Ser p) : Nat → Ser p
  | 0 => 0
  | 1 => 1
  | 2 => 1
  | 3 => b
  | 4 => b * t - d
  | 5 => 0 - b ^ 3 + d * b * t - d ^ 2
  | 6 => 0 - b ^ 3 * t ^ 2 - b ^ 4 + 3 * d * b ^ 2 * t - 2 * d ^ 2 * b
  | 7 => 0 - b ^ 6 - d * b ^ 3 * t ^ 3 + d * b ^ 4 * t + 3 * d ^ 2 * b ^ 2 * t ^ 2 - d ^ 2 * b ^ 3 - 3 * d ^ 3 * b * t + d ^ 4
  | 8 => 0 - b ^ 6 * t ^ 3 - 2 * b ^ 7 * t + 6 * d * b ^ 5 * t ^ 2 + 2 * d * b ^ 6 - d ^ 2 * b ^ 3 * t ^ 3 - 9 * d ^ 2 * b ^ 4 * t + 3 * d ^ 3 * b ^ 2 * t ^ 2 + 4 * d ^ 3 * b ^ 3 - 3 * d ^ 4 * b * t + d ^ 5
  | 9 => b ^ 10 - d * b ^ 6 * t ^ 5 - d * b ^ 7 * t ^ 3 - 3 * d * b ^ 8 * t + 6 * d ^ 2 * b ^ 5 * t ^ 4 + 6 * d ^ 2 * b ^ 6 * t ^ 2 + 3 * d ^ 2 * b ^ 7 - 15 * d ^ 3 * b ^ 4 * t ^ 3 - 9 * d ^ 3 * b ^ 5 * t + 19 * d ^ 4 * b ^ 3 * t ^ 2 + 4 * d ^ 4 * b ^ 4 - 12 * d ^ 5 * b ^ 2 * t + 3 * d ^ 6 * b
  | 10 => b ^ 10 * t ^ 4 + 3 * b ^ 11 * t ^ 2 + b ^ 12 - 10 * d * b ^ 9 * t ^ 3 - 9 * d * b ^ 10 * t - d ^ 2 * b ^ 6 * t ^ 6 + 3 * d ^ 2 * b ^ 7 * t ^ 4 + 27 * d ^ 2 * b ^ 8 * t ^ 2 + 6 * d ^ 2 * b ^ 9 + 6 * d ^ 3 * b ^ 5 * t ^ 5 - 13 * d ^ 3 * b ^ 6 * t ^ 3 - 28 * d ^ 3 * b ^ 7 * t - 15 * d ^ 4 * b ^ 4 * t ^ 4 + 21 * d ^ 4 * b ^ 5 * t ^ 2 + 10 * d ^ 4 * b ^ 6 + 20 * d ^ 5 * b ^ 3 * t ^ 3 - 15 * d ^ 5 * b ^ 4 * t - 15 * d ^ 6 * b ^ 2 * t ^ 2 + 4 * d ^ 6 * b ^ 3 + 6 * d ^ 7 * b * t - d ^ 8
  | 11 => b ^ 15 + d * b ^ 10 * t ^ 7 + 3 * d * b ^ 11 * t ^ 5 + 4 * d * b ^ 12 * t ^ 3 - 3 * d * b ^ 13 * t - 10 * d ^ 2 * b ^ 9 * t ^ 6 - 24 * d ^ 2 * b ^ 10 * t ^ 4 - 9 * d ^ 2 * b ^ 11 * t ^ 2 + 3 * d ^ 2 * b ^ 12 + 45 * d ^ 3 * b ^ 8 * t ^ 5 + 65 * d ^ 3 * b ^ 9 * t ^ 3 + 6 * d ^ 3 * b ^ 10 * t - d ^ 4 * b ^ 6 * t ^ 6 - 110 * d ^ 4 * b ^ 7 * t ^ 4 - 81 * d ^ 4 * b ^ 8 * t ^ 2 - d ^ 4 * b ^ 9 + 6 * d ^ 5 * b ^ 5 * t ^ 5 + 155 * d ^ 5 * b ^ 6 * t ^ 3 + 48 * d ^ 5 * b ^ 7 * t - 15 * d ^ 6 * b ^ 4 * t ^ 4 - 126 * d ^ 6 * b ^ 5 * t ^ 2 - 11 * d ^ 6 * b ^ 6 + 20 * d ^ 7 * b ^ 3 * t ^ 3 + 55 * d ^ 7 * b ^ 4 * t - 15 * d ^ 8 * b ^ 2 * t ^ 2 - 10 * d ^ 8 * b ^ 3 + 6 * d ^ 9 * b * t - d ^ 10
  | 12 => b ^ 15 * t ^ 5 + 4 * b ^ 16 * t ^ 3 + 3 * b ^ 17 * t - 15 * d * b ^ 14 * t ^ 4 - 24 * d * b ^ 15 * t ^ 2 - 3 * d * b ^ 16 + d ^ 2 * b ^ 10 * t ^ 9 + 9 * d ^ 2 * b ^ 12 * t ^ 5 + 69 * d ^ 2 * b ^ 13 * t ^ 3 + 36 * d ^ 2 * b ^ 14 * t - 10 * d ^ 3 * b ^ 9 * t ^ 8 - 4 * d ^ 3 * b ^ 10 * t ^ 6 - 60 * d ^ 3 * b ^ 11 * t ^ 4 - 127 * d ^ 3 * b ^ 12 * t ^ 2 - 16 * d ^ 3 * b ^ 13 + 45 * d ^ 4 * b ^ 8 * t ^ 7 + 30 * d ^ 4 * b ^ 9 * t ^ 5 + 150 * d ^ 4 * b ^ 10 * t ^ 3 + 102 * d ^ 4 * b ^ 11 * t - 120 * d ^ 5 * b ^ 7 * t ^ 6 - 90 * d ^ 5 * b ^ 8 * t ^ 4 - 180 * d ^ 5 * b ^ 9 * t ^ 2 - 30 * d ^ 5 * b ^ 10 + 209 * d ^ 6 * b ^ 6 * t ^ 5 + 140 * d ^ 6 * b ^ 7 * t ^ 3 + 105 * d ^ 6 * b ^ 8 * t - 246 * d ^ 7 * b ^ 5 * t ^ 4 - 120 * d ^ 7 * b ^ 6 * t ^ 2 - 24 * d ^ 7 * b ^ 7 + 195 * d ^ 8 * b ^ 4 * t ^ 3 + 54 * d ^ 8 * b ^ 5 * t - 100 * d ^ 9 * b ^ 3 * t ^ 2 - 10 * d ^ 9 * b ^ 4 + 30 * d ^ 10 * b ^ 2 * t - 4 * d ^ 11 * b
  | 13 => 0 - b ^ 21 + d * b ^ 15 * t ^ 9 + 5 * d * b ^ 16 * t ^ 7 + 9 * d * b ^ 17 * t ^ 5 + 4 * d * b ^ 18 * t ^ 3 + 6 * d * b ^ 19 * t - 15 * d ^ 2 * b ^ 14 * t ^ 8 - 59 * d ^ 2 * b ^ 15 * t ^ 6 - 60 * d ^ 2 * b ^ 16 * t ^ 4 - 27 * d ^ 2 * b ^ 17 * t ^ 2 - 6 * d ^ 2 * b ^ 18 + 105 * d ^ 3 * b ^ 13 * t ^ 7 + 270 * d ^ 3 * b ^ 14 * t ^ 5 + 170 * d ^ 3 * b ^ 15 * t ^ 3 + 42 * d ^ 3 * b ^ 16 * t + d ^ 4 * b ^ 10 * t ^ 10 - 6 * d ^ 4 * b ^ 11 * t ^ 8 - 412 * d ^ 4 * b ^ 12 * t ^ 6 - 655 * d ^ 4 * b ^ 13 * t ^ 4 - 240 * d ^ 4 * b ^ 14 * t ^ 2 - 19 * d ^ 4 * b ^ 15 - 10 * d ^ 5 * b ^ 9 * t ^ 9 + 51 * d ^ 5 * b ^ 10 * t ^ 7 + 987 * d ^ 5 * b ^ 11 * t ^ 5 + 925 * d ^ 5 * b ^ 12 * t ^ 3 + 165 * d ^ 5 * b ^ 13 * t + 45 * d ^ 6 * b ^ 8 * t ^ 8 - 190 * d ^ 6 * b ^ 9 * t ^ 6 - 1506 * d ^ 6 * b ^ 10 * t ^ 4 - 765 * d ^ 6 * b ^ 11 * t ^ 2 - 44 * d ^ 6 * b ^ 12 - 120 * d ^ 7 * b ^ 7 * t ^ 7 + 405 * d ^ 7 * b ^ 8 * t ^ 5 + 1475 * d ^ 7 * b ^ 9 * t ^ 3 + 344 * d ^ 7 * b ^ 10 * t + 210 * d ^ 8 * b ^ 6 * t ^ 6 - 540 * d ^ 8 * b ^ 7 * t ^ 4 - 900 * d ^ 8 * b ^ 8 * t ^ 2 - 65 * d ^ 8 * b ^ 9 - 252 * d ^ 9 * b ^ 5 * t ^ 5 + 461 * d ^ 9 * b ^ 6 * t ^ 3 + 312 * d ^ 9 * b ^ 7 * t + 210 * d ^ 10 * b ^ 4 * t ^ 4 - 246 * d ^ 10 * b ^ 5 * t ^ 2 - 47 * d ^ 10 * b ^ 6 - 120 * d ^ 11 * b ^ 3 * t ^ 3 + 75 * d ^ 11 * b ^ 4 * t + 45 * d ^ 12 * b ^ 2 * t ^ 2 - 10 * d ^ 12 * b ^ 3 - 10 * d ^ 13 * b * t + d ^ 14
  | _ => 0
variable (d b t : Ser p)
theorem pf_r5 : pf d b t 5 = d * (pf d b t 4 * pf d b t 2 * pf d b t 2 * pf d b t 2) - (pf d b t 1 * pf d b t 3 * pf d b t 3 * pf d b t 3) := by
  simp only [pf]
  grind
theorem pf_r6 : pf d b t 6 = pf d b t 3 * (pf d b t 5 * pf d b t 2 * pf d b t 2 - pf d b t 1 * pf d b t 4 * pf d b t 4) := by
  simp only [pf]
  grind
theorem pf_r7 : pf d b t 7 = (pf d b t 5 * pf d b t 3 * pf d b t 3 * pf d b t 3) - d * (pf d b t 2 * pf d b t 4 * pf d b t 4 * pf d b t 4) := by
  simp only [pf]
  grind
theorem pf_r8 : pf d b t 8 = pf d b t 4 * (pf d b t 6 * pf d b t 3 * pf d b t 3 - pf d b t 2 * pf d b t 5 * pf d b t 5) := by
  simp only [pf]
  grind
theorem pf_r9 : pf d b t 9 = d * (pf d b t 6 * pf d b t 4 * pf d b t 4 * pf d b t 4) - (pf d b t 3 * pf d b t 5 * pf d b t 5 * pf d b t 5) := by
  simp only [pf]
  grind
theorem pf_r10 : pf d b t 10 = pf d b t 5 * (pf d b t 7 * pf d b t 4 * pf d b t 4 - pf d b t 3 * pf d b t 6 * pf d b t 6) := by
  simp only [pf]
  grind
theorem pf_r11 : pf d b t 11 = (pf d b t 7 * pf d b t 5 * pf d b t 5 * pf d b t 5) - d * (pf d b t 4 * pf d b t 6 * pf d b t 6 * pf d b t 6) := by
  simp only [pf]
  grind
theorem pf_r12 : pf d b t 12 = pf d b t 6 * (pf d b t 8 * pf d b t 5 * pf d b t 5 - pf d b t 4 * pf d b t 7 * pf d b t 7) := by
  simp only [pf]
  grind
theorem pf_r13 : pf d b t 13 = d * (pf d b t 8 * pf d b t 6 * pf d b t 6 * pf d b t 6) - (pf d b t 5 * pf d b t 7 * pf d b t 7 * pf d b t 7) := by
  simp only [pf]
  grind
theorem pf_i2 : pf d b t 4 * pf d b t 1 * pf d b t 1 + pf d b t 0 * pf d b t 3 * pf d b t 3 + d * pf d b t 2 * pf d b t 2 * pf d b t 2 = t * pf d b t 1 * pf d b t 2 * pf d b t 3 := by
  simp only [pf]
  grind
theorem pf_i3 : pf d b t 5 * pf d b t 2 * pf d b t 2 + pf d b t 1 * pf d b t 4 * pf d b t 4 + pf d b t 3 * pf d b t 3 * pf d b t 3 = t * pf d b t 2 * pf d b t 3 * pf d b t 4 := by
  simp only [pf]
  grind
theorem pf_i4 : pf d b t 6 * pf d b t 3 * pf d b t 3 + pf d b t 2 * pf d b t 5 * pf d b t 5 + d * pf d b t 4 * pf d b t 4 * pf d b t 4 = t * pf d b t 3 * pf d b t 4 * pf d b t 5 := by
  simp only [pf]
  grind
theorem pf_i5 : pf d b t 7 * pf d b t 4 * pf d b t 4 + pf d b t 3 * pf d b t 6 * pf d b t 6 + pf d b t 5 * pf d b t 5 * pf d b t 5 = t * pf d b t 4 * pf d b t 5 * pf d b t 6 := by
  simp only [pf]
  grind
theorem pf_i6 : pf d b t 8 * pf d b t 5 * pf d b t 5 + pf d b t 4 * pf d b t 7 * pf d b t 7 + d * pf d b t 6 * pf d b t 6 * pf d b t 6 = t * pf d b t 5 * pf d b t 6 * pf d b t 7 := by
  simp only [pf]
  grind
theorem pf_i7 : pf d b t 9 * pf d b t 6 * pf d b t 6 + pf d b t 5 * pf d b t 8 * pf d b t 8 + pf d b t 7 * pf d b t 7 * pf d b t 7 = t * pf d b t 6 * pf d b t 7 * pf d b t 8 := by
  simp only [pf]
  grind
theorem pf_i8 : pf d b t 10 * pf d b t 7 * pf d b t 7 + pf d b t 6 * pf d b t 9 * pf d b t 9 + d * pf d b t 8 * pf d b t 8 * pf d b t 8 = t * pf d b t 7 * pf d b t 8 * pf d b t 9 := by
  simp only [pf]
  grind
theorem pf_i9 : pf d b t 11 * pf d b t 8 * pf d b t 8 + pf d b t 7 * pf d b t 10 * pf d b t 10 + pf d b t 9 * pf d b t 9 * pf d b t 9 = t * pf d b t 8 * pf d b t 9 * pf d b t 10 := by
  simp only [pf]
  grind
theorem pf_i10 : pf d b t 12 * pf d b t 9 * pf d b t 9 + pf d b t 8 * pf d b t 11 * pf d b t 11 + d * pf d b t 10 * pf d b t 10 * pf d b t 10 = t * pf d b t 9 * pf d b t 10 * pf d b t 11 := by
  simp only [pf]
  grind
theorem pf_s2 : pf d b t 4 * pf d b t 0 = pf d b t 3 * pf d b t 1 - b * (pf d b t 2 * pf d b t 2) := by
  simp only [pf]
  grind
theorem pf_s3 : pf d b t 5 * pf d b t 1 = d * pf d b t 4 * pf d b t 2 - b * (pf d b t 3 * pf d b t 3) := by
  simp only [pf]
  grind
theorem pf_s4 : pf d b t 6 * pf d b t 2 = pf d b t 5 * pf d b t 3 - b * (pf d b t 4 * pf d b t 4) := by
  simp only [pf]
  grind
theorem pf_s5 : pf d b t 7 * pf d b t 3 = d * pf d b t 6 * pf d b t 4 - b * (pf d b t 5 * pf d b t 5) := by
  simp only [pf]
  grind
theorem pf_s6 : pf d b t 8 * pf d b t 4 = pf d b t 7 * pf d b t 5 - b * (pf d b t 6 * pf d b t 6) := by
  simp only [pf]
  grind
theorem pf_s7 : pf d b t 9 * pf d b t 5 = d * pf d b t 8 * pf d b t 6 - b * (pf d b t 7 * pf d b t 7) := by
  simp only [pf]
  grind
theorem pf_s8 : pf d b t 10 * pf d b t 6 = pf d b t 9 * pf d b t 7 - b * (pf d b t 8 * pf d b t 8) := by
  simp only [pf]
  grind
theorem pf_s9 : pf d b t 11 * pf d b t 7 = d * pf d b t 10 * pf d b t 8 - b * (pf d b t 9 * pf d b t 9) := by
  simp only [pf]
  grind
theorem pf_s10 : pf d b t 12 * pf d b t 8 = pf d b t 11 * pf d b t 9 - b * (pf d b t 10 * pf d b t 10) := by
  simp only [pf]
  grind
theorem pf_s11 : pf d b t 13 * pf d b t 9 = d * pf d b t 12 * pf d b t 10 - b * (pf d b t 11 * pf d b t 11) := by
  simp only [pf]
  grind
end
end MC
/-! the sequence of the division values (printed by wip/mkedw.py) -/
namespace MC
open MS
section
variable {p : Int}
def W (al b t : Ser p) (n : Nat) : Ser p := if n % 2 = 0 then al * pf (al * al * al * al) b t n else pf (al * al * al * al) b t n
variable (al b t : Ser p)
theorem We {n : Nat} (h : n % 2 = 0) : W al b t n = al * pf (al * al * al * al) b t n := if_pos h
theorem Wo {n : Nat} (h : n % 2 = 1) : W al b t n = pf (al * al * al * al) b t n := if_neg (by omega)
theorem W_r5 : W al b t 5 = W al b t 4 * W al b t 2 * W al b t 2 * W al b t 2 - W al b t 1 * W al b t 3 * W al b t 3 * W al b t 3 := by
  have h := pf_r5 (al * al * al * al) b t
  rw [Wo al b t (n := 1) rfl, We al b t (n := 2) rfl, Wo al b t (n := 3) rfl, We al b t (n := 4) rfl, Wo al b t (n := 5) rfl]
  generalize pf (al * al * al * al) b t 1 = x1 at h ⊢
  generalize pf (al * al * al * al) b t 2 = x2 at h ⊢
  generalize pf (al * al * al * al) b t 3 = x3 at h ⊢
  generalize pf (al * al * al * al) b t 4 = x4 at h ⊢
  generalize pf (al * al * al * al) b t 5 = x5 at h ⊢
  grind
theorem W_r6 : W al b t 6 * al = W al b t 3 * (W al b t 5 * W al b t 2 * W al b t 2 - W al b t 1 * W al b t 4 * W al b t 4) := by
  have h := pf_r6 (al * al * al * al) b t
  rw [Wo al b t (n := 1) rfl, We al b t (n := 2) rfl, Wo al b t (n := 3) rfl, We al b t (n := 4) rfl, Wo al b t (n := 5) rfl, We al b t (n := 6) rfl]
  generalize pf (al * al * al * al) b t 1 = x1 at h ⊢
  generalize pf (al * al * al * al) b t 2 = x2 at h ⊢
  generalize pf (al * al * al * al) b t 3 = x3 at h ⊢
  generalize pf (al * al * al * al) b t 4 = x4 at h ⊢
  generalize pf (al * al * al * al) b t 5 = x5 at h ⊢
  generalize pf (al * al * al * al) b t 6 = x6 at h ⊢
  grind
theorem W_r7 : W al b t 7 = W al b t 5 * W al b t 3 * W al b t 3 * W al b t 3 - W al b t 2 * W al b t 4 * W al b t 4 * W al b t 4 := by
  have h := pf_r7 (al * al * al * al) b t
  rw [We al b t (n := 2) rfl, Wo al b t (n := 3) rfl, We al b t (n := 4) rfl, Wo al b t (n := 5) rfl, Wo al b t (n := 7) rfl]
  generalize pf (al * al * al * al) b t 2 = x2 at h ⊢
  generalize pf (al * al * al * al) b t 3 = x3 at h ⊢
  generalize pf (al * al * al * al) b t 4 = x4 at h ⊢
  generalize pf (al * al * al * al) b t 5 = x5 at h ⊢
  generalize pf (al * al * al * al) b t 7 = x7 at h ⊢
  grind
theorem W_r8 : W al b t 8 * al = W al b t 4 * (W al b t 6 * W al b t 3 * W al b t 3 - W al b t 2 * W al b t 5 * W al b t 5) := by
  have h := pf_r8 (al * al * al * al) b t
  rw [We al b t (n := 2) rfl, Wo al b t (n := 3) rfl, We al b t (n := 4) rfl, Wo al b t (n := 5) rfl, We al b t (n := 6) rfl, We al b t (n := 8) rfl]
  generalize pf (al * al * al * al) b t 2 = x2 at h ⊢
  generalize pf (al * al * al * al) b t 3 = x3 at h ⊢
  generalize pf (al * al * al * al) b t 4 = x4 at h ⊢
  generalize pf (al * al * al * al) b t 5 = x5 at h ⊢
  generalize pf (al * al * al * al) b t 6 = x6 at h ⊢
  generalize pf (al * al * al * al) b t 8 = x8 at h ⊢
  grind
theorem W_r9 : W al b t 9 = W al b t 6 * W al b t 4 * W al b t 4 * W al b t 4 - W al b t 3 * W al b t 5 * W al b t 5 * W al b t 5 := by
  have h := pf_r9 (al * al * al * al) b t
  rw [Wo al b t (n := 3) rfl, We al b t (n := 4) rfl, Wo al b t (n := 5) rfl, We al b t (n := 6) rfl, Wo al b t (n := 9) rfl]
  generalize pf (al * al * al * al) b t 3 = x3 at h ⊢
  generalize pf (al * al * al * al) b t 4 = x4 at h ⊢
  generalize pf (al * al * al * al) b t 5 = x5 at h ⊢
  generalize pf (al * al * al * al) b t 6 = x6 at h ⊢
  generalize pf (al * al * al * al) b t 9 = x9 at h ⊢
  grind
theorem W_r10 : W al b t 10 * al = W al b t 5 * (W al b t 7 * W al b t 4 * W al b t 4 - W al b t 3 * W al b t 6 * W al b t 6) := by
  have h := pf_r10 (al * al * al * al) b t
  rw [Wo al b t (n := 3) rfl, We al b t (n := 4) rfl, Wo al b t (n := 5) rfl, We al b t (n := 6) rfl, Wo al b t (n := 7) rfl, We al b t (n := 10) rfl]
  generalize pf (al * al * al * al) b t 3 = x3 at h ⊢
  generalize pf (al * al * al * al) b t 4 = x4 at h ⊢
  generalize pf (al * al * al * al) b t 5 = x5 at h ⊢
  generalize pf (al * al * al * al) b t 6 = x6 at h ⊢
  generalize pf (al * al * al * al) b t 7 = x7 at h ⊢
  generalize pf (al * al * al * al) b t 10 = x10 at h ⊢
  grind
theorem W_r11 : W al b t 11 = W al b t 7 * W al b t 5 * W al b t 5 * W al b t 5 - W al b t 4 * W al b t 6 * W al b t 6 * W al b t 6 := by
  have h := pf_r11 (al * al * al * al) b t
  rw [We al b t (n := 4) rfl, Wo al b t (n := 5) rfl, We al b t (n := 6) rfl, Wo al b t (n := 7) rfl, Wo al b t (n := 11) rfl]
  generalize pf (al * al * al * al) b t 4 = x4 at h ⊢
  generalize pf (al * al * al * al) b t 5 = x5 at h ⊢
  generalize pf (al * al * al * al) b t 6 = x6 at h ⊢
  generalize pf (al * al * al * al) b t 7 = x7 at h ⊢
  generalize pf (al * al * al * al) b t 11 = x11 at h ⊢
  grind
theorem W_r12 : W al b t 12 * al = W al b t 6 * (W al b t 8 * W al b t 5 * W al b t 5 - W al b t 4 * W al b t 7 * W al b t 7) := by
  have h := pf_r12 (al * al * al * al) b t
  rw [We al b t (n := 4) rfl, Wo al b t (n := 5) rfl, We al b t (n := 6) rfl, Wo al b t (n := 7) rfl, We al b t (n := 8) rfl, We al b t (n := 12) rfl]
  generalize pf (al * al * al * al) b t 4 = x4 at h ⊢
  generalize pf (al * al * al * al) b t 5 = x5 at h ⊢
  generalize pf (al * al * al * al) b t 6 = x6 at h ⊢
  generalize pf (al * al * al * al) b t 7 = x7 at h ⊢
  generalize pf (al * al * al * al) b t 8 = x8 at h ⊢
  generalize pf (al * al * al * al) b t 12 = x12 at h ⊢
  grind
theorem W_i2 : W al b t 4 * W al b t 1 * W al b t 1 + W al b t 0 * W al b t 3 * W al b t 3 + al * al * (W al b t 2 * W al b t 2 * W al b t 2) = t * W al b t 1 * W al b t 2 * W al b t 3 := by
  have h := pf_i2 (al * al * al * al) b t
  rw [We al b t (n := 0) rfl, Wo al b t (n := 1) rfl, We al b t (n := 2) rfl, Wo al b t (n := 3) rfl, We al b t (n := 4) rfl]
  generalize pf (al * al * al * al) b t 0 = x0 at h ⊢
  generalize pf (al * al * al * al) b t 1 = x1 at h ⊢
  generalize pf (al * al * al * al) b t 2 = x2 at h ⊢
  generalize pf (al * al * al * al) b t 3 = x3 at h ⊢
  generalize pf (al * al * al * al) b t 4 = x4 at h ⊢
  grind
theorem W_i3 : W al b t 5 * W al b t 2 * W al b t 2 + W al b t 1 * W al b t 4 * W al b t 4 + al * al * (W al b t 3 * W al b t 3 * W al b t 3) = t * W al b t 2 * W al b t 3 * W al b t 4 := by
  have h := pf_i3 (al * al * al * al) b t
  rw [Wo al b t (n := 1) rfl, We al b t (n := 2) rfl, Wo al b t (n := 3) rfl, We al b t (n := 4) rfl, Wo al b t (n := 5) rfl]
  generalize pf (al * al * al * al) b t 1 = x1 at h ⊢
  generalize pf (al * al * al * al) b t 2 = x2 at h ⊢
  generalize pf (al * al * al * al) b t 3 = x3 at h ⊢
  generalize pf (al * al * al * al) b t 4 = x4 at h ⊢
  generalize pf (al * al * al * al) b t 5 = x5 at h ⊢
  grind
theorem W_i4 : W al b t 6 * W al b t 3 * W al b t 3 + W al b t 2 * W al b t 5 * W al b t 5 + al * al * (W al b t 4 * W al b t 4 * W al b t 4) = t * W al b t 3 * W al b t 4 * W al b t 5 := by
  have h := pf_i4 (al * al * al * al) b t
  rw [We al b t (n := 2) rfl, Wo al b t (n := 3) rfl, We al b t (n := 4) rfl, Wo al b t (n := 5) rfl, We al b t (n := 6) rfl]
  generalize pf (al * al * al * al) b t 2 = x2 at h ⊢
  generalize pf (al * al * al * al) b t 3 = x3 at h ⊢
  generalize pf (al * al * al * al) b t 4 = x4 at h ⊢
  generalize pf (al * al * al * al) b t 5 = x5 at h ⊢
  generalize pf (al * al * al * al) b t 6 = x6 at h ⊢
  grind
theorem W_i5 : W al b t 7 * W al b t 4 * W al b t 4 + W al b t 3 * W al b t 6 * W al b t 6 + al * al * (W al b t 5 * W al b t 5 * W al b t 5) = t * W al b t 4 * W al b t 5 * W al b t 6 := by
  have h := pf_i5 (al * al * al * al) b t
  rw [Wo al b t (n := 3) rfl, We al b t (n := 4) rfl, Wo al b t (n := 5) rfl, We al b t (n := 6) rfl, Wo al b t (n := 7) rfl]
  generalize pf (al * al * al * al) b t 3 = x3 at h ⊢
  generalize pf (al * al * al * al) b t 4 = x4 at h ⊢
  generalize pf (al * al * al * al) b t 5 = x5 at h ⊢
  generalize pf (al * al * al * al) b t 6 = x6 at h ⊢
  generalize pf (al * al * al * al) b t 7 = x7 at h ⊢
  grind
theorem W_i6 : W al b t 8 * W al b t 5 * W al b t 5 + W al b t 4 * W al b t 7 * W al b t 7 + al * al * (W al b t 6 * W al b t 6 * W al b t 6) = t * W al b t 5 * W al b t 6 * W al b t 7 := by
  have h := pf_i6 (al * al * al * al) b t
  rw [We al b t (n := 4) rfl, Wo al b t (n := 5) rfl, We al b t (n := 6) rfl, Wo al b t (n := 7) rfl, We al b t (n := 8) rfl]
  generalize pf (al * al * al * al) b t 4 = x4 at h ⊢
  generalize pf (al * al * al * al) b t 5 = x5 at h ⊢
  generalize pf (al * al * al * al) b t 6 = x6 at h ⊢
  generalize pf (al * al * al * al) b t 7 = x7 at h ⊢
  generalize pf (al * al * al * al) b t 8 = x8 at h ⊢
  grind
theorem W_i7 : W al b t 9 * W al b t 6 * W al b t 6 + W al b t 5 * W al b t 8 * W al b t 8 + al * al * (W al b t 7 * W al b t 7 * W al b t 7) = t * W al b t 6 * W al b t 7 * W al b t 8 := by
  have h := pf_i7 (al * al * al * al) b t
  rw [Wo al b t (n := 5) rfl, We al b t (n := 6) rfl, Wo al b t (n := 7) rfl, We al b t (n := 8) rfl, Wo al b t (n := 9) rfl]
  generalize pf (al * al * al * al) b t 5 = x5 at h ⊢
  generalize pf (al * al * al * al) b t 6 = x6 at h ⊢
  generalize pf (al * al * al * al) b t 7 = x7 at h ⊢
  generalize pf (al * al * al * al) b t 8 = x8 at h ⊢
  generalize pf (al * al * al * al) b t 9 = x9 at h ⊢
  grind
theorem W_i8 : W al b t 10 * W al b t 7 * W al b t 7 + W al b t 6 * W al b t 9 * W al b t 9 + al * al * (W al b t 8 * W al b t 8 * W al b t 8) = t * W al b t 7 * W al b t 8 * W al b t 9 := by
  have h := pf_i8 (al * al * al * al) b t
  rw [We al b t (n := 6) rfl, Wo al b t (n := 7) rfl, We al b t (n := 8) rfl, Wo al b t (n := 9) rfl, We al b t (n := 10) rfl]
  generalize pf (al * al * al * al) b t 6 = x6 at h ⊢
  generalize pf (al * al * al * al) b t 7 = x7 at h ⊢
  generalize pf (al * al * al * al) b t 8 = x8 at h ⊢
  generalize pf (al * al * al * al) b t 9 = x9 at h ⊢
  generalize pf (al * al * al * al) b t 10 = x10 at h ⊢
  grind
theorem W_i9 : W al b t 11 * W al b t 8 * W al b t 8 + W al b t 7 * W al b t 10 * W al b t 10 + al * al * (W al b t 9 * W al b t 9 * W al b t 9) = t * W al b t 8 * W al b t 9 * W al b t 10 := by
  have h := pf_i9 (al * al * al * al) b t
  rw [Wo al b t (n := 7) rfl, We al b t (n := 8) rfl, Wo al b t (n := 9) rfl, We al b t (n := 10) rfl, Wo al b t (n := 11) rfl]
  generalize pf (al * al * al * al) b t 7 = x7 at h ⊢
  generalize pf (al * al * al * al) b t 8 = x8 at h ⊢
  generalize pf (al * al * al * al) b t 9 = x9 at h ⊢
  generalize pf (al * al * al * al) b t 10 = x10 at h ⊢
  generalize pf (al * al * al * al) b t 11 = x11 at h ⊢
  grind
theorem W_i10 : W al b t 12 * W al b t 9 * W al b t 9 + W al b t 8 * W al b t 11 * W al b t 11 + al * al * (W al b t 10 * W al b t 10 * W al b t 10) = t * W al b t 9 * W al b t 10 * W al b t 11 := by
  have h := pf_i10 (al * al * al * al) b t
  rw [We al b t (n := 8) rfl, Wo al b t (n := 9) rfl, We al b t (n := 10) rfl, Wo al b t (n := 11) rfl, We al b t (n := 12) rfl]
  generalize pf (al * al * al * al) b t 8 = x8 at h ⊢
  generalize pf (al * al * al * al) b t 9 = x9 at h ⊢
  generalize pf (al * al * al * al) b t 10 = x10 at h ⊢
  generalize pf (al * al * al * al) b t 11 = x11 at h ⊢
  generalize pf (al * al * al * al) b t 12 = x12 at h ⊢
  grind
theorem W_s2 : W al b t 4 * W al b t 0 = al * al * (W al b t 3 * W al b t 1) - b * (W al b t 2 * W al b t 2) := by
  have h := pf_s2 (al * al * al * al) b t
  rw [We al b t (n := 0) rfl, Wo al b t (n := 1) rfl, We al b t (n := 2) rfl, Wo al b t (n := 3) rfl, We al b t (n := 4) rfl]
  generalize pf (al * al * al * al) b t 0 = x0 at h ⊢
  generalize pf (al * al * al * al) b t 1 = x1 at h ⊢
  generalize pf (al * al * al * al) b t 2 = x2 at h ⊢
  generalize pf (al * al * al * al) b t 3 = x3 at h ⊢
  generalize pf (al * al * al * al) b t 4 = x4 at h ⊢
  grind
theorem W_s3 : W al b t 5 * W al b t 1 = al * al * (W al b t 4 * W al b t 2) - b * (W al b t 3 * W al b t 3) := by
  have h := pf_s3 (al * al * al * al) b t
  rw [Wo al b t (n := 1) rfl, We al b t (n := 2) rfl, Wo al b t (n := 3) rfl, We al b t (n := 4) rfl, Wo al b t (n := 5) rfl]
  generalize pf (al * al * al * al) b t 1 = x1 at h ⊢
  generalize pf (al * al * al * al) b t 2 = x2 at h ⊢
  generalize pf (al * al * al * al) b t 3 = x3 at h ⊢
  generalize pf (al * al * al * al) b t 4 = x4 at h ⊢
  generalize pf (al * al * al * al) b t 5 = x5 at h ⊢
  grind
theorem W_s4 : W al b t 6 * W al b t 2 = al * al * (W al b t 5 * W al b t 3) - b * (W al b t 4 * W al b t 4) := by
  have h := pf_s4 (al * al * al * al) b t
  rw [We al b t (n := 2) rfl, Wo al b t (n := 3) rfl, We al b t (n := 4) rfl, Wo al b t (n := 5) rfl, We al b t (n := 6) rfl]
  generalize pf (al * al * al * al) b t 2 = x2 at h ⊢
  generalize pf (al * al * al * al) b t 3 = x3 at h ⊢
  generalize pf (al * al * al * al) b t 4 = x4 at h ⊢
  generalize pf (al * al * al * al) b t 5 = x5 at h ⊢
  generalize pf (al * al * al * al) b t 6 = x6 at h ⊢
  grind
theorem W_s5 : W al b t 7 * W al b t 3 = al * al * (W al b t 6 * W al b t 4) - b * (W al b t 5 * W al b t 5) := by
  have h := pf_s5 (al * al * al * al) b t
  rw [Wo al b t (n := 3) rfl, We al b t (n := 4) rfl, Wo al b t (n := 5) rfl, We al b t (n := 6) rfl, Wo al b t (n := 7) rfl]
  generalize pf (al * al * al * al) b t 3 = x3 at h ⊢
  generalize pf (al * al * al * al) b t 4 = x4 at h ⊢
  generalize pf (al * al * al * al) b t 5 = x5 at h ⊢
  generalize pf (al * al * al * al) b t 6 = x6 at h ⊢
  generalize pf (al * al * al * al) b t 7 = x7 at h ⊢
  grind
theorem W_s6 : W al b t 8 * W al b t 4 = al * al * (W al b t 7 * W al b t 5) - b * (W al b t 6 * W al b t 6) := by
  have h := pf_s6 (al * al * al * al) b t
  rw [We al b t (n := 4) rfl, Wo al b t (n := 5) rfl, We al b t (n := 6) rfl, Wo al b t (n := 7) rfl, We al b t (n := 8) rfl]
  generalize pf (al * al * al * al) b t 4 = x4 at h ⊢
  generalize pf (al * al * al * al) b t 5 = x5 at h ⊢
  generalize pf (al * al * al * al) b t 6 = x6 at h ⊢
  generalize pf (al * al * al * al) b t 7 = x7 at h ⊢
  generalize pf (al * al * al * al) b t 8 = x8 at h ⊢
  grind
theorem W_s7 : W al b t 9 * W al b t 5 = al * al * (W al b t 8 * W al b t 6) - b * (W al b t 7 * W al b t 7) := by
  have h := pf_s7 (al * al * al * al) b t
  rw [Wo al b t (n := 5) rfl, We al b t (n := 6) rfl, Wo al b t (n := 7) rfl, We al b t (n := 8) rfl, Wo al b t (n := 9) rfl]
  generalize pf (al * al * al * al) b t 5 = x5 at h ⊢
  generalize pf (al * al * al * al) b t 6 = x6 at h ⊢
  generalize pf (al * al * al * al) b t 7 = x7 at h ⊢
  generalize pf (al * al * al * al) b t 8 = x8 at h ⊢
  generalize pf (al * al * al * al) b t 9 = x9 at h ⊢
  grind
theorem W_s8 : W al b t 10 * W al b t 6 = al * al * (W al b t 9 * W al b t 7) - b * (W al b t 8 * W al b t 8) := by
  have h := pf_s8 (al * al * al * al) b t
  rw [We al b t (n := 6) rfl, Wo al b t (n := 7) rfl, We al b t (n := 8) rfl, Wo al b t (n := 9) rfl, We al b t (n := 10) rfl]
  generalize pf (al * al * al * al) b t 6 = x6 at h ⊢
  generalize pf (al * al * al * al) b t 7 = x7 at h ⊢
  generalize pf (al * al * al * al) b t 8 = x8 at h ⊢
  generalize pf (al * al * al * al) b t 9 = x9 at h ⊢
  generalize pf (al * al * al * al) b t 10 = x10 at h ⊢
  grind
theorem W_s9 : W al b t 11 * W al b t 7 = al * al * (W al b t 10 * W al b t 8) - b * (W al b t 9 * W al b t 9) := by
  have h := pf_s9 (al * al * al * al) b t
  rw [Wo al b t (n := 7) rfl, We al b t (n := 8) rfl, Wo al b t (n := 9) rfl, We al b t (n := 10) rfl, Wo al b t (n := 11) rfl]
  generalize pf (al * al * al * al) b t 7 = x7 at h ⊢
  generalize pf (al * al * al * al) b t 8 = x8 at h ⊢
  generalize pf (al * al * al * al) b t 9 = x9 at h ⊢
  generalize pf (al * al * al * al) b t 10 = x10 at h ⊢
  generalize pf (al * al * al * al) b t 11 = x11 at h ⊢
  grind
theorem W_s10 : W al b t 12 * W al b t 8 = al * al * (W al b t 11 * W al b t 9) - b * (W al b t 10 * W al b t 10) := by
  have h := pf_s10 (al * al * al * al) b t
  rw [We al b t (n := 8) rfl, Wo al b t (n := 9) rfl, We al b t (n := 10) rfl, Wo al b t (n := 11) rfl, We al b t (n := 12) rfl]
  generalize pf (al * al * al * al) b t 8 = x8 at h ⊢
  generalize pf (al * al * al * al) b t 9 = x9 at h ⊢
  generalize pf (al * al * al * al) b t 10 = x10 at h ⊢
  generalize pf (al * al * al * al) b t 11 = x11 at h ⊢
  generalize pf (al * al * al * al) b t 12 = x12 at h ⊢
  grind
theorem W_s11 : W al b t 13 * W al b t 9 = al * al * (W al b t 12 * W al b t 10) - b * (W al b t 11 * W al b t 11) := by
  have h := pf_s11 (al * al * al * al) b t
  rw [Wo al b t (n := 9) rfl, We al b t (n := 10) rfl, Wo al b t (n := 11) rfl, We al b t (n := 12) rfl, Wo al b t (n := 13) rfl]
  generalize pf (al * al * al * al) b t 9 = x9 at h ⊢
  generalize pf (al * al * al * al) b t 10 = x10 at h ⊢
  generalize pf (al * al * al * al) b t 11 = x11 at h ⊢
  generalize pf (al * al * al * al) b t 12 = x12 at h ⊢
  generalize pf (al * al * al * al) b t 13 = x13 at h ⊢
  grind
theorem W_I {n : Nat} (h : 2 ≤ n) (h2 : n ≤ 10) : W al b t (n + 2) * W al b t (n - 1) * W al b t (n - 1) + W al b t (n - 2) * W al b t (n + 1) * W al b t (n + 1) + al * al * (W al b t n * W al b t n * W al b t n) = t * W al b t (n - 1) * W al b t n * W al b t (n + 1) := by
  rcases (show n = 2 ∨ n = 3 ∨ n = 4 ∨ n = 5 ∨ n = 6 ∨ n = 7 ∨ n = 8 ∨ n = 9 ∨ n = 10 by omega) with rfl | rfl | rfl | rfl | rfl | rfl | rfl | rfl | rfl
  · exact W_i2 al b t
  · exact W_i3 al b t
  · exact W_i4 al b t
  · exact W_i5 al b t
  · exact W_i6 al b t
  · exact W_i7 al b t
  · exact W_i8 al b t
  · exact W_i9 al b t
  · exact W_i10 al b t
theorem W_S {n : Nat} (h : 2 ≤ n) (h2 : n ≤ 11) : W al b t (n + 2) * W al b t (n - 2) = al * al * (W al b t (n + 1) * W al b t (n - 1)) - b * (W al b t n * W al b t n) := by
  rcases (show n = 2 ∨ n = 3 ∨ n = 4 ∨ n = 5 ∨ n = 6 ∨ n = 7 ∨ n = 8 ∨ n = 9 ∨ n = 10 ∨ n = 11 by omega) with rfl | rfl | rfl | rfl | rfl | rfl | rfl | rfl | rfl | rfl
  · exact W_s2 al b t
  · exact W_s3 al b t
  · exact W_s4 al b t
  · exact W_s5 al b t
  · exact W_s6 al b t
  · exact W_s7 al b t
  · exact W_s8 al b t
  · exact W_s9 al b t
  · exact W_s10 al b t
  · exact W_s11 al b t
theorem W_R1 {m : Nat} (h : 2 ≤ m) (h2 : m ≤ 5) : W al b t (2 * m + 1) = W al b t (m + 2) * W al b t m * W al b t m * W al b t m - W al b t (m - 1) * W al b t (m + 1) * W al b t (m + 1) * W al b t (m + 1) := by
  rcases (show m = 2 ∨ m = 3 ∨ m = 4 ∨ m = 5 by omega) with rfl | rfl | rfl | rfl
  · exact W_r5 al b t
  · exact W_r7 al b t
  · exact W_r9 al b t
  · exact W_r11 al b t
theorem W_R2 {m : Nat} (h : 3 ≤ m) (h2 : m ≤ 6) : W al b t (2 * m) * al = W al b t m * (W al b t (m + 2) * W al b t (m - 1) * W al b t (m - 1) - W al b t (m - 2) * W al b t (m + 1) * W al b t (m + 1)) := by
  rcases (show m = 3 ∨ m = 4 ∨ m = 5 ∨ m = 6 by omega) with rfl | rfl | rfl | rfl
  · exact W_r6 al b t
  · exact W_r8 al b t
  · exact W_r10 al b t
  · exact W_r12 al b t
end
end MC
/-! the value of a division polynomial at a point is 0 just where the multiple is the zero point; the first residue of a multiple -/
namespace MC
open MS
variable {p a b x y : Int}
/-! ### identities -/
section
variable {X Y A B R S U V Z m k al t w1 w2 w3 w4 w5 : Ser p}
theorem ed_dbl (h : Y * Y = X * X * X + A * X + B) (hm : m * (2 * Y) = 3 * X * X + A) (hu : U = m * m - X - X) : (U - X) * (2 * Y * (2 * Y)) = 0 - (3 * X * X * X * X + 6 * A * X * X + 12 * B * X - A * A) := by
  have e : (U - X) * (2 * Y * (2 * Y)) = (m * (2 * Y)) * (m * (2 * Y)) - 12 * X * (Y * Y) := by rw [hu]; clear h hm hu; grind
  rw [e, hm, h]; clear h hm hu e; grind
theorem ed_dif (h1 : R * R = S * S * S + A * S + B) (h : Y * Y = X * X * X + A * X + B) (hm : m * (X - S) = Y - R) (hk : k * (X - S) = 0 - Y - R) (hu : U = m * m - S - X) (hv : V = k * k - S - X) :
    (U + V) * ((S - X) * (S - X)) = 2 * (S * X + A) * (S + X) + 4 * B := by
  have e : (U + V) * ((S - X) * (S - X)) = (m * (X - S)) * (m * (X - S)) + (k * (X - S)) * (k * (X - S)) - 2 * (S + X) * ((S - X) * (S - X)) := by rw [hu, hv]; clear h1 h hm hk hu hv; grind
  have e2 : (Y - R) * (Y - R) + (0 - Y - R) * (0 - Y - R) = 2 * (Y * Y) + 2 * (R * R) := by clear h1 h hm hk hu hv e; grind
  rw [e, hm, hk, e2, h1, h]; clear h1 h hm hk hu hv e e2; grind
/-- one step -/
theorem ed_step (ha : al * al = 4 * (X * X * X + A * X + B)) (ht : t = 6 * X * X + 2 * A) (hd : (U + V) * ((S - X) * (S - X)) = 2 * (S * X + A) * (S + X) + 4 * B) (hs : (S - X) * (w3 * w3) = 0 - w2 * w4) (hv : (V - X) * (w2 * w2) = 0 - w1 * w3) (hi : w5 * w2 * w2 + w1 * w4 * w4 + al * al * (w3 * w3 * w3) = t * w2 * w3 * w4) :
    w2 * w2 * ((U - X) * (w4 * w4) + w3 * w5) = 0 := by
  obtain ⟨T, hT⟩ : ∃ T, S = X + T := ⟨S - X, by clear ha ht hd hs hv hi; grind⟩
  subst hT
  have h1 : (U - X + (V - X)) * (T * T) = al * al + t * T := by
    rw [ha, ht]
    have : (U + V) * ((X + T - X) * (X + T - X)) = (U - X + (V - X)) * (T * T) + 2 * X * (T * T) := by clear ha ht hd hs hv hi; grind
    rw [this] at hd
    clear ha ht hs hv hi this
    grind
  have hs : T * (w3 * w3) = 0 - w2 * w4 := by
    have : X + T - X = T := by clear ha ht hd hs hv hi h1; grind
    rw [this] at hs
    exact hs
  have h2 : (U - X + (V - X)) * (w2 * w4 * (w2 * w4)) = (al * al) * (w3 * w3 * (w3 * w3)) - t * (w2 * w4) * (w3 * w3) := by
    have l : (U - X + (V - X)) * (w2 * w4 * (w2 * w4)) = (U - X + (V - X)) * ((0 - w2 * w4) * (0 - w2 * w4)) := by clear ha ht hd hs hv hi h1; grind
    have r : (U - X + (V - X)) * ((T * (w3 * w3)) * (T * (w3 * w3))) = ((U - X + (V - X)) * (T * T)) * (w3 * w3 * (w3 * w3)) := by clear ha ht hd hs hv hi h1 l; grind
    have r2 : (al * al + t * T) * (w3 * w3 * (w3 * w3)) = (al * al) * (w3 * w3 * (w3 * w3)) + t * (T * (w3 * w3)) * (w3 * w3) := by clear ha ht hd hs hv hi h1 l r; grind
    rw [l, ← hs, r, h1, r2, hs]; clear ha ht hd hs hv hi h1 l r r2; grind
  have h3 : w2 * w2 * ((U - X) * (w4 * w4) + w3 * w5) = (U - X + (V - X)) * (w2 * w4 * (w2 * w4)) - ((V - X) * (w2 * w2)) * (w4 * w4) + w3 * (w5 * w2 * w2) := by clear ha ht hd hs hv hi h1 h2; grind
  have h4 : w5 * w2 * w2 = t * w2 * w3 * w4 - w1 * w4 * w4 - al * al * (w3 * w3 * w3) := by clear ha ht hd hs hv h1 h2 h3; grind
  rw [h3, h2, hv, h4]; clear ha ht hd hs hv hi h1 h2 h3 h4; grind
theorem ed_two (hi : 0 = al * al * (w5 * w3) - B * (w4 * w4)) (hu : (U - X) * (al * al) = 0 - B) : al * al * ((U - X) * (w4 * w4) + w3 * w5) = 0 := by
  have : al * al * ((U - X) * (w4 * w4) + w3 * w5) = ((U - X) * (al * al)) * (w4 * w4) + al * al * (w5 * w3) := by clear hi hu; grind
  rw [this, hu]; clear hu this; grind
/-- the odd doubling -/
theorem ed_odd (h1 : (S - X) * (w2 * w2) = 0 - w1 * w3) (h2 : (U - X) * (w3 * w3) = 0 - w2 * w4) : w4 * w2 * w2 * w2 - w1 * w3 * w3 * w3 = w2 * w2 * (w3 * w3) * (S - U) := by
  have : w2 * w2 * (w3 * w3) * (S - U) = ((S - X) * (w2 * w2)) * (w3 * w3) - ((U - X) * (w3 * w3)) * (w2 * w2) := by clear h1 h2; grind
  rw [this, h1, h2]; clear h1 h2 this; grind
/-- the even doubling -/
theorem ed_even (h1 : (S - X) * (w2 * w2) = 0 - w1 * w3) (h2 : (U - X) * (w4 * w4) = 0 - w3 * w5) : w3 * (w5 * w2 * w2 - w1 * w4 * w4) = w2 * w2 * (w4 * w4) * (S - U) := by
  have : w2 * w2 * (w4 * w4) * (S - U) = ((S - X) * (w2 * w2)) * (w4 * w4) - ((U - X) * (w4 * w4)) * (w2 * w2) := by clear h1 h2; grind
  rw [this, h1, h2]; clear h1 h2 this; grind
end
/-! ### numbers of the prime field -/
def IsC (s : Ser p) : Prop := ∃ v : Int, s = C p v
theorem IsC.c (v : Int) : IsC (C p v) := ⟨v, rfl⟩
theorem IsC.mul {s t : Ser p} : IsC s → IsC t → IsC (s * t) := fun ⟨v, h⟩ ⟨w, k⟩ => ⟨v * w, by rw [h, k, C_mul]⟩
theorem IsC.sub {s t : Ser p} : IsC s → IsC t → IsC (s - t) := fun ⟨v, h⟩ ⟨w, k⟩ => ⟨v - w, by rw [h, k, C_sub]⟩
theorem IsC.zero (hp : MB.PrimeI p) {s t : Ser p} (hs : IsC s) (ht : IsC t) (h : s * t = 0) : s = 0 ∨ t = 0 := by
  obtain ⟨v, rfl⟩ := hs
  obtain ⟨w, rfl⟩ := ht
  exact C_prod hp h
theorem IsC.ne (hp : MB.PrimeI p) {s t : Ser p} (hs : IsC s) (ht : IsC t) (h : s ≠ 0) (k : t ≠ 0) : s * t ≠ 0 := fun z => (hs.zero hp ht z).elim h k
theorem pf_C {d b t : Ser p} (hd : IsC d) (hb : IsC b) (ht : IsC t) : ∀ n, n ≤ 12 → IsC (pf d b t n) := by
  intro n
  induction n using Nat.strongRecOn with
  | ind n ih =>
    intro h
    have i : ∀ k, k < n → IsC (pf d b t k) := fun k hk => ih k hk (by omega)
    rcases (show n = 0 ∨ n = 1 ∨ n = 2 ∨ n = 3 ∨ n = 4 ∨ n = 5 ∨ n = 6 ∨ n = 7 ∨ n = 8 ∨ n = 9 ∨ n = 10 ∨ n = 11 ∨ n = 12 by omega) with rfl | rfl | rfl | rfl | rfl | rfl | rfl | rfl | rfl | rfl | rfl | rfl | rfl
    · exact ⟨0, rfl⟩
    · exact ⟨1, rfl⟩
    · exact ⟨1, rfl⟩
    · exact hb
    · have : pf d b t 4 = b * t - d := by simp only [pf]
      rw [this]; exact (hb.mul ht).sub hd
    · rw [pf_r5]; exact (hd.mul ((((i 4 (by omega)).mul (i 2 (by omega))).mul (i 2 (by omega))).mul (i 2 (by omega)))).sub ((((i 1 (by omega)).mul (i 3 (by omega))).mul (i 3 (by omega))).mul (i 3 (by omega)))
    · rw [pf_r6]; exact (i 3 (by omega)).mul ((((i 5 (by omega)).mul (i 2 (by omega))).mul (i 2 (by omega))).sub (((i 1 (by omega)).mul (i 4 (by omega))).mul (i 4 (by omega))))
    · rw [pf_r7]; exact ((((i 5 (by omega)).mul (i 3 (by omega))).mul (i 3 (by omega))).mul (i 3 (by omega))).sub (hd.mul ((((i 2 (by omega)).mul (i 4 (by omega))).mul (i 4 (by omega))).mul (i 4 (by omega))))
    · rw [pf_r8]; exact (i 4 (by omega)).mul ((((i 6 (by omega)).mul (i 3 (by omega))).mul (i 3 (by omega))).sub (((i 2 (by omega)).mul (i 5 (by omega))).mul (i 5 (by omega))))
    · rw [pf_r9]; exact (hd.mul ((((i 6 (by omega)).mul (i 4 (by omega))).mul (i 4 (by omega))).mul (i 4 (by omega)))).sub ((((i 3 (by omega)).mul (i 5 (by omega))).mul (i 5 (by omega))).mul (i 5 (by omega)))
    · rw [pf_r10]; exact (i 5 (by omega)).mul ((((i 7 (by omega)).mul (i 4 (by omega))).mul (i 4 (by omega))).sub (((i 3 (by omega)).mul (i 6 (by omega))).mul (i 6 (by omega))))
    · rw [pf_r11]; exact ((((i 7 (by omega)).mul (i 5 (by omega))).mul (i 5 (by omega))).mul (i 5 (by omega))).sub (hd.mul ((((i 4 (by omega)).mul (i 6 (by omega))).mul (i 6 (by omega))).mul (i 6 (by omega))))
    · rw [pf_r12]; exact (i 6 (by omega)).mul ((((i 8 (by omega)).mul (i 5 (by omega))).mul (i 5 (by omega))).sub (((i 4 (by omega)).mul (i 7 (by omega))).mul (i 7 (by omega))))
theorem W_C {al b t : Ser p} (ha : IsC al) (hb : IsC b) (ht : IsC t) {n : Nat} (h : n ≤ 12) : IsC (W al b t n) := by
  have k := pf_C (((ha.mul ha).mul ha).mul ha) hb ht n h
  unfold W
  split
  · exact ha.mul k
  · exact k
/-! ### multiples -/
theorem O_add (c : Cu p a b) (hd : Ns p a b) {P : Pt} (hP : On p a b P) {i : Nat} (h : mulP p a P i = none) (j : Nat) : mulP p a P (i + j) = mulP p a P j := by
  rw [mul_add c hd hP, h]; rfl
theorem O_sub (c : Cu p a b) (hd : Ns p a b) {P : Pt} (hP : On p a b P) {i j : Nat} (hi : mulP p a P i = none) (hij : i ≤ j) (hj : mulP p a P j = none) : mulP p a P (j - i) = none := by
  have := O_add c hd hP hi (j - i)
  rw [show i + (j - i) = j by omega, hj] at this
  exact this.symm
theorem O_xeq (c : Cu p a b) (hd : Ns p a b) {P : Pt} (hP : On p a b P) {m k : Nat} (hmk : m ≤ k) {u v u' v' : Int} (hk : mulP p a P k = some (u, v)) (hm : mulP p a P m = some (u', v')) : C p u = C p u' ↔ mulP p a P (k - m) = none ∨ mulP p a P (k + m) = none := by
  have ok := hP.mul c k
  have om := hP.mul c m
  rw [hk] at ok
  rw [hm] at om
  constructor
  · intro e
    have eu : u = u' := C_eq ok.1 ok.2.1 om.1 om.2.1 e
    subst eu
    have q : C p (v - v') * C p (v + v') = 0 := by
      have q1 : C p (v * v) = C p (side p a b u) := C_mod (by rw [ok.2.2.2.2]; unfold side; rw [Int.emod_emod_of_dvd _ (Int.dvd_refl p)])
      have q2 : C p (v' * v') = C p (side p a b u) := C_mod (by rw [om.2.2.2.2]; unfold side; rw [Int.emod_emod_of_dvd _ (Int.dvd_refl p)])
      rw [C_mul] at q1 q2
      rw [C_sub, C_add]; grind
    rcases C_prod c.hp q with z | z
    · left
      rw [C_sub] at z
      have ev : v = v' := C_eq ok.2.2.1 ok.2.2.2.1 om.2.2.1 om.2.2.2.1 (by grind)
      subst ev
      -- k P = m P
      have e2 := mul_add c hd hP (k - m) m
      rw [show k - m + m = k by omega, hk, hm] at e2
      have on := hP.mul c (k - m)
      have e3 : addP p a (addP p a (mulP p a P (k - m)) (some (u, v))) (negP p (some (u, v))) = mulP p a P (k - m) := by
        rw [assoc c hd on om (om.neg c), add_neg c, add_none]
      rw [← e2, add_neg c] at e3
      exact e3.symm
    · right
      rw [mul_add c hd hP, hk, hm]
      exact if_pos ⟨rfl, C_zero_iff.mp z⟩
  · rintro (h | h)
    · have := O_add c hd hP h m
      rw [show k - m + m = k by omega, hk, hm] at this
      have := Option.some.inj this
      exact congrArg (C p) (congrArg Prod.fst this)
    · rw [mul_add c hd hP, hk, hm] at h
      by_cases z : u = u' ∧ (v + v') % p = 0
      · rw [z.1]
      · have e : addP p a (some (u, v)) (some (u', v')) = some (addM p (slp p a u v u' v') u v u') := if_neg z
        rw [e] at h
        cases h
/-! ### the division values at a point -/
abbrev al_ (p y : Int) : Ser p := 2 * C p y
abbrev bb_ (p a b x : Int) : Ser p := 3 * C p x * C p x * C p x * C p x + 6 * C p a * C p x * C p x + 12 * C p b * C p x - C p a * C p a
abbrev tt_ (p a x : Int) : Ser p := 6 * C p x * C p x + 2 * C p a
def Wp (p a b x y : Int) (n : Nat) : Ser p := W (al_ p y) (bb_ p a b x) (tt_ p a x) n
theorem C_2 : C p 2 = 2 := by
  have : C p (1 + 1) = C p 1 + C p 1 := C_add 1 1
  rw [C_one] at this
  rw [show C p 2 = 1 + 1 from this]; grind
theorem al_C : IsC (al_ p y) := ⟨2 * y, by rw [C_mul, C_2]⟩
theorem IsC.n (k : Int) {s : Ser p} (h : C p k = s) : IsC s := ⟨k, h.symm⟩
theorem C_3 : C p 3 = 3 := by
  have : C p (2 + 1) = C p 2 + C p 1 := C_add 2 1
  rw [C_one, C_2] at this
  rw [show C p 3 = 2 + 1 from this]; grind
theorem C_6 : C p 6 = 6 := by
  have : C p (3 + 3) = C p 3 + C p 3 := C_add 3 3
  rw [C_3] at this
  rw [show C p 6 = 3 + 3 from this]; grind
theorem C_12 : C p 12 = 12 := by
  have : C p (6 + 6) = C p 6 + C p 6 := C_add 6 6
  rw [C_6] at this
  rw [show C p 12 = 6 + 6 from this]; grind
theorem bb_C : IsC (bb_ p a b x) := ⟨3 * x * x * x * x + 6 * a * x * x + 12 * b * x - a * a, by simp only [C_sub, C_add, C_mul, C_3, C_6, C_12]⟩
theorem tt_C : IsC (tt_ p a x) := ⟨6 * x * x + 2 * a, by simp only [C_add, C_mul, C_6, C_2]⟩
theorem Wp_C {n : Nat} (h : n ≤ 12) : IsC (Wp p a b x y n) := W_C al_C bb_C tt_C h
/-- the first residue of n times the point -/
def XOK (p a b x y : Int) (n : Nat) : Prop := ∀ u v : Int, mulP p a (some (x, y)) n = some (u, v) → (C p u - C p x) * (Wp p a b x y n * Wp p a b x y n) = 0 - Wp p a b x y (n - 1) * Wp p a b x y (n + 1)
def ZOK (p a b x y : Int) (n : Nat) : Prop := Wp p a b x y n = 0 ↔ mulP p a (some (x, y)) n = none
theorem on_C (h : On p a b (some (x, y))) : C p y * C p y = C p x * C p x * C p x + C p a * C p x + C p b := by
  have : C p (y * y) = C p (x * x * x + a * x + b) := C_mod h.2.2.2.2
  simp only [C_mul, C_add] at this
  exact this
theorem ngz {s t : Ser p} (h : s + t = 0) : s = 0 - t := by grind
theorem sbz {s t : Ser p} (h : s - t = 0) : s = t := by grind
theorem IsC.cancel (hp : MB.PrimeI p) {s u v : Ser p} (hs : IsC s) (h : s ≠ 0) (e : s * u = s * v) : u = v := by
  obtain ⟨z, rfl⟩ := hs
  have i := inv_mul hp (v := z) fun k => h (C_zero_iff.mpr k)
  have a1 : u = C p (inv p z) * C p z * u := by rw [i]; grind
  have a2 : C p (inv p z) * C p z * u = C p (inv p z) * (C p z * u) := by grind
  rw [a1, a2, e]
  have a3 : C p (inv p z) * (C p z * v) = C p (inv p z) * C p z * v := by grind
  rw [a3, i]; grind
section
variable (c : Cu p a b) (hd : Ns p a b) (hP : On p a b (some (x, y))) (hy : C p y ≠ 0)
include c hd hP hy
theorem al_ne : al_ p y ≠ 0 := fun z => by
  have : C p (2 * y) = 0 := by rw [C_mul, C_2]; exact z
  rw [C_mul] at this
  refine (C_prod c.hp this).elim (fun k => ?_) hy
  have := C_zero_iff.mp k
  have p5 := c.p5
  rw [Int.emod_eq_of_lt (by decide) (by omega)] at this
  cases this
theorem no2 : mulP p a (some (x, y)) 2 ≠ none := fun h => by
  have h : addP p a (some (x, y)) (some (x, y)) = none := h
  by_cases z : x = x ∧ (y + y) % p = 0
  · have := C_zero_iff.mpr z.2
    rw [C_add] at this
    exact al_ne c hd hP hy (by show 2 * C p y = 0; grind)
  · have e : addP p a (some (x, y)) (some (x, y)) = some (addM p (slp p a x y x y) x y x) := if_neg z
    rw [e] at h
    cases h
theorem x2 {u v : Int} (h : mulP p a (some (x, y)) 2 = some (u, v)) : (C p u - C p x) * (al_ p y * al_ p y) = 0 - bb_ p a b x := by
  have z : ¬ (x = x ∧ (y + y) % p = 0) := fun z => no2 c hd hP hy (if_pos z)
  have h : addP p a (some (x, y)) (some (x, y)) = some (u, v) := h
  have e : addP p a (some (x, y)) (some (x, y)) = some (addM p (slp p a x y x y) x y x) := if_neg z
  rw [e] at h
  have hu : C p u = C p (slp p a x y x y) * C p (slp p a x y x y) - C p x - C p x := by
    have := (addM_C (p := p) (m := slp p a x y x y) (x1 := x) (y1 := y) (x2 := x)).1
    rw [← this, Option.some.inj h]
  rcases slp_eq c.hp hP hP z with ⟨_, _, _, hm⟩ | ⟨hx, _⟩
  · exact ed_dbl (on_C hP) hm hu
  · exact absurd rfl hx
theorem o_one {i : Nat} (h : mulP p a (some (x, y)) i = none) (h2 : mulP p a (some (x, y)) (i + 1) = none) : False := by
  have := O_sub c hd hP h (Nat.le_succ i) h2
  rw [show i + 1 - i = 1 by omega] at this
  cases this
theorem o_two {i : Nat} (h : mulP p a (some (x, y)) i = none) (h2 : mulP p a (some (x, y)) (i + 2) = none) : False := by
  have := O_sub c hd hP h (by omega) h2
  rw [show i + 2 - i = 2 by omega] at this
  exact no2 c hd hP hy this
theorem some_of {n : Nat} (h : mulP p a (some (x, y)) n ≠ none) : ∃ u v, mulP p a (some (x, y)) n = some (u, v) := by
  cases e : mulP p a (some (x, y)) n with
  | none => exact absurd e h
  | some P => exact ⟨P.1, P.2, rfl⟩
/-- the general step -/
theorem x_step {n : Nat} (n3 : 3 ≤ n) (n11 : n ≤ 11) (ih : ∀ k, 1 ≤ k → k < n → ZOK p a b x y k ∧ XOK p a b x y k) : XOK p a b x y n := by
  intro u v hn
  have aC := al_C (p := p) (y := y)
  have ane := al_ne c hd hP hy
  by_cases o1 : mulP p a (some (x, y)) (n - 1) = none
  · have w := (ih (n - 1) (by omega) (by omega)).1.mpr o1
    have e := O_add c hd hP o1 1
    rw [show n - 1 + 1 = n by omega, hn] at e
    have e := Option.some.inj (e.trans (mul_one _))
    rw [w, show u = x from congrArg Prod.fst e]; grind
  by_cases o2 : mulP p a (some (x, y)) (n - 2) = none
  · have w := (ih (n - 2) (by omega) (by omega)).1.mpr o2
    have e := O_add c hd hP o2 2
    rw [show n - 2 + 2 = n by omega, hn] at e
    have hu := x2 c hd hP hy e.symm
    have hs := W_S (al_ p y) (bb_ p a b x) (tt_ p a x) (n := n) (by omega) (by omega)
    have w' : W (al_ p y) (bb_ p a b x) (tt_ p a x) (n - 2) = 0 := w
    rw [w'] at hs
    have k := ed_two (U := C p u) (X := C p x) (w3 := Wp p a b x y (n - 1)) (w4 := Wp p a b x y n) (w5 := Wp p a b x y (n + 1)) (by
      have : W (al_ p y) (bb_ p a b x) (tt_ p a x) (n + 2) * 0 = 0 := by clear hs hu; grind
      rw [this] at hs
      exact hs) hu
    refine ngz (IsC.cancel c.hp (aC.mul aC) (aC.ne c.hp aC ane ane) (k.trans ?_))
    clear k hs hu; grind
  obtain ⟨S, R, hS⟩ := some_of c hd hP hy o1
  obtain ⟨V, Z, hV⟩ := some_of c hd hP hy o2
  have onS : On p a b (some (S, R)) := by rw [← hS]; exact hP.mul c _
  -- P and (n-1) P are apart
  have nx : C p S ≠ C p x := fun e => by
    have := (O_xeq c hd hP (m := 1) (k := n - 1) (by omega) hS (mul_one _)).mp e
    rw [show n - 1 - 1 = n - 2 by omega, show n - 1 + 1 = n by omega] at this
    rcases this with h | h
    · exact o2 h
    · rw [hn] at h; cases h
  have xne : S ≠ x := fun e => nx (by rw [e])
  have e1 : addP p a (some (S, R)) (some (x, y)) = some (u, v) := by
    have : mulP p a (some (x, y)) (n - 1 + 1) = addP p a (mulP p a (some (x, y)) (n - 1)) (some (x, y)) := rfl
    rw [hS, show n - 1 + 1 = n by omega, hn] at this
    exact this.symm
  have e2 : addP p a (some (S, R)) (negP p (some (x, y))) = some (V, Z) := by
    have q : mulP p a (some (x, y)) (n - 2 + 1) = addP p a (mulP p a (some (x, y)) (n - 2)) (some (x, y)) := rfl
    rw [show n - 2 + 1 = n - 1 by omega, hS] at q
    have onV := hP.mul c (n - 2)
    rw [q, assoc c hd onV hP (hP.neg c), add_neg c, add_none]
    exact hV
  have z1 : ¬ (S = x ∧ (R + y) % p = 0) := fun z => xne z.1
  have z2 : ¬ (S = x ∧ (R + -y % p) % p = 0) := fun z => xne z.1
  have f1 : addP p a (some (S, R)) (some (x, y)) = some (addM p (slp p a S R x y) S R x) := if_neg z1
  have f2 : addP p a (some (S, R)) (some (x, -y % p)) = some (addM p (slp p a S R x (-y % p)) S R x) := if_neg z2
  have g1 : some (addM p (slp p a S R x y) S R x) = some (u, v) := f1.symm.trans e1
  have g2 : some (addM p (slp p a S R x (-y % p)) S R x) = some (V, Z) := f2.symm.trans e2
  have hu : C p u = C p (slp p a S R x y) * C p (slp p a S R x y) - C p S - C p x := by
    rw [← (addM_C (p := p) (m := slp p a S R x y) (x1 := S) (y1 := R) (x2 := x)).1, Option.some.inj g1]
  have hv : C p V = C p (slp p a S R x (-y % p)) * C p (slp p a S R x (-y % p)) - C p S - C p x := by
    rw [← (addM_C (p := p) (m := slp p a S R x (-y % p)) (x1 := S) (y1 := R) (x2 := x)).1, Option.some.inj g2]
  have hm : C p (slp p a S R x y) * (C p x - C p S) = C p y - C p R := by
    rcases slp_eq c.hp onS hP z1 with ⟨h, _⟩ | ⟨_, _, h⟩
    · exact absurd h xne
    · exact h
  have hk : C p (slp p a S R x (-y % p)) * (C p x - C p S) = 0 - C p y - C p R := by
    rcases slp_eq c.hp onS (hP.neg c) z2 with ⟨h, _⟩ | ⟨_, _, h⟩
    · exact absurd h xne
    · rw [h, C_emod, C_neg]; clear h hu hv hm; grind
  have dif := ed_dif (on_C onS) (on_C hP) hm hk hu hv
  have xs := (ih (n - 1) (by omega) (by omega)).2 S R hS
  have xv := (ih (n - 2) (by omega) (by omega)).2 V Z hV
  rw [show n - 1 - 1 = n - 2 by omega, show n - 1 + 1 = n by omega] at xs
  rw [show n - 2 - 1 = n - 3 by omega, show n - 2 + 1 = n - 1 by omega] at xv
  have hi := W_I (al_ p y) (bb_ p a b x) (tt_ p a x) (n := n - 1) (by omega) (by omega)
  rw [show n - 1 + 2 = n + 1 by omega, show n - 1 - 1 = n - 2 by omega, show n - 1 - 2 = n - 3 by omega, show n - 1 + 1 = n by omega] at hi
  have ha : al_ p y * al_ p y = 4 * (C p x * C p x * C p x + C p a * C p x + C p b) := by
    rw [← on_C hP]; clear hi xs xv dif hm hk hu hv; grind
  have k := ed_step (A := C p a) (B := C p b) ha rfl dif xs xv hi
  have w2n : Wp p a b x y (n - 2) ≠ 0 := fun z => o2 ((ih (n - 2) (by omega) (by omega)).1.mp z)
  have wC := Wp_C (p := p) (a := a) (b := b) (x := x) (y := y) (n := n - 2) (by omega)
  refine ngz (IsC.cancel c.hp (wC.mul wC) (wC.ne c.hp wC w2n w2n) (k.trans ?_))
  clear k hi xs xv dif hm hk hu hv ha; grind
theorem one_ne : (1 : Ser p) ≠ 0 := fun z => by
  have : C p 1 = 0 := z
  have := C_zero_iff.mp this
  have p5 := c.p5
  rw [Int.emod_eq_of_lt (by decide) (by omega)] at this
  cases this
theorem wp0 : Wp p a b x y 0 = 0 := by
  show W _ _ _ 0 = 0
  rw [We _ _ _ rfl]
  show _ * (0 : Ser p) = 0
  grind
theorem wp1 : Wp p a b x y 1 = 1 := (Wo _ _ _ rfl).trans rfl
theorem wp2 : Wp p a b x y 2 = al_ p y := by
  show W _ _ _ 2 = _
  rw [We _ _ _ rfl]
  show al_ p y * (1 : Ser p) = _
  grind
theorem wp3 : Wp p a b x y 3 = bb_ p a b x := (Wo _ _ _ rfl).trans rfl
theorem z_one : ZOK p a b x y 1 := by
  unfold ZOK
  rw [wp1 c hd hP hy]
  exact ⟨fun h => absurd h (one_ne c hd hP hy), fun h => (by cases h)⟩
theorem x_one : XOK p a b x y 1 := fun u v h => by
  have e := Option.some.inj h
  rw [wp1 c hd hP hy, wp0 c hd hP hy, show u = x from (congrArg Prod.fst e).symm]
  grind
theorem z_two : ZOK p a b x y 2 := by
  unfold ZOK
  rw [wp2 c hd hP hy]
  exact ⟨fun h => absurd h (al_ne c hd hP hy), fun h => absurd h (no2 c hd hP hy)⟩
theorem x_two : XOK p a b x y 2 := fun u v h => by
  rw [wp2 c hd hP hy, wp1 c hd hP hy, wp3 c hd hP hy, x2 c hd hP hy h]
  grind
theorem z_three : ZOK p a b x y 3 := by
  unfold ZOK
  rw [wp3 c hd hP hy]
  obtain ⟨u, v, h⟩ := some_of c hd hP hy (no2 c hd hP hy)
  have e := x2 c hd hP hy h
  have ane := al_ne c hd hP hy
  have q := O_xeq c hd hP (m := 1) (k := 2) (by omega) h (mul_one _)
  have q : C p u = C p x ↔ mulP p a (some (x, y)) 1 = none ∨ mulP p a (some (x, y)) 3 = none := q
  constructor
  · intro z
    rw [z] at e
    have : (al_ p y * al_ p y) * (C p u - C p x) = (al_ p y * al_ p y) * 0 := by clear q; grind
    have := IsC.cancel c.hp (al_C.mul al_C) (al_C.ne c.hp al_C ane ane) this
    rcases q.mp (sbz this) with k | k
    · cases k
    · exact k
  · intro z
    rw [q.mpr (.inr z)] at e
    clear q; grind
theorem z_four (h3 : ZOK p a b x y 3) (x3 : XOK p a b x y 3) : ZOK p a b x y 4 := by
  have ane := al_ne c hd hP hy
  by_cases o3 : mulP p a (some (x, y)) 3 = none
  · have w3 := h3.mpr o3
    have i2 := W_I (al_ p y) (bb_ p a b x) (tt_ p a x) (n := 2) (by omega) (by omega)
    have i2 : Wp p a b x y 4 * Wp p a b x y 1 * Wp p a b x y 1 + Wp p a b x y 0 * Wp p a b x y 3 * Wp p a b x y 3 + al_ p y * al_ p y * (Wp p a b x y 2 * Wp p a b x y 2 * Wp p a b x y 2) = tt_ p a x * Wp p a b x y 1 * Wp p a b x y 2 * Wp p a b x y 3 := i2
    rw [w3, wp1 c hd hP hy, wp2 c hd hP hy] at i2
    constructor
    · intro z
      rw [z] at i2
      have : al_ p y * al_ p y * (al_ p y * al_ p y * al_ p y) = 0 := by clear w3; grind
      exact absurd this ((al_C.mul al_C).ne c.hp ((al_C.mul al_C).mul al_C) (al_C.ne c.hp al_C ane ane) ((al_C.mul al_C).ne c.hp al_C (al_C.ne c.hp al_C ane ane) ane))
    · intro z
      exact (o_one c hd hP hy o3 z).elim
  · obtain ⟨u, v, h⟩ := some_of c hd hP hy o3
    have e := x3 u v h
    have w3 : Wp p a b x y 3 ≠ 0 := fun z => o3 (h3.mp z)
    have w3C := Wp_C (p := p) (a := a) (b := b) (x := x) (y := y) (n := 3) (by omega)
    have w4C := Wp_C (p := p) (a := a) (b := b) (x := x) (y := y) (n := 4) (by omega)
    rw [show 3 - 1 = 2 by omega, show 3 + 1 = 4 by omega, wp2 c hd hP hy] at e
    have q := O_xeq c hd hP (m := 1) (k := 3) (by omega) h (mul_one _)
    have q : C p u = C p x ↔ mulP p a (some (x, y)) 2 = none ∨ mulP p a (some (x, y)) 4 = none := q
    constructor
    · intro z
      rw [z] at e
      have : (Wp p a b x y 3 * Wp p a b x y 3) * (C p u - C p x) = (Wp p a b x y 3 * Wp p a b x y 3) * 0 := by clear q; grind
      have := IsC.cancel c.hp (w3C.mul w3C) (w3C.ne c.hp w3C w3 w3) this
      exact (q.mp (sbz this)).resolve_left (no2 c hd hP hy)
    · intro z
      rw [q.mpr (.inr z)] at e
      have : al_ p y * Wp p a b x y 4 = 0 := by clear q; grind
      exact (al_C.zero c.hp w4C this).resolve_left ane
theorem z_odd {m : Nat} (m2 : 2 ≤ m) (m5 : m ≤ 5) (ih : ∀ k, 1 ≤ k → k < 2 * m + 1 → ZOK p a b x y k ∧ (k ≤ 11 → XOK p a b x y k)) : ZOK p a b x y (2 * m + 1) := by
  have r : Wp p a b x y (2 * m + 1) = _ := W_R1 (al_ p y) (bb_ p a b x) (tt_ p a x) (m := m) m2 m5
  have wC : ∀ k, k ≤ 12 → IsC (Wp p a b x y k) := fun k h => Wp_C h
  have nz : ∀ k, 1 ≤ k → k < 2 * m + 1 → mulP p a (some (x, y)) k ≠ none → Wp p a b x y k ≠ 0 := fun k k1 k2 h z => h ((ih k k1 k2).1.mp z)
  have r : Wp p a b x y (2 * m + 1) = Wp p a b x y (m + 2) * Wp p a b x y m * Wp p a b x y m * Wp p a b x y m - Wp p a b x y (m - 1) * Wp p a b x y (m + 1) * Wp p a b x y (m + 1) * Wp p a b x y (m + 1) := r
  unfold ZOK
  by_cases o1 : mulP p a (some (x, y)) m = none
  · have w := (ih m (by omega) (by omega)).1.mpr o1
    have n1 := nz (m - 1) (by omega) (by omega) fun h => o_one c hd hP hy h (by rw [show m - 1 + 1 = m by omega]; exact o1)
    have n2 := nz (m + 1) (by omega) (by omega) fun h => o_one c hd hP hy o1 h
    constructor
    · intro z
      rw [z, w] at r
      have : Wp p a b x y (m - 1) * (Wp p a b x y (m + 1) * (Wp p a b x y (m + 1) * Wp p a b x y (m + 1))) = 0 := by clear w; grind
      have k := wC (m + 1) (by omega)
      exact absurd this ((wC (m - 1) (by omega)).ne c.hp (k.mul (k.mul k)) n1 (k.ne c.hp (k.mul k) n2 (k.ne c.hp k n2 n2)))
    · intro z
      have := O_add c hd hP o1 (m + 1)
      rw [show m + (m + 1) = 2 * m + 1 by omega, z] at this
      exact (o_one c hd hP hy o1 this.symm).elim
  by_cases o2 : mulP p a (some (x, y)) (m + 1) = none
  · have w := (ih (m + 1) (by omega) (by omega)).1.mpr o2
    have n1 := nz m (by omega) (by omega) o1
    have n2 := nz (m + 2) (by omega) (by omega) fun h => o_one c hd hP hy o2 h
    constructor
    · intro z
      rw [z, w] at r
      have : Wp p a b x y (m + 2) * (Wp p a b x y m * (Wp p a b x y m * Wp p a b x y m)) = 0 := by clear w; grind
      have k := wC m (by omega)
      exact absurd this ((wC (m + 2) (by omega)).ne c.hp (k.mul (k.mul k)) n2 (k.ne c.hp (k.mul k) n1 (k.ne c.hp k n1 n1)))
    · intro z
      have := O_add c hd hP o2 m
      rw [show m + 1 + m = 2 * m + 1 by omega, z] at this
      exact absurd this.symm o1
  obtain ⟨S, R, hS⟩ := some_of c hd hP hy o1
  obtain ⟨U, V, hU⟩ := some_of c hd hP hy o2
  have xs := (ih m (by omega) (by omega)).2 (by omega) S R hS
  have xu := (ih (m + 1) (by omega) (by omega)).2 (by omega) U V hU
  rw [show m + 1 - 1 = m by omega, show m + 1 + 1 = m + 2 by omega] at xu
  have n1 := nz m (by omega) (by omega) o1
  have n2 := nz (m + 1) (by omega) (by omega) o2
  rw [ed_odd xs xu] at r
  have k1 := wC m (by omega)
  have k2 := wC (m + 1) (by omega)
  have q := O_xeq c hd hP (m := m) (k := m + 1) (by omega) hU hS
  rw [show m + 1 - m = 1 by omega, show m + 1 + m = 2 * m + 1 by omega] at q
  rw [r]
  constructor
  · intro z
    have : IsC (C p S - C p U) := (IsC.c S).sub (IsC.c U)
    have z := ((((k1.mul k1).mul (k2.mul k2)).zero c.hp this) z).resolve_left ((k1.mul k1).ne c.hp (k2.mul k2) (k1.ne c.hp k1 n1 n1) (k2.ne c.hp k2 n2 n2))
    rcases q.mp (sbz z).symm with h | h
    · cases h
    · exact h
  · intro z
    rw [q.mpr (.inr z)]
    clear q r xs xu; grind
theorem z_even {m : Nat} (m3 : 3 ≤ m) (m6 : m ≤ 6) (ih : ∀ k, 1 ≤ k → k < 2 * m → ZOK p a b x y k ∧ (k ≤ 11 → XOK p a b x y k)) : ZOK p a b x y (2 * m) := by
  have wC : ∀ k, k ≤ 12 → IsC (Wp p a b x y k) := fun k h => Wp_C h
  have ane := al_ne c hd hP hy
  have nz : ∀ k, 1 ≤ k → k < 2 * m → mulP p a (some (x, y)) k ≠ none → Wp p a b x y k ≠ 0 := fun k k1 k2 h z => h ((ih k k1 k2).1.mp z)
  have r : Wp p a b x y (2 * m) * al_ p y = Wp p a b x y m * (Wp p a b x y (m + 2) * Wp p a b x y (m - 1) * Wp p a b x y (m - 1) - Wp p a b x y (m - 2) * Wp p a b x y (m + 1) * Wp p a b x y (m + 1)) := W_R2 (al_ p y) (bb_ p a b x) (tt_ p a x) (m := m) m3 m6
  have two : (Wp p a b x y (2 * m) = 0 ↔ Wp p a b x y m * (Wp p a b x y (m + 2) * Wp p a b x y (m - 1) * Wp p a b x y (m - 1) - Wp p a b x y (m - 2) * Wp p a b x y (m + 1) * Wp p a b x y (m + 1)) = 0) := by
    rw [← r]
    constructor
    · intro z; rw [z]; clear r; grind
    · intro z
      exact ((wC (2 * m) (by omega)).zero c.hp al_C z).resolve_right ane
  unfold ZOK
  rw [two]
  by_cases o1 : mulP p a (some (x, y)) m = none
  · have w := (ih m (by omega) (by omega)).1.mpr o1
    have e := O_add c hd hP o1 m
    rw [show m + m = 2 * m by omega] at e
    rw [w, e]
    exact ⟨fun _ => o1, fun _ => by clear r two; grind⟩
  have n0 := nz m (by omega) (by omega) o1
  by_cases o2 : mulP p a (some (x, y)) (m - 1) = none
  · have w := (ih (m - 1) (by omega) (by omega)).1.mpr o2
    have n1 := nz (m - 2) (by omega) (by omega) fun h => o_one c hd hP hy h (by rw [show m - 2 + 1 = m - 1 by omega]; exact o2)
    have n2 := nz (m + 1) (by omega) (by omega) fun h => o_two c hd hP hy o2 (by rw [show m - 1 + 2 = m + 1 by omega]; exact h)
    rw [w]
    constructor
    · intro z
      have : Wp p a b x y m * (Wp p a b x y (m - 2) * (Wp p a b x y (m + 1) * Wp p a b x y (m + 1))) = 0 := by clear r two w; grind
      have k := wC (m + 1) (by omega)
      exact absurd this ((wC m (by omega)).ne c.hp ((wC (m - 2) (by omega)).mul (k.mul k)) n0 ((wC (m - 2) (by omega)).ne c.hp (k.mul k) n1 (k.ne c.hp k n2 n2)))
    · intro z
      have e := O_add c hd hP o2 (m + 1)
      rw [show m - 1 + (m + 1) = 2 * m by omega, z] at e
      exact (o_two c hd hP hy o2 (by rw [show m - 1 + 2 = m + 1 by omega]; exact e.symm)).elim
  by_cases o3 : mulP p a (some (x, y)) (m + 1) = none
  · have w := (ih (m + 1) (by omega) (by omega)).1.mpr o3
    have n1 := nz (m - 1) (by omega) (by omega) o2
    have n2 : Wp p a b x y (m + 2) ≠ 0 := nz (m + 2) (by omega) (by omega) fun h => o_one c hd hP hy o3 h
    rw [w]
    constructor
    · intro z
      have : Wp p a b x y m * (Wp p a b x y (m + 2) * (Wp p a b x y (m - 1) * Wp p a b x y (m - 1))) = 0 := by clear r two w; grind
      have k := wC (m - 1) (by omega)
      exact absurd this ((wC m (by omega)).ne c.hp ((wC (m + 2) (by omega)).mul (k.mul k)) n0 ((wC (m + 2) (by omega)).ne c.hp (k.mul k) n2 (k.ne c.hp k n1 n1)))
    · intro z
      have e := O_add c hd hP o3 (m - 1)
      rw [show m + 1 + (m - 1) = 2 * m by omega, z] at e
      exact absurd e.symm o2
  obtain ⟨S, R, hS⟩ := some_of c hd hP hy o2
  obtain ⟨U, V, hU⟩ := some_of c hd hP hy o3
  have xs := (ih (m - 1) (by omega) (by omega)).2 (by omega) S R hS
  have xu := (ih (m + 1) (by omega) (by omega)).2 (by omega) U V hU
  rw [show m - 1 - 1 = m - 2 by omega, show m - 1 + 1 = m by omega] at xs
  rw [show m + 1 - 1 = m by omega, show m + 1 + 1 = m + 2 by omega] at xu
  have n1 := nz (m - 1) (by omega) (by omega) o2
  have n2 := nz (m + 1) (by omega) (by omega) o3
  rw [ed_even xs xu]
  have k1 := wC (m - 1) (by omega)
  have k2 := wC (m + 1) (by omega)
  have q := O_xeq c hd hP (m := m - 1) (k := m + 1) (by omega) hU hS
  rw [show m + 1 - (m - 1) = 2 by omega, show m + 1 + (m - 1) = 2 * m by omega] at q
  constructor
  · intro z
    have : IsC (C p S - C p U) := (IsC.c S).sub (IsC.c U)
    have z := ((((k1.mul k1).mul (k2.mul k2)).zero c.hp this) z).resolve_left ((k1.mul k1).ne c.hp (k2.mul k2) (k1.ne c.hp k1 n1 n1) (k2.ne c.hp k2 n2 n2))
    exact (q.mp (sbz z).symm).resolve_left (no2 c hd hP hy)
  · intro z
    rw [q.mpr (.inr z)]
    clear q r two xs xu; grind
theorem eds : ∀ n, 1 ≤ n → n ≤ 12 → ZOK p a b x y n ∧ (n ≤ 11 → XOK p a b x y n) := by
  intro n
  induction n using Nat.strongRecOn with
  | ind n ih =>
    intro n1 n12
    have ih' : ∀ k, 1 ≤ k → k < n → ZOK p a b x y k ∧ (k ≤ 11 → XOK p a b x y k) := fun k k1 k2 => ih k k2 k1 (by omega)
    have X : 3 ≤ n → n ≤ 11 → XOK p a b x y n := fun n3 n11 => x_step c hd hP hy n3 n11 fun k k1 k2 => ⟨(ih' k k1 k2).1, (ih' k k1 k2).2 (by omega)⟩
    rcases (show n = 1 ∨ n = 2 ∨ n = 3 ∨ n = 4 ∨ 5 ≤ n by omega) with rfl | rfl | rfl | rfl | n5
    · exact ⟨z_one c hd hP hy, fun _ => x_one c hd hP hy⟩
    · exact ⟨z_two c hd hP hy, fun _ => x_two c hd hP hy⟩
    · exact ⟨z_three c hd hP hy, X (by omega)⟩
    · exact ⟨z_four c hd hP hy (ih' 3 (by omega) (by omega)).1 ((ih' 3 (by omega) (by omega)).2 (by omega)), X (by omega)⟩
    · refine ⟨?_, X (by omega)⟩
      rcases (show n = 2 * (n / 2) ∨ n = 2 * (n / 2) + 1 by omega) with e | e
      · rw [e]
        exact z_even c hd hP hy (by omega) (by omega) fun k k1 k2 => ih' k k1 (by omega)
      · rw [e]
        exact z_odd c hd hP hy (by omega) (by omega) fun k k1 k2 => ih' k k1 (by omega)
end
end MC
/-! division polynomials at a point -/
namespace MC
open MS
variable {p a b x y : Int}
/-- a polynomial and its value -/
def Gv (p x : Int) (S s : Ser p) : Prop := Fi S ∧ ∃ w : Int, Ev p x S w ∧ C p w = s
theorem Gv.mul {S T s t : Ser p} : Gv p x S s → Gv p x T t → Gv p x (S * T) (s * t) := fun ⟨f, v, e, h⟩ ⟨g, w, k, i⟩ => ⟨f.mul g, v * w, e.mul g k, by rw [C_mul, h, i]⟩
theorem Gv.sub {S T s t : Ser p} : Gv p x S s → Gv p x T t → Gv p x (S - T) (s - t) := fun ⟨f, v, e, h⟩ ⟨g, w, k, i⟩ => ⟨f.sub g, v - w, by
  have m := e.add ((Ev.C x (-1)).mul g k)
  have e1 : S + C p (-1) * T = S - T := by rw [C_neg, C_one]; grind
  rw [e1] at m
  exact m.mod (by congr 1; omega), by rw [C_sub, h, i]⟩
theorem Gv.c (v : Int) : Gv p x (C p v) (C p v) := ⟨Fi.C v, v, Ev.C x v, rfl⟩
theorem Gv.cl {f : List Int} {v : Int} (h : C p v = ev (C p x) f) : Gv p x (cl p f) (C p v) := ⟨Fi.cl f, v, Ev.cl h, rfl⟩
abbrev ss_ (p a b x : Int) : Ser p := C p x * C p x * C p x + C p a * C p x + C p b
abbrev dd_ (p a b x : Int) : Ser p := 16 * (ss_ p a b x * ss_ p a b x)
theorem C_16 : C p 16 = 16 := by
  have : C p (4 * 4) = C p 4 * C p 4 := C_mul 4 4
  have h4 : C p 4 = 4 := by
    have : C p (2 + 2) = C p 2 + C p 2 := C_add 2 2
    rw [C_2] at this
    rw [show C p 4 = 2 + 2 from this]; grind
  rw [h4] at this
  rw [show C p 16 = 4 * 4 from this]; grind
theorem C_4' : C p 4 = 4 := by
  have : C p (2 + 2) = C p 2 + C p 2 := C_add 2 2
  rw [C_2] at this
  rw [show C p 4 = 2 + 2 from this]; grind
theorem g_cub : Gv p x (cubS p a b) (dd_ p a b x) := by
  have e : Gv p x (cl p [b, a, 0, 1]) (C p (x * x * x + a * x + b)) := Gv.cl (by
    show _ = C p b + C p x * (C p a + C p x * (C p 0 + C p x * (C p 1 + C p x * 0)))
    simp only [C_add, C_mul, C_zero, C_one]; grind)
  have k := ((Gv.c (p := p) (x := x) 16).mul e).mul e
  have : C p 16 * C p (x * x * x + a * x + b) * C p (x * x * x + a * x + b) = dd_ p a b x := by
    rw [C_16]; simp only [C_add, C_mul]; grind
  rw [this] at k
  exact k
theorem g_third : Gv p x (cl p (thirdL a b)) (bb_ p a b x) := by
  have e : Gv p x (cl p (thirdL a b)) (C p (3 * x * x * x * x + 6 * a * x * x + 12 * b * x - a * a)) := Gv.cl (by
    show _ = C p (-a * a) + C p x * (C p (12 * b) + C p x * (C p (6 * a) + C p x * (C p 0 + C p x * (C p 3 + C p x * 0))))
    simp only [C_add, C_sub, C_mul, C_neg, C_zero, C_3, C_6, C_12]; grind)
  have : C p (3 * x * x * x * x + 6 * a * x * x + 12 * b * x - a * a) = bb_ p a b x := by simp only [C_sub, C_add, C_mul, C_3, C_6, C_12]
  rw [this] at e
  exact e
theorem C_5 : C p 5 = 5 := by
  have : C p (3 + 2) = C p 3 + C p 2 := C_add 3 2
  rw [C_3, C_2] at this
  rw [show C p 5 = 3 + 2 from this]; grind
theorem C_8 : C p 8 = 8 := by
  have : C p (4 + 4) = C p 4 + C p 4 := C_add 4 4
  rw [C_4'] at this
  rw [show C p 8 = 4 + 4 from this]; grind
theorem C_20 : C p 20 = 20 := by
  have : C p (4 * 5) = C p 4 * C p 5 := C_mul 4 5
  rw [C_4', C_5] at this
  rw [show C p 20 = 4 * 5 from this]; grind
theorem g_fourth : Gv p x (C p 2 * cl p (fourthL a b)) (bb_ p a b x * tt_ p a x - dd_ p a b x) := by
  have e : Gv p x (cl p (fourthL a b)) (C p (x * x * x * x * x * x + 5 * a * x * x * x * x + 20 * b * x * x * x - 5 * a * a * x * x - 4 * a * b * x - 8 * b * b - a * a * a)) := Gv.cl (by
    show _ = C p (-8 * b * b - a * a * a) + C p x * (C p (-4 * a * b) + C p x * (C p (-5 * a * a) + C p x * (C p (20 * b) + C p x * (C p (5 * a) + C p x * (C p 0 + C p x * (C p 1 + C p x * 0))))))
    simp only [C_add, C_sub, C_mul, C_neg, C_zero, C_one, C_4', C_5, C_8, C_20]; grind)
  have k := (Gv.c (p := p) (x := x) 2).mul e
  have : C p 2 * C p (x * x * x * x * x * x + 5 * a * x * x * x * x + 20 * b * x * x * x - 5 * a * a * x * x - 4 * a * b * x - 8 * b * b - a * a * a) = bb_ p a b x * tt_ p a x - dd_ p a b x := by
    simp only [C_sub, C_add, C_mul, C_2, C_5, C_20, C_4', C_8]; grind
  rw [this] at k
  exact k
theorem at_rec (S : Ser p) (L : List (Ser p)) (l5 : L.length = 5) {k : Nat} (hk : k < 8) : at' (psi S L 8) (5 + k) = nxt1 S (psi S L k) := by
  have e := at_pre S L (k + 1) (7 - k) (5 + k) (by rw [l5]; omega)
  rw [show k + 1 + (7 - k) = 8 by omega] at e
  rw [← e]
  show at' (psi S L k ++ [nxt1 S (psi S L k)]) (5 + k) = _
  unfold at'
  rw [List.getD_eq_getElem?_getD, List.getElem?_append_right (by rw [psi_len, l5]; omega), psi_len, l5, Nat.sub_self]
  rfl
theorem at_low (S : Ser p) (L : List (Ser p)) (l5 : L.length = 5) {k j : Nat} (hk : k ≤ 8) (hj : j < 5 + k) : at' (psi S L k) j = at' (psi S L 8) j := by
  have e := at_pre S L k (8 - k) j (by rw [l5]; omega)
  rwa [show k + (8 - k) = 8 by omega] at e
/-- the values of the division polynomials -/
theorem g_all : ∀ n, n ≤ 12 → Gv p x (at' (psi (cubS p a b) (L0 p a b) 8) n) (pf (dd_ p a b x) (bb_ p a b x) (tt_ p a x) n) := by
  intro n
  induction n using Nat.strongRecOn with
  | ind n ih =>
    intro h
    have l5 : (L0 p a b).length = 5 := rfl
    have i : ∀ k, k < n → Gv p x (at' (psi (cubS p a b) (L0 p a b) 8) k) (pf (dd_ p a b x) (bb_ p a b x) (tt_ p a x) k) := fun k hk => ih k hk (by omega)
    have recu : ∀ k, k < 8 → at' (psi (cubS p a b) (L0 p a b) 8) (5 + k) = nxt1 (cubS p a b) (psi (cubS p a b) (L0 p a b) k) := fun k hk => at_rec _ _ l5 hk
    have low : ∀ k j, k ≤ 8 → j < 5 + k → at' (psi (cubS p a b) (L0 p a b) k) j = at' (psi (cubS p a b) (L0 p a b) 8) j := fun k j hk hj => at_low _ _ l5 hk hj
    have lo0 : ∀ j, j < 5 → at' (psi (cubS p a b) (L0 p a b) 8) j = at' (L0 p a b) j := fun j hj => (low 0 j (by omega) (by omega)).symm
    have cS := g_cub (p := p) (a := a) (b := b) (x := x)
    have len : ∀ k, (psi (cubS p a b) (L0 p a b) k).length = 5 + k := fun k => by rw [psi_len, l5]
    rcases (show n = 0 ∨ n = 1 ∨ n = 2 ∨ n = 3 ∨ n = 4 ∨ n = 5 ∨ n = 6 ∨ n = 7 ∨ n = 8 ∨ n = 9 ∨ n = 10 ∨ n = 11 ∨ n = 12 by omega) with rfl | rfl | rfl | rfl | rfl | rfl | rfl | rfl | rfl | rfl | rfl | rfl | rfl
    · rw [lo0 0 (by omega)]; exact Gv.c 0
    · rw [lo0 1 (by omega)]; exact Gv.c 1
    · rw [lo0 2 (by omega)]; exact Gv.c 1
    · rw [lo0 3 (by omega)]; exact g_third
    · rw [lo0 4 (by omega)]; exact g_fourth
    · rw [recu 0 (by omega), pf_r5]
      have e : nxt1 (cubS p a b) (psi (cubS p a b) (L0 p a b) 0) = cubS p a b * (at' (psi (cubS p a b) (L0 p a b) 0) 4 * at' (psi (cubS p a b) (L0 p a b) 0) 2 * at' (psi (cubS p a b) (L0 p a b) 0) 2 * at' (psi (cubS p a b) (L0 p a b) 0) 2) - at' (psi (cubS p a b) (L0 p a b) 0) 1 * at' (psi (cubS p a b) (L0 p a b) 0) 3 * at' (psi (cubS p a b) (L0 p a b) 0) 3 * at' (psi (cubS p a b) (L0 p a b) 0) 3 := by
        unfold nxt1; simp only [len]; rfl
      rw [e]; simp only [low 0 _ (by omega) (show 4 < 5 + 0 by omega), low 0 _ (by omega) (show 3 < 5 + 0 by omega), low 0 _ (by omega) (show 2 < 5 + 0 by omega), low 0 _ (by omega) (show 1 < 5 + 0 by omega)]
      exact (cS.mul ((((i 4 (by omega)).mul (i 2 (by omega))).mul (i 2 (by omega))).mul (i 2 (by omega)))).sub ((((i 1 (by omega)).mul (i 3 (by omega))).mul (i 3 (by omega))).mul (i 3 (by omega)))
    · rw [recu 1 (by omega), pf_r6]
      have e : nxt1 (cubS p a b) (psi (cubS p a b) (L0 p a b) 1) = at' (psi (cubS p a b) (L0 p a b) 1) 3 * (at' (psi (cubS p a b) (L0 p a b) 1) 5 * at' (psi (cubS p a b) (L0 p a b) 1) 2 * at' (psi (cubS p a b) (L0 p a b) 1) 2 - at' (psi (cubS p a b) (L0 p a b) 1) 1 * at' (psi (cubS p a b) (L0 p a b) 1) 4 * at' (psi (cubS p a b) (L0 p a b) 1) 4) := by
        unfold nxt1; simp only [len]; rfl
      rw [e]; simp only [low 1 _ (by omega) (show 5 < 5 + 1 by omega), low 1 _ (by omega) (show 4 < 5 + 1 by omega), low 1 _ (by omega) (show 3 < 5 + 1 by omega), low 1 _ (by omega) (show 2 < 5 + 1 by omega), low 1 _ (by omega) (show 1 < 5 + 1 by omega)]
      exact (i 3 (by omega)).mul ((((i 5 (by omega)).mul (i 2 (by omega))).mul (i 2 (by omega))).sub (((i 1 (by omega)).mul (i 4 (by omega))).mul (i 4 (by omega))))
    · rw [recu 2 (by omega), pf_r7]
      have e : nxt1 (cubS p a b) (psi (cubS p a b) (L0 p a b) 2) = at' (psi (cubS p a b) (L0 p a b) 2) 5 * at' (psi (cubS p a b) (L0 p a b) 2) 3 * at' (psi (cubS p a b) (L0 p a b) 2) 3 * at' (psi (cubS p a b) (L0 p a b) 2) 3 - cubS p a b * (at' (psi (cubS p a b) (L0 p a b) 2) 2 * at' (psi (cubS p a b) (L0 p a b) 2) 4 * at' (psi (cubS p a b) (L0 p a b) 2) 4 * at' (psi (cubS p a b) (L0 p a b) 2) 4) := by
        unfold nxt1; simp only [len]; rfl
      rw [e]; simp only [low 2 _ (by omega) (show 5 < 5 + 2 by omega), low 2 _ (by omega) (show 4 < 5 + 2 by omega), low 2 _ (by omega) (show 3 < 5 + 2 by omega), low 2 _ (by omega) (show 2 < 5 + 2 by omega)]
      exact ((((i 5 (by omega)).mul (i 3 (by omega))).mul (i 3 (by omega))).mul (i 3 (by omega))).sub (cS.mul ((((i 2 (by omega)).mul (i 4 (by omega))).mul (i 4 (by omega))).mul (i 4 (by omega))))
    · rw [recu 3 (by omega), pf_r8]
      have e : nxt1 (cubS p a b) (psi (cubS p a b) (L0 p a b) 3) = at' (psi (cubS p a b) (L0 p a b) 3) 4 * (at' (psi (cubS p a b) (L0 p a b) 3) 6 * at' (psi (cubS p a b) (L0 p a b) 3) 3 * at' (psi (cubS p a b) (L0 p a b) 3) 3 - at' (psi (cubS p a b) (L0 p a b) 3) 2 * at' (psi (cubS p a b) (L0 p a b) 3) 5 * at' (psi (cubS p a b) (L0 p a b) 3) 5) := by
        unfold nxt1; simp only [len]; rfl
      rw [e]; simp only [low 3 _ (by omega) (show 6 < 5 + 3 by omega), low 3 _ (by omega) (show 5 < 5 + 3 by omega), low 3 _ (by omega) (show 4 < 5 + 3 by omega), low 3 _ (by omega) (show 3 < 5 + 3 by omega), low 3 _ (by omega) (show 2 < 5 + 3 by omega)]
      exact (i 4 (by omega)).mul ((((i 6 (by omega)).mul (i 3 (by omega))).mul (i 3 (by omega))).sub (((i 2 (by omega)).mul (i 5 (by omega))).mul (i 5 (by omega))))
    · rw [recu 4 (by omega), pf_r9]
      have e : nxt1 (cubS p a b) (psi (cubS p a b) (L0 p a b) 4) = cubS p a b * (at' (psi (cubS p a b) (L0 p a b) 4) 6 * at' (psi (cubS p a b) (L0 p a b) 4) 4 * at' (psi (cubS p a b) (L0 p a b) 4) 4 * at' (psi (cubS p a b) (L0 p a b) 4) 4) - at' (psi (cubS p a b) (L0 p a b) 4) 3 * at' (psi (cubS p a b) (L0 p a b) 4) 5 * at' (psi (cubS p a b) (L0 p a b) 4) 5 * at' (psi (cubS p a b) (L0 p a b) 4) 5 := by
        unfold nxt1; simp only [len]; rfl
      rw [e]; simp only [low 4 _ (by omega) (show 6 < 5 + 4 by omega), low 4 _ (by omega) (show 5 < 5 + 4 by omega), low 4 _ (by omega) (show 4 < 5 + 4 by omega), low 4 _ (by omega) (show 3 < 5 + 4 by omega)]
      exact (cS.mul ((((i 6 (by omega)).mul (i 4 (by omega))).mul (i 4 (by omega))).mul (i 4 (by omega)))).sub ((((i 3 (by omega)).mul (i 5 (by omega))).mul (i 5 (by omega))).mul (i 5 (by omega)))
    · rw [recu 5 (by omega), pf_r10]
      have e : nxt1 (cubS p a b) (psi (cubS p a b) (L0 p a b) 5) = at' (psi (cubS p a b) (L0 p a b) 5) 5 * (at' (psi (cubS p a b) (L0 p a b) 5) 7 * at' (psi (cubS p a b) (L0 p a b) 5) 4 * at' (psi (cubS p a b) (L0 p a b) 5) 4 - at' (psi (cubS p a b) (L0 p a b) 5) 3 * at' (psi (cubS p a b) (L0 p a b) 5) 6 * at' (psi (cubS p a b) (L0 p a b) 5) 6) := by
        unfold nxt1; simp only [len]; rfl
      rw [e]; simp only [low 5 _ (by omega) (show 7 < 5 + 5 by omega), low 5 _ (by omega) (show 6 < 5 + 5 by omega), low 5 _ (by omega) (show 5 < 5 + 5 by omega), low 5 _ (by omega) (show 4 < 5 + 5 by omega), low 5 _ (by omega) (show 3 < 5 + 5 by omega)]
      exact (i 5 (by omega)).mul ((((i 7 (by omega)).mul (i 4 (by omega))).mul (i 4 (by omega))).sub (((i 3 (by omega)).mul (i 6 (by omega))).mul (i 6 (by omega))))
    · rw [recu 6 (by omega), pf_r11]
      have e : nxt1 (cubS p a b) (psi (cubS p a b) (L0 p a b) 6) = at' (psi (cubS p a b) (L0 p a b) 6) 7 * at' (psi (cubS p a b) (L0 p a b) 6) 5 * at' (psi (cubS p a b) (L0 p a b) 6) 5 * at' (psi (cubS p a b) (L0 p a b) 6) 5 - cubS p a b * (at' (psi (cubS p a b) (L0 p a b) 6) 4 * at' (psi (cubS p a b) (L0 p a b) 6) 6 * at' (psi (cubS p a b) (L0 p a b) 6) 6 * at' (psi (cubS p a b) (L0 p a b) 6) 6) := by
        unfold nxt1; simp only [len]; rfl
      rw [e]; simp only [low 6 _ (by omega) (show 7 < 5 + 6 by omega), low 6 _ (by omega) (show 6 < 5 + 6 by omega), low 6 _ (by omega) (show 5 < 5 + 6 by omega), low 6 _ (by omega) (show 4 < 5 + 6 by omega)]
      exact ((((i 7 (by omega)).mul (i 5 (by omega))).mul (i 5 (by omega))).mul (i 5 (by omega))).sub (cS.mul ((((i 4 (by omega)).mul (i 6 (by omega))).mul (i 6 (by omega))).mul (i 6 (by omega))))
    · rw [recu 7 (by omega), pf_r12]
      have e : nxt1 (cubS p a b) (psi (cubS p a b) (L0 p a b) 7) = at' (psi (cubS p a b) (L0 p a b) 7) 6 * (at' (psi (cubS p a b) (L0 p a b) 7) 8 * at' (psi (cubS p a b) (L0 p a b) 7) 5 * at' (psi (cubS p a b) (L0 p a b) 7) 5 - at' (psi (cubS p a b) (L0 p a b) 7) 4 * at' (psi (cubS p a b) (L0 p a b) 7) 7 * at' (psi (cubS p a b) (L0 p a b) 7) 7) := by
        unfold nxt1; simp only [len]; rfl
      rw [e]; simp only [low 7 _ (by omega) (show 8 < 5 + 7 by omega), low 7 _ (by omega) (show 7 < 5 + 7 by omega), low 7 _ (by omega) (show 6 < 5 + 7 by omega), low 7 _ (by omega) (show 5 < 5 + 7 by omega), low 7 _ (by omega) (show 4 < 5 + 7 by omega)]
      exact (i 6 (by omega)).mul ((((i 8 (by omega)).mul (i 5 (by omega))).mul (i 5 (by omega))).sub (((i 4 (by omega)).mul (i 7 (by omega))).mul (i 7 (by omega))))
/-- the program's value of the n-th polynomial at x -/
theorem val_pf (hp : MB.PrimeI p) {n : Nat} (h : n ≤ 12) {f : List Int} {v : Int} (e : cl p f = at' (psi (cubS p a b) (L0 p a b) 8) n) (hv : C p v = ev (C p x) f) : C p v = pf (dd_ p a b x) (bb_ p a b x) (tt_ p a x) n := by
  obtain ⟨_, w, ew, hw⟩ := g_all (p := p) (a := a) (b := b) (x := x) n h
  have k := Ev.cl (p := p) (x := x) (w := v) (f := f) hv
  rw [e] at k
  rw [← hw]
  exact Ev.uniq hp k ew
theorem odd_a {s t q : Ser p} (r : 0 = s * t * t * t - 0 * q) : s * (t * (t * t)) = 0 := by grind
theorem odd_b {t q : Ser p} (r : 0 = 0 * q - 1 * t * t * t) : t * (t * t) = 0 := by grind
theorem odd_c {s t q : Ser p} (r : 0 = 0 * q - s * t * t * t) : s * (t * (t * t)) = 0 := by grind
section
variable (c : Cu p a b) (hd : Ns p a b) (hP : On p a b (some (x, y)))
include c hd hP
theorem ss_y : ss_ p a b x = C p y * C p y := (on_C hP).symm
theorem al4 : al_ p y * al_ p y * al_ p y * al_ p y = dd_ p a b x := by
  show _ = 16 * (ss_ p a b x * ss_ p a b x)
  rw [ss_y c hd hP]; grind
theorem al2 : al_ p y * al_ p y = 4 * ss_ p a b x := by
  rw [ss_y c hd hP]; grind
theorem dd0 (hy : C p y = 0) : dd_ p a b x = 0 := by
  show 16 * (ss_ p a b x * ss_ p a b x) = 0
  rw [ss_y c hd hP, hy]; grind
theorem bb_ne (hy : C p y = 0) : bb_ p a b x ≠ 0 := fun z => by
  have s := ss_y c hd hP
  rw [hy] at s
  have s : C p x * C p x * C p x + C p a * C p x + C p b = 0 := by
    have : (0 : Ser p) * 0 = 0 := by grind
    rw [this] at s
    exact s
  have e : C p ((3 * x * x + a) * (3 * x * x + a)) = 0 := by
    simp only [C_add, C_mul, C_3]
    have z : 3 * C p x * C p x * C p x * C p x + 6 * C p a * C p x * C p x + 12 * C p b * C p x - C p a * C p a = 0 := z
    grind
  rw [C_mul] at e
  have e : C p (3 * x * x + a) = 0 := (C_prod c.hp e).elim id id
  simp only [C_add, C_mul, C_3] at e
  refine hd (C_zero_iff.mp ?_)
  have c27 : C p 27 = 27 := by
    have : C p (3 * 3 * 3) = C p 3 * C p 3 * C p 3 := by rw [C_mul, C_mul]
    rw [C_3] at this
    rw [show (27 : Int) = 3 * 3 * 3 by decide, this]; grind
  simp only [C_add, C_mul, C_4', c27]
  have ea : C p a = 0 - 3 * C p x * C p x := by grind
  have eb : C p b = 2 * C p x * C p x * C p x := by rw [ea] at s; grind
  rw [ea, eb]; grind
theorem pf_odd0 (hy : C p y = 0) {n : Nat} (h1 : n % 2 = 1) (h : n ≤ 11) : pf (dd_ p a b x) (bb_ p a b x) (tt_ p a x) n ≠ 0 := by
  have d0 := dd0 c hd hP hy
  have bn := bb_ne c hd hP hy
  have bC := bb_C (p := p) (a := a) (b := b) (x := x)
  have tC := tt_C (p := p) (a := a) (x := x)
  rw [d0]
  have k : ∀ n, n ≤ 12 → IsC (pf (0 : Ser p) (bb_ p a b x) (tt_ p a x) n) := pf_C ⟨0, rfl⟩ bC tC
  have p1 : pf (0 : Ser p) (bb_ p a b x) (tt_ p a x) 1 = 1 := rfl
  have p3 : pf (0 : Ser p) (bb_ p a b x) (tt_ p a x) 3 = bb_ p a b x := rfl
  have b3 : bb_ p a b x * (bb_ p a b x * bb_ p a b x) ≠ 0 := bC.ne c.hp (bC.mul bC) bn (bC.ne c.hp bC bn bn)
  have n5 : pf (0 : Ser p) (bb_ p a b x) (tt_ p a x) 5 ≠ 0 := fun z => by
    have r := pf_r5 (0 : Ser p) (bb_ p a b x) (tt_ p a x)
    rw [z, p1, p3] at r
    exact b3 (odd_b r)
  have k5 := k 5 (by omega)
  have c5 := k5.ne c.hp (k5.mul k5) n5 (k5.ne c.hp k5 n5 n5)
  have n7 : pf (0 : Ser p) (bb_ p a b x) (tt_ p a x) 7 ≠ 0 := fun z => by
    have r := pf_r7 (0 : Ser p) (bb_ p a b x) (tt_ p a x)
    rw [z, p3] at r
    exact (k5.ne c.hp (bC.mul (bC.mul bC)) n5 b3) (odd_a r)
  have n9 : pf (0 : Ser p) (bb_ p a b x) (tt_ p a x) 9 ≠ 0 := fun z => by
    have r := pf_r9 (0 : Ser p) (bb_ p a b x) (tt_ p a x)
    rw [z, p3] at r
    exact (bC.ne c.hp (k5.mul (k5.mul k5)) bn c5) (odd_c r)
  have n11 : pf (0 : Ser p) (bb_ p a b x) (tt_ p a x) 11 ≠ 0 := fun z => by
    have r := pf_r11 (0 : Ser p) (bb_ p a b x) (tt_ p a x)
    rw [z] at r
    exact ((k 7 (by omega)).ne c.hp (k5.mul (k5.mul k5)) n7 c5) (odd_a r)
  rcases (show n = 1 ∨ n = 3 ∨ n = 5 ∨ n = 7 ∨ n = 9 ∨ n = 11 by omega) with rfl | rfl | rfl | rfl | rfl | rfl
  · exact fun z => by
      have : C p 1 = 0 := z
      have := C_zero_iff.mp this
      have p5 := c.p5
      rw [Int.emod_eq_of_lt (by decide) (by omega)] at this
      cases this
  · exact bn
  · exact n5
  · exact n7
  · exact n9
  · exact n11
theorem two0 (hy : C p y = 0) : mulP p a (some (x, y)) 2 = none := by
  show addP p a (some (x, y)) (some (x, y)) = none
  exact if_pos ⟨rfl, C_zero_iff.mp (by rw [C_add, hy]; grind)⟩
theorem odd0 (hy : C p y = 0) {n : Nat} (h1 : n % 2 = 1) : mulP p a (some (x, y)) n = some (x, y) := by
  rw [mul_mod c hd hP (two0 c hd hP hy), h1]
  rfl
theorem even0 (hy : C p y = 0) {n : Nat} (h1 : n % 2 = 0) : mulP p a (some (x, y)) n = none := by
  rw [mul_mod c hd hP (two0 c hd hP hy), h1]
  rfl
theorem Wp_pf {n : Nat} : Wp p a b x y n = if n % 2 = 0 then al_ p y * pf (dd_ p a b x) (bb_ p a b x) (tt_ p a x) n else pf (dd_ p a b x) (bb_ p a b x) (tt_ p a x) n := by
  show W _ _ _ n = _
  unfold W
  rw [al4 c hd hP]
/-- the test of the program -/
theorem kills_iff {n : Nat} (n1 : 1 ≤ n) (n11 : n ≤ 11) : mulP p a (some (x, y)) n = none ↔ (n % 2 = 0 ∧ C p y = 0) ∨ pf (dd_ p a b x) (bb_ p a b x) (tt_ p a x) n = 0 := by
  by_cases hy : C p y = 0
  · by_cases hn : n % 2 = 0
    · exact ⟨fun _ => .inl ⟨hn, hy⟩, fun _ => even0 c hd hP hy hn⟩
    · rw [odd0 c hd hP hy (by omega)]
      exact ⟨fun h => (by cases h), fun h => h.elim (fun z => absurd z.1 hn) fun z => absurd z (pf_odd0 c hd hP hy (by omega) n11)⟩
  · have z := (eds c hd hP hy n n1 (by omega)).1
    unfold ZOK at z
    rw [← z, Wp_pf c hd hP]
    have ane := al_ne c hd hP hy
    split
    · rename_i hn
      constructor
      · intro k
        exact .inr ((al_C.zero c.hp (pf_C (al4 c hd hP ▸ ((al_C.mul al_C).mul al_C).mul al_C) bb_C tt_C n (by omega)) k).resolve_left ane)
      · rintro (k | k)
        · exact absurd k.2 hy
        · rw [k]; clear z; grind
    · rename_i hn
      exact ⟨.inr, fun k => k.elim (fun q => absurd q.1 hn) id⟩
/-- the first residue of the multiple -/
theorem first_eq {n : Nat} (n1 : 1 ≤ n) (n11 : n ≤ 11) {u w : Int} (h : mulP p a (some (x, y)) n = some (u, w)) {f0 f1 f2 : Ser p} (h0 : f0 = pf (dd_ p a b x) (bb_ p a b x) (tt_ p a x) (n - 1)) (h1 : f1 = pf (dd_ p a b x) (bb_ p a b x) (tt_ p a x) n) (h2 : f2 = pf (dd_ p a b x) (bb_ p a b x) (tt_ p a x) (n + 1)) :
    (n % 2 = 1 → f1 * f1 ≠ 0 ∧ C p u * (f1 * f1) = C p x * (f1 * f1) - f0 * f2 * (4 * ss_ p a b x)) ∧ (n % 2 = 0 → f1 * f1 * (4 * ss_ p a b x) ≠ 0 ∧ C p u * (f1 * f1 * (4 * ss_ p a b x)) = C p x * (f1 * f1 * (4 * ss_ p a b x)) - f0 * f2) := by
  have no : ¬ mulP p a (some (x, y)) n = none := by rw [h]; exact fun z => (by cases z)
  rw [kills_iff c hd hP n1 n11, ← h1] at no
  have fn : f1 ≠ 0 := fun z => no (.inr z)
  have dC : IsC (dd_ p a b x) := al4 c hd hP ▸ ((al_C.mul al_C).mul al_C).mul al_C
  have fC : IsC f1 := h1 ▸ pf_C dC bb_C tt_C n (by omega)
  have ff := fC.ne c.hp fC fn fn
  by_cases hy : C p y = 0
  · have hn : n % 2 = 1 := by
      rcases Nat.mod_two_eq_zero_or_one n with z | z
      · exact absurd (.inl ⟨z, hy⟩) no
      · exact z
    refine ⟨fun _ => ⟨ff, ?_⟩, fun z => by omega⟩
    have e := h.symm.trans (odd0 c hd hP hy hn)
    have e := Option.some.inj e
    rw [show u = x from congrArg Prod.fst e, ss_y c hd hP, hy]; grind
  · have X := (eds c hd hP hy n n1 (by omega)).2 n11 u w h
    have ane := al_ne c hd hP hy
    rw [Wp_pf c hd hP, Wp_pf c hd hP, Wp_pf c hd hP, ← h0, ← h1, ← h2] at X
    have A := al2 c hd hP
    constructor
    · intro hn
      refine ⟨ff, ?_⟩
      rw [if_neg (by omega), if_pos (by omega), if_pos (by omega)] at X
      rw [← A]
      clear h0 h1 h2 fC dC ff A
      grind
    · intro hn
      rw [if_pos hn, if_neg (by omega), if_neg (by omega)] at X
      rw [← A]
      refine ⟨(fC.mul fC).ne c.hp (al_C.mul al_C) ff (al_C.ne c.hp al_C ane ane), ?_⟩
      clear h0 h1 h2 fC dC ff A
      grind
end
end MC
namespace G
open PySem L2 DL
def topS (i : Nat) : Stmt := PySem.Challenge.pw_curvetally_k31_whole_killed_points.main.body.getD i (.Pass ⟨0, 0, 0, 0⟩)
abbrev okH : List D → Prop := okF2
section
variable {P : Program} {w : World} {K : PySem.W.Frag} {mg : Str → Option Value} {base : Heap}
/-! ### inverse_by -/
abbrev s_inverse_by : Stmt := topS 4
theorem sc_inverse_by : FnScope ["modulus", "x", "old", "new", "first", "second", "times"] ["modulus", "x"] (defScope s_inverse_by) := ⟨rfl, rfl, rfl, by decide +kernel, rfl, by decide +kernel, by decide +kernel⟩
def M_inverse_by : WM := fun as Q => ∃ n v : Int, as = [.v (.int n), .v (.int v)] ∧ 0 < n ∧ n < 2 ^ 62 ∧ ∀ t : Int, 0 ≤ t → t < n → n ∣ t * v - (Int.gcd n v : Nat) → Q (.v (.int t))

def w_inverse_by : WS := (wSeq (wPar 2 3 (wCons (wVar 0) (wCons (wBin fMod (wVar 1) (wVar 0)) wNil)))
 (wSeq (wAsg (wTupP (wCons (wC (.int 0)) (wCons (wC (.int 1)) wNil))) (gT 2 (gsCons (gN 4) (gsCons (gN 5) gsNil))))
 (wSeq (wWhile (wTest (wBin fGt (wVar 3) (wC (.int 0))))
 (wSeq (wSet 6 (wBin fDiv (wVar 2) (wVar 3)))
 (wSeq (wPar 2 3 (wCons (wVar 3) (wCons (wBin fSub (wVar 2) (wBin fMul (wVar 6) (wVar 3))) wNil)))
 (wPar 4 5 (wCons (wVar 5) (wCons (wBin fSub (wVar 4) (wBin fMul (wVar 6) (wVar 5))) wNil))))))
 (wRet (wBin fMod (wVar 4) (wVar 0))))))
theorem mf_inverse_by : ∀ as Q, as.length = 2 → M_inverse_by as Q → w_inverse_by { nx := fun _ => Q (.v .none), rt := Q } (stE as 5) := by
  rintro as Q _ ⟨n, v, rfl, n0, n1, hq⟩
  let I : Nat → EnvD → Prop := fun k env => ∃ a b s t u, env = [some (.v (.int n)), some (.v (.int v)), some (.v (.int a)), some (.v (.int b)), some (.v (.int s)), some (.v (.int t)), u] ∧ 0 < a ∧ a ≤ n ∧ 0 ≤ b ∧ b ≤ n ∧ n ∣ s * v - a ∧ n ∣ t * v - b ∧ Int.gcd a b = Int.gcd n v ∧ k = b.toNat
  have v0 : 0 ≤ v % n := Int.emod_nonneg _ (by omega)
  refine ⟨n0, rfl, lk rfl, rfl, rfl, I, ⟨(v % n).toNat, n, v % n, 0, 1, none, rfl, n0, Int.le_refl _, v0, Int.le_of_lt (Int.emod_lt_of_pos _ n0), ?_, ?_, ?_, rfl⟩, fun k env hI => ?_⟩
  · rw [Int.zero_mul, Int.zero_sub]; exact Int.dvd_neg.mpr (Int.dvd_refl _)
  · rw [Int.one_mul]; exact Int.dvd_self_sub_emod
  · exact MB.gcd_mod n v
  obtain ⟨a, b, s, t, u, rfl, a0, a1, b0, ba, hs, ht, hg, rfl⟩ := hI
  refine ⟨fun h => ?_, fun h => ?_⟩
  · have bp : 0 < b := of_decide_eq_true h
    have t0 : 0 ≤ a / b := Int.ediv_nonneg (by omega) b0
    have t1 : a / b ≤ a := Int.ediv_le_self _ (by omega)
    have cm : ∀ z : Int, CMul (a / b) z := fun z => .inl ⟨by omega, by omega⟩
    have e : a - a / b * b = a % b := by
      have := Int.emod_def a b
      rw [Int.mul_comm b] at this
      omega
    have m0 : 0 ≤ a % b := Int.emod_nonneg _ (by omega)
    have m1 : a % b < b := Int.emod_lt_of_pos _ bp
    refine ⟨fun e => ∃ m', m' < b.toNat ∧ I m' e, fun _ z => z, div200 bp (by omega) _, cm _, cm _, ?_⟩
    refine ⟨(a % b).toNat, by omega, b, a % b, t, s - a / b * t, _, by rw [← e]; rfl, bp, ba, m0, by omega, ht, ?_, ?_, rfl⟩
    · obtain ⟨c1, hc1⟩ := hs
      obtain ⟨c2, hc2⟩ := ht
      refine ⟨c1 - a / b * c2, ?_⟩
      rw [← e]
      have : (s - a / b * t) * v - (a - a / b * b) = (s * v - a) - a / b * (t * v - b) := by grind
      rw [this, hc1, hc2]
      grind
    · rw [← hg]
      exact MB.gcd_mod_r a b
  · have bp : ¬ 0 < b := of_decide_eq_false h
    have b00 : b = 0 := by omega
    subst b00
    have ea : a = (Int.gcd n v : Nat) := by
      rw [← hg, Int.gcd_zero_right]
      omega
    refine ⟨n0, hq _ (Int.emod_nonneg _ (by omega)) (Int.emod_lt_of_pos _ n0) ?_⟩
    rw [← ea]
    have h1 : n ∣ s - s % n := Int.dvd_self_sub_emod
    obtain ⟨c1, hc1⟩ := h1
    obtain ⟨c2, hc2⟩ := hs
    refine ⟨c2 - c1 * v, ?_⟩
    have : s % n * v - a = (s * v - a) - (s - s % n) * v := by grind
    rw [this, hc1, hc2]
    grind

theorem ok_inverse_by {f : Addr} {fd : FuncData} (F : Fun K "inverse_by" "inverse_by" s_inverse_by f fd)      : FnOk P w K mg base CX0 1 f fd ["modulus", "x"] (SpD K okH 2 M_inverse_by) :=
  def_ok F sc_inverse_by rfl (fun cdv A outer s H E hr =>
 (s_cons (s_par 2 3 rfl sc_inverse_by.nd (by decide) (a_cons (d_var 0) (a_cons (d_mod (d_var 1) (d_var 0)) a_nil)))
 (s_cons (s_asg (vs := [4, 5]) (d_tup (a_cons d_int (a_cons d_int a_nil))) (g_tupN (g_cons (g_name 4 sc_inverse_by.nd) (g_cons (g_name 5 sc_inverse_by.nd) g_nil))))
 (s_cons (s_while PassesOwn.never (t_gt (d_var 3) d_int)
 (s_cons (s_set 6 sc_inverse_by.nd (d_div (d_var 2) (d_var 3)))
 (s_cons (s_par 2 3 rfl sc_inverse_by.nd (by decide) (a_cons (d_var 3) (a_cons (d_sub (d_var 2) (d_mul (d_var 6) (d_var 3))) a_nil)))
 (s_one (s_par 4 5 rfl sc_inverse_by.nd (by decide) (a_cons (d_var 5) (a_cons (d_sub (d_var 4) (d_mul (d_var 6) (d_var 5))) a_nil)))))))
 (s_one (s_ret (d_mod (d_var 4) (d_var 0)))))))) mf_inverse_by
/-! ### inverse -/
abbrev s_inverse : Stmt := topS 5
theorem sc_inverse : FnScope ["p", "x"] ["p", "x"] (defScope s_inverse) := ⟨rfl, rfl, rfl, by decide +kernel, rfl, by decide +kernel, by decide +kernel⟩
def M_inverse : WM := fun as Q => ∃ p x : Int, as = [.v (.int p), .v (.int x)] ∧ MB.PrimeI p ∧ p < 2 ^ 62 ∧ x % p ≠ 0 ∧ Q (.v (.int (MC.inv p x)))

def w_inverse : WS := (wSeq (wIf (wTest (wBin fEq (wBin fMod (wVar 1) (wVar 0)) (wC (.int 0))))
 wNever
 wNx)
 (wRet (wCallP 2 M_inverse_by (wCons (wVar 0) (wCons (wVar 1) wNil)))))
theorem mf_inverse : ∀ as Q, as.length = 2 → M_inverse as Q → w_inverse { nx := fun _ => Q (.v .none), rt := Q } (stE as 0) := by
  rintro as Q _ ⟨p, x, rfl, hp, p1, hx, hq⟩
  have h2 := hp.1
  refine ⟨by omega, fun h => ?_, fun _ => ?_⟩
  · exact absurd (of_decide_eq_true h) hx
  · refine ⟨rfl, rfl, p, x, rfl, by omega, p1, fun t t0 t1 ht => ?_⟩
    rw [MC.inv_of_gcd hp hx t0 t1 ht]
    exact hq

theorem ok_inverse {f : Addr} {fd : FuncData} (F : Fun K "inverse" "inverse" s_inverse f fd) (h_inverse_by : Has P w K mg base okH 1 "inverse_by" 2 M_inverse_by)     : FnOk P w K mg base CX0 2 f fd ["p", "x"] (SpD K okH 2 M_inverse) :=
  def_ok F sc_inverse rfl (fun cdv A outer s H E hr =>
 (s_cons (s_if (t_eq hr (d_mod (d_var 1) (d_var 0)) d_int)
 (s_one s_no)
 s_nil)
 (s_one (s_ret (d_call h_inverse_by hr (by decide) (a_cons (d_var 0) (a_cons (d_var 1) a_nil))))))) mf_inverse
/-! ### side -/
abbrev s_side : Stmt := topS 7
theorem sc_side : FnScope ["curve", "x", "p", "a", "b"] ["curve", "x"] (defScope s_side) := ⟨rfl, rfl, rfl, by decide +kernel, rfl, by decide +kernel, by decide +kernel⟩
def M_side : WM := fun as Q => ∃ p a b x : Int, as = [.v (.tuple [.int p, .int a, .int b]), .v (.int x)] ∧ 0 < p ∧ 0 ≤ x ∧ x < 2 ^ 62 ∧ Q (.v (.int (MC.side p a b x)))

def w_side : WS := (wSeq (wAsg (wVar 0) (gT 3 (gsCons (gN 2) (gsCons (gN 3) (gsCons (gN 4) gsNil)))))
 (wRet (wBin fMod (wBin fAdd (wBin fMul (wBin fAdd (wBin fMul (wVar 1) (wVar 1)) (wVar 3)) (wVar 1)) (wVar 4)) (wVar 2))))
theorem mf_side : ∀ as Q, as.length = 2 → M_side as Q → w_side { nx := fun _ => Q (.v .none), rt := Q } (stE as 3) := by
  rintro as Q _ ⟨p, a, b, x, rfl, p0, x0, x1, hq⟩
  have cx : ∀ z, CMul z x := fun z => .inr ⟨by omega, by omega⟩
  have e : ((x * x + a) * x + b) % p = MC.side p a b x := by
    unfold MC.side
    congr 1
    grind
  rw [← e] at hq
  exact ⟨rfl, rfl, cx _, cx _, p0, hq⟩

theorem ok_side {f : Addr} {fd : FuncData} (F : Fun K "side" "side" s_side f fd)      : FnOk P w K mg base CX0 1 f fd ["curve", "x"] (SpD K okH 2 M_side) :=
  def_ok F sc_side rfl (fun cdv A outer s H E hr =>
 (s_cons (s_asg (vs := [2, 3, 4]) (d_var 0) (g_tupN (g_cons (g_name 2 sc_side.nd) (g_cons (g_name 3 sc_side.nd) (g_cons (g_name 4 sc_side.nd) g_nil)))))
 (s_one (s_ret (d_mod (d_add (d_mul (d_add (d_mul (d_var 1) (d_var 1)) (d_var 3)) (d_var 1)) (d_var 4)) (d_var 2)))))) mf_side
/-! ### trimmed -/
abbrev s_trimmed : Stmt := topS 9
theorem sc_trimmed : FnScope ["p", "values", "rests", "value"] ["p", "values"] (defScope s_trimmed) := ⟨rfl, rfl, rfl, by decide +kernel, rfl, by decide +kernel, by decide +kernel⟩
/-- a row without zeros at the end, of the remainders -/
def M_trimmed : WM := fun as Q => ∃ (p : Int) (vs : List Int), (as = [.v (.int p), .v (.list (dints vs))] ∨ as = [.v (.int p), .v (.tuple (dints vs))]) ∧ 0 < p ∧ vs.length < 1000000 ∧ ∀ r, MS.NF p r → MS.cl p r = MS.cl p vs → r.length ≤ vs.length → Q (.v (.tuple (dints r)))

def w_trimmed : WS := (wSeq (wSetO 2 (wLc (iS (wVar 1)) (gN 3) wYes (wBin fMod (wVar 3) (wVar 0)) [3]))
 (wSeq (wWhile (wAndD (wTest (wBin fGt (wLen (wBor 2)) (wC (.int 0)))) (wTest (wBin fEq (wIx (wBor 2) (wUn fNeg (wC (.int 1)))) (wC (.int 0)))))
 (wPop 2))
 (wRet (wTupOf (wBor 2)))))
theorem trim_run {p : Int} {vs : List Int} {d : D} {Q : Rt → Prop} (p0 : 0 < p) (hq : ∀ r, MS.NF p r → MS.cl p r = MS.cl p vs → r.length ≤ vs.length → Q (.v (.tuple (dints r)))) :
    wSeq (wWhile (wAndD (wTest (wBin fGt (wLen (wBor 2)) (wC (.int 0)))) (wTest (wBin fEq (wIx (wBor 2) (wUn fNeg (wC (.int 1)))) (wC (.int 0))))) (wPop 2)) (wRet (wTupOf (wBor 2))) { nx := fun _ => Q (.v .none), rt := Q } [some (.v (.int p)), some (.v d), some (.own (dints (vs.map fun v => v % p))), none] := by
  let I : Nat → EnvD → Prop := fun k env => ∃ rs : List Int, env = [some (.v (.int p)), some (.v d), some (.own (dints rs)), none] ∧ k = rs.length ∧ (∀ c ∈ rs, 0 ≤ c ∧ c < p) ∧ MS.cl p rs = MS.cl p vs ∧ rs.length ≤ vs.length
  refine ⟨I, ⟨_, vs.map fun v => v % p, rfl, rfl, fun c hc => ?_, MS.cl_map_mod vs, by rw [List.length_map]; exact Nat.le_refl _⟩, fun k env hI => ?_⟩
  · obtain ⟨v, _, rfl⟩ := List.mem_map.mp hc
    exact ⟨Int.emod_nonneg _ (by omega), Int.emod_lt_of_pos _ p0⟩
  obtain ⟨rs, rfl, rfl, hb, hc, hl⟩ := hI
  refine ⟨decide (rs.getLast? = some 0), fun h => ?_, fun h => ?_, fun h => ?_⟩
  · have h' : (0 : Int) < ((dints rs).length : Nat) := of_decide_eq_true h
    rw [dints_len] at h'
    have hn : rs ≠ [] := fun z => by rw [z] at h'; exact absurd h' (by decide)
    obtain ⟨as, a, rfl⟩ : ∃ as a, rs = as ++ [a] := ⟨rs.dropLast, rs.getLast hn, (List.dropLast_concat_getLast hn).symm⟩
    refine ⟨.int a, ?_, ?_⟩
    · rw [dints_snoc]
      exact atI_last _ _
    · rw [List.getLast?_append]
      show decide (a = 0) = decide (some a = some 0)
      by_cases ha : a = 0
      · rw [ha]; rfl
      · rw [decide_eq_false ha, decide_eq_false fun z => ha (Option.some.inj z)]
  · have h' : (decide ((0 : Int) < ((dints rs).length : Nat)) && decide (rs.getLast? = some 0)) = true := h
    rw [Bool.and_eq_true, decide_eq_true_iff, decide_eq_true_iff] at h'
    obtain ⟨as, rfl⟩ := List.getLast?_eq_some_iff.mp h'.2
    refine ⟨fun e => ∃ m', m' < (as ++ [0]).length ∧ I m' e, fun _ z => z, ?_, ?_⟩
    · rw [dints_snoc]
      exact List.append_ne_nil_of_right_ne_nil _ (List.cons_ne_nil _ _)
    · refine ⟨as.length, by rw [List.length_append]; exact Nat.lt_succ_self _, as, ?_, rfl, fun c hc' => hb c (List.mem_append_left _ hc'), ?_, ?_⟩
      · show [_, _, some (Sl.own (dints (as ++ [0])).dropLast), _] = _
        rw [dints_snoc, List.dropLast_concat]
      · rw [← hc, MS.cl_snoc, MS.C_zero]
        grind
      · rw [List.length_append] at hl
        exact Nat.le_trans (Nat.le_succ _) hl
  · have h' : (decide ((0 : Int) < ((dints rs).length : Nat)) && decide (rs.getLast? = some 0)) = false := h
    refine hq rs ⟨hb, fun z => ?_⟩ hc hl
    rw [decide_eq_true z, Bool.and_true, decide_eq_false_iff_not] at h'
    obtain ⟨as, rfl⟩ := List.getLast?_eq_some_iff.mp z
    apply h'
    rw [dints_len, List.length_append]
    show (0 : Int) < ((as.length + 1 : Nat) : Int)
    omega
theorem mf_trimmed : ∀ as Q, as.length = 2 → M_trimmed as Q → w_trimmed { nx := fun _ => Q (.v .none), rt := Q } (stE as 2) := by
  rintro as Q _ ⟨p, vs, has, p0, hl, hq⟩
  rcases has with rfl | rfl
  · refine ⟨by rw [dints_len]; exact hl, ⟨trivial, trivial⟩, fun k acc => acc = dints ((vs.take k).map fun v => v % p), rfl, fun i d acc hd ha => ?_, fun acc ha => ?_⟩
    · obtain ⟨m, hm, rfl⟩ := dints_at hd
      refine wtrue ⟨p0, ?_⟩
      rw [ha]
      exact map_comp hm
    · rw [dints_len, List.take_length] at ha
      subst ha
      exact trim_run p0 hq
  · refine ⟨by rw [dints_len]; exact hl, ⟨trivial, trivial⟩, fun k acc => acc = dints ((vs.take k).map fun v => v % p), rfl, fun i d acc hd ha => ?_, fun acc ha => ?_⟩
    · obtain ⟨m, hm, rfl⟩ := dints_at hd
      refine wtrue ⟨p0, ?_⟩
      rw [ha]
      exact map_comp hm
    · rw [dints_len, List.take_length] at ha
      subst ha
      exact trim_run p0 hq

theorem ok_trimmed {f : Addr} {fd : FuncData} (F : Fun K "trimmed" "trimmed" s_trimmed f fd)  (m_len : mg "len" = none) (m_tuple : mg "tuple" = none)    : FnOk P w K mg base CX0 1 f fd ["p", "values"] (SpD K okH 2 M_trimmed) :=
  def_ok F sc_trimmed rfl (fun cdv A outer s H E hr =>
 (s_cons (s_setLc 2 (own := [("value", 3)]) rfl sc_trimmed.nd (i_seq (d_var 1)) (blkOk_by (N := ["p", "values", "rests", "value"]) (sc := defScope s_trimmed) (by decide +kernel)) ⟨(gName 3), fun _ _ _ _ _ => (pg_name (i := 3) sc_trimmed.nd rfl (Or.inl rfl)), (sg_name (i := 3) (by decide))⟩ ⟨tYes, fun _ _ _ _ _ => pts_nil, st_yes⟩ ⟨(tOp (rI (fun _ j => 0 < j) fun i j => .int (i % j)) (tVar 3) (tVar 0)), fun _ _ _ _ _ => (pe_op op_mod (pv 3) (pv 0)), (snd_bin opd_mod snd_var snd_var)⟩ (sw_true rfl rfl rfl (by decide +kernel)))
 (s_cons (s_while PassesOwn.never (t_w (w_and (t_gt (d_len m_len (d_bor 2)) d_int) (w_and1 (t_eq hr (d_ix (d_bor 2) (d_neg d_int)) d_int))))
 (s_one (s_pop 2)))
 (s_one (s_ret (d_tupOf m_tuple (d_bor 2))))))) mf_trimmed
/-! ### plus -/
abbrev s_plus : Stmt := topS 10
theorem sc_plus : FnScope ["p", "f", "g", "size", "one", "two", "k"] ["p", "f", "g"] (defScope s_plus) := ⟨rfl, rfl, rfl, by decide +kernel, rfl, by decide +kernel, by decide +kernel⟩
def M_plus : WM := fun as Q => ∃ (p : Int) (f g : List Int), as = [.v (.int p), .v (.tuple (dints f)), .v (.tuple (dints g))] ∧ 0 < p ∧ f.length < 1000 ∧ g.length < 1000 ∧ ∀ r, MS.NF p r → MS.cl p r = MS.cl p f + MS.cl p g → r.length ≤ max f.length g.length → Q (.v (.tuple (dints r)))

def w_plus : WS := (wSeq (wSet 3 (wBin fMax2 (wLen (wVar 1)) (wLen (wVar 2))))
 (wSeq (wSet 4 (wCatT (wVar 1) (wRepT (wTupP (wCons (wC (.int 0)) wNil)) (wBin fSub (wVar 3) (wLen (wVar 1))))))
 (wSeq (wSet 5 (wCatT (wVar 2) (wRepT (wTupP (wCons (wC (.int 0)) wNil)) (wBin fSub (wVar 3) (wLen (wVar 2))))))
 (wRet (wCallP 2 M_trimmed (wCons (wVar 0) (wCons (wFz (wLc (iR1 (wVar 3)) (gN 6) wYes (wBin fAdd (wIx (wVar 4) (wVar 6)) (wIx (wVar 5) (wVar 6))) [6])) wNil)))))))
theorem pad_dints (f : List Int) (n : Nat) : dints f ++ (List.replicate n [PyData.int 0]).flatten = dints (f ++ List.replicate n 0) := by
  rw [rep_zero, dints_app]
theorem mf_plus : ∀ as Q, as.length = 3 → M_plus as Q → w_plus { nx := fun _ => Q (.v .none), rt := Q } (stE as 4) := by
  rintro as Q _ ⟨p, f, g, rfl, p0, lf, lg, hq⟩
  have fl := dints_len f
  have gl := dints_len g
  obtain ⟨n, hn⟩ : ∃ n : Nat, n = max f.length g.length := ⟨_, rfl⟩
  have mx : (if (((dints g).length : Nat) : Int) > (((dints f).length : Nat) : Int) then (((dints g).length : Nat) : Int) else (((dints f).length : Nat) : Int)) = (n : Int) := by
    rw [fl, gl, hn]
    split <;> omega
  have lpad : ∀ h : List Int, h.length ≤ n → (h ++ List.replicate (n - h.length) 0).length = n := fun h hh => by
    rw [List.length_append, List.length_replicate]; omega
  have frep : ∀ h : List Int, h.length ≤ n → (((n : Int) - ((dints h).length : Nat))).toNat = n - h.length := fun h hh => by rw [dints_len]; omega
  have ln : ∀ h : List Int, h.length ≤ n → (dints h).length + (List.replicate (n - h.length) [PyData.int 0]).flatten.length < 1000000 := fun h hh => by
    rw [rep_zero, dints_len, dints_len, List.length_replicate]; omega
  have hfn : f.length ≤ n := by omega
  have hgn : g.length ≤ n := by omega
  refine Eq.mpr (congrArg (fun z => wSeq (wSet 4 (wCatT (wVar 1) (wRepT (wTupP (wCons (wC (.int 0)) wNil)) (wBin fSub (wVar 3) (wLen (wVar 1)))))) (wSeq (wSet 5 (wCatT (wVar 2) (wRepT (wTupP (wCons (wC (.int 0)) wNil)) (wBin fSub (wVar 3) (wLen (wVar 2)))))) (wRet (wCallP 2 M_trimmed (wCons (wVar 0) (wCons (wFz (wLc (iR1 (wVar 3)) (gN 6) wYes (wBin fAdd (wIx (wBor 4) (wVar 6)) (wIx (wBor 5) (wVar 6))) [6])) wNil))))) { nx := fun _ => Q (.v .none), rt := Q } [some (.v (.int p)), some (.v (.tuple (dints f))), some (.v (.tuple (dints g))), some (.v (.int z)), none, none, none]) mx) ?_
  have e4 : ∀ h : List Int, h.length ≤ n → dints h ++ (List.replicate (((n : Int) - ((dints h).length : Nat))).toNat [PyData.int 0]).flatten = dints (h ++ List.replicate (n - h.length) 0) := fun h hh => by
    rw [frep h hh, pad_dints]
  have l4 : ∀ h : List Int, h.length ≤ n → (dints h).length + (List.replicate (((n : Int) - ((dints h).length : Nat))).toNat [PyData.int 0]).flatten.length < 1000000 := fun h hh => by
    rw [frep h hh]; exact ln h hh
  have a4 : ∀ (h : List Int) (i : Nat), h.length ≤ n → i < n → atI (dints h ++ (List.replicate (((n : Int) - ((dints h).length : Nat))).toNat [PyData.int 0]).flatten) (0 + (i : Int)) = some (.int (MS.co (h ++ List.replicate (n - h.length) 0) i)) := fun h i hh hi => by
    rw [e4 h hh]
    refine dints_atI (i := i) (by omega) ?_
    have := lpad h hh
    rw [MS.co_lt (by omega)]
    exact List.getElem?_eq_getElem (by omega)
  refine ⟨rfl, lk rfl, List.cons_ne_nil _ _, ⟨by rw [fl]; omega, by rw [fl]; omega⟩, (by show 1 ≤ 1000; decide), l4 f hfn, rfl, lk rfl, List.cons_ne_nil _ _, ⟨by rw [gl]; omega, by rw [gl]; omega⟩, (by show 1 ≤ 1000; decide), l4 g hgn, ?_⟩
  refine ⟨⟨by omega, by omega⟩, by rw [rng_len]; omega, ⟨trivial, trivial⟩, fun k acc => acc = dints (tab k fun i => MS.co (f ++ List.replicate (n - f.length) 0) i + MS.co (g ++ List.replicate (n - g.length) 0) i), rfl, fun i d acc hd ha => ?_, fun acc ha => ?_⟩
  · obtain ⟨hi, rfl⟩ := rng_at hd
    refine wtrue ⟨_, a4 f i hfn (by omega), _, a4 g i hgn (by omega), ?_⟩
    rw [ha]
    exact (tab_succ i _).symm
  · rw [rng_len, Int.toNat_natCast] at ha
    subst ha
    refine ⟨rfl, rfl, p, _, .inl rfl, p0, by rw [tab_len]; omega, fun r h1 h2 h3 => hq r h1 ?_ (by rw [tab_len] at h3; omega)⟩
    rw [h2, MS.cl_tab _ _ (fun k hk => by
      rw [MS.co_ge (by rw [lpad f hfn]; exact hk), MS.co_ge (by rw [lpad g hgn]; exact hk)]
      rfl), MS.mk_add]
    show MS.cl p _ + MS.cl p _ = _
    rw [MS.cl_pad, MS.cl_pad]

theorem ok_plus {f : Addr} {fd : FuncData} (F : Fun K "plus" "plus" s_plus f fd) (h_trimmed : Has P w K mg base okH 1 "trimmed" 2 M_trimmed) (m_len : mg "len" = none) (m_max : mg "max" = none) (m_range : mg "range" = none)    : FnOk P w K mg base CX0 2 f fd ["p", "f", "g"] (SpD K okH 3 M_plus) :=
  def_ok F sc_plus rfl (fun cdv A outer s H E hr =>
 (s_cons (s_set 3 sc_plus.nd (d_max2 rfl m_max (d_len m_len (d_b (d_var 1))) (d_len m_len (d_b (d_var 2)))))
 (s_cons (s_set 4 sc_plus.nd (d_catT (d_var 1) (d_repT (d_tup (a_cons d_int a_nil)) (d_sub (d_var 3) (d_len m_len (d_b (d_var 1)))))))
 (s_cons (s_set 5 sc_plus.nd (d_catT (d_var 2) (d_repT (d_tup (a_cons d_int a_nil)) (d_sub (d_var 3) (d_len m_len (d_b (d_var 2)))))))
 (s_one (s_ret (d_call h_trimmed hr (by decide) (a_cons (d_var 0) (a_cons (d_fz (l_lc (own := [("k", 6)]) rfl sc_plus.nd (i_r1 m_range (d_var 3)) (blkOk_by (N := ["p", "f", "g", "size", "one", "two", "k"]) (sc := defScope s_plus) (by decide +kernel)) ⟨(gName 6), fun _ _ _ _ _ => (pg_name (i := 6) sc_plus.nd rfl (Or.inl rfl)), (sg_name (i := 6) (by decide))⟩ ⟨tYes, fun _ _ _ _ _ => pts_nil, st_yes⟩ ⟨(tOp (rI0 fun i j => .int (i + j)) (tOp (rIx K) (tVar 4) (tVar 6)) (tOp (rIx K) (tVar 5) (tVar 6))), fun _ _ _ _ _ => (pe_op op_add (pe_ix ix_seq (pv 4) (pv 6) (fun _ _ => rfl)) (pe_ix ix_seq (pv 5) (pv 6) (fun _ _ => rfl))), (snd_bin opd_add (snd_ix (SndE.b snd_var) snd_var) (snd_ix (SndE.b snd_var) snd_var))⟩)) a_nil))))))))) mf_plus
/-! ### scaled -/
abbrev s_scaled : Stmt := topS 11
theorem sc_scaled : FnScope ["p", "f", "c", "value"] ["p", "f", "c"] (defScope s_scaled) := ⟨rfl, rfl, rfl, by decide +kernel, rfl, by decide +kernel, by decide +kernel⟩
def M_scaled : WM := fun as Q => ∃ (p : Int) (f : List Int) (c : Int), as = [.v (.int p), .v (.tuple (dints f)), .v (.int c)] ∧ 0 < p ∧ (-(2 ^ 64) < c ∧ c < 2 ^ 64) ∧ f.length < 1000 ∧ ∀ r, MS.NF p r → MS.cl p r = MS.C p c * MS.cl p f → r.length ≤ f.length → Q (.v (.tuple (dints r)))

def w_scaled : WS := (wRet (wCallP 2 M_trimmed (wCons (wVar 0) (wCons (wFz (wLc (iS (wVar 1)) (gN 3) wYes (wBin fMul (wVar 2) (wVar 3)) [3])) wNil))))
theorem mf_scaled : ∀ as Q, as.length = 3 → M_scaled as Q → w_scaled { nx := fun _ => Q (.v .none), rt := Q } (stE as 1) := by
  rintro as Q _ ⟨p, f, c, rfl, p0, hc, lf, hq⟩
  have fl := dints_len f
  refine ⟨by rw [fl]; omega, ⟨trivial, trivial⟩, fun k acc => acc = dints ((f.take k).map fun v => c * v), rfl, fun i d acc hd ha => ?_, fun acc ha => ?_⟩
  · obtain ⟨m, hm, rfl⟩ := dints_at hd
    refine wtrue ⟨.inl hc, ?_⟩
    rw [ha]
    exact map_comp hm
  · rw [fl, List.take_length] at ha
    subst ha
    exact ⟨rfl, rfl, p, _, .inl rfl, p0, by rw [List.length_map]; omega, fun r h1 h2 h3 => hq r h1 (by rw [h2, MS.cl_map_mul]) (by rw [List.length_map] at h3; exact h3)⟩

theorem ok_scaled {f : Addr} {fd : FuncData} (F : Fun K "scaled" "scaled" s_scaled f fd) (h_trimmed : Has P w K mg base okH 1 "trimmed" 2 M_trimmed)     : FnOk P w K mg base CX0 2 f fd ["p", "f", "c"] (SpD K okH 3 M_scaled) :=
  def_ok F sc_scaled rfl (fun cdv A outer s H E hr =>
 (s_one (s_ret (d_call h_trimmed hr (by decide) (a_cons (d_var 0) (a_cons (d_fz (l_lc (own := [("value", 3)]) rfl sc_scaled.nd (i_seq (d_var 1)) (blkOk_by (N := ["p", "f", "c", "value"]) (sc := defScope s_scaled) (by decide +kernel)) ⟨(gName 3), fun _ _ _ _ _ => (pg_name (i := 3) sc_scaled.nd rfl (Or.inl rfl)), (sg_name (i := 3) (by decide))⟩ ⟨tYes, fun _ _ _ _ _ => pts_nil, st_yes⟩ ⟨(tOp (rI CMul fun i j => .int (i * j)) (tVar 2) (tVar 3)), fun _ _ _ _ _ => (pe_op op_mul (pv 2) (pv 3)), (snd_bin opd_mul snd_var snd_var)⟩)) a_nil)))))) mf_scaled
/-! ### minus -/
abbrev s_minus : Stmt := topS 12
theorem sc_minus : FnScope ["p", "f", "g"] ["p", "f", "g"] (defScope s_minus) := ⟨rfl, rfl, rfl, by decide +kernel, rfl, by decide +kernel, by decide +kernel⟩
def M_minus : WM := fun as Q => ∃ (p : Int) (f g : List Int), as = [.v (.int p), .v (.tuple (dints f)), .v (.tuple (dints g))] ∧ 0 < p ∧ p < 2 ^ 62 ∧ f.length < 1000 ∧ g.length < 1000 ∧ ∀ r, MS.NF p r → MS.cl p r = MS.cl p f - MS.cl p g → r.length ≤ max f.length g.length → Q (.v (.tuple (dints r)))

def w_minus : WS := (wRet (wCallP 3 M_plus (wCons (wVar 0) (wCons (wVar 1) (wCons (wCallP 3 M_scaled (wCons (wVar 0) (wCons (wVar 2) (wCons (wBin fSub (wVar 0) (wC (.int 1))) wNil)))) wNil)))))
theorem mf_minus : ∀ as Q, as.length = 3 → M_minus as Q → w_minus { nx := fun _ => Q (.v .none), rt := Q } (stE as 0) := by
  rintro as Q _ ⟨p, f, g, rfl, p0, p1, lf, lg, hq⟩
  refine ⟨rfl, rfl, p, g, p - 1, rfl, p0, ⟨by omega, by omega⟩, lg, fun s s1 s2 s3 => ⟨rfl, rfl, p, f, s, rfl, p0, lf, by omega, fun r r1 r2 r3 => hq r r1 ?_ (by omega)⟩⟩
  rw [r2, s2, MS.C_neg1]
  grind

theorem ok_minus {f : Addr} {fd : FuncData} (F : Fun K "minus" "minus" s_minus f fd) (h_plus : Has P w K mg base okH 2 "plus" 3 M_plus) (h_scaled : Has P w K mg base okH 2 "scaled" 3 M_scaled)     : FnOk P w K mg base CX0 3 f fd ["p", "f", "g"] (SpD K okH 3 M_minus) :=
  def_ok F sc_minus rfl (fun cdv A outer s H E hr =>
 (s_one (s_ret (d_call h_plus hr (by decide) (a_cons (d_var 0) (a_cons (d_var 1) (a_cons (d_call h_scaled hr (by decide) (a_cons (d_var 0) (a_cons (d_var 2) (a_cons (d_sub (d_var 0) d_int) a_nil)))) a_nil))))))) mf_minus
/-! ### times -/
abbrev s_times : Stmt := topS 13
theorem sc_times : FnScope ["p", "f", "g", "values", "j", "k"] ["p", "f", "g"] (defScope s_times) := ⟨rfl, rfl, rfl, by decide +kernel, rfl, by decide +kernel, by decide +kernel⟩
def M_times : WM := fun as Q => ∃ (p : Int) (f g : List Int), as = [.v (.int p), .v (.tuple (dints f)), .v (.tuple (dints g))] ∧ 0 < p ∧ MS.Sm f ∧ f.length < 1000 ∧ g.length < 1000 ∧ ∀ r, MS.NF p r → MS.cl p r = MS.cl p f * MS.cl p g → r.length ≤ f.length + g.length → Q (.v (.tuple (dints r)))

def w_times : WS := (wSeq (wSetO 3 (wRep (wFz (wLstP (wCons (wC (.int 0)) wNil))) (wBin fAdd (wLen (wVar 1)) (wLen (wVar 2)))))
 (wSeq (wFor (iR1 (wLen (wVar 1))) (gN 4)
 (wFor (iR1 (wLen (wVar 2))) (gN 5)
 (wPut 3 (wBin fAdd (wVar 4) (wVar 5)) (wBin fAdd (wIx (wBor 3) (wBin fAdd (wVar 4) (wVar 5))) (wBin fMul (wIx (wVar 1) (wVar 4)) (wIx (wVar 2) (wVar 5)))))))
 (wFrz 3 (wRet (wCallP 2 M_trimmed (wCons (wVar 0) (wCons (wVar 3) wNil)))))))
theorem mf_times : ∀ as Q, as.length = 3 → M_times as Q → w_times { nx := fun _ => Q (.v .none), rt := Q } (stE as 3) := by
  rintro as Q _ ⟨p, f, g, rfl, p0, hf, lf, lg, hq⟩
  have fl := dints_len f
  have gl := dints_len g
  refine ⟨rfl, lk rfl, ⟨by rw [fl, gl]; omega, by omega, by rw [fl, gl]; show 1 * _ < _; omega, ?_⟩⟩
  refine ⟨⟨by rw [fl]; omega, by rw [fl]; omega⟩, fun j env => ∃ vs t4 t5, env = [some (.v (.int p)), some (.v (.tuple (dints f))), some (.v (.tuple (dints g))), some (.own (dints vs)), t4, t5] ∧ vs.length = f.length + g.length ∧ MS.cl p vs = MS.cl p (f.take j) * MS.cl p g, ⟨List.replicate (f.length + g.length) 0, none, none, ?_, List.length_replicate, ?_⟩, ?_, ?_⟩
  · rw [← rep_zero, fl, gl]
    rw [show (((f.length : Nat) : Int) + ((g.length : Nat) : Int)).toNat = f.length + g.length by omega]
    rfl
  · rw [MS.cl_zeros, List.take_zero, MS.cl_nil]
    grind
  · rintro j e env he ⟨vs, t4, t5, rfl, hl, hc⟩
    obtain ⟨hj, rfl⟩ := rng_at he
    rw [fl] at hj
    have hfj : f[j]? = some f[j] := List.getElem?_eq_getElem (by omega)
    generalize f[j] = a at hfj
    have ha := hf a (List.mem_of_getElem? hfj)
    refine ⟨⟨by rw [gl]; omega, by rw [gl]; omega⟩, fun k env => ∃ vs t5, env = [some (.v (.int p)), some (.v (.tuple (dints f))), some (.v (.tuple (dints g))), some (.own (dints vs)), some (.v (.int (0 + (j : Int)))), t5] ∧ vs.length = f.length + g.length ∧ MS.cl p vs = MS.cl p (f.take j) * MS.cl p g + MS.C p a * MS.X p ^ j * MS.cl p (g.take k), ⟨vs, t5, rfl, hl, ?_⟩, ?_, ?_⟩
    · rw [hc, List.take_zero, MS.cl_nil]
      grind
    · rintro k e env he ⟨vs, t5, rfl, hl, hc⟩
      obtain ⟨hk, rfl⟩ := rng_at he
      rw [gl] at hk
      have hgk : g[k]? = some g[k] := List.getElem?_eq_getElem (by omega)
      generalize g[k] = b at hgk
      have hv : vs[j + k]? = some vs[j + k] := List.getElem?_eq_getElem (by omega)
      generalize vs[j + k] = v at hv
      refine ⟨_, dints_atI (i := j + k) (by omega) hv, _, dints_atI (i := j) (by omega) hfj, _, dints_atI (i := k) (by omega) hgk, .inl ha, j + k, ixN_nat (by omega) (by rw [dints_len]; omega), vs.set (j + k) (v + a * b), some (.v (.int (0 + (k : Int)))), ?_, by rw [List.length_set]; exact hl, ?_⟩
      · rw [← dints_set]
        rfl
      · rw [MS.cl_set _ _ _ _ hv, hc, MS.take_cl hgk, show v + a * b - v = a * b by omega, MS.C_mul]
        grind
    · rintro env ⟨vs, t5, rfl, hl, hc⟩
      rw [rng_len, gl, show ((g.length : Nat) : Int).toNat = g.length by omega, List.take_length] at hc
      refine ⟨vs, some (.v (.int (0 + (j : Int)))), t5, rfl, hl, ?_⟩
      rw [hc, MS.take_cl hfj]
      grind
  · rintro env ⟨vs, t4, t5, rfl, hl, hc⟩
    rw [rng_len, fl, show ((f.length : Nat) : Int).toNat = f.length by omega, List.take_length] at hc
    exact ⟨rfl, rfl, p, vs, .inl rfl, p0, by omega, fun r h1 h2 h3 => hq r h1 (h2.trans hc) (by omega)⟩

theorem ok_times {f : Addr} {fd : FuncData} (F : Fun K "times" "times" s_times f fd) (h_trimmed : Has P w K mg base okH 1 "trimmed" 2 M_trimmed) (m_len : mg "len" = none) (m_range : mg "range" = none)    : FnOk P w K mg base CX0 2 f fd ["p", "f", "g"] (SpD K okH 3 M_times) :=
  def_ok F sc_times rfl (fun cdv A outer s H E hr =>
 (s_cons (s_setO 3 sc_times.nd (l_rep (d_b (d_fz (l_lst (a_cons d_int a_nil)))) (d_add (d_len m_len (d_b (d_var 1))) (d_len m_len (d_b (d_var 2))))))
 (s_cons (s_for (vs := [4]) PassesOwn.never rfl (i_r1 m_range (d_len m_len (d_b (d_var 1)))) (g_name 4 sc_times.nd)
 (s_one (s_for (vs := [5]) PassesOwn.never rfl (i_r1 m_range (d_len m_len (d_b (d_var 2)))) (g_name 5 sc_times.nd)
 (s_one (s_put 3 (d_add (d_ix (d_bor 3) (d_add (d_var 4) (d_var 5))) (d_mul (d_ix (d_b (d_var 1)) (d_var 4)) (d_ix (d_b (d_var 2)) (d_var 5)))) (d_add (d_var 4) (d_var 5)))))))
 (s_one (s_frz 3 (s_ret (d_call h_trimmed hr (by decide) (a_cons (d_var 0) (a_cons (d_var 3) a_nil))))))))) mf_times
/-! ### value -/
abbrev s_value : Stmt := topS 14
theorem sc_value : FnScope ["p", "f", "x", "total", "part"] ["p", "f", "x"] (defScope s_value) := ⟨rfl, rfl, rfl, by decide +kernel, rfl, by decide +kernel, by decide +kernel⟩
def M_value : WM := fun as Q => ∃ (p : Int) (f : List Int) (x : Int), as = [.v (.int p), .v (.tuple (dints f)), .v (.int x)] ∧ 0 < p ∧ p < 2 ^ 62 ∧ f.length < 1000 ∧ ∀ v : Int, 0 ≤ v → v < p → MS.C p v = MS.ev (MS.C p x) f → Q (.v (.int v))

def w_value : WS := (wSeq (wSet 3 (wC (.int 0)))
 (wSeq (wFor (iRv (wVar 1)) (gN 4)
 (wSet 3 (wBin fMod (wBin fAdd (wBin fMul (wVar 3) (wVar 2)) (wVar 4)) (wVar 0))))
 (wRet (wVar 3))))
theorem rev_drop {f : List Int} {k : Nat} {d : D} (hd : (dints f).reverse[k]? = some d) : ∃ c, d = .int c ∧ k < f.length ∧ f.drop (f.length - (k + 1)) = c :: f.drop (f.length - k) := by
  have hk : k < f.length := by
    apply Nat.lt_of_not_le
    intro z
    rw [List.getElem?_eq_none (by rw [List.length_reverse, dints_len]; exact z)] at hd
    cases hd
  rw [List.getElem?_reverse (by rw [dints_len]; exact hk), dints_len] at hd
  obtain ⟨c, hc, rfl⟩ := dints_at hd
  refine ⟨c, rfl, hk, ?_⟩
  have h1 : f.length - (k + 1) < f.length := by omega
  rw [List.drop_eq_getElem_cons h1]
  rw [show f.length - 1 - k = f.length - (k + 1) by omega, List.getElem?_eq_getElem h1] at hc
  rw [Option.some.inj hc, show f.length - (k + 1) + 1 = f.length - k by omega]
theorem mf_value : ∀ as Q, as.length = 3 → M_value as Q → w_value { nx := fun _ => Q (.v .none), rt := Q } (stE as 2) := by
  rintro as Q _ ⟨p, f, x, rfl, p0, p1, lf, hq⟩
  refine ⟨fun k env => ∃ (v : Int) (t : Option Sl), env = [some (.v (.int p)), some (.v (.tuple (dints f))), some (.v (.int x)), some (.v (.int v)), t] ∧ (0 ≤ v ∧ v < p) ∧ MS.C p v = MS.ev (MS.C p x) (f.drop (f.length - k)), ⟨0, none, rfl, ⟨Int.le_refl _, p0⟩, ?_⟩, ?_, ?_⟩
  · rw [Nat.sub_zero, List.drop_length]
    rfl
  · rintro k d env hd ⟨v, t, rfl, hv, e⟩
    obtain ⟨c, rfl, hk, hdrop⟩ := rev_drop hd
    refine ⟨.inl ⟨by omega, by omega⟩, p0, _, some (.v (.int c)), rfl, ⟨Int.emod_nonneg _ (by omega), Int.emod_lt_of_pos _ p0⟩, ?_⟩
    rw [hdrop, MS.C_emod, MS.C_add, MS.C_mul, e]
    show _ = MS.C p c + MS.C p x * _
    grind
  · rintro env ⟨v, t, rfl, hv, e⟩
    rw [List.length_reverse, dints_len, Nat.sub_self, List.drop_zero] at e
    exact hq v hv.1 hv.2 e

theorem ok_value {f : Addr} {fd : FuncData} (F : Fun K "value" "value" s_value f fd)  (m_reversed : mg "reversed" = none)    : FnOk P w K mg base CX0 1 f fd ["p", "f", "x"] (SpD K okH 3 M_value) :=
  def_ok F sc_value rfl (fun cdv A outer s H E hr =>
 (s_cons (s_set 3 sc_value.nd d_int)
 (s_cons (s_for (vs := [4]) PassesOwn.never rfl (i_rev m_reversed (d_var 1)) (g_name 4 sc_value.nd)
 (s_one (s_set 3 sc_value.nd (d_mod (d_add (d_mul (d_var 3) (d_var 2)) (d_var 4)) (d_var 0)))))
 (s_one (s_ret (d_var 3)))))) mf_value
/-! ### cubic -/
abbrev s_cubic : Stmt := topS 16
theorem sc_cubic : FnScope ["curve"] ["curve"] (defScope s_cubic) := ⟨rfl, rfl, rfl, by decide +kernel, rfl, by decide +kernel, by decide +kernel⟩
def M_cubic : WM := fun as Q => ∃ p a b : Int, as = [.v (.tuple [.int p, .int a, .int b])] ∧ Q (.v (.tuple (dints [b, a, 0, 1])))

def w_cubic : WS := (wRet (wTupP (wCons (wIx (wVar 0) (wC (.int 2))) (wCons (wIx (wVar 0) (wC (.int 1))) (wCons (wC (.int 0)) (wCons (wC (.int 1)) wNil))))))
theorem mf_cubic : ∀ as Q, as.length = 1 → M_cubic as Q → w_cubic { nx := fun _ => Q (.v .none), rt := Q } (stE as 0) := by
  rintro as Q _ ⟨p, a, b, rfl, hq⟩
  exact ⟨_, rfl, _, rfl, rfl, lk rfl, hq⟩

theorem ok_cubic {f : Addr} {fd : FuncData} (F : Fun K "cubic" "cubic" s_cubic f fd)      : FnOk P w K mg base CX0 1 f fd ["curve"] (SpD K okH 1 M_cubic) :=
  def_ok F sc_cubic rfl (fun cdv A outer s H E hr =>
 (s_one (s_ret (d_tup (a_cons (d_ix (d_b (d_var 0)) d_int) (a_cons (d_ix (d_b (d_var 0)) d_int) (a_cons d_int (a_cons d_int a_nil)))))))) mf_cubic
/-! ### first_ones -/
abbrev s_first_ones : Stmt := topS 17
theorem sc_first_ones : FnScope ["curve", "p", "a", "b", "third", "fourth"] ["curve"] (defScope s_first_ones) := ⟨rfl, rfl, rfl, by decide +kernel, rfl, by decide +kernel, by decide +kernel⟩
def M_first_ones : WM := fun as Q => ∃ p a b : Int, as = [.v (.tuple [.int p, .int a, .int b])] ∧ 5 ≤ p ∧ p < 2 ^ 62 ∧ 0 ≤ a ∧ a < p ∧ 0 ≤ b ∧ b < p ∧ ∀ fs, MS.PL p fs (MS.L0 p a b) → Q (.own (pls fs))

def w_first_ones : WS := (wSeq (wAsg (wVar 0) (gT 3 (gsCons (gN 1) (gsCons (gN 2) (gsCons (gN 3) gsNil)))))
 (wSeq (wSet 4 (wFz (wLstP (wCons (wBin fMul (wUn fNeg (wVar 2)) (wVar 2)) (wCons (wBin fMul (wC (.int 12)) (wVar 3)) (wCons (wBin fMul (wC (.int 6)) (wVar 2)) (wCons (wC (.int 0)) (wCons (wC (.int 3)) wNil))))))))
 (wSeq (wSet 5 (wFz (wLstP (wCons (wBin fSub (wBin fMul (wBin fMul (wUn fNeg (wC (.int 8))) (wVar 3)) (wVar 3)) (wBin fMul (wBin fMul (wVar 2) (wVar 2)) (wVar 2))) (wCons (wBin fMul (wBin fMul (wUn fNeg (wC (.int 4))) (wVar 2)) (wVar 3)) (wCons (wBin fMul (wBin fMul (wUn fNeg (wC (.int 5))) (wVar 2)) (wVar 2)) (wCons (wBin fMul (wC (.int 20)) (wVar 3)) (wCons (wBin fMul (wC (.int 5)) (wVar 2)) (wCons (wC (.int 0)) (wCons (wC (.int 1)) wNil))))))))))
 (wRetO (wLstP (wCons (wTupP wNil) (wCons (wTupP (wCons (wC (.int 1)) wNil)) (wCons (wTupP (wCons (wC (.int 1)) wNil)) (wCons (wCallP 2 M_trimmed (wCons (wVar 1) (wCons (wVar 4) wNil))) (wCons (wCallP 3 M_scaled (wCons (wVar 1) (wCons (wCallP 2 M_trimmed (wCons (wVar 1) (wCons (wVar 5) wNil))) (wCons (wC (.int 2)) wNil)))) wNil))))))))))
theorem mf_first_ones : ∀ as Q, as.length = 1 → M_first_ones as Q → w_first_ones { nx := fun _ => Q (.v .none), rt := Q } (stE as 5) := by
  rintro as Q _ ⟨p, a, b, rfl, p5, p1, a0, a1, b0, b1, hq⟩
  have p0 : 0 < p := by omega
  have p2 : 2 ≤ p := by omega
  have ca : ∀ z, CMul z a := fun z => .inr ⟨by omega, by omega⟩
  have cb : ∀ z, CMul z b := fun z => .inr ⟨by omega, by omega⟩
  refine ⟨rfl, rfl, ca _, cb _, ca _, rfl, lk rfl, ?_⟩
  refine ⟨cb _, cb _, ca _, ca _, ca _, cb _, ca _, ca _, cb _, ca _, rfl, lk rfl, ?_⟩
  refine ⟨rfl, lk rfl, rfl, lk rfl, rfl, lk rfl, rfl, rfl, p, MS.thirdL a b, .inl rfl, p0, Nat.le_of_ble_eq_true rfl, fun r3 n3 e3 l3 => ?_⟩
  refine ⟨rfl, rfl, p, MS.fourthL a b, .inl rfl, p0, Nat.le_of_ble_eq_true rfl, fun r4 n4 e4 l4 => ?_⟩
  have l4' : r4.length ≤ 7 := l4
  have l3' : r3.length ≤ 5 := l3
  refine ⟨rfl, rfl, p, r4, 2, rfl, p0, ⟨by decide, by decide⟩, by omega, fun r5 n5 e5 l5 => ⟨rfl, lk rfl, ?_⟩⟩
  exact hq [[], [1], [1], r3, r5] (MS.PL.start p2 n3 n5 e3 (by rw [e5, e4]) l3' (by omega))

theorem ok_first_ones {f : Addr} {fd : FuncData} (F : Fun K "first_ones" "first_ones" s_first_ones f fd) (h_scaled : Has P w K mg base okH 2 "scaled" 3 M_scaled) (h_trimmed : Has P w K mg base okH 1 "trimmed" 2 M_trimmed)     : FnOk P w K mg base CX0 3 f fd ["curve"] (SpD K okH 1 M_first_ones) :=
  def_ok F sc_first_ones rfl (fun cdv A outer s H E hr =>
 (s_cons (s_asg (vs := [1, 2, 3]) (d_var 0) (g_tupN (g_cons (g_name 1 sc_first_ones.nd) (g_cons (g_name 2 sc_first_ones.nd) (g_cons (g_name 3 sc_first_ones.nd) g_nil)))))
 (s_cons (s_set 4 sc_first_ones.nd (d_fz (l_lst (a_cons (d_mul (d_neg (d_var 2)) (d_var 2)) (a_cons (d_mul d_int (d_var 3)) (a_cons (d_mul d_int (d_var 2)) (a_cons d_int (a_cons d_int a_nil))))))))
 (s_cons (s_set 5 sc_first_ones.nd (d_fz (l_lst (a_cons (d_sub (d_mul (d_mul (d_neg d_int) (d_var 3)) (d_var 3)) (d_mul (d_mul (d_var 2) (d_var 2)) (d_var 2))) (a_cons (d_mul (d_mul (d_neg d_int) (d_var 2)) (d_var 3)) (a_cons (d_mul (d_mul (d_neg d_int) (d_var 2)) (d_var 2)) (a_cons (d_mul d_int (d_var 3)) (a_cons (d_mul d_int (d_var 2)) (a_cons d_int (a_cons d_int a_nil))))))))))
 (s_one (s_retO (l_lst (a_cons (d_tup a_nil) (a_cons (d_tup (a_cons d_int a_nil)) (a_cons (d_tup (a_cons d_int a_nil)) (a_cons (d_call h_trimmed hr (by decide) (a_cons (d_var 1) (a_cons (d_var 4) a_nil))) (a_cons (d_call h_scaled hr (by decide) (a_cons (d_var 1) (a_cons (d_call h_trimmed hr (by decide) (a_cons (d_var 1) (a_cons (d_var 5) a_nil))) (a_cons d_int a_nil)))) a_nil)))))))))))) mf_first_ones
/-! ### product -/
abbrev s_product : Stmt := topS 18
theorem sc_product : FnScope ["p", "factors", "found", "factor"] ["p", "factors"] (defScope s_product) := ⟨rfl, rfl, rfl, by decide +kernel, rfl, by decide +kernel, by decide +kernel⟩
def M_product : WM := fun as Q => ∃ (p : Int) (rows : List (List Int)), as = [.v (.int p), .v (.list (pls rows))] ∧ 2 ≤ p ∧ p < 2 ^ 62 ∧ rows.length ≤ 6 ∧ (∀ f ∈ rows, f.length ≤ 123) ∧ ∀ r, MS.NF p r → MS.cl p r = MS.prodS p rows → r.length ≤ 1 + MS.sumL rows → Q (.v (.tuple (dints r)))

def w_product : WS := (wSeq (wSet 2 (wTupP (wCons (wC (.int 1)) wNil)))
 (wSeq (wFor (iS (wVar 1)) (gN 3)
 (wSet 2 (wCallP 3 M_times (wCons (wVar 0) (wCons (wVar 2) (wCons (wVar 3) wNil))))))
 (wRet (wVar 2))))
theorem mf_product : ∀ as Q, as.length = 2 → M_product as Q → w_product { nx := fun _ => Q (.v .none), rt := Q } (stE as 2) := by
  rintro as Q _ ⟨p, rows, rfl, p2, p1, l6, hl, hq⟩
  refine ⟨rfl, lk rfl, ?_⟩
  refine ⟨fun k env => ∃ (r : List Int) (t : Option Sl), env = [some (.v (.int p)), some (.v (.list (pls rows))), some (.v (.tuple (dints r))), t] ∧ MS.NF p r ∧ MS.cl p r = MS.prodS p (rows.take k) ∧ r.length ≤ 1 + MS.sumL (rows.take k) ∧ MS.sumL (rows.take k) ≤ 123 * k, ⟨[1], none, rfl, MS.NF.one p2, MS.cl_one, Nat.le_refl _, Nat.le_refl _⟩, ?_, ?_⟩
  · rintro i d env hd ⟨r, t, rfl, nr, er, lr, sr⟩
    obtain ⟨f, hf, rfl⟩ := pls_at hd
    have hi : i < rows.length := (List.getElem?_eq_some_iff.mp hf).1
    have lf := hl f (List.mem_of_getElem? hf)
    refine ⟨rfl, rfl, p, r, f, rfl, by omega, nr.sm p1, by omega, by omega, fun s ns es ls => ⟨s, some (.v (.tuple (dints f))), rfl, ns, ?_, ?_, ?_⟩⟩
    · rw [es, er, MS.prodS_take hf]
    · rw [MS.sumL_take hf]; omega
    · rw [MS.sumL_take hf]; omega
  · rintro env ⟨r, t, rfl, nr, er, lr, sr⟩
    rw [pls_len, List.take_length] at er lr
    exact hq r nr er lr

theorem ok_product {f : Addr} {fd : FuncData} (F : Fun K "product" "product" s_product f fd) (h_times : Has P w K mg base okH 2 "times" 3 M_times)     : FnOk P w K mg base CX0 3 f fd ["p", "factors"] (SpD K okH 2 M_product) :=
  def_ok F sc_product rfl (fun cdv A outer s H E hr =>
 (s_cons (s_set 2 sc_product.nd (d_tup (a_cons d_int a_nil)))
 (s_cons (s_for (vs := [3]) PassesOwn.never rfl (i_seq (d_var 1)) (g_name 3 sc_product.nd)
 (s_one (s_set 2 sc_product.nd (d_call h_times hr (by decide) (a_cons (d_var 0) (a_cons (d_var 2) (a_cons (d_var 3) a_nil)))))))
 (s_one (s_ret (d_var 2)))))) mf_product
/-! ### next_one -/
abbrev s_next_one : Stmt := topS 19
theorem sc_next_one : FnScope ["curve", "found", "p", "n", "m", "first", "second", "square"] ["curve", "found"] (defScope s_next_one) := ⟨rfl, rfl, rfl, by decide +kernel, rfl, by decide +kernel, by decide +kernel⟩
def M_next_one : WM := fun as Q => ∃ (p a b : Int) (fs : List (List Int)) (k : Nat), as = [.v (.tuple [.int p, .int a, .int b]), .v (.list (pls fs))] ∧ 5 ≤ p ∧ p < 2 ^ 62 ∧ 0 ≤ a ∧ a < p ∧ 0 ≤ b ∧ b < p ∧ k < 8 ∧ MS.PL p fs (MS.psi (MS.cubS p a b) (MS.L0 p a b) k) ∧
  ∀ r, MS.NF p r → MS.cl p r = MS.nxt1 (MS.cubS p a b) (MS.psi (MS.cubS p a b) (MS.L0 p a b) k) → r.length ≤ MS.lb (5 + k) → Q (.v (.tuple (dints r)))

def w_next_one_L13 : WS := (wRet (wCallP 3 M_minus (wCons (wVar 2) (wCons (wVar 5) (wCons (wCallP 3 M_times (wCons (wVar 2) (wCons (wVar 7) (wCons (wVar 6) wNil)))) wNil)))))
def w_next_one_L8 : WS := (wSeq (wSet 5 (wCallP 2 M_product (wCons (wVar 2) (wCons (wFz (wLstP (wCons (wIx (wVar 1) (wBin fAdd (wVar 4) (wC (.int 2)))) (wCons (wIx (wVar 1) (wVar 4)) (wCons (wIx (wVar 1) (wVar 4)) (wCons (wIx (wVar 1) (wVar 4)) wNil)))))) wNil))))
 (wSeq (wSet 6 (wCallP 2 M_product (wCons (wVar 2) (wCons (wFz (wLstP (wCons (wIx (wVar 1) (wBin fSub (wVar 4) (wC (.int 1)))) (wCons (wIx (wVar 1) (wBin fAdd (wVar 4) (wC (.int 1)))) (wCons (wIx (wVar 1) (wBin fAdd (wVar 4) (wC (.int 1)))) (wCons (wIx (wVar 1) (wBin fAdd (wVar 4) (wC (.int 1)))) wNil)))))) wNil))))
 (wSeq (wSet 7 (wCallP 3 M_scaled (wCons (wVar 2) (wCons (wCallP 3 M_times (wCons (wVar 2) (wCons (wCallP 1 M_cubic (wCons (wVar 0) wNil)) (wCons (wCallP 1 M_cubic (wCons (wVar 0) wNil)) wNil)))) (wCons (wBin fMod (wC (.int 16)) (wVar 2)) wNil)))))
 (wSeq (wIf (wTest (wBin fEq (wBin fMod (wVar 4) (wC (.int 2))) (wC (.int 0))))
 (wRet (wCallP 3 M_minus (wCons (wVar 2) (wCons (wCallP 3 M_times (wCons (wVar 2) (wCons (wVar 7) (wCons (wVar 5) wNil)))) (wCons (wVar 6) wNil)))))
 wNx)
 w_next_one_L13))))
def w_next_one_L4 : WS := (wSeq (wIf (wTest (wBin fEq (wBin fMod (wVar 3) (wC (.int 2))) (wC (.int 0))))
 (wSeq (wSet 5 (wCallP 2 M_product (wCons (wVar 2) (wCons (wFz (wLstP (wCons (wIx (wVar 1) (wBin fAdd (wVar 4) (wC (.int 2)))) (wCons (wIx (wVar 1) (wBin fSub (wVar 4) (wC (.int 1)))) (wCons (wIx (wVar 1) (wBin fSub (wVar 4) (wC (.int 1)))) wNil))))) wNil))))
 (wSeq (wSet 6 (wCallP 2 M_product (wCons (wVar 2) (wCons (wFz (wLstP (wCons (wIx (wVar 1) (wBin fSub (wVar 4) (wC (.int 2)))) (wCons (wIx (wVar 1) (wBin fAdd (wVar 4) (wC (.int 1)))) (wCons (wIx (wVar 1) (wBin fAdd (wVar 4) (wC (.int 1)))) wNil))))) wNil))))
 (wRet (wCallP 3 M_times (wCons (wVar 2) (wCons (wIx (wVar 1) (wVar 4)) (wCons (wCallP 3 M_minus (wCons (wVar 2) (wCons (wVar 5) (wCons (wVar 6) wNil)))) wNil)))))))
 wNx)
 w_next_one_L8)
def w_next_one : WS := (wSeq (wSet 2 (wIx (wVar 0) (wC (.int 0))))
 (wSeq (wSet 3 (wLen (wVar 1)))
 (wSeq (wSet 4 (wBin fDiv (wVar 3) (wC (.int 2))))
 w_next_one_L4)))
theorem mf_next_one : ∀ as Q, as.length = 2 → M_next_one as Q → w_next_one { nx := fun _ => Q (.v .none), rt := Q } (stE as 6) := by
  rintro as Q _ ⟨p, a, b, fs, i, rfl, p5, p1, a0, a1, b0, b1, hi8, P, hq⟩
  have p0 : 0 < p := by omega
  have p2 : 2 ≤ p := by omega
  have fl : fs.length = 5 + i := by rw [P.length, MS.psi_len]; rfl
  have pl : (MS.psi (MS.cubS p a b) (MS.L0 p a b) i).length = 5 + i := by rw [← P.length, fl]
  have fl13 : fs.length ≤ 13 := by omega
  have dl : (((pls fs).length : Nat) : Int) = 5 + (i : Int) := by rw [pls_len, fl]; omega
  refine ⟨_, rfl, ?_⟩
  refine Eq.mpr (congrArg (fun z => wSeq (wSet 4 (wBin fDiv (wVar 3) (wC (.int 2)))) w_next_one_L4 { nx := fun _ => Q (.v .none), rt := Q } [some (.v (.tuple [.int p, .int a, .int b])), some (.v (.list (pls fs))), some (.v (.int p)), some (.v (.int z)), none, none, none, none]) dl) ?_
  obtain ⟨fa, ea, na, ca, la, la'⟩ := P.it fl13 (z := (5 + (i : Int)) / 2 + 2) ((5 + i) / 2 + 2) (by omega) (by omega)
  obtain ⟨fb, eb, nb, cb, lb, lb'⟩ := P.it fl13 (z := (5 + (i : Int)) / 2 - 1) ((5 + i) / 2 - 1) (by omega) (by omega)
  obtain ⟨fc, ec, nc, cc, lc, lc'⟩ := P.it fl13 (z := (5 + (i : Int)) / 2 - 2) ((5 + i) / 2 - 2) (by omega) (by omega)
  obtain ⟨fd, ed, nd, cd, ld, ld'⟩ := P.it fl13 (z := (5 + (i : Int)) / 2 + 1) ((5 + i) / 2 + 1) (by omega) (by omega)
  obtain ⟨fe, ee, ne, ce, le, le'⟩ := P.it fl13 (z := (5 + (i : Int)) / 2) ((5 + i) / 2) (by omega) (by omega)
  have sum3 : ∀ x y z : List Int, MS.sumL [x, y, z] = x.length + (y.length + (z.length + 0)) := fun _ _ _ => rfl
  have sum4 : ∀ x y z u : List Int, MS.sumL [x, y, z, u] = x.length + (y.length + (z.length + (u.length + 0))) := fun _ _ _ _ => rfl
  have m3 : ∀ x y : List Int, x.length ≤ 123 → y.length ≤ 123 → ∀ f ∈ [x, y, y], f.length ≤ 123 := fun x y hx hy f hf => by
    rcases List.mem_cons.mp hf with rfl | hf
    · exact hx
    rcases List.mem_cons.mp hf with rfl | hf
    · exact hy
    rw [List.mem_singleton.mp hf]
    exact hy
  have m4 : ∀ x y : List Int, x.length ≤ 123 → y.length ≤ 123 → ∀ f ∈ [x, y, y, y], f.length ≤ 123 := fun x y hx hy f hf => by
    rcases List.mem_cons.mp hf with rfl | hf
    · exact hx
    · exact m3 y y hy hy f hf
  refine ⟨div200 (by decide) (by decide) _, by decide, fun h => ?_, fun h => ?_⟩
  · have hev : (5 + (i : Int)) % 2 = 0 := of_decide_eq_true h
    have hev' : (5 + i) % 2 = 0 := by omega
    refine ⟨_, ea, _, eb, _, eb, rfl, lk rfl, rfl, rfl, p, [fa, fb, fb], rfl, p2, p1, Nat.le_of_ble_eq_true rfl, m3 _ _ la' lb', fun r1 n1 e1 l1 => ?_⟩
    refine ⟨_, ec, _, ed, _, ed, rfl, lk rfl, rfl, rfl, p, [fc, fd, fd], rfl, p2, p1, Nat.le_of_ble_eq_true rfl, m3 _ _ lc' ld', fun r2 n2 e2 l2 => ?_⟩
    rw [sum3] at l1 l2
    refine ⟨_, ee, rfl, rfl, p, r1, r2, rfl, p0, p1, by omega, by omega, fun s ns es ls => ?_⟩
    refine ⟨rfl, rfl, p, fe, s, rfl, p0, ne.sm p1, by omega, by omega, fun t nt et lt => hq t nt ?_ ?_⟩
    · unfold MS.nxt1
      rw [pl]
      show _ = if (5 + i) % 2 = 0 then _ else _
      rw [if_pos hev', et, es, e1, e2, ← ca, ← cb, ← cc, ← cd, ← ce]
      show _ * (1 * _ * _ * _ - 1 * _ * _ * _) = _
      grind
    · have := MS.lb_even (5 + i) (by omega) (by omega) hev'
      omega
  · have hev : ¬ (5 + (i : Int)) % 2 = 0 := of_decide_eq_false h
    have hev' : ¬ (5 + i) % 2 = 0 := by omega
    refine ⟨_, ea, _, ee, _, ee, _, ee, rfl, lk rfl, rfl, rfl, p, [fa, fe, fe, fe], rfl, p2, p1, Nat.le_of_ble_eq_true rfl, m4 _ _ la' le', fun r1 n1 e1 l1 => ?_⟩
    refine ⟨_, eb, _, ed, _, ed, _, ed, rfl, lk rfl, rfl, rfl, p, [fb, fd, fd, fd], rfl, p2, p1, Nat.le_of_ble_eq_true rfl, m4 _ _ lb' ld', fun r2 n2 e2 l2 => ?_⟩
    rw [sum4] at l1 l2
    have scub : MS.Sm [b, a, 0, 1] := fun c hc => by
      rcases List.mem_cons.mp hc with rfl | hc
      · omega
      rcases List.mem_cons.mp hc with rfl | hc
      · omega
      rcases List.mem_cons.mp hc with rfl | hc
      · omega
      · rw [List.mem_singleton.mp hc]; omega
    have m16 : 0 ≤ (16 : Int) % p ∧ (16 : Int) % p < p := ⟨Int.emod_nonneg _ (by omega), Int.emod_lt_of_pos _ p0⟩
    refine ⟨rfl, rfl, p, a, b, rfl, rfl, rfl, p, a, b, rfl, rfl, rfl, p, [b, a, 0, 1], [b, a, 0, 1], rfl, p0, scub, Nat.le_of_ble_eq_true rfl, Nat.le_of_ble_eq_true rfl, fun c2 nc2 ec2 lc2 => ?_⟩
    have lc2' : c2.length ≤ 8 := lc2
    refine ⟨p0, rfl, rfl, p, c2, 16 % p, rfl, p0, ⟨by omega, by omega⟩, by omega, fun sq nsq esq lsq => ?_⟩
    have esq' : MS.cl p sq = MS.cubS p a b := by
      rw [esq, ec2, MS.C_emod]
      unfold MS.cubS
      grind
    refine ⟨by decide, fun h => ?_, fun h => ?_⟩
    · have hm : (5 + (i : Int)) / 2 % 2 = 0 := of_decide_eq_true h
      have hm' : (5 + i) / 2 % 2 = 0 := by omega
      refine ⟨rfl, rfl, p, sq, r1, rfl, p0, nsq.sm p1, by omega, by omega, fun s ns es ls => ?_⟩
      refine ⟨rfl, rfl, p, s, r2, rfl, p0, p1, by omega, by omega, fun t nt et lt => hq t nt ?_ ?_⟩
      · unfold MS.nxt1
        rw [pl]
        show _ = if (5 + i) % 2 = 0 then _ else if (5 + i) / 2 % 2 = 0 then _ else _
        rw [if_neg hev', if_pos hm', et, es, e1, e2, esq', ← ca, ← cb, ← cd, ← ce]
        show _ * (1 * _ * _ * _ * _) - (1 * _ * _ * _ * _) = _
        grind
      · have := MS.lb_odd0 (5 + i) (by omega) (by omega) hev' hm'
        omega
    · have hm : ¬ (5 + (i : Int)) / 2 % 2 = 0 := of_decide_eq_false h
      have hm' : ¬ (5 + i) / 2 % 2 = 0 := by omega
      refine ⟨rfl, rfl, p, sq, r2, rfl, p0, nsq.sm p1, by omega, by omega, fun s ns es ls => ?_⟩
      refine ⟨rfl, rfl, p, r1, s, rfl, p0, p1, by omega, by omega, fun t nt et lt => hq t nt ?_ ?_⟩
      · unfold MS.nxt1
        rw [pl]
        show _ = if (5 + i) % 2 = 0 then _ else if (5 + i) / 2 % 2 = 0 then _ else _
        rw [if_neg hev', if_neg hm', et, es, e1, e2, esq', ← ca, ← cb, ← cd, ← ce]
        show (1 * _ * _ * _ * _) - _ * (1 * _ * _ * _ * _) = _
        grind
      · have := MS.lb_odd1 (5 + i) (by omega) (by omega) hev' hm'
        omega

theorem ok_next_one {f : Addr} {fd : FuncData} (F : Fun K "next_one" "next_one" s_next_one f fd) (h_product : Has P w K mg base okH 3 "product" 2 M_product) (h_times : Has P w K mg base okH 2 "times" 3 M_times) (h_minus : Has P w K mg base okH 3 "minus" 3 M_minus) (h_scaled : Has P w K mg base okH 2 "scaled" 3 M_scaled) (h_cubic : Has P w K mg base okH 1 "cubic" 1 M_cubic) (m_len : mg "len" = none)    : FnOk P w K mg base CX0 4 f fd ["curve", "found"] (SpD K okH 2 M_next_one) :=
  def_ok F sc_next_one rfl (fun cdv A outer s H E hr =>
 (s_cons (s_set 2 sc_next_one.nd (d_ix (d_b (d_var 0)) d_int))
 (s_cons (s_set 3 sc_next_one.nd (d_len m_len (d_b (d_var 1))))
 (s_cons (s_set 4 sc_next_one.nd (d_div (d_var 3) d_int))
 (s_cons (s_if (t_eq hr (d_mod (d_var 3) d_int) d_int)
 (s_cons (s_set 5 sc_next_one.nd (d_call h_product hr (by decide) (a_cons (d_var 2) (a_cons (d_fz (l_lst (a_cons (d_ix (d_b (d_var 1)) (d_add (d_var 4) d_int)) (a_cons (d_ix (d_b (d_var 1)) (d_sub (d_var 4) d_int)) (a_cons (d_ix (d_b (d_var 1)) (d_sub (d_var 4) d_int)) a_nil))))) a_nil))))
 (s_cons (s_set 6 sc_next_one.nd (d_call h_product hr (by decide) (a_cons (d_var 2) (a_cons (d_fz (l_lst (a_cons (d_ix (d_b (d_var 1)) (d_sub (d_var 4) d_int)) (a_cons (d_ix (d_b (d_var 1)) (d_add (d_var 4) d_int)) (a_cons (d_ix (d_b (d_var 1)) (d_add (d_var 4) d_int)) a_nil))))) a_nil))))
 (s_one (s_ret (d_call h_times hr (by decide) (a_cons (d_var 2) (a_cons (d_ix (d_b (d_var 1)) (d_var 4)) (a_cons (d_call h_minus hr (by decide) (a_cons (d_var 2) (a_cons (d_var 5) (a_cons (d_var 6) a_nil)))) a_nil))))))))
 s_nil)
 (s_cons (s_set 5 sc_next_one.nd (d_call h_product hr (by decide) (a_cons (d_var 2) (a_cons (d_fz (l_lst (a_cons (d_ix (d_b (d_var 1)) (d_add (d_var 4) d_int)) (a_cons (d_ix (d_b (d_var 1)) (d_var 4)) (a_cons (d_ix (d_b (d_var 1)) (d_var 4)) (a_cons (d_ix (d_b (d_var 1)) (d_var 4)) a_nil)))))) a_nil))))
 (s_cons (s_set 6 sc_next_one.nd (d_call h_product hr (by decide) (a_cons (d_var 2) (a_cons (d_fz (l_lst (a_cons (d_ix (d_b (d_var 1)) (d_sub (d_var 4) d_int)) (a_cons (d_ix (d_b (d_var 1)) (d_add (d_var 4) d_int)) (a_cons (d_ix (d_b (d_var 1)) (d_add (d_var 4) d_int)) (a_cons (d_ix (d_b (d_var 1)) (d_add (d_var 4) d_int)) a_nil)))))) a_nil))))
 (s_cons (s_set 7 sc_next_one.nd (d_call h_scaled hr (by decide) (a_cons (d_var 2) (a_cons (d_call h_times hr (by decide) (a_cons (d_var 2) (a_cons (d_call h_cubic hr (by decide) (a_cons (d_var 0) a_nil)) (a_cons (d_call h_cubic hr (by decide) (a_cons (d_var 0) a_nil)) a_nil)))) (a_cons (d_mod d_int (d_var 2)) a_nil)))))
 (s_cons (s_if (t_eq hr (d_mod (d_var 4) d_int) d_int)
 (s_one (s_ret (d_call h_minus hr (by decide) (a_cons (d_var 2) (a_cons (d_call h_times hr (by decide) (a_cons (d_var 2) (a_cons (d_var 7) (a_cons (d_var 5) a_nil)))) (a_cons (d_var 6) a_nil))))))
 s_nil)
 (s_one (s_ret (d_call h_minus hr (by decide) (a_cons (d_var 2) (a_cons (d_var 5) (a_cons (d_call h_times hr (by decide) (a_cons (d_var 2) (a_cons (d_var 7) (a_cons (d_var 6) a_nil)))) a_nil))))))))))))))) mf_next_one
/-! ### division_polynomials -/
abbrev s_division_polynomials : Stmt := topS 20
theorem sc_division_polynomials : FnScope ["curve", "count", "found"] ["curve", "count"] (defScope s_division_polynomials) := ⟨rfl, rfl, rfl, by decide +kernel, rfl, by decide +kernel, by decide +kernel⟩
def M_division_polynomials : WM := fun as Q => ∃ (p a b : Int) (n : Nat), as = [.v (.tuple [.int p, .int a, .int b]), .v (.int n)] ∧ 5 ≤ p ∧ p < 2 ^ 62 ∧ 0 ≤ a ∧ a < p ∧ 0 ≤ b ∧ b < p ∧ n ≤ 13 ∧
  ∀ fs, MS.PL p fs (MS.psi (MS.cubS p a b) (MS.L0 p a b) (n - 5)) → Q (.v (.list (pls (fs.take n))))

def w_division_polynomials : WS := (wSeq (wSetO 2 (wCallOP 1 M_first_ones (wCons (wVar 0) wNil)))
 (wSeq (wWhile (wTest (wBin fLt (wLen (wBor 2)) (wVar 1)))
 (wApp 2 (wLend2 M_next_one (wVar 0) 2)))
 (wRet (wFz (wSlL (wBor 2) woN (woS (wVar 1)))))))
theorem mf_division_polynomials : ∀ as Q, as.length = 2 → M_division_polynomials as Q → w_division_polynomials { nx := fun _ => Q (.v .none), rt := Q } (stE as 1) := by
  rintro as Q _ ⟨p, a, b, n, rfl, p5, p1, a0, a1, b0, b1, n13, hq⟩
  refine ⟨rfl, rfl, p, a, b, rfl, p5, p1, a0, a1, b0, b1, fun fs P => ?_⟩
  let I : Nat → EnvD → Prop := fun m env => ∃ (fs : List (List Int)) (k : Nat), env = [some (.v (.tuple [.int p, .int a, .int b])), some (.v (.int n)), some (.own (pls fs))] ∧ MS.PL p fs (MS.psi (MS.cubS p a b) (MS.L0 p a b) k) ∧ k ≤ n - 5 ∧ m = n - 5 - k
  refine ⟨I, ⟨_, fs, 0, rfl, P, Nat.zero_le _, rfl⟩, ?_⟩
  rintro m env ⟨fs, k, rfl, P, hk, rfl⟩
  have fl : fs.length = 5 + k := by rw [P.length, MS.psi_len]; rfl
  refine ⟨fun h => ?_, fun h => ?_⟩
  · have h' : (((pls fs).length : Nat) : Int) < n := of_decide_eq_true h
    rw [pls_len, fl] at h'
    refine ⟨fun e => ∃ m', m' < n - 5 - k ∧ I m' e, fun _ z => z, p, a, b, fs, k, rfl, p5, p1, a0, a1, b0, b1, by omega, P, fun r nr er lr => ⟨⟨1, noL_ints r⟩, by rw [pls_len]; omega, n - 5 - (k + 1), by omega, fs ++ [r], k + 1, ?_, P.snoc nr er (by rw [fl]; exact lr), by omega, rfl⟩⟩
    rw [pls_snoc]
    rfl
  · have h' : ¬ (((pls fs).length : Nat) : Int) < n := of_decide_eq_false h
    rw [pls_len, fl] at h'
    have : k = n - 5 := by omega
    subst this
    show Q (.v (.list (cutD (pls fs) none (some (n : Int)))))
    rw [cut_hi, pls_take]
    exact hq fs P

theorem ok_division_polynomials {f : Addr} {fd : FuncData} (F : Fun K "division_polynomials" "division_polynomials" s_division_polynomials f fd) (h_first_ones : Has P w K mg base okH 3 "first_ones" 1 M_first_ones) (h_next_one : Has P w K mg base okH 4 "next_one" 2 M_next_one) (m_len : mg "len" = none)    : FnOk P w K mg base CX0 5 f fd ["curve", "count"] (SpD K okH 2 M_division_polynomials) :=
  def_ok F sc_division_polynomials rfl (fun cdv A outer s H E hr =>
 (s_cons (s_setO 2 sc_division_polynomials.nd (l_call h_first_ones hr (by decide) (a_cons (d_var 0) a_nil)))
 (s_cons (s_while PassesOwn.never (t_lt (d_len m_len (d_bor 2)) (d_var 1))
 (s_one (s_app 2 (d_lend2 2 h_next_one hr (by decide) (d_var 0)))))
 (s_one (s_ret (d_fz (l_sl (d_bor 2) o_n (o_s (d_var 1))))))))) mf_division_polynomials
/-! ### division_polynomial -/
abbrev s_division_polynomial : Stmt := topS 21
theorem sc_division_polynomial : FnScope ["curve", "n"] ["curve", "n"] (defScope s_division_polynomial) := ⟨rfl, rfl, rfl, by decide +kernel, rfl, by decide +kernel, by decide +kernel⟩
def M_division_polynomial : WM := fun as Q => ∃ (p a b : Int) (n : Nat), as = [.v (.tuple [.int p, .int a, .int b]), .v (.int n)] ∧ 5 ≤ p ∧ p < 2 ^ 62 ∧ 0 ≤ a ∧ a < p ∧ 0 ≤ b ∧ b < p ∧ n ≤ 12 ∧
  ∀ f, MS.NF p f → MS.cl p f = MS.at' (MS.psi (MS.cubS p a b) (MS.L0 p a b) 8) n → f.length ≤ 123 → Q (.v (.tuple (dints f)))

def w_division_polynomial : WS := (wRet (wIx (wCallP 2 M_division_polynomials (wCons (wVar 0) (wCons (wBin fAdd (wVar 1) (wC (.int 1))) wNil))) (wVar 1)))
theorem mf_division_polynomial : ∀ as Q, as.length = 2 → M_division_polynomial as Q → w_division_polynomial { nx := fun _ => Q (.v .none), rt := Q } (stE as 0) := by
  rintro as Q _ ⟨p, a, b, n, rfl, p5, p1, a0, a1, b0, b1, n12, hq⟩
  refine ⟨rfl, rfl, p, a, b, n + 1, rfl, p5, p1, a0, a1, b0, b1, by omega, fun fs P => ?_⟩
  have fl : fs.length = 5 + (n + 1 - 5) := by rw [P.length, MS.psi_len]; rfl
  obtain ⟨f, ef, nf, cf, fb⟩ := P.at (j := n) (by omega)
  refine ⟨_, pls_atI (i := n) rfl (by rw [List.getElem?_take_of_lt (by omega)]; exact ef), hq f nf ?_ (Nat.le_trans fb (MS.lb_bd n (by omega)))⟩
  rw [cf, MS.at_pre _ _ (n + 1 - 5) (8 - (n + 1 - 5)) n (by show n < 5 + _; omega), show n + 1 - 5 + (8 - (n + 1 - 5)) = 8 by omega]

theorem ok_division_polynomial {f : Addr} {fd : FuncData} (F : Fun K "division_polynomial" "division_polynomial" s_division_polynomial f fd) (h_division_polynomials : Has P w K mg base okH 5 "division_polynomials" 2 M_division_polynomials)     : FnOk P w K mg base CX0 6 f fd ["curve", "n"] (SpD K okH 2 M_division_polynomial) :=
  def_ok F sc_division_polynomial rfl (fun cdv A outer s H E hr =>
 (s_one (s_ret (d_ix (d_b (d_call h_division_polynomials hr (by decide) (a_cons (d_var 0) (a_cons (d_add (d_var 1) d_int) a_nil)))) (d_var 1))))) mf_division_polynomial
/-! ### kills -/
abbrev s_kills : Stmt := topS 22
theorem sc_kills : FnScope ["curve", "n", "point"] ["curve", "n", "point"] (defScope s_kills) := ⟨rfl, rfl, rfl, by decide +kernel, rfl, by decide +kernel, by decide +kernel⟩
def M_kills : WM := fun as Q => ∃ (p a b : Int) (n : Nat) (P : MC.Pt), as = [.v (.tuple [.int p, .int a, .int b]), .v (.int n), .v (MC.dpt P)] ∧ MC.Cu p a b ∧ MC.Ns p a b ∧ MC.On p a b P ∧ 1 ≤ n ∧ n ≤ 11 ∧ ∀ c : Bool, (c = true ↔ MC.mulP p a P n = none) → Q (.v (.bool c))

def w_kills : WS := (wSeq (wIf (wTest (wIsN (wVar 2)))
 (wRet (wC (.bool true)))
 wNx)
 (wSeq (wIf (wAndD (wTest (wBin fEq (wBin fMod (wVar 1) (wC (.int 2))) (wC (.int 0)))) (wTest (wBin fEq (wIx (wVar 2) (wC (.int 1))) (wC (.int 0)))))
 (wRet (wC (.bool true)))
 wNx)
 (wRet (wBin fEq (wCallP 3 M_value (wCons (wIx (wVar 0) (wC (.int 0))) (wCons (wCallP 2 M_division_polynomial (wCons (wVar 0) (wCons (wVar 1) wNil))) (wCons (wIx (wVar 2) (wC (.int 0))) wNil)))) (wC (.int 0))))))
theorem mul_no (p a : Int) : ∀ n, MC.mulP p a none n = none
  | 0 => rfl
  | n + 1 => by
    show MC.addP p a (MC.mulP p a none n) none = none
    rw [mul_no p a n]
    rfl
theorem mf_kills : ∀ as Q, as.length = 3 → M_kills as Q → w_kills { nx := fun _ => Q (.v .none), rt := Q } (stE as 0) := by
  rintro as Q _ ⟨p, a, b, n, P, rfl, c, hd, hP, n1, n11, hq⟩
  have p5 := c.p5
  rcases P with _ | ⟨x, y⟩
  · exact wtrue (hq true ⟨fun _ => mul_no p a n, fun _ => rfl⟩)
  obtain ⟨x0, x1, y0, y1, _⟩ := id hP
  have ki := MC.kills_iff c hd hP n1 n11
  have cy : y = 0 ↔ MS.C p y = 0 := ⟨fun z => by rw [z]; rfl, fun z => by
    have := MC.C_zero_iff.mp z
    rwa [Int.emod_eq_of_lt y0 y1] at this⟩
  refine wfalse (onNx ⟨by decide, decide (y = 0), fun _ => ⟨_, rfl, rfl⟩, fun h => ?_, fun h => onNx ?_⟩)
  · obtain ⟨h1, h2⟩ := Bool.and_eq_true_iff.mp h
    have h1 : (n : Int) % 2 = 0 := of_decide_eq_true h1
    exact hq true ⟨fun _ => ki.mpr (.inl ⟨by omega, cy.mp (of_decide_eq_true h2)⟩), fun _ => rfl⟩
  · refine ⟨_, rfl, rfl, rfl, p, a, b, n, rfl, p5, c.p1, c.a0, c.a1, c.b0, c.b1, by omega, fun f nf cf lf => ⟨_, rfl, rfl, rfl, p, f, x, rfl, by omega, c.p1, by omega, fun v v0 v1 hv => hq _ ?_⟩⟩
    have e := MC.val_pf c.hp (by omega) cf hv
    rw [decide_eq_true_iff, ki, ← e]
    constructor
    · intro z
      rw [z]; exact .inr rfl
    · rintro (⟨z1, z2⟩ | z)
      · exfalso
        have h : (decide ((n : Int) % 2 = 0) && decide (y = 0)) = false := h
        rw [decide_eq_true (by omega : (n : Int) % 2 = 0), decide_eq_true (cy.mpr z2)] at h
        cases h
      · have := MC.C_zero_iff.mp z
        rwa [Int.emod_eq_of_lt v0 v1] at this

theorem ok_kills {f : Addr} {fd : FuncData} (F : Fun K "kills" "kills" s_kills f fd) (h_value : Has P w K mg base okH 1 "value" 3 M_value) (h_division_polynomial : Has P w K mg base okH 6 "division_polynomial" 2 M_division_polynomial)     : FnOk P w K mg base CX0 7 f fd ["curve", "n", "point"] (SpD K okH 3 M_kills) :=
  def_ok F sc_kills rfl (fun cdv A outer s H E hr =>
 (s_cons (s_if (t_isN (d_var 2))
 (s_one (s_ret d_bl))
 s_nil)
 (s_cons (s_if (t_w (w_and (t_eq hr (d_mod (d_var 1) d_int) d_int) (w_and1 (t_eq hr (d_ix (d_b (d_var 2)) d_int) d_int))))
 (s_one (s_ret d_bl))
 s_nil)
 (s_one (s_ret (d_eq hr (d_call h_value hr (by decide) (a_cons (d_ix (d_b (d_var 0)) d_int) (a_cons (d_call h_division_polynomial hr (by decide) (a_cons (d_var 0) (a_cons (d_var 1) a_nil))) (a_cons (d_ix (d_b (d_var 2)) d_int) a_nil)))) d_int)))))) mf_kills
/-! ### first_of_multiple -/
abbrev s_first_of_multiple : Stmt := topS 23
theorem sc_first_of_multiple : FnScope ["curve", "n", "point", "p", "x", "found", "f", "over", "under", "factor"] ["curve", "n", "point"] (defScope s_first_of_multiple) := ⟨rfl, rfl, rfl, by decide +kernel, rfl, by decide +kernel, by decide +kernel⟩
def M_first_of_multiple : WM := fun as Q => ∃ (p a b : Int) (n : Nat) (P : MC.Pt), as = [.v (.tuple [.int p, .int a, .int b]), .v (.int n), .v (MC.dpt P)] ∧ MC.Cu p a b ∧ MC.Ns p a b ∧ MC.On p a b P ∧ 1 ≤ n ∧ n ≤ 11 ∧ (MC.mulP p a P n = none → Q (.v .none)) ∧ ∀ u w : Int, MC.mulP p a P n = some (u, w) → Q (.v (.int u))

def w_first_of_multiple : WS := (wSeq (wIf (wTest (wCallP 3 M_kills (wCons (wVar 0) (wCons (wVar 1) (wCons (wVar 2) wNil)))))
 (wRet (wC .none))
 wNx)
 (wSeq (wSet 3 (wIx (wVar 0) (wC (.int 0))))
 (wSeq (wSet 4 (wIx (wVar 2) (wC (.int 0))))
 (wSeq (wSetF 5 (wLc (iS (wCallP 2 M_division_polynomials (wCons (wVar 0) (wCons (wBin fAdd (wVar 1) (wC (.int 2))) wNil)))) (gN 6) wYes (wCallP 3 M_value (wCons (wVar 3) (wCons (wVar 6) (wCons (wVar 4) wNil)))) [6]))
 (wSeq (wSet 7 (wBin fMul (wIx (wVar 5) (wBin fSub (wVar 1) (wC (.int 1)))) (wIx (wVar 5) (wBin fAdd (wVar 1) (wC (.int 1))))))
 (wSeq (wSet 8 (wBin fMul (wIx (wVar 5) (wVar 1)) (wIx (wVar 5) (wVar 1))))
 (wSeq (wSet 9 (wBin fMul (wC (.int 4)) (wCallP 2 M_side (wCons (wVar 0) (wCons (wVar 4) wNil)))))
 (wSeq (wIf (wTest (wBin fEq (wBin fMod (wVar 1) (wC (.int 2))) (wC (.int 1))))
 (wSet 7 (wBin fMul (wVar 7) (wVar 9)))
 (wSet 8 (wBin fMul (wVar 8) (wVar 9))))
 (wRet (wBin fMod (wBin fSub (wVar 4) (wBin fMul (wVar 7) (wCallP 2 M_inverse (wCons (wVar 3) (wCons (wBin fMod (wVar 8) (wVar 3)) wNil))))) (wVar 3)))))))))))
theorem mf_first_of_multiple : ∀ as Q, as.length = 3 → M_first_of_multiple as Q → w_first_of_multiple { nx := fun _ => Q (.v .none), rt := Q } (stE as 7) := by
  rintro as Q _ ⟨p, a, b, n, P, rfl, c, hd, hP, n1, n11, hq0, hq1⟩
  have p5 := c.p5
  have pL := c.p1
  refine ⟨rfl, rfl, p, a, b, n, P, rfl, c, hd, hP, n1, n11, fun cc hcc => ⟨fun h => hq0 (hcc.mp h), fun h => onNx ?_⟩⟩
  have no : MC.mulP p a P n ≠ none := fun z => by rw [hcc.mpr z] at h; cases h
  rcases P with _ | ⟨x, y⟩
  · exact absurd (mul_no p a n) no
  obtain ⟨x0, x1, y0, y1, _⟩ := id hP
  obtain ⟨u, w, hu⟩ : ∃ u w, MC.mulP p a (some (x, y)) n = some (u, w) := by
    cases e : MC.mulP p a (some (x, y)) n with
    | none => exact absurd e no
    | some T => exact ⟨T.1, T.2, rfl⟩
  have onu := hP.mul c n
  rw [hu] at onu
  have hq1 := hq1 u w hu
  refine ⟨_, rfl, _, rfl, rfl, rfl, p, a, b, n + 2, rfl, p5, pL, c.a0, c.a1, c.b0, c.b1, by omega, fun fs PL => ?_⟩
  have fl : fs.length = 5 + (n + 2 - 5) := by rw [PL.length, MS.psi_len]; rfl
  have tl : (fs.take (n + 2)).length = n + 2 := by rw [List.length_take]; omega
  refine ⟨by rw [pls_len, tl]; omega, ⟨trivial, trivial⟩, fun j acc => ∃ vs : List Int, acc = dints vs ∧ vs.length = j ∧ ∀ i f, i < j → fs[i]? = some f → ∃ v, vs[i]? = some v ∧ (0 ≤ v ∧ v < p) ∧ MS.C p v = MS.ev (MS.C p x) f, ⟨[], rfl, rfl, fun i f z => by omega⟩, ?_, ?_⟩
  · rintro j dd acc hdd ⟨vs, rfl, vl, hv⟩
    obtain ⟨f, hf, rfl⟩ := pls_at hdd
    have hj : j < n + 2 := by rw [← tl]; exact (List.getElem?_eq_some_iff.mp hf).1
    rw [List.getElem?_take_of_lt hj] at hf
    have lf := PL.len j f hf
    have lb := MS.lb_bd j (by omega)
    refine wtrue ⟨rfl, rfl, p, f, x, rfl, by omega, pL, by omega, fun v v0 v1 ev => ⟨vs ++ [v], ?_, ?_, fun i g hi hg => ?_⟩⟩
    · rw [dints_app]; rfl
    · rw [List.length_append, vl]; rfl
    · by_cases e : i = j
      · subst e
        rw [hf] at hg
        cases hg
        exact ⟨v, by rw [List.getElem?_append_right (by omega), vl, Nat.sub_self]; rfl, ⟨v0, v1⟩, ev⟩
      · obtain ⟨z, hz, r⟩ := hv i g (by omega) hg
        exact ⟨z, by rw [List.getElem?_append_left (by omega)]; exact hz, r⟩
  rintro acc ⟨vs, rfl, vl, hv⟩
  rw [pls_len, tl] at vl hv
  have val : ∀ i, i < n + 2 → ∃ v, vs[i]? = some v ∧ (0 ≤ v ∧ v < p) ∧ MS.C p v = MC.pf (MC.dd_ p a b x) (MC.bb_ p a b x) (MC.tt_ p a x) i := by
    intro i hi
    obtain ⟨f, ef, nf, cf, fb⟩ := PL.at (j := i) (by omega)
    obtain ⟨v, e, bd, ev⟩ := hv i f hi ef
    refine ⟨v, e, bd, MC.val_pf c.hp (by omega) ?_ ev⟩
    rw [cf, MS.at_pre _ _ (n + 2 - 5) (8 - (n + 2 - 5)) i (by show i < 5 + _; omega), show n + 2 - 5 + (8 - (n + 2 - 5)) = 8 by omega]
  obtain ⟨v0, e0, b0, h0⟩ := val (n - 1) (by omega)
  obtain ⟨v1, e1, b1, h1⟩ := val n (by omega)
  obtain ⟨v2, e2, b2, h2⟩ := val (n + 1) (by omega)
  have F := MC.first_eq c hd hP n1 n11 hu h0 h1 h2
  have a0 : atI (dints vs) ((n : Int) - 1) = some (.int v0) := dints_atI (i := n - 1) (by omega) e0
  have a1 : atI (dints vs) (n : Int) = some (.int v1) := dints_atI (i := n) rfl e1
  have a2 : atI (dints vs) ((n : Int) + 1) = some (.int v2) := dints_atI (i := n + 1) (by omega) e2
  have cm : ∀ {v : Int}, 0 ≤ v ∧ v < p → ∀ z, CMul z v := fun h z => .inr ⟨by omega, by omega⟩
  have sb : 0 ≤ MC.side p a b x ∧ MC.side p a b x < p := ⟨Int.emod_nonneg _ (by omega), Int.emod_lt_of_pos _ (by omega)⟩
  have sC : MS.C p (MC.side p a b x) = MC.ss_ p a b x := by
    unfold MC.side
    simp only [MS.C_emod, MS.C_add, MS.C_mul]
  have fin : ∀ o d : Int, MS.C p d ≠ 0 → MS.C p u * MS.C p d = MS.C p x * MS.C p d - MS.C p o → d % p % p ≠ 0 ∧ (x - o * MC.inv p (d % p)) % p = u := by
    intro o d nd e
    have nd2 : d % p ≠ 0 := (fun z => nd (MC.C_zero_iff.mpr z))
    refine ⟨by rw [Int.emod_emod_of_dvd _ (Int.dvd_refl p)]; exact nd2, ?_⟩
    rw [MC.inv_mod]
    have i := MC.inv_mul c.hp nd2
    refine MC.C_eq (Int.emod_nonneg _ (by omega)) (Int.emod_lt_of_pos _ (by omega)) onu.1 onu.2.1 ?_
    rw [MS.C_emod, MS.C_sub, MS.C_mul]
    refine MC.IsC.cancel c.hp (MC.IsC.c d) nd ?_
    have l : MS.C p d * (MS.C p x - MS.C p o * MS.C p (MC.inv p d)) = MS.C p x * MS.C p d - MS.C p o * (MS.C p (MC.inv p d) * MS.C p d) := by clear e i; grind
    rw [l, i]
    have r : MS.C p d * MS.C p u = MS.C p u * MS.C p d := by clear e i l; grind
    rw [r, e]; clear e i l r; grind
  have ci : ∀ z v, CMul z (MC.inv p v) := fun z v => cm (MC.inv_bd (by omega)) z
  refine ⟨_, a0, _, a2, cm b2 _, _, a1, _, a1, cm b1 _, rfl, rfl, p, a, b, x, rfl, by omega, by omega, by omega, cm sb _, by decide, fun hn => ?_, fun hn => ?_⟩
  · have hn : (n : Int) % 2 = 1 := of_decide_eq_true hn
    obtain ⟨nz, e⟩ := F.1 (by omega)
    obtain ⟨k1, k2⟩ := fin (v0 * v2 * (4 * MC.side p a b x)) (v1 * v1) (by rw [MS.C_mul]; exact nz) (by simp only [MS.C_mul, sC, MC.C_4']; exact e)
    refine ⟨.inr ⟨by omega, by omega⟩, by omega, rfl, rfl, p, v1 * v1 % p, rfl, c.hp, pL, k1, ci _ _, by omega, ?_⟩
    rw [k2]
    exact hq1
  · have hn : ¬ (n : Int) % 2 = 1 := of_decide_eq_false hn
    obtain ⟨nz, e⟩ := F.2 (by omega)
    obtain ⟨k1, k2⟩ := fin (v0 * v2) (v1 * v1 * (4 * MC.side p a b x)) (by simp only [MS.C_mul, sC, MC.C_4']; exact nz) (by simp only [MS.C_mul, sC, MC.C_4']; exact e)
    refine ⟨.inr ⟨by omega, by omega⟩, by omega, rfl, rfl, p, v1 * v1 * (4 * MC.side p a b x) % p, rfl, c.hp, pL, k1, ci _ _, by omega, ?_⟩
    rw [k2]
    exact hq1

theorem ok_first_of_multiple {f : Addr} {fd : FuncData} (F : Fun K "first_of_multiple" "first_of_multiple" s_first_of_multiple f fd) (h_kills : Has P w K mg base okH 7 "kills" 3 M_kills) (h_division_polynomials : Has P w K mg base okH 5 "division_polynomials" 2 M_division_polynomials) (h_value : Has P w K mg base okH 1 "value" 3 M_value) (h_side : Has P w K mg base okH 1 "side" 2 M_side) (h_inverse : Has P w K mg base okH 2 "inverse" 2 M_inverse)     : FnOk P w K mg base CX0 8 f fd ["curve", "n", "point"] (SpD K okH 3 M_first_of_multiple) :=
  def_ok F sc_first_of_multiple rfl (fun cdv A outer s H E hr =>
 (s_cons (s_if (t_val (d_call h_kills hr (by decide) (a_cons (d_var 0) (a_cons (d_var 1) (a_cons (d_var 2) a_nil)))))
 (s_one (s_ret d_non))
 s_nil)
 (s_cons (s_set 3 sc_first_of_multiple.nd (d_ix (d_b (d_var 0)) d_int))
 (s_cons (s_set 4 sc_first_of_multiple.nd (d_ix (d_b (d_var 2)) d_int))
 (s_cons (s_setLcF 5 (own := [("f", 6)]) rfl sc_first_of_multiple.nd (i_seq (d_call h_division_polynomials hr (by decide) (a_cons (d_var 0) (a_cons (d_add (d_var 1) d_int) a_nil)))) (blkOk_by (N := ["curve", "n", "point", "p", "x", "found", "f", "over", "under", "factor"]) (sc := defScope s_first_of_multiple) (by decide +kernel)) ⟨(gName 6), fun _ _ _ _ _ => (pg_name (i := 6) sc_first_of_multiple.nd rfl (Or.inl rfl)), (sg_name (i := 6) (by decide))⟩ ⟨tYes, fun _ _ _ _ _ => pts_nil, st_yes⟩ ⟨(tCall (SpD K okH 3 M_value) [] E0 (tCons (tVar 3) (tCons (tVar 6) (tCons (tVar 4) tNil)))), fun _ _ _ _ _ => (pe_has h_value hr (by decide) (pa_cons (pv 3) (pa_cons (pv 6) (pa_cons (pv 4) pa_nil)))), (snd_call (snd_cons snd_var (snd_cons snd_var (snd_cons snd_var snd_nil))))⟩ (sw_true rfl rfl rfl (by decide +kernel)))
 (s_cons (s_set 7 sc_first_of_multiple.nd (d_mul (d_ix (d_b (d_var 5)) (d_sub (d_var 1) d_int)) (d_ix (d_b (d_var 5)) (d_add (d_var 1) d_int))))
 (s_cons (s_set 8 sc_first_of_multiple.nd (d_mul (d_ix (d_b (d_var 5)) (d_var 1)) (d_ix (d_b (d_var 5)) (d_var 1))))
 (s_cons (s_set 9 sc_first_of_multiple.nd (d_mul d_int (d_call h_side hr (by decide) (a_cons (d_var 0) (a_cons (d_var 4) a_nil)))))
 (s_cons (s_if (t_eq hr (d_mod (d_var 1) d_int) d_int)
 (s_one (s_set 7 sc_first_of_multiple.nd (d_mul (d_var 7) (d_var 9))))
 (s_one (s_set 8 sc_first_of_multiple.nd (d_mul (d_var 8) (d_var 9)))))
 (s_one (s_ret (d_mod (d_sub (d_var 4) (d_mul (d_var 7) (d_call h_inverse hr (by decide) (a_cons (d_var 3) (a_cons (d_mod (d_var 8) (d_var 3)) a_nil))))) (d_var 3))))))))))))) mf_first_of_multiple
/-! ### _law_wide -/
abbrev s__law_wide : Stmt := topS 25
theorem sc__law_wide : FnScope ["script", "k", "cell", "mixed"] ["script", "k"] (defScope s__law_wide) := ⟨rfl, rfl, rfl, by decide +kernel, rfl, by decide +kernel, by decide +kernel⟩
abbrev M__law_wide : WM := M_wide

def w__law_wide : WS := (wSeq (wSet 2 (wC (.int 0)))
 (wSeq (wIf (wTest (wBin fLt (wVar 1) (wLen (wVar 0))))
 (wSet 2 (wUn fAbs (wIx (wVar 0) (wVar 1))))
 wNx)
 (wSeq (wIf (wTest (wBin fGe (wVar 2) (wC (.int 1000000000000000000))))
 (wRet (wVar 2))
 wNx)
 (wSeq (wSet 3 (wBin fMod (wUn fInt (wBin fAdd (wBin fMul (wBin fAdd (wVar 2) (wC (.int 1))) (wC (.int 6364136223846793005))) (wBin fMul (wBin fAdd (wVar 1) (wC (.int 1))) (wC (.int 1442695040888963407))))) (wC (.int 2305843009213693951))))
 (wRet (wBin fMod (wUn fInt (wBin fAdd (wBin fMul (wVar 3) (wC (.int 3202034522624059733))) (wBin fDiv (wVar 3) (wC (.int 1000003))))) (wC (.int 2305843009213693951))))))))
theorem mf__law_wide : ∀ as Q, as.length = 2 → M__law_wide as Q → w__law_wide { nx := fun _ => Q (.v .none), rt := Q } (stE as 2) := by
  rintro as Q _ ⟨ns, k, rfl, k0, hq⟩
  have next : ∀ cell : Int, ∃ (c : Int → Prop), True := fun _ => ⟨fun _ => True, trivial⟩
  have h0 : (0 : Int) < 2305843009213693951 := by decide
  refine ⟨fun h => ?_, fun h => ?_⟩
  · have hk : k < (dints ns).length := of_decide_eq_true h
    rw [List.length_map] at hk
    obtain ⟨v, hv, _⟩ := atI_ints k0 hk
    refine ⟨_, hv, ⟨fun _ => hq _, fun _ => ?_⟩⟩
    refine ⟨.inr ⟨by decide, by decide⟩, .inr ⟨by decide, by decide⟩, h0, .inr ⟨by decide, by decide⟩, div200 (by decide) (by decide) _, h0, hq _⟩
  · refine ⟨fun _ => hq _, fun _ => ?_⟩
    refine ⟨.inr ⟨by decide, by decide⟩, .inr ⟨by decide, by decide⟩, h0, .inr ⟨by decide, by decide⟩, div200 (by decide) (by decide) _, h0, hq _⟩

theorem ok__law_wide {f : Addr} {fd : FuncData} (F : Fun K "_law_wide" "_law_wide" s__law_wide f fd)  (m_abs : mg "abs" = none) (m_int : mg "int" = none) (m_len : mg "len" = none)    : FnOk P w K mg base CX0 1 f fd ["script", "k"] (SpD K okH 2 M__law_wide) :=
  def_ok F sc__law_wide rfl (fun cdv A outer s H E hr =>
 (s_cons (s_set 2 sc__law_wide.nd d_int)
 (s_cons (s_if (t_lt (d_var 1) (d_len m_len (d_b (d_var 0))))
 (s_one (s_set 2 sc__law_wide.nd (d_abs m_abs (d_ix (d_b (d_var 0)) (d_var 1)))))
 s_nil)
 (s_cons (s_if (t_ge (d_var 2) d_int)
 (s_one (s_ret (d_var 2)))
 s_nil)
 (s_cons (s_set 3 sc__law_wide.nd (d_mod (d_intc m_int (d_add (d_mul (d_add (d_var 2) d_int) d_int) (d_mul (d_add (d_var 1) d_int) d_int))) d_int))
 (s_one (s_ret (d_mod (d_intc m_int (d_add (d_mul (d_var 3) d_int) (d_div (d_var 3) d_int))) d_int)))))))) mf__law_wide
/-! ### _law_take -/
abbrev s__law_take : Stmt := topS 26
theorem sc__law_take : FnScope ["pool", "most", "taken"] ["pool", "most"] (defScope s__law_take) := ⟨rfl, rfl, rfl, by decide +kernel, rfl, by decide +kernel, by decide +kernel⟩
abbrev M__law_take : WM := DL.M_take
theorem ok__law_take {f : Addr} {fd : FuncData} (F : Fun K "_law_take" "_law_take" s__law_take f fd) (h__law_wide : Has P w K mg base okH 1 "_law_wide" 2 M__law_wide) (m_int : mg "int" = none) : FnOk P w K mg base CX0 2 f fd ["pool", "most"] (SpD K okH 2 M__law_take) := take_ok F sc__law_take (fun cdv A outer s H E hr => (pss_cons (ps_if (pt_cmpR op_lt (pe_ix ix_seq (pv 0) pe_int (fun _ _ => rfl)) pe_int (nomark _)) (pss_cons (ps_asg (pe_op op_add (pe_ix ix_seq (pv 0) pe_int (fun _ _ => rfl)) pe_int) (pg_sub (pv 0) pe_int set_list)) (pss_one (ps_asg (pe_has h__law_wide hr (by decide) (pa_cons (pe_ix ix_seq (pv 0) pe_int (fun _ _ => rfl)) (pa_cons (pe_ix ix_seq (pv 0) pe_int (fun _ _ => rfl)) pa_nil))) (pg_sub (pv 0) pe_int set_list)))) pss_nil) (pss_cons (ps_set (i := 2) sc__law_take.nd rfl (Or.inl rfl) (pe_op op_mod (pe_callTy call_int1 (by rfl) m_int (by decide +kernel) (pa_cons (pe_ix ix_seq (pv 0) pe_int (fun _ _ => rfl)) pa_nil)) (pv 1))) (pss_cons (ps_asg (pe_op op_fdivW (pe_ix ix_seq (pv 0) pe_int (fun _ _ => rfl)) (pv 1)) (pg_sub (pv 0) pe_int set_list)) (pss_one (ps_ret (pv 2)))))))
/-! ### _law_pool -/
abbrev s__law_pool : Stmt := topS 27
theorem sc__law_pool : FnScope ["script"] ["script"] (defScope s__law_pool) := ⟨rfl, rfl, rfl, by decide +kernel, rfl, by decide +kernel, by decide +kernel⟩
abbrev M__law_pool : WM := M_pool

def w__law_pool : WS := (wRetO (wLstP (wCons (wC (.int 0)) (wCons (wFz (wListOf (wVar 0))) (wCons (wUn fNeg (wC (.int 1))) wNil)))))
theorem mf__law_pool : ∀ as Q, as.length = 1 → M__law_pool as Q → w__law_pool { nx := fun _ => Q (.v .none), rt := Q } (stE as 0) := by
  rintro as Q _ ⟨ns, rfl, hq⟩
  exact ⟨rfl, lk rfl, hq⟩

theorem ok__law_pool {f : Addr} {fd : FuncData} (F : Fun K "_law_pool" "_law_pool" s__law_pool f fd)  (m_list : mg "list" = none)    : FnOk P w K mg base CX0 1 f fd ["script"] (SpD K okH 1 M__law_pool) :=
  def_ok F sc__law_pool rfl (fun cdv A outer s H E hr =>
 (s_one (s_retO (l_lst (a_cons d_int (a_cons (d_fz (l_listOf m_list (d_b (d_var 0)))) (a_cons (d_neg d_int) a_nil))))))) mf__law_pool
/-! ### _law_mod -/
abbrev s__law_mod : Stmt := topS 28
theorem sc__law_mod : FnScope ["x", "p"] ["x", "p"] (defScope s__law_mod) := ⟨rfl, rfl, rfl, by decide +kernel, rfl, by decide +kernel, by decide +kernel⟩
/-- _law_mod(x, p) -/
def M__law_mod : WM := fun as Q => ∃ x p : Int, as = [.v (.int x), .v (.int p)] ∧ 0 < p ∧ Q (.v (.int (x % p)))

def w__law_mod : WS := (wRet (wBin fMod (wUn fInt (wVar 0)) (wVar 1)))
theorem mf__law_mod : ∀ as Q, as.length = 2 → M__law_mod as Q → w__law_mod { nx := fun _ => Q (.v .none), rt := Q } (stE as 0) := by
  rintro as Q _ ⟨x, p, rfl, p0, hq⟩
  exact ⟨p0, hq⟩

theorem ok__law_mod {f : Addr} {fd : FuncData} (F : Fun K "_law_mod" "_law_mod" s__law_mod f fd)  (m_int : mg "int" = none)    : FnOk P w K mg base CX0 1 f fd ["x", "p"] (SpD K okH 2 M__law_mod) :=
  def_ok F sc__law_mod rfl (fun cdv A outer s H E hr =>
 (s_one (s_ret (d_mod (d_intc m_int (d_var 0)) (d_var 1))))) mf__law_mod
/-! ### _law_prime_from -/
abbrev s__law_prime_from : Stmt := topS 29
theorem sc__law_prime_from : FnScope ["number", "candidate", "divided", "d"] ["number"] (defScope s__law_prime_from) := ⟨rfl, rfl, rfl, by decide +kernel, rfl, by decide +kernel, by decide +kernel⟩
/-- _law_prime_from(n): a prime -/
def M__law_prime_from : WM := fun as Q => ∃ n : Int, as = [.v (.int n)] ∧ 5 ≤ n ∧ n + 600 ≤ 160000 ∧ ∀ c : Int, MB.PrimeI c → 5 ≤ c → c < n + 600 → Q (.v (.int c))

def w__law_prime_from : WS := (wSeq (wFor (iR2 (wVar 0) (wBin fAdd (wVar 0) (wC (.int 600)))) (gN 1)
 (wSeq (wSet 2 (wC (.bool false)))
 (wSeq (wFor (iR2 (wC (.int 2)) (wC (.int 400))) (gN 3)
 (wIf (wAndD (wTest (wBin fLe (wBin fMul (wVar 3) (wVar 3)) (wVar 1))) (wTest (wBin fEq (wCallP 2 M__law_mod (wCons (wVar 1) (wCons (wVar 3) wNil))) (wC (.int 0)))))
 (wSeq (wSet 2 (wC (.bool true)))
 wBk)
 wNx))
 (wIf (wNot (wTest (wVar 2)))
 (wRet (wVar 1))
 wNx))))
 (wRet (wC (.int 5))))
theorem mf__law_prime_from : ∀ as Q, as.length = 1 → M__law_prime_from as Q → w__law_prime_from { nx := fun _ => Q (.v .none), rt := Q } (stE as 3) := by
  rintro as Q _ ⟨n, rfl, n0, n1, hq⟩
  refine ⟨⟨by omega, by omega, by omega, by omega⟩, fun k env => ∃ t1 t2 t3, env = [some (.v (.int n)), t1, t2, t3], ⟨_, _, _, rfl⟩, ?_, ?_⟩
  · rintro i d env hd ⟨t1, t2, t3, rfl⟩
    obtain ⟨hi, rfl⟩ := rng_at hd
    obtain ⟨c, hc⟩ : ∃ c, c = n + (i : Int) := ⟨_, rfl⟩
    rw [← hc]
    refine ⟨⟨by decide, by decide, by decide, by decide⟩, fun k env => ∃ t3, env = [some (.v (.int n)), some (.v (.int c)), some (.v (.bool false)), t3] ∧ ∀ d : Int, 2 ≤ d → d < 2 + (k : Int) → d * d ≤ c → c % d ≠ 0, ⟨_, rfl, fun d _ _ => by omega⟩, ?_, ?_⟩
    · rintro j e env he ⟨t3, rfl, ht⟩
      obtain ⟨hj, rfl⟩ := rng_at he
      have dp : (0 : Int) < 2 + (j : Int) := by omega
      refine ⟨.inl ⟨by omega, by omega⟩, decide (c % (2 + (j : Int)) = 0), fun h => ⟨rfl, rfl, _, _, rfl, dp, rfl⟩, fun h => ?_, fun h => ?_⟩
      · exact wfalse ⟨_, _, _, rfl⟩
      · refine ⟨_, rfl, fun d d2 d3 d4 d5 => ?_⟩
        by_cases hd : d = 2 + (j : Int)
        · subst hd
          have h' : (decide ((2 + (j : Int)) * (2 + (j : Int)) ≤ c) && decide (c % (2 + (j : Int)) = 0)) = false := h
          rw [decide_eq_true d4, decide_eq_true d5] at h'
          cases h'
        · exact ht d d2 (by omega) d4 d5
    · rintro env ⟨t3, rfl, ht⟩
      rw [rng_len] at ht
      exact wtrue (hq c (MB.prime_of_trial 400 (by omega) (by omega) (by decide) fun d d2 d3 => ht d d2 (by omega)) (by omega) (by omega))
  · rintro env ⟨t1, t2, t3, rfl⟩
    exact hq 5 (MB.prime_of_trial 3 (by decide) (by decide) (by decide) fun d d2 d3 _ => by
      have : d = 2 := by omega
      subst this
      decide) (by decide) (by omega)

theorem ok__law_prime_from {f : Addr} {fd : FuncData} (F : Fun K "_law_prime_from" "_law_prime_from" s__law_prime_from f fd) (h__law_mod : Has P w K mg base okH 1 "_law_mod" 2 M__law_mod) (m_range : mg "range" = none)    : FnOk P w K mg base CX0 2 f fd ["number"] (SpD K okH 1 M__law_prime_from) :=
  def_ok F sc__law_prime_from rfl (fun cdv A outer s H E hr =>
 (s_cons (s_for (vs := [1]) PassesOwn.never rfl (i_r2 m_range (d_var 0) (d_add (d_var 0) d_int)) (g_name 1 sc__law_prime_from.nd)
 (s_cons (s_set 2 sc__law_prime_from.nd d_bl)
 (s_cons (s_for (vs := [3]) PassesOwn.never rfl (i_r2 m_range d_int d_int) (g_name 3 sc__law_prime_from.nd)
 (s_one (s_if (t_w (w_and (t_le (d_mul (d_var 3) (d_var 3)) (d_var 1)) (w_and1 (t_eq hr (d_call h__law_mod hr (by decide) (a_cons (d_var 1) (a_cons (d_var 3) a_nil))) d_int))))
 (s_cons (s_set 2 sc__law_prime_from.nd d_bl)
 (s_one s_break))
 s_nil)))
 (s_one (s_if (t_not (t_val (d_var 2)))
 (s_one (s_ret (d_var 1)))
 s_nil)))))
 (s_one (s_ret d_int)))) mf__law_prime_from
/-! ### _law_prime -/
abbrev s__law_prime : Stmt := topS 30
theorem sc__law_prime : FnScope ["pool", "most"] ["pool", "most"] (defScope s__law_prime) := ⟨rfl, rfl, rfl, by decide +kernel, rfl, by decide +kernel, by decide +kernel⟩
/-- _law_prime(pool, m): a prime -/
def M__law_prime : WM := fun as Q => ∃ m : Int, as = [.hnd, .v (.int m)] ∧ 5 < m ∧ m < 150000 ∧ ∀ c : Int, MB.PrimeI c → 5 ≤ c → c < m + 600 → Q (.v (.int c))

def w__law_prime : WS := (wRet (wCallP 1 M__law_prime_from (wCons (wBin fAdd (wC (.int 5)) (wCallP 2 M__law_take (wConsH 0 (wCons (wBin fSub (wVar 1) (wC (.int 5))) wNil)))) wNil)))
theorem mf__law_prime : ∀ as Q, as.length = 2 → M__law_prime as Q → w__law_prime { nx := fun _ => Q (.v .none), rt := Q } (stE as 0) := by
  rintro as Q _ ⟨m, rfl, n0, n1, hq⟩
  refine tk (by omega) (by omega) fun r r0 r1 => ⟨rfl, rfl, _, rfl, by omega, by omega, fun c c0 c1 c2 => hq c c0 c1 (by omega)⟩

theorem ok__law_prime {f : Addr} {fd : FuncData} (F : Fun K "_law_prime" "_law_prime" s__law_prime f fd) (h__law_prime_from : Has P w K mg base okH 2 "_law_prime_from" 1 M__law_prime_from) (h__law_take : Has P w K mg base okH 2 "_law_take" 2 M__law_take)     : FnOk P w K mg base CX0 3 f fd ["pool", "most"] (SpD K okH 2 M__law_prime) :=
  def_ok F sc__law_prime rfl (fun cdv A outer s H E hr =>
 (s_one (s_ret (d_call h__law_prime_from hr (by decide) (a_cons (d_add d_int (d_call h__law_take hr (by decide) (a_hnd 0 (a_cons (d_sub (d_var 1) d_int) a_nil)))) a_nil))))) mf__law_prime
/-! ### _law_pair -/
abbrev s__law_pair : Stmt := topS 31
theorem sc__law_pair : FnScope ["pool", "p", "a", "b"] ["pool", "p"] (defScope s__law_pair) := ⟨rfl, rfl, rfl, by decide +kernel, rfl, by decide +kernel, by decide +kernel⟩
def M__law_pair : WM := fun as Q => ∃ p : Int, as = [.hnd, .v (.int p)] ∧ 2 ≤ p ∧ p < 2 ^ 100 ∧ ∀ a b : Int, 0 ≤ a → a < p → 0 ≤ b → b < p → Q (.v (.tuple [.int a, .int b]))

def w__law_pair : WS := (wSeq (wSet 2 (wIx (wFz (wLstP (wCons (wCallP 2 M__law_take (wConsH 0 (wCons (wVar 1) wNil))) (wCons (wC (.int 0)) (wCons (wCallP 2 M__law_take (wConsH 0 (wCons (wVar 1) wNil))) (wCons (wC (.int 1)) (wCons (wCallP 2 M__law_take (wConsH 0 (wCons (wVar 1) wNil))) wNil))))))) (wCallP 2 M__law_take (wConsH 0 (wCons (wC (.int 5)) wNil)))))
 (wSeq (wSet 3 (wIx (wFz (wLstP (wCons (wCallP 2 M__law_take (wConsH 0 (wCons (wVar 1) wNil))) (wCons (wCallP 2 M__law_take (wConsH 0 (wCons (wVar 1) wNil))) (wCons (wC (.int 0)) (wCons (wCallP 2 M__law_take (wConsH 0 (wCons (wVar 1) wNil))) wNil)))))) (wCallP 2 M__law_take (wConsH 0 (wCons (wC (.int 4)) wNil)))))
 (wRet (wTupP (wCons (wVar 2) (wCons (wVar 3) wNil))))))
theorem mf__law_pair : ∀ as Q, as.length = 2 → M__law_pair as Q → w__law_pair { nx := fun _ => Q (.v .none), rt := Q } (stE as 2) := by
  rintro as Q _ ⟨p, rfl, p2, p1, hq⟩
  refine tk (by omega) (by omega) fun x0 h0 h0' => tk (by omega) (by omega) fun x1 h1 h1' => tk (by omega) (by omega) fun x2 h2 h2' => ⟨rfl, lk rfl, tk (by decide) (by decide) fun r r0 r1 => ?_⟩
  obtain ⟨a, ea, a0, a1⟩ : ∃ a : Int, atI [PyData.int x0, .int 0, .int x1, .int 1, .int x2] r = some (.int a) ∧ 0 ≤ a ∧ a < p := by
    have : r = 0 ∨ r = 1 ∨ r = 2 ∨ r = 3 ∨ r = 4 := by omega
    rcases this with rfl | rfl | rfl | rfl | rfl <;> exact ⟨_, rfl, by omega, by omega⟩
  refine ⟨_, ea, ?_⟩
  refine tk (by omega) (by omega) fun y0 h0 h0' => tk (by omega) (by omega) fun y1 h1 h1' => tk (by omega) (by omega) fun y2 h2 h2' => ⟨rfl, lk rfl, tk (by decide) (by decide) fun r r0 r1 => ?_⟩
  obtain ⟨b, eb, b0, b1⟩ : ∃ b : Int, atI [PyData.int y0, .int y1, .int 0, .int y2] r = some (.int b) ∧ 0 ≤ b ∧ b < p := by
    have : r = 0 ∨ r = 1 ∨ r = 2 ∨ r = 3 := by omega
    rcases this with rfl | rfl | rfl | rfl <;> exact ⟨_, rfl, by omega, by omega⟩
  exact ⟨_, eb, rfl, lk rfl, hq a b a0 a1 b0 b1⟩

theorem ok__law_pair {f : Addr} {fd : FuncData} (F : Fun K "_law_pair" "_law_pair" s__law_pair f fd) (h__law_take : Has P w K mg base okH 2 "_law_take" 2 M__law_take)     : FnOk P w K mg base CX0 3 f fd ["pool", "p"] (SpD K okH 2 M__law_pair) :=
  def_ok F sc__law_pair rfl (fun cdv A outer s H E hr =>
 (s_cons (s_set 2 sc__law_pair.nd (d_ix (d_b (d_fz (l_lst (a_cons (d_call h__law_take hr (by decide) (a_hnd 0 (a_cons (d_var 1) a_nil))) (a_cons d_int (a_cons (d_call h__law_take hr (by decide) (a_hnd 0 (a_cons (d_var 1) a_nil))) (a_cons d_int (a_cons (d_call h__law_take hr (by decide) (a_hnd 0 (a_cons (d_var 1) a_nil))) a_nil)))))))) (d_call h__law_take hr (by decide) (a_hnd 0 (a_cons d_int a_nil)))))
 (s_cons (s_set 3 sc__law_pair.nd (d_ix (d_b (d_fz (l_lst (a_cons (d_call h__law_take hr (by decide) (a_hnd 0 (a_cons (d_var 1) a_nil))) (a_cons (d_call h__law_take hr (by decide) (a_hnd 0 (a_cons (d_var 1) a_nil))) (a_cons d_int (a_cons (d_call h__law_take hr (by decide) (a_hnd 0 (a_cons (d_var 1) a_nil))) a_nil))))))) (d_call h__law_take hr (by decide) (a_hnd 0 (a_cons d_int a_nil)))))
 (s_one (s_ret (d_tup (a_cons (d_var 2) (a_cons (d_var 3) a_nil)))))))) mf__law_pair
/-! ### _law_curve -/
abbrev s__law_curve : Stmt := topS 32
theorem sc__law_curve : FnScope ["pool", "most", "p", "k", "a", "b"] ["pool", "most"] (defScope s__law_curve) := ⟨rfl, rfl, rfl, by decide +kernel, rfl, by decide +kernel, by decide +kernel⟩
def M__law_curve : WM := fun as Q => ∃ m : Int, as = [.hnd, .v (.int m)] ∧ 5 < m ∧ m < 150000 ∧ ∀ p a b : Int, MB.PrimeI p → 5 ≤ p → p < m + 600 → 0 ≤ a → a < p → 0 ≤ b → b < p → (4 * a * a * a + 27 * b * b) % p ≠ 0 → Q (.v (.tuple [.int p, .int a, .int b]))

def w__law_curve : WS := (wSeq (wSet 2 (wCallP 2 M__law_prime (wConsH 0 (wCons (wVar 1) wNil))))
 (wSeq (wFor (iR1 (wC (.int 60))) (gN 3)
 (wSeq (wAsg (wCallP 2 M__law_pair (wConsH 0 (wCons (wVar 2) wNil))) (gT 2 (gsCons (gN 4) (gsCons (gN 5) gsNil))))
 (wIf (wTest (wBin fNe (wCallP 2 M__law_mod (wCons (wBin fAdd (wBin fMul (wBin fMul (wBin fMul (wC (.int 4)) (wVar 4)) (wVar 4)) (wVar 4)) (wBin fMul (wBin fMul (wC (.int 27)) (wVar 5)) (wVar 5))) (wCons (wVar 2) wNil))) (wC (.int 0))))
 (wRet (wTupP (wCons (wVar 2) (wCons (wVar 4) (wCons (wVar 5) wNil)))))
 wNx)))
 (wRet (wTupP (wCons (wVar 2) (wCons (wC (.int 0)) (wCons (wC (.int 1)) wNil)))))))
theorem no27 {p : Int} (hp : MB.PrimeI p) (p5 : 5 ≤ p) : (27 : Int) % p ≠ 0 := fun z => by
  obtain ⟨k, hk⟩ := Int.dvd_of_emod_eq_zero z
  have k0 : 0 < k := by
    apply Int.not_le.mp
    intro h
    have := Int.mul_nonpos_of_nonneg_of_nonpos (a := p) (b := k) (by omega) h
    omega
  have k5 : k ≤ 5 := by
    apply Int.not_lt.mp
    intro h
    have := Int.mul_le_mul_of_nonneg_right p5 (by omega : 0 ≤ k)
    omega
  have : k = 1 ∨ k = 2 ∨ k = 3 ∨ k = 4 ∨ k = 5 := by omega
  rcases this with rfl | rfl | rfl | rfl | rfl
  · exact hp.2 3 (by decide) (by omega) (by omega)
  · omega
  · exact hp.2 3 (by decide) (by omega) (by omega)
  · omega
  · omega
theorem mf__law_curve : ∀ as Q, as.length = 2 → M__law_curve as Q → w__law_curve { nx := fun _ => Q (.v .none), rt := Q } (stE as 4) := by
  rintro as Q _ ⟨m, rfl, m0, m1, hq⟩
  refine ⟨rfl, rfl, m, rfl, m0, m1, fun p hp p5 pm => ?_⟩
  have cm : ∀ a : Int, 0 ≤ a → a < p → ∀ z, CMul z a := fun a h0 h1 z => .inr ⟨by omega, by omega⟩
  refine ⟨⟨by decide, by decide⟩, fun k env => ∃ t3 t4 t5, env = [some .hnd, some (.v (.int m)), some (.v (.int p)), t3, t4, t5], ⟨none, none, none, rfl⟩, ?_, ?_⟩
  · rintro i d env hd ⟨t3, t4, t5, rfl⟩
    refine ⟨rfl, rfl, p, rfl, by omega, by omega, fun a b a0 a1 b0 b1 => ⟨rfl, rfl, ?_⟩⟩
    refine ⟨cm a a0 a1 _, cm a a0 a1 _, cm a a0 a1 _, cm b b0 b1 _, cm b b0 b1 _, rfl, rfl, _, p, rfl, by omega, fun h => ?_, fun h => ⟨_, _, _, rfl⟩⟩
    have h' : (!decide ((4 * a * a * a + 27 * b * b) % p = 0)) = true := h
    rw [Bool.not_eq_true', decide_eq_false_iff_not] at h'
    exact ⟨rfl, lk rfl, hq p a b hp p5 pm a0 a1 b0 b1 h'⟩
  · rintro env ⟨t3, t4, t5, rfl⟩
    exact ⟨rfl, lk rfl, hq p 0 1 hp p5 pm (by omega) (by omega) (by omega) (by omega) (no27 hp p5)⟩

theorem ok__law_curve {f : Addr} {fd : FuncData} (F : Fun K "_law_curve" "_law_curve" s__law_curve f fd) (h__law_prime : Has P w K mg base okH 3 "_law_prime" 2 M__law_prime) (h__law_pair : Has P w K mg base okH 3 "_law_pair" 2 M__law_pair) (h__law_mod : Has P w K mg base okH 1 "_law_mod" 2 M__law_mod) (m_range : mg "range" = none)    : FnOk P w K mg base CX0 4 f fd ["pool", "most"] (SpD K okH 2 M__law_curve) :=
  def_ok F sc__law_curve rfl (fun cdv A outer s H E hr =>
 (s_cons (s_set 2 sc__law_curve.nd (d_call h__law_prime hr (by decide) (a_hnd 0 (a_cons (d_var 1) a_nil))))
 (s_cons (s_for (vs := [3]) PassesOwn.never rfl (i_r1 m_range d_int) (g_name 3 sc__law_curve.nd)
 (s_cons (s_asg (vs := [4, 5]) (d_call h__law_pair hr (by decide) (a_hnd 0 (a_cons (d_var 2) a_nil))) (g_tupN (g_cons (g_name 4 sc__law_curve.nd) (g_cons (g_name 5 sc__law_curve.nd) g_nil))))
 (s_one (s_if (t_ne hr (d_call h__law_mod hr (by decide) (a_cons (d_add (d_mul (d_mul (d_mul d_int (d_var 4)) (d_var 4)) (d_var 4)) (d_mul (d_mul d_int (d_var 5)) (d_var 5))) (a_cons (d_var 2) a_nil))) d_int)
 (s_one (s_ret (d_tup (a_cons (d_var 2) (a_cons (d_var 4) (a_cons (d_var 5) a_nil))))))
 s_nil))))
 (s_one (s_ret (d_tup (a_cons (d_var 2) (a_cons d_int (a_cons d_int a_nil))))))))) mf__law_curve
/-! ### _law_side -/
abbrev s__law_side : Stmt := topS 33
theorem sc__law_side : FnScope ["curve", "x"] ["curve", "x"] (defScope s__law_side) := ⟨rfl, rfl, rfl, by decide +kernel, rfl, by decide +kernel, by decide +kernel⟩
def M__law_side : WM := fun as Q => ∃ p a b x : Int, as = [.v (.tuple [.int p, .int a, .int b]), .v (.int x)] ∧ 0 < p ∧ 0 ≤ x ∧ x < 2 ^ 62 ∧ Q (.v (.int (MC.side p a b x)))

def w__law_side : WS := (wRet (wCallP 2 M__law_mod (wCons (wBin fAdd (wBin fAdd (wBin fMul (wBin fMul (wVar 1) (wVar 1)) (wVar 1)) (wBin fMul (wIx (wVar 0) (wC (.int 1))) (wVar 1))) (wIx (wVar 0) (wC (.int 2)))) (wCons (wIx (wVar 0) (wC (.int 0))) wNil))))
theorem mf__law_side : ∀ as Q, as.length = 2 → M__law_side as Q → w__law_side { nx := fun _ => Q (.v .none), rt := Q } (stE as 0) := by
  rintro as Q _ ⟨p, a, b, x, rfl, p0, x0, x1, hq⟩
  have cx : ∀ z, CMul z x := fun z => .inr ⟨by omega, by omega⟩
  exact ⟨cx _, cx _, _, rfl, cx _, _, rfl, _, rfl, rfl, rfl, _, p, rfl, p0, hq⟩

theorem ok__law_side {f : Addr} {fd : FuncData} (F : Fun K "_law_side" "_law_side" s__law_side f fd) (h__law_mod : Has P w K mg base okH 1 "_law_mod" 2 M__law_mod)     : FnOk P w K mg base CX0 2 f fd ["curve", "x"] (SpD K okH 2 M__law_side) :=
  def_ok F sc__law_side rfl (fun cdv A outer s H E hr =>
 (s_one (s_ret (d_call h__law_mod hr (by decide) (a_cons (d_add (d_add (d_mul (d_mul (d_var 1) (d_var 1)) (d_var 1)) (d_mul (d_ix (d_b (d_var 0)) d_int) (d_var 1))) (d_ix (d_b (d_var 0)) d_int)) (a_cons (d_ix (d_b (d_var 0)) d_int) a_nil)))))) mf__law_side
/-! ### _law_points -/
abbrev s__law_points : Stmt := topS 34
theorem sc__law_points : FnScope ["curve", "p", "roots", "y", "square", "found", "x"] ["curve"] (defScope s__law_points) := ⟨rfl, rfl, rfl, by decide +kernel, rfl, by decide +kernel, by decide +kernel⟩
def M__law_points : WM := fun as Q => ∃ p a b : Int, as = [.v (.tuple [.int p, .int a, .int b])] ∧ 0 < p ∧ p < 900 ∧ Q (.v (.list ((MC.ptsK p a b p.toNat).map MC.dpt)))

def w__law_points : WS := (wSeq (wSet 1 (wIx (wVar 0) (wC (.int 0))))
 (wSeq (wSetD 2)
 (wSeq (wFor (iR1 (wVar 1)) (gN 3)
 (wSeq (wSet 4 (wCallP 2 M__law_mod (wCons (wBin fMul (wVar 3) (wVar 3)) (wCons (wVar 1) wNil))))
 (wDPut 2 (wVar 4) (wFz (wCat (wDGet2 2 (wVar 4) (wFz (wLstP wNil))) (wFz (wLstP (wCons (wVar 3) wNil))))))))
 (wSeq (wSet 5 (wFz (wLstP (wCons (wC .none) wNil))))
 (wSeq (wFor (iR1 (wVar 1)) (gN 6)
 (wSet 5 (wFz (wCat (wVar 5) (wFz (wLc (iS (wDGet2 2 (wCallP 2 M__law_side (wCons (wVar 0) (wCons (wVar 6) wNil))) (wFz (wLstP wNil)))) (gN 3) wYes (wTupP (wCons (wVar 6) (wCons (wVar 3) wNil))) [3]))))))
 (wRet (wVar 5)))))))
theorem mf__law_points : ∀ as Q, as.length = 1 → M__law_points as Q → w__law_points { nx := fun _ => Q (.v .none), rt := Q } (stE as 6) := by
  rintro as Q _ ⟨p, a, b, rfl, p0, p1, hq⟩
  refine ⟨_, rfl, ⟨by omega, by omega⟩, fun k env => ∃ (kvs : List (Key × D)) (t3 t4 : Option Sl), env = [some (.v (.tuple [.int p, .int a, .int b])), some (.v (.int p)), some (.dct kvs), t3, t4, none, none] ∧ Val t3 ∧ kvs.length ≤ k ∧ ∀ s : Int, (dAt kvs (.inl s)).getD (.list []) = .list (dints (MC.rootsK p k s)), ⟨[], none, none, rfl, .inl rfl, Nat.le_refl _, fun s => rfl⟩, ?_, ?_⟩
  · rintro k d env hd ⟨kvs, t3, t4, rfl, h3, hl, hr⟩
    obtain ⟨hk, rfl⟩ := rng_at hd
    obtain ⟨y, hy⟩ : ∃ y : Int, y = 0 + (k : Int) := ⟨_, rfl⟩
    have rl := MC.rootsK_len (p := p) k (y * y % p)
    rw [← hy]
    refine ⟨.inl ⟨by omega, by omega⟩, rfl, rfl, _, p, rfl, p0, rfl, lk rfl, .inl (y * y % p), _, rfl, hr _, rfl, lk rfl, by rw [dints_len]; show _ + 1 < _; omega, _, rfl, by omega, ?_⟩
    refine ⟨dSet kvs (.inl (y * y % p)) (.list (dints (MC.rootsK p k (y * y % p)) ++ [.int y])), some (.v (.int y)), some (.v (.int (y * y % p))), rfl, .inr ⟨_, rfl⟩, by have := dSet_len kvs (.inl (y * y % p)) (.list (dints (MC.rootsK p k (y * y % p)) ++ [.int y])); omega, fun s => ?_⟩
    rw [dAt_set, MC.rootsK_succ]
    have ey : y = (k : Int) := by omega
    rw [← ey]
    by_cases hs : y * y % p = s
    · rw [if_pos hs, hs, if_pos rfl, dints_snoc]
      rfl
    · rw [if_neg hs, if_neg fun z => hs (by injection z with z; exact z.symm)]
      exact hr s
  rintro env ⟨kvs, t3, t4, rfl, h3, hl, hr⟩
  rw [rng_len] at hl hr
  refine ⟨rfl, lk rfl, ⟨by omega, by omega⟩, fun k env => ∃ (t6 : Option Sl), env = [some (.v (.tuple [.int p, .int a, .int b])), some (.v (.int p)), some (.dct kvs), t3, t4, some (.v (.list ((MC.ptsK p a b k).map MC.dpt))), t6] ∧ (MC.ptsK p a b k).length ≤ 1 + 900 * k, ⟨none, rfl, Nat.le_refl _⟩, ?_, ?_⟩
  · rintro k d env hd ⟨t6, rfl, hl'⟩
    obtain ⟨hk, rfl⟩ := rng_at hd
    obtain ⟨x, hx⟩ : ∃ x : Int, x = 0 + (k : Int) := ⟨_, rfl⟩
    have ex : x = (k : Int) := by omega
    rw [← hx]
    have rl := MC.rootsK_len (p := p) p.toNat (MC.side p a b x)
    refine ⟨rfl, rfl, p, a, b, x, rfl, p0, by omega, by omega, rfl, lk rfl, .inl (MC.side p a b x), _, rfl, hr _, by rw [dints_len]; omega, ⟨valN h3, trivial⟩, fun j acc => acc = ((MC.rootsK p p.toNat (MC.side p a b x)).take j).map fun y => MC.dpt (some (x, y)), rfl, fun j d acc hd ha => ?_, fun acc ha => ?_⟩
    · obtain ⟨y, hy, rfl⟩ := dints_at hd
      refine wtrue ⟨rfl, lk rfl, ?_⟩
      show acc ++ [MC.dpt (some (x, y))] = _
      rw [ha, List.take_add_one, hy, List.map_append]
      rfl
    · rw [dints_len, List.take_length] at ha
      subst ha
      refine ⟨by rw [List.length_map, List.length_map]; omega, some (.v (.int x)), ?_, ?_⟩
      · rw [MC.ptsK_succ, List.map_append, List.map_map, ← ex]
        rfl
      · rw [MC.ptsK_succ, List.length_append, List.length_map, ← ex]
        omega
  · rintro env ⟨t6, rfl, hl'⟩
    rw [rng_len]
    exact hq

theorem ok__law_points {f : Addr} {fd : FuncData} (F : Fun K "_law_points" "_law_points" s__law_points f fd) (h__law_mod : Has P w K mg base okH 1 "_law_mod" 2 M__law_mod) (h__law_side : Has P w K mg base okH 2 "_law_side" 2 M__law_side) (m_range : mg "range" = none)    : FnOk P w K mg base CX0 3 f fd ["curve"] (SpD K okH 1 M__law_points) :=
  def_ok F sc__law_points rfl (fun cdv A outer s H E hr =>
 (s_cons (s_set 1 sc__law_points.nd (d_ix (d_b (d_var 0)) d_int))
 (s_cons (s_setD 2 sc__law_points.nd)
 (s_cons (s_for (vs := [3]) PassesOwn.never rfl (i_r1 m_range (d_var 1)) (g_name 3 sc__law_points.nd)
 (s_cons (s_set 4 sc__law_points.nd (d_call h__law_mod hr (by decide) (a_cons (d_mul (d_var 3) (d_var 3)) (a_cons (d_var 1) a_nil))))
 (s_one (s_dput 2 hr (d_fz (l_cat (d_b (d_dget2 2 hr (d_var 4) (d_fz (l_lst a_nil)))) (d_b (d_fz (l_lst (a_cons (d_var 3) a_nil)))))) (d_var 4)))))
 (s_cons (s_set 5 sc__law_points.nd (d_fz (l_lst (a_cons d_non a_nil))))
 (s_cons (s_for (vs := [6]) PassesOwn.never rfl (i_r1 m_range (d_var 1)) (g_name 6 sc__law_points.nd)
 (s_one (s_set 5 sc__law_points.nd (d_fz (l_cat (d_b (d_var 5)) (d_b (d_fz (l_lc (own := [("y", 3)]) rfl sc__law_points.nd (i_seq (d_dget2 2 hr (d_call h__law_side hr (by decide) (a_cons (d_var 0) (a_cons (d_var 6) a_nil))) (d_fz (l_lst a_nil)))) (blkOk_by (N := ["curve", "p", "roots", "y", "square", "found", "x"]) (sc := defScope s__law_points) (by decide +kernel)) ⟨(gName 3), fun _ _ _ _ _ => (pg_name (i := 3) sc__law_points.nd rfl (Or.inl rfl)), (sg_name (i := 3) (by decide))⟩ ⟨tYes, fun _ _ _ _ _ => pts_nil, st_yes⟩ ⟨(tTup (tCons (tVar 6) (tCons (tVar 3) tNil))), fun _ _ _ _ _ => (pe_tup (pa_cons (pv 6) (pa_cons (pv 3) pa_nil))), (snd_tup (snd_cons snd_var (snd_cons snd_var snd_nil)))⟩))))))))
 (s_one (s_ret (d_var 5))))))))) mf__law_points
/-! ### _law_inverse -/
abbrev s__law_inverse : Stmt := topS 35
theorem sc__law_inverse : FnScope ["p", "x", "rows", "often"] ["p", "x"] (defScope s__law_inverse) := ⟨rfl, rfl, rfl, by decide +kernel, rfl, by decide +kernel, by decide +kernel⟩
def M__law_inverse : WM := fun as Q => ∃ n v : Int, as = [.v (.int n), .v (.int v)] ∧ 0 < n ∧ n < 2 ^ 62 ∧ ∀ t : Int, 0 ≤ t → t < n → n ∣ t * v - (Int.gcd n v : Nat) → Q (.v (.int t))

def w__law_inverse : WS := (wSeq (wSet 2 (wFz (wLstP (wCons (wFz (wLstP (wCons (wVar 0) (wCons (wC (.int 0)) wNil)))) (wCons (wFz (wLstP (wCons (wCallP 2 M__law_mod (wCons (wVar 1) (wCons (wVar 0) wNil))) (wCons (wC (.int 1)) wNil)))) wNil)))))
 (wSeq (wWhile (wTest (wBin fGt (wIx (wIx (wVar 2) (wC (.int 1))) (wC (.int 0))) (wC (.int 0))))
 (wSeq (wSet 3 (wBin fDiv (wIx (wIx (wVar 2) (wC (.int 0))) (wC (.int 0))) (wIx (wIx (wVar 2) (wC (.int 1))) (wC (.int 0)))))
 (wSet 2 (wFz (wLstP (wCons (wIx (wVar 2) (wC (.int 1))) (wCons (wFz (wLstP (wCons (wBin fSub (wIx (wIx (wVar 2) (wC (.int 0))) (wC (.int 0))) (wBin fMul (wVar 3) (wIx (wIx (wVar 2) (wC (.int 1))) (wC (.int 0))))) (wCons (wBin fSub (wIx (wIx (wVar 2) (wC (.int 0))) (wC (.int 1))) (wBin fMul (wVar 3) (wIx (wIx (wVar 2) (wC (.int 1))) (wC (.int 1))))) wNil)))) wNil)))))))
 (wRet (wCallP 2 M__law_mod (wCons (wIx (wIx (wVar 2) (wC (.int 0))) (wC (.int 1))) (wCons (wVar 0) wNil))))))
theorem mf__law_inverse : ∀ as Q, as.length = 2 → M__law_inverse as Q → w__law_inverse { nx := fun _ => Q (.v .none), rt := Q } (stE as 2) := by
  rintro as Q _ ⟨n, v, rfl, n0, n1, hq⟩
  let I : Nat → EnvD → Prop := fun k env => ∃ a b s t u, env = [some (.v (.int n)), some (.v (.int v)), some (.v (.list [.list [.int a, .int s], .list [.int b, .int t]])), u] ∧ 0 < a ∧ a ≤ n ∧ 0 ≤ b ∧ b ≤ n ∧ n ∣ s * v - a ∧ n ∣ t * v - b ∧ Int.gcd a b = Int.gcd n v ∧ k = b.toNat
  have v0 : 0 ≤ v % n := Int.emod_nonneg _ (by omega)
  refine ⟨rfl, lk rfl, rfl, rfl, v, n, rfl, n0, rfl, lk rfl, rfl, lk rfl, I, ⟨(v % n).toNat, n, v % n, 0, 1, none, rfl, n0, Int.le_refl _, v0, Int.le_of_lt (Int.emod_lt_of_pos _ n0), ?_, ?_, ?_, rfl⟩, fun k env hI => ?_⟩
  · rw [Int.zero_mul, Int.zero_sub]; exact Int.dvd_neg.mpr (Int.dvd_refl _)
  · rw [Int.one_mul]; exact Int.dvd_self_sub_emod
  · exact MB.gcd_mod n v
  obtain ⟨a, b, s, t, u, rfl, a0, a1, b0, ba, hs, ht, hg, rfl⟩ := hI
  refine ⟨_, rfl, _, rfl, fun h => ?_, fun h => ?_⟩
  · have bp : 0 < b := of_decide_eq_true h
    have t0 : 0 ≤ a / b := Int.ediv_nonneg (by omega) b0
    have t1 : a / b ≤ a := Int.ediv_le_self _ (by omega)
    have cm : ∀ z : Int, CMul (a / b) z := fun z => .inl ⟨by omega, by omega⟩
    have e : a - a / b * b = a % b := by
      have := Int.emod_def a b
      rw [Int.mul_comm b] at this
      omega
    have m0 : 0 ≤ a % b := Int.emod_nonneg _ (by omega)
    have m1 : a % b < b := Int.emod_lt_of_pos _ bp
    refine ⟨fun e => ∃ m', m' < b.toNat ∧ I m' e, fun _ z => z, _, rfl, _, rfl, _, rfl, _, rfl, div200 bp (by omega) _, ?_⟩
    refine ⟨_, rfl, _, rfl, _, rfl, _, rfl, _, rfl, cm _, _, rfl, _, rfl, _, rfl, _, rfl, cm _, rfl, lk rfl, rfl, lk rfl, ?_⟩
    refine ⟨(a % b).toNat, by omega, b, a % b, t, s - a / b * t, _, by rw [← e]; rfl, bp, ba, m0, by omega, ht, ?_, ?_, rfl⟩
    · obtain ⟨c1, hc1⟩ := hs
      obtain ⟨c2, hc2⟩ := ht
      refine ⟨c1 - a / b * c2, ?_⟩
      rw [← e]
      have : (s - a / b * t) * v - (a - a / b * b) = (s * v - a) - a / b * (t * v - b) := by grind
      rw [this, hc1, hc2]
      grind
    · rw [← hg]
      exact MB.gcd_mod_r a b
  · have bp : ¬ 0 < b := of_decide_eq_false h
    have b00 : b = 0 := by omega
    subst b00
    have ea : a = (Int.gcd n v : Nat) := by
      rw [← hg, Int.gcd_zero_right]
      omega
    refine ⟨_, rfl, _, rfl, rfl, rfl, s, n, rfl, n0, hq _ (Int.emod_nonneg _ (by omega)) (Int.emod_lt_of_pos _ n0) ?_⟩
    rw [← ea]
    have h1 : n ∣ s - s % n := Int.dvd_self_sub_emod
    obtain ⟨c1, hc1⟩ := h1
    obtain ⟨c2, hc2⟩ := hs
    refine ⟨c2 - c1 * v, ?_⟩
    have : s % n * v - a = (s * v - a) - (s - s % n) * v := by grind
    rw [this, hc1, hc2]
    grind

theorem ok__law_inverse {f : Addr} {fd : FuncData} (F : Fun K "_law_inverse" "_law_inverse" s__law_inverse f fd) (h__law_mod : Has P w K mg base okH 1 "_law_mod" 2 M__law_mod)     : FnOk P w K mg base CX0 2 f fd ["p", "x"] (SpD K okH 2 M__law_inverse) :=
  def_ok F sc__law_inverse rfl (fun cdv A outer s H E hr =>
 (s_cons (s_set 2 sc__law_inverse.nd (d_fz (l_lst (a_cons (d_fz (l_lst (a_cons (d_var 0) (a_cons d_int a_nil)))) (a_cons (d_fz (l_lst (a_cons (d_call h__law_mod hr (by decide) (a_cons (d_var 1) (a_cons (d_var 0) a_nil))) (a_cons d_int a_nil)))) a_nil)))))
 (s_cons (s_while PassesOwn.never (t_gt (d_ix (d_b (d_ix (d_b (d_var 2)) d_int)) d_int) d_int)
 (s_cons (s_set 3 sc__law_inverse.nd (d_div (d_ix (d_b (d_ix (d_b (d_var 2)) d_int)) d_int) (d_ix (d_b (d_ix (d_b (d_var 2)) d_int)) d_int)))
 (s_one (s_set 2 sc__law_inverse.nd (d_fz (l_lst (a_cons (d_ix (d_b (d_var 2)) d_int) (a_cons (d_fz (l_lst (a_cons (d_sub (d_ix (d_b (d_ix (d_b (d_var 2)) d_int)) d_int) (d_mul (d_var 3) (d_ix (d_b (d_ix (d_b (d_var 2)) d_int)) d_int))) (a_cons (d_sub (d_ix (d_b (d_ix (d_b (d_var 2)) d_int)) d_int) (d_mul (d_var 3) (d_ix (d_b (d_ix (d_b (d_var 2)) d_int)) d_int))) a_nil)))) a_nil))))))))
 (s_one (s_ret (d_call h__law_mod hr (by decide) (a_cons (d_ix (d_b (d_ix (d_b (d_var 2)) d_int)) d_int) (a_cons (d_var 0) a_nil)))))))) mf__law_inverse
/-! ### _law_sum -/
abbrev s__law_sum : Stmt := topS 36
theorem sc__law_sum : FnScope ["curve", "one", "two", "p", "m", "x"] ["curve", "one", "two"] (defScope s__law_sum) := ⟨rfl, rfl, rfl, by decide +kernel, rfl, by decide +kernel, by decide +kernel⟩
def M__law_sum : WM := fun as Q => ∃ (p a b : Int) (P R : MC.Pt), as = [.v (.tuple [.int p, .int a, .int b]), .v (MC.dpt P), .v (MC.dpt R)] ∧ MC.Cu p a b ∧ p < 2 ^ 20 ∧ MC.On p a b P ∧ MC.On p a b R ∧ Q (.v (MC.dpt (MC.addP p a P R)))

def w__law_sum : WS := (wSeq (wSet 3 (wIx (wVar 0) (wC (.int 0))))
 (wSeq (wIf (wTest (wIsN (wVar 1)))
 (wRet (wVar 2))
 wNx)
 (wSeq (wIf (wTest (wIsN (wVar 2)))
 (wRet (wVar 1))
 wNx)
 (wSeq (wIf (wAndD (wTest (wBin fEq (wIx (wVar 1) (wC (.int 0))) (wIx (wVar 2) (wC (.int 0))))) (wTest (wBin fEq (wCallP 2 M__law_mod (wCons (wBin fAdd (wIx (wVar 1) (wC (.int 1))) (wIx (wVar 2) (wC (.int 1)))) (wCons (wVar 3) wNil))) (wC (.int 0)))))
 (wRet (wC .none))
 wNx)
 (wSeq (wIf (wTest (wBin fEq (wIx (wVar 1) (wC (.int 0))) (wIx (wVar 2) (wC (.int 0)))))
 (wSet 4 (wBin fMul (wBin fAdd (wBin fMul (wBin fMul (wC (.int 3)) (wIx (wVar 1) (wC (.int 0)))) (wIx (wVar 1) (wC (.int 0)))) (wIx (wVar 0) (wC (.int 1)))) (wCallP 2 M__law_inverse (wCons (wVar 3) (wCons (wBin fMul (wC (.int 2)) (wIx (wVar 1) (wC (.int 1)))) wNil)))))
 (wSet 4 (wBin fMul (wBin fSub (wIx (wVar 2) (wC (.int 1))) (wIx (wVar 1) (wC (.int 1)))) (wCallP 2 M__law_inverse (wCons (wVar 3) (wCons (wBin fSub (wIx (wVar 2) (wC (.int 0))) (wIx (wVar 1) (wC (.int 0)))) wNil))))))
 (wSeq (wSet 5 (wCallP 2 M__law_mod (wCons (wBin fSub (wBin fSub (wBin fMul (wVar 4) (wVar 4)) (wIx (wVar 1) (wC (.int 0)))) (wIx (wVar 2) (wC (.int 0)))) (wCons (wVar 3) wNil))))
 (wRet (wTupP (wCons (wVar 5) (wCons (wCallP 2 M__law_mod (wCons (wBin fSub (wBin fMul (wVar 4) (wBin fSub (wIx (wVar 1) (wC (.int 0))) (wVar 5))) (wIx (wVar 1) (wC (.int 1)))) (wCons (wVar 3) wNil))) wNil))))))))))
theorem law_add_mod {p a x1 y1 x2 y2 n : Int} (h : n % p = MC.slp p a x1 y1 x2 y2 % p) : MC.addM p n x1 y1 x2 = MC.addM p (MC.slp p a x1 y1 x2 y2) x1 y1 x2 := by
  have e1 : (n * n - x1 - x2) % p = (MC.slp p a x1 y1 x2 y2 * MC.slp p a x1 y1 x2 y2 - x1 - x2) % p := by
    have := MB.cong_mul h h
    rw [Int.sub_emod, Int.sub_emod (n * n), this, ← Int.sub_emod _ x1, ← Int.sub_emod _ x2]
  unfold MC.addM
  rw [e1]
  congr 1
  generalize (MC.slp p a x1 y1 x2 y2 * MC.slp p a x1 y1 x2 y2 - x1 - x2) % p = w
  have := MB.cong_mul h (rfl : (x1 - w) % p = (x1 - w) % p)
  rw [Int.sub_emod, this, ← Int.sub_emod]
theorem mf__law_sum : ∀ as Q, as.length = 3 → M__law_sum as Q → w__law_sum { nx := fun _ => Q (.v .none), rt := Q } (stE as 3) := by
  rintro as Q _ ⟨p, a, b, P, R, rfl, c, p20, h1, h2, hq⟩
  have p5 := c.p5
  have p1 := c.p1
  have p0 : 0 < p := by omega
  cases P with
  | none => exact ⟨_, rfl, wtrue hq⟩
  | some q =>
    obtain ⟨x1, y1⟩ := q
    refine ⟨_, rfl, wfalse ?_⟩
    cases R with
    | none => exact wtrue hq
    | some r =>
      obtain ⟨x2, y2⟩ := r
      refine wfalse ⟨_, rfl, _, rfl, decide ((y1 + y2) % p = 0), fun h => ⟨_, rfl, _, rfl, rfl, rfl, _, p, rfl, p0, rfl⟩, fun h => ?_, fun h => ?_⟩
      · have h' : (decide (x1 = x2) && decide ((y1 + y2) % p = 0)) = true := h
        rw [Bool.and_eq_true, decide_eq_true_iff, decide_eq_true_iff] at h'
        have e : MC.addP p a (some (x1, y1)) (some (x2, y2)) = none := if_pos h'
        rw [e] at hq
        exact hq
      have h' : (decide (x1 = x2) && decide ((y1 + y2) % p = 0)) = false := h
      have hn : ¬ (x1 = x2 ∧ (y1 + y2) % p = 0) := fun z => by
        rw [decide_eq_true z.1, decide_eq_true z.2] at h'
        cases h'
      have e : MC.addP p a (some (x1, y1)) (some (x2, y2)) = some (MC.addM p (MC.slp p a x1 y1 x2 y2) x1 y1 x2) := if_neg hn
      rw [e] at hq
      have bx : ∀ z, CMul z x1 := fun z => .inr ⟨by have := h1.1; omega, by have := h1.2.1; omega⟩
      have ib : ∀ t z : Int, 0 ≤ t → t < p → CMul z t := fun t z t0 t1 => .inr ⟨by omega, by omega⟩
      have big : ∀ n : Int, n % p = MC.slp p a x1 y1 x2 y2 % p → Q (.v (.tuple [.int (MC.addM p n x1 y1 x2).1, .int (MC.addM p n x1 y1 x2).2])) := fun n hn => by
        rw [law_add_mod hn]
        exact hq
      refine ⟨_, rfl, _, rfl, fun h => ?_, fun h => ?_⟩
      · have hx : x1 = x2 := of_decide_eq_true h
        have ey : y1 = y2 := by
          subst hx
          exact MC.same_y c.hp h1 h2 fun z => hn ⟨rfl, z⟩
        have hy : 2 * y1 % p ≠ 0 := MC.two_y c.hp fun z => hn ⟨hx, by rw [← ey]; exact z⟩
        refine ⟨_, rfl, bx _, _, rfl, bx _, _, rfl, _, rfl, .inl ⟨by decide, by decide⟩, rfl, rfl, p, _, rfl, p0, p1, fun t t0 t1 ht => ?_⟩
        have et := MC.inv_of_gcd c.hp hy t0 t1 ht
        have hb : -(2 ^ 62) ≤ (3 * x1 * x1 + a) * t ∧ (3 * x1 * x1 + a) * t ≤ 2 ^ 62 := by
          have q1 := MB.mul_bd (u := x1) (v := x1) (A := 2 ^ 20) (B := 2 ^ 20) (by have := h1.1; omega) (by have := h1.2.1; omega) h1.1 (by have := h1.2.1; omega) (by decide)
          have e3 : 3 * x1 * x1 = 3 * (x1 * x1) := by rw [Int.mul_assoc]
          have a0 := c.a0
          have a1 := c.a1
          have q2 := MB.mul_bd (u := 3 * x1 * x1 + a) (v := t) (A := 2 ^ 42) (B := 2 ^ 20) (by rw [e3]; omega) (by rw [e3]; omega) t0 (by omega) (by decide)
          omega
        refine ⟨ib t _ t0 t1, .inl ⟨by omega, by omega⟩, _, rfl, _, rfl, rfl, rfl, _, p, rfl, p0, _, rfl, .inl ⟨by omega, by omega⟩, _, rfl, rfl, rfl, _, p, rfl, p0, rfl, lk rfl, big _ ?_⟩
        unfold MC.slp
        rw [if_pos hx, et, MC.inv_mod, Int.emod_emod_of_dvd _ (Int.dvd_refl p)]
      · have hx : ¬ x1 = x2 := of_decide_eq_false h
        have hd := MC.sub_ne h1.1 h1.2.1 h2.1 h2.2.1 hx
        refine ⟨_, rfl, _, rfl, _, rfl, _, rfl, rfl, rfl, p, _, rfl, p0, p1, fun t t0 t1 ht => ?_⟩
        have et := MC.inv_of_gcd c.hp hd t0 t1 ht
        have hb : -(2 ^ 62) ≤ (y2 - y1) * t ∧ (y2 - y1) * t ≤ 2 ^ 62 := by
          have q2 := MB.mul_bd (u := y2 - y1) (v := t) (A := 2 ^ 20) (B := 2 ^ 20) (by have := h1.2.2; have := h2.2.2; omega) (by have := h1.2.2; have := h2.2.2; omega) t0 (by omega) (by decide)
          omega
        refine ⟨ib t _ t0 t1, .inl ⟨by omega, by omega⟩, _, rfl, _, rfl, rfl, rfl, _, p, rfl, p0, _, rfl, .inl ⟨by omega, by omega⟩, _, rfl, rfl, rfl, _, p, rfl, p0, rfl, lk rfl, big _ ?_⟩
        unfold MC.slp
        rw [if_neg hx, et, MC.inv_mod, Int.emod_emod_of_dvd _ (Int.dvd_refl p)]

theorem ok__law_sum {f : Addr} {fd : FuncData} (F : Fun K "_law_sum" "_law_sum" s__law_sum f fd) (h__law_mod : Has P w K mg base okH 1 "_law_mod" 2 M__law_mod) (h__law_inverse : Has P w K mg base okH 2 "_law_inverse" 2 M__law_inverse)     : FnOk P w K mg base CX0 3 f fd ["curve", "one", "two"] (SpD K okH 3 M__law_sum) :=
  def_ok F sc__law_sum rfl (fun cdv A outer s H E hr =>
 (s_cons (s_set 3 sc__law_sum.nd (d_ix (d_b (d_var 0)) d_int))
 (s_cons (s_if (t_isN (d_var 1))
 (s_one (s_ret (d_var 2)))
 s_nil)
 (s_cons (s_if (t_isN (d_var 2))
 (s_one (s_ret (d_var 1)))
 s_nil)
 (s_cons (s_if (t_w (w_and (t_eq hr (d_ix (d_b (d_var 1)) d_int) (d_ix (d_b (d_var 2)) d_int)) (w_and1 (t_eq hr (d_call h__law_mod hr (by decide) (a_cons (d_add (d_ix (d_b (d_var 1)) d_int) (d_ix (d_b (d_var 2)) d_int)) (a_cons (d_var 3) a_nil))) d_int))))
 (s_one (s_ret d_non))
 s_nil)
 (s_cons (s_if (t_eq hr (d_ix (d_b (d_var 1)) d_int) (d_ix (d_b (d_var 2)) d_int))
 (s_one (s_set 4 sc__law_sum.nd (d_mul (d_add (d_mul (d_mul d_int (d_ix (d_b (d_var 1)) d_int)) (d_ix (d_b (d_var 1)) d_int)) (d_ix (d_b (d_var 0)) d_int)) (d_call h__law_inverse hr (by decide) (a_cons (d_var 3) (a_cons (d_mul d_int (d_ix (d_b (d_var 1)) d_int)) a_nil))))))
 (s_one (s_set 4 sc__law_sum.nd (d_mul (d_sub (d_ix (d_b (d_var 2)) d_int) (d_ix (d_b (d_var 1)) d_int)) (d_call h__law_inverse hr (by decide) (a_cons (d_var 3) (a_cons (d_sub (d_ix (d_b (d_var 2)) d_int) (d_ix (d_b (d_var 1)) d_int)) a_nil)))))))
 (s_cons (s_set 5 sc__law_sum.nd (d_call h__law_mod hr (by decide) (a_cons (d_sub (d_sub (d_mul (d_var 4) (d_var 4)) (d_ix (d_b (d_var 1)) d_int)) (d_ix (d_b (d_var 2)) d_int)) (a_cons (d_var 3) a_nil))))
 (s_one (s_ret (d_tup (a_cons (d_var 5) (a_cons (d_call h__law_mod hr (by decide) (a_cons (d_sub (d_mul (d_var 4) (d_sub (d_ix (d_b (d_var 1)) d_int) (d_var 5))) (d_ix (d_b (d_var 1)) d_int)) (a_cons (d_var 3) a_nil))) a_nil)))))))))))) mf__law_sum
/-! ### _law_multiple -/
abbrev s__law_multiple : Stmt := topS 37
theorem sc__law_multiple : FnScope ["curve", "number", "point", "total", "power"] ["curve", "number", "point"] (defScope s__law_multiple) := ⟨rfl, rfl, rfl, by decide +kernel, rfl, by decide +kernel, by decide +kernel⟩
def M__law_multiple : WM := fun as Q => ∃ (p a b : Int) (n : Nat) (P : MC.Pt), as = [.v (.tuple [.int p, .int a, .int b]), .v (.int n), .v (MC.dpt P)] ∧ MC.Cu p a b ∧ MC.Ns p a b ∧ p < 2 ^ 20 ∧ MC.On p a b P ∧ n < 1000 ∧ Q (.v (MC.dpt (MC.mulP p a P n)))

def w__law_multiple : WS := (wSeq (wSet 3 (wC .none))
 (wSeq (wSet 4 (wVar 2))
 (wSeq (wWhile (wTest (wBin fGt (wVar 1) (wC (.int 0))))
 (wSeq (wIf (wTest (wBin fEq (wCallP 2 M__law_mod (wCons (wVar 1) (wCons (wC (.int 2)) wNil))) (wC (.int 1))))
 (wSet 3 (wCallP 3 M__law_sum (wCons (wVar 0) (wCons (wVar 3) (wCons (wVar 4) wNil)))))
 wNx)
 (wSeq (wSet 4 (wCallP 3 M__law_sum (wCons (wVar 0) (wCons (wVar 4) (wCons (wVar 4) wNil)))))
 (wSet 1 (wBin fDiv (wVar 1) (wC (.int 2)))))))
 (wRet (wVar 3)))))
theorem mf__law_multiple : ∀ as Q, as.length = 3 → M__law_multiple as Q → w__law_multiple { nx := fun _ => Q (.v .none), rt := Q } (stE as 2) := by
  rintro as Q _ ⟨p, a, b, n, P, rfl, c, hd, p1, hP, n1, hq⟩
  let I : Nat → EnvD → Prop := fun k env => ∃ (T R : MC.Pt) (j : Int), env = [some (.v (.tuple [.int p, .int a, .int b])), some (.v (.int j)), some (.v (MC.dpt P)), some (.v (MC.dpt T)), some (.v (MC.dpt R))] ∧ MC.On p a b T ∧ MC.On p a b R ∧ 0 ≤ j ∧ k = j.toNat ∧ MC.addP p a T (MC.mulP p a R j.toNat) = MC.mulP p a P n
  refine ⟨I, ⟨n, none, P, n, rfl, trivial, hP, by omega, rfl, rfl⟩, fun k env hI => ?_⟩
  obtain ⟨T, R, j, rfl, hT, hR, j0, rfl, e⟩ := hI
  refine ⟨fun h => ?_, fun h => ?_⟩
  · have h : 0 < j := of_decide_eq_true h
    refine ⟨fun e => ∃ m', m' < j.toNat ∧ I m' e, fun _ z => z, rfl, rfl, j, 2, rfl, by decide, fun h2 => ?_, fun h2 => ?_⟩
    · have h2 : j % 2 = 1 := of_decide_eq_true h2
      refine ⟨rfl, rfl, p, a, b, T, R, rfl, c, p1, hT, hR, rfl, rfl, p, a, b, R, R, rfl, c, p1, hR, hR, div200 (by decide) (by decide) _, ?_⟩
      refine ⟨(j / 2).toNat, by omega, _, _, j / 2, rfl, hT.add c hR, hR.add c hR, by omega, rfl, ?_⟩
      rw [← e, MC.mul_dbl c hd hR, MC.assoc c hd hT hR (hR.mul c _), ← MC.mul_succ' c hd hR]
      congr 2
      omega
    · have h2 : ¬ j % 2 = 1 := of_decide_eq_false h2
      refine onNx ⟨rfl, rfl, p, a, b, R, R, rfl, c, p1, hR, hR, div200 (by decide) (by decide) _, ?_⟩
      refine ⟨(j / 2).toNat, by omega, _, _, j / 2, rfl, hT, hR.add c hR, by omega, rfl, ?_⟩
      rw [← e, MC.mul_dbl c hd hR]
      congr 2
      omega
  · have h : ¬ 0 < j := of_decide_eq_false h
    have : j = 0 := by omega
    subst this
    have e : T = MC.mulP p a P n := (MC.add_none T).symm.trans e
    show Q (.v (MC.dpt T))
    rw [e]
    exact hq

theorem ok__law_multiple {f : Addr} {fd : FuncData} (F : Fun K "_law_multiple" "_law_multiple" s__law_multiple f fd) (h__law_mod : Has P w K mg base okH 1 "_law_mod" 2 M__law_mod) (h__law_sum : Has P w K mg base okH 3 "_law_sum" 3 M__law_sum)     : FnOk P w K mg base CX0 4 f fd ["curve", "number", "point"] (SpD K okH 3 M__law_multiple) :=
  def_ok F sc__law_multiple rfl (fun cdv A outer s H E hr =>
 (s_cons (s_set 3 sc__law_multiple.nd d_non)
 (s_cons (s_set 4 sc__law_multiple.nd (d_var 2))
 (s_cons (s_while PassesOwn.never (t_gt (d_var 1) d_int)
 (s_cons (s_if (t_eq hr (d_call h__law_mod hr (by decide) (a_cons (d_var 1) (a_cons d_int a_nil))) d_int)
 (s_one (s_set 3 sc__law_multiple.nd (d_call h__law_sum hr (by decide) (a_cons (d_var 0) (a_cons (d_var 3) (a_cons (d_var 4) a_nil))))))
 s_nil)
 (s_cons (s_set 4 sc__law_multiple.nd (d_call h__law_sum hr (by decide) (a_cons (d_var 0) (a_cons (d_var 4) (a_cons (d_var 4) a_nil)))))
 (s_one (s_set 1 sc__law_multiple.nd (d_div (d_var 1) d_int))))))
 (s_one (s_ret (d_var 3))))))) mf__law_multiple
/-! ### _law_value -/
abbrev s__law_value : Stmt := topS 38
theorem sc__law_value : FnScope ["p", "f", "x", "total", "number"] ["p", "f", "x"] (defScope s__law_value) := ⟨rfl, rfl, rfl, by decide +kernel, rfl, by decide +kernel, by decide +kernel⟩
def M__law_value : WM := fun as Q => ∃ (p : Int) (f : List Int) (x : Int), as = [.v (.int p), .v (.tuple (dints f)), .v (.int x)] ∧ 0 < p ∧ p < 2 ^ 62 ∧ (0 ≤ x ∧ x < p) ∧ f.length < 1000 ∧ ∀ v : Int, 0 ≤ v → v < p → MS.C p v = MS.ev (MS.C p x) f → Q (.v (.int v))

def w__law_value : WS := (wSeq (wSet 3 (wC (.int 0)))
 (wSeq (wFor (iS (wFz (wLstRevT (wVar 1)))) (gN 4)
 (wSet 3 (wCallP 2 M__law_mod (wCons (wBin fAdd (wBin fMul (wVar 3) (wVar 2)) (wVar 4)) (wCons (wVar 0) wNil)))))
 (wRet (wVar 3))))
theorem mf__law_value : ∀ as Q, as.length = 3 → M__law_value as Q → w__law_value { nx := fun _ => Q (.v .none), rt := Q } (stE as 2) := by
  rintro as Q _ ⟨p, f, x, rfl, p0, p1, hx, lf, hq⟩
  refine ⟨fun k env => ∃ (v : Int) (t : Option Sl), env = [some (.v (.int p)), some (.v (.tuple (dints f))), some (.v (.int x)), some (.v (.int v)), t] ∧ (0 ≤ v ∧ v < p) ∧ MS.C p v = MS.ev (MS.C p x) (f.drop (f.length - k)), ⟨0, none, rfl, ⟨Int.le_refl _, p0⟩, ?_⟩, ?_, ?_⟩
  · rw [Nat.sub_zero, List.drop_length]
    rfl
  · rintro k d env hd ⟨v, t, rfl, hv, e⟩
    obtain ⟨c, rfl, hk, hdrop⟩ := rev_drop hd
    refine ⟨.inr ⟨by omega, by omega⟩, rfl, rfl, v * x + c, p, rfl, p0, _, some (.v (.int c)), rfl, ⟨Int.emod_nonneg _ (by omega), Int.emod_lt_of_pos _ p0⟩, ?_⟩
    rw [hdrop, MS.C_emod, MS.C_add, MS.C_mul, e]
    show _ = MS.C p c + MS.C p x * _
    grind
  · rintro env ⟨v, t, rfl, hv, e⟩
    rw [List.length_reverse, dints_len, Nat.sub_self, List.drop_zero] at e
    exact hq v hv.1 hv.2 e

theorem ok__law_value {f : Addr} {fd : FuncData} (F : Fun K "_law_value" "_law_value" s__law_value f fd) (h__law_mod : Has P w K mg base okH 1 "_law_mod" 2 M__law_mod) (m_list : mg "list" = none) (m_reversed : mg "reversed" = none)    : FnOk P w K mg base CX0 2 f fd ["p", "f", "x"] (SpD K okH 3 M__law_value) :=
  def_ok F sc__law_value rfl (fun cdv A outer s H E hr =>
 (s_cons (s_set 3 sc__law_value.nd d_int)
 (s_cons (s_for (vs := [4]) PassesOwn.never rfl (i_seq (d_fz (l_lstRevT rfl m_list m_reversed (d_var 1)))) (g_name 4 sc__law_value.nd)
 (s_one (s_set 3 sc__law_value.nd (d_call h__law_mod hr (by decide) (a_cons (d_add (d_mul (d_var 3) (d_var 2)) (d_var 4)) (a_cons (d_var 0) a_nil))))))
 (s_one (s_ret (d_var 3)))))) mf__law_value
/-! ### law -/
abbrev s_law : Stmt := topS 39
theorem sc_law : FnScope ["script", "pool", "curve", "found", "k", "point", "j", "n", "due", "zero", "even"] ["script"] (defScope s_law) := ⟨rfl, rfl, rfl, by decide +kernel, rfl, by decide +kernel, by decide +kernel⟩

def w_law_L19 : WS := (wIf (wAndD (wTest (wNotN (wVar 8))) (wTest (wBin fNe (wCallP 3 M_first_of_multiple (wCons (wVar 2) (wCons (wVar 7) (wCons (wVar 5) wNil)))) (wIx (wVar 8) (wC (.int 0))))))
 (wRet (wC (.bool false)))
 wNx)
def w_law_L17 : WS := (wSeq (wIf (wAndD (wTest (wIsN (wVar 8))) (wTest (wNotN (wCallP 3 M_first_of_multiple (wCons (wVar 2) (wCons (wVar 7) (wCons (wVar 5) wNil)))))))
 (wRet (wC (.bool false)))
 wNx)
 w_law_L19)
def w_law_L13 : WS := (wSeq (wSet 9 (wBin fEq (wCallP 3 M__law_value (wCons (wIx (wVar 2) (wC (.int 0))) (wCons (wCallP 2 M_division_polynomial (wCons (wVar 2) (wCons (wVar 7) wNil))) (wCons (wIx (wVar 5) (wC (.int 0))) wNil)))) (wC (.int 0))))
 (wSeq (wSet 10 (wBin fEq (wVar 7) (wBin fMul (wC (.int 2)) (wBin fDiv (wVar 7) (wC (.int 2))))))
 (wSeq (wIf (wTest (wBin fNe (wBl (wOrD (wTest (wVar 9)) (wTest (wBl (wAndD (wTest (wVar 10)) (wTest (wBin fEq (wIx (wVar 5) (wC (.int 1))) (wC (.int 0))))))))) (wIsN (wVar 8))))
 (wRet (wC (.bool false)))
 wNx)
 w_law_L17)))
def w_law_L11 : WS := (wSeq (wIf (wTest (wIsN (wVar 5)))
 wCt
 wNx)
 w_law_L13)
def w_law_L8 : WS := (wSeq (wSet 8 (wCallP 3 M__law_multiple (wCons (wVar 2) (wCons (wVar 7) (wCons (wVar 5) wNil)))))
 (wSeq (wIf (wTest (wBin fNe (wCallP 3 M_kills (wCons (wVar 2) (wCons (wVar 7) (wCons (wVar 5) wNil)))) (wIsN (wVar 8))))
 (wRet (wC (.bool false)))
 wNx)
 w_law_L11))
def w_law_L6 : WS := (wFor (iR1 (wC (.int 3))) (gN 6)
 (wSeq (wSet 7 (wIx (wFz (wLstP (wCons (wBin fAdd (wC (.int 1)) (wCallP 2 M__law_take (wConsH 1 (wCons (wC (.int 7)) wNil)))) (wCons (wBin fAdd (wC (.int 8)) (wCallP 2 M__law_take (wConsH 1 (wCons (wC (.int 4)) wNil)))) wNil)))) (wUn fInt (wBin fEq (wCallP 2 M__law_take (wConsH 1 (wCons (wC (.int 8)) wNil))) (wC (.int 0))))))
 w_law_L8))
def w_law_L21 : WS := (wRet (wC (.bool true)))
def w_law : WS := (wSeq (wSetH okH 1 (wCallOP 1 M__law_pool (wCons (wVar 0) wNil)))
 (wSeq (wSet 2 (wCallP 2 M__law_curve (wConsH 1 (wCons (wC (.int 100)) wNil))))
 (wSeq (wSet 3 (wCallP 1 M__law_points (wCons (wVar 2) wNil)))
 (wSeq (wFor (iR1 (wC (.int 2))) (gN 4)
 (wSeq (wSet 5 (wIx (wFz (wLstP (wCons (wIx (wVar 3) (wCallP 2 M__law_take (wConsH 1 (wCons (wLen (wVar 3)) wNil)))) (wCons (wIx (wVar 3) (wCallP 2 M__law_take (wConsH 1 (wCons (wBin fMin2 (wLen (wVar 3)) (wC (.int 3))) wNil)))) wNil)))) (wCallP 2 M__law_take (wConsH 1 (wCons (wC (.int 2)) wNil)))))
 w_law_L6))
 w_law_L21))))
theorem neB31 {a b : Bool} (h : a = b) : (!PyData.eqv (.bool a) (.bool b)) = false := by
  subst h
  show (!(a == a)) = false
  rw [beq_self_eq_true]; rfl
abbrev EL (ns : List Int) (p a b : Int) (P : MC.Pt) (t4 t6 t7 t8 t9 t10 : Option Sl) : EnvD := [some (.v (scr ns)), some .hnd, some (.v (.tuple [.int p, .int a, .int b])), some (.v (.list ((MC.ptsK p a b p.toNat).map MC.dpt))), t4, some (.v (MC.dpt P)), t6, t7, t8, t9, t10]
section
variable {W : WEnds} {ns : List Int} {p a b : Int} {P : MC.Pt} {n : Nat} {t4 t6 t7 t8 t9 t10 : Option Sl}
theorem l17 (c : MC.Cu p a b) (hd : MC.Ns p a b) (hP : MC.On p a b P) (n1 : 1 ≤ n) (n11 : n ≤ 11) (hw : ∀ t8 t9 t10, W.nx (EL ns p a b P t4 t6 (some (.v (.int n))) t8 t9 t10)) :
    w_law_L17 W (EL ns p a b P t4 t6 (some (.v (.int n))) (some (.v (MC.dpt (MC.mulP p a P n)))) t9 t10) := by
  cases e : MC.mulP p a P n with
  | none => exact ⟨false, fun _ => ⟨rfl, rfl, p, a, b, n, P, rfl, c, hd, hP, n1, n11, fun _ => rfl, fun u w z => (by rw [e] at z; cases z)⟩, wfalse (onNx ⟨false, fun z => (by cases z), wfalse (onNx (hw _ _ _))⟩)⟩
  | some T =>
    obtain ⟨u, w⟩ := T
    refine ⟨false, fun z => (by cases z), wfalse (onNx ⟨false, fun _ => ⟨rfl, rfl, p, a, b, n, P, rfl, c, hd, hP, n1, n11, fun z => (by rw [e] at z; cases z), fun u' w' z => ?_⟩, wfalse (onNx (hw _ _ _))⟩)⟩
    rw [e] at z
    cases z
    exact ⟨_, rfl, no_ne rfl⟩
theorem l13 {x y : Int} (c : MC.Cu p a b) (hd : MC.Ns p a b) (p1 : p < 2 ^ 20) (hP : MC.On p a b (some (x, y))) (n1 : 1 ≤ n) (n11 : n ≤ 11) (hw : ∀ t8 t9 t10, W.nx (EL ns p a b (some (x, y)) t4 t6 (some (.v (.int n))) t8 t9 t10)) :
    w_law_L13 W (EL ns p a b (some (x, y)) t4 t6 (some (.v (.int n))) (some (.v (MC.dpt (MC.mulP p a (some (x, y)) n)))) t9 t10) := by
  have p5 := c.p5
  have ki := MC.kills_iff c hd hP n1 n11
  obtain ⟨x0, x1, y0, y1, _⟩ := id hP
  refine ⟨_, rfl, rfl, rfl, p, a, b, n, rfl, p5, c.p1, c.a0, c.a1, c.b0, c.b1, by omega, fun f nf cf lf => ⟨_, rfl, rfl, rfl, p, f, x, rfl, by omega, c.p1, ⟨x0, x1⟩, by omega, fun v v0 v1 hv => ?_⟩⟩
  have e := MC.val_pf c.hp (by omega) cf hv
  rw [← e] at ki
  refine ⟨div200 (by decide) (by decide) _, .inl ⟨by decide, by decide⟩, ?_⟩
  have key : (decide (v = 0) || (decide ((n : Int) = 2 * ((n : Int) / 2)) && decide (y = 0))) = isNone (MC.dpt (MC.mulP p a (some (x, y)) n)) := by
    have vz : v = 0 ↔ MS.C p v = 0 := ⟨fun z => by rw [z]; rfl, fun z => by
      have := MC.C_zero_iff.mp z
      rwa [Int.emod_eq_of_lt v0 v1] at this⟩
    have yz : y = 0 ↔ MS.C p y = 0 := ⟨fun z => by rw [z]; rfl, fun z => by
      have := MC.C_zero_iff.mp z
      rwa [Int.emod_eq_of_lt y0 y1] at this⟩
    have en : (n : Int) = 2 * ((n : Int) / 2) ↔ n % 2 = 0 := by omega
    have iff : (decide (v = 0) || (decide ((n : Int) = 2 * ((n : Int) / 2)) && decide (y = 0))) = true ↔ MC.mulP p a (some (x, y)) n = none := by
      rw [Bool.or_eq_true, Bool.and_eq_true, decide_eq_true_iff, decide_eq_true_iff, decide_eq_true_iff, vz, yz, en, ki]
      exact Or.comm
    cases h : MC.mulP p a (some (x, y)) n with
    | none => exact (iff.mpr h).trans rfl
    | some T =>
      rw [h] at iff
      have : ¬ (decide (v = 0) || (decide ((n : Int) = 2 * ((n : Int) / 2)) && decide (y = 0))) = true := fun z => by cases iff.mp z
      exact (Bool.eq_false_iff.mpr this).trans rfl
  refine ⟨decide ((n : Int) = 2 * ((n : Int) / 2)) && decide (y = 0), fun _ => ⟨decide (y = 0), fun _ => ⟨_, rfl, rfl⟩, rfl⟩, rfl, rfl, fun z => ?_, fun _ => onNx (l17 c hd hP n1 n11 hw)⟩
  exfalso
  have z : (!PyData.eqv (.bool (decide (v = 0) || (decide ((n : Int) = 2 * ((n : Int) / 2)) && decide (y = 0)))) (.bool (isNone (MC.dpt (MC.mulP p a (some (x, y)) n))))) = true := z
  rw [neB31 key] at z
  cases z
theorem l8 (c : MC.Cu p a b) (hd : MC.Ns p a b) (p1 : p < 2 ^ 20) (hP : MC.On p a b P) (n1 : 1 ≤ n) (n11 : n ≤ 11) (hw : ∀ t8 t9 t10, W.nx (EL ns p a b P t4 t6 (some (.v (.int n))) t8 t9 t10)) (hc : ∀ t8 t9 t10, W.ct (EL ns p a b P t4 t6 (some (.v (.int n))) t8 t9 t10)) :
    w_law_L8 W (EL ns p a b P t4 t6 (some (.v (.int n))) t8 t9 t10) := by
  refine ⟨rfl, rfl, p, a, b, n, P, rfl, c, hd, p1, hP, by omega, rfl, rfl, p, a, b, n, P, rfl, c, hd, hP, n1, n11, fun cc hcc => ?_⟩
  have ec : cc = isNone (MC.dpt (MC.mulP p a P n)) := by
    cases h : MC.mulP p a P n with
    | none => exact (hcc.mpr h).trans rfl
    | some T =>
      rw [h] at hcc
      have : ¬ cc = true := fun z => by cases hcc.mp z
      exact (Bool.eq_false_iff.mpr this).trans rfl
  refine ⟨rfl, rfl, fun z => ?_, fun _ => onNx ?_⟩
  · exfalso
    have z : (!PyData.eqv (.bool cc) (.bool (isNone (MC.dpt (MC.mulP p a P n))))) = true := z
    rw [neB31 ec] at z
    cases z
  · rcases P with _ | ⟨x, y⟩
    · exact wtrue (hc _ _ _)
    · exact wfalse (onNx (l13 c hd p1 hP n1 n11 hw))
end
theorem mf_law : ∀ as Q, as.length = 1 → M_law as Q → w_law { nx := fun _ => Q (.v .none), rt := Q } (stE as 10) := by
  rintro as Q _ ⟨ns, rfl, hns, hq⟩
  refine ⟨rfl, rfl, ns, rfl, ⟨0, ns, -1, rfl, by decide⟩, rfl, rfl, 100, rfl, by decide, by decide, fun p a b hp p5 p1 a0 a1 b0 b1 hd => ?_⟩
  have c : MC.Cu p a b := ⟨hp, p5, by omega, a0, a1, b0, b1⟩
  refine ⟨rfl, rfl, p, a, b, rfl, by omega, by omega, ?_⟩
  have ln : 0 < (((MC.ptsK p a b p.toNat).map MC.dpt).length : Int) ∧ (((MC.ptsK p a b p.toNat).map MC.dpt).length : Int) < 2 ^ 60 := by
    have := MC.ptsK_le p a b (by omega) p.toNat
    have h0 : 0 < (MC.ptsK p a b p.toNat).length := Nat.succ_pos _
    rw [List.length_map]
    omega
  have pick : ∀ r : Int, 0 ≤ r → r < (((MC.ptsK p a b p.toNat).map MC.dpt).length : Int) → ∃ P, MC.On p a b P ∧ atI ((MC.ptsK p a b p.toNat).map MC.dpt) r = some (MC.dpt P) := by
    intro r r0 r1
    rw [List.length_map] at r1
    have hi : r.toNat < (MC.ptsK p a b p.toNat).length := by omega
    have hg : (MC.ptsK p a b p.toNat)[r.toNat]? = some (MC.ptsK p a b p.toNat)[r.toNat] := List.getElem?_eq_getElem hi
    exact ⟨_, (MC.pts_mem c _).mp (List.getElem_mem hi), atI_nats (i := r.toNat) (by omega) (by rw [List.getElem?_map, hg]; rfl)⟩
  refine ⟨⟨by decide, by decide⟩, fun k env => ∃ (t4 : Option Sl) (t5 : Option Sl) (t6 t7 t8 t9 t10 : Option Sl), env = [some (.v (scr ns)), some .hnd, some (.v (.tuple [.int p, .int a, .int b])), some (.v (.list ((MC.ptsK p a b p.toNat).map MC.dpt))), t4, t5, t6, t7, t8, t9, t10], ⟨_, _, _, _, _, _, _, rfl⟩, ?_, ?_⟩
  · rintro k dd env hk ⟨t4, t5, t6, t7, t8, t9, t10, rfl⟩
    refine tk (by omega) (by omega) fun r r0 r1 => ?_
    obtain ⟨P1, h1, e1⟩ := pick r r0 r1
    refine ⟨_, e1, tk (by split <;> omega) (by split <;> omega) fun s s0 s1 => ?_⟩
    obtain ⟨P2, h2, e2⟩ := pick s s0 (by split at s1 <;> omega)
    refine ⟨_, e2, rfl, lk rfl, tk (by decide) (by decide) fun z z0 z1 => ?_⟩
    have go : ∀ P, MC.On p a b P → ∀ W : WEnds, (∀ t6 t7 t8 t9 t10, W.nx (EL ns p a b P (some (.v dd)) t6 t7 t8 t9 t10)) → w_law_L6 W (EL ns p a b P (some (.v dd)) t6 t7 t8 t9 t10) := by
      intro P hP W hw
      refine ⟨⟨by decide, by decide⟩, fun j env => ∃ t6 t7 t8 t9 t10, env = EL ns p a b P (some (.v dd)) t6 t7 t8 t9 t10, ⟨_, _, _, _, _, rfl⟩, ?_, ?_⟩
      · rintro j d env hj ⟨t6, t7, t8, t9, t10, rfl⟩
        refine tk (by decide) (by decide) fun u u0 u1 => tk (by decide) (by decide) fun v v0 v1 => ⟨rfl, lk rfl, tk (by decide) (by decide) fun w w0 w1 => ?_⟩
        obtain ⟨n, en, n1, n11⟩ : ∃ n : Nat, atI [PyData.int (1 + u), .int (8 + v)] (if decide (w = 0) = true then 1 else 0) = some (.int (n : Int)) ∧ 1 ≤ n ∧ n ≤ 11 := by
          by_cases h : w = 0
          · rw [decide_eq_true h]
            exact ⟨(8 + v).toNat, by rw [Int.toNat_of_nonneg (by omega)]; rfl, by omega, by omega⟩
          · rw [decide_eq_false h]
            exact ⟨(1 + u).toNat, by rw [Int.toNat_of_nonneg (by omega)]; rfl, by omega, by omega⟩
        exact ⟨_, en, l8 c hd (by omega) hP n1 n11 (fun _ _ _ => ⟨_, _, _, _, _, rfl⟩) (fun _ _ _ => ⟨_, _, _, _, _, rfl⟩)⟩
      · rintro env ⟨t6, t7, t8, t9, t10, rfl⟩
        exact hw _ _ _ _ _
    have hz : z = 0 ∨ z = 1 := by omega
    rcases hz with rfl | rfl
    · exact ⟨_, rfl, go P1 h1 _ fun _ _ _ _ _ => ⟨_, _, _, _, _, _, _, rfl⟩⟩
    · exact ⟨_, rfl, go P2 h2 _ fun _ _ _ _ _ => ⟨_, _, _, _, _, _, _, rfl⟩⟩
  · rintro env ⟨t4, t5, t6, t7, t8, t9, t10, rfl⟩
    exact hq

theorem ok_law {f : Addr} {fd : FuncData} (F : Fun K "law" "law" s_law f fd) (h__law_pool : Has P w K mg base okH 1 "_law_pool" 1 M__law_pool) (h__law_curve : Has P w K mg base okH 4 "_law_curve" 2 M__law_curve) (h__law_points : Has P w K mg base okH 3 "_law_points" 1 M__law_points) (h__law_take : Has P w K mg base okH 2 "_law_take" 2 M__law_take) (h__law_multiple : Has P w K mg base okH 4 "_law_multiple" 3 M__law_multiple) (h_kills : Has P w K mg base okH 7 "kills" 3 M_kills) (h__law_value : Has P w K mg base okH 2 "_law_value" 3 M__law_value) (h_division_polynomial : Has P w K mg base okH 6 "division_polynomial" 2 M_division_polynomial) (h_first_of_multiple : Has P w K mg base okH 8 "first_of_multiple" 3 M_first_of_multiple) (m_int : mg "int" = none) (m_len : mg "len" = none) (m_min : mg "min" = none) (m_range : mg "range" = none)    : FnOk P w K mg base CX0 9 f fd ["script"] (SpD K okH 1 M_law) :=
  def_ok F sc_law rfl (fun cdv A outer s H E hr =>
 (s_cons (s_setH 1 sc_law.nd (l_call h__law_pool hr (by decide) (a_cons (d_var 0) a_nil)))
 (s_cons (s_set 2 sc_law.nd (d_call h__law_curve hr (by decide) (a_hnd 1 (a_cons d_int a_nil))))
 (s_cons (s_set 3 sc_law.nd (d_call h__law_points hr (by decide) (a_cons (d_var 2) a_nil)))
 (s_cons (s_for (vs := [4]) PassesOwn.never rfl (i_r1 m_range d_int) (g_name 4 sc_law.nd)
 (s_cons (s_set 5 sc_law.nd (d_ix (d_b (d_fz (l_lst (a_cons (d_ix (d_b (d_var 3)) (d_call h__law_take hr (by decide) (a_hnd 1 (a_cons (d_len m_len (d_b (d_var 3))) a_nil)))) (a_cons (d_ix (d_b (d_var 3)) (d_call h__law_take hr (by decide) (a_hnd 1 (a_cons (d_min2 rfl m_min (d_len m_len (d_b (d_var 3))) d_int) a_nil)))) a_nil))))) (d_call h__law_take hr (by decide) (a_hnd 1 (a_cons d_int a_nil)))))
 (s_one (s_for (vs := [6]) PassesOwn.never rfl (i_r1 m_range d_int) (g_name 6 sc_law.nd)
 (s_cons (s_set 7 sc_law.nd (d_ix (d_b (d_fz (l_lst (a_cons (d_add d_int (d_call h__law_take hr (by decide) (a_hnd 1 (a_cons d_int a_nil)))) (a_cons (d_add d_int (d_call h__law_take hr (by decide) (a_hnd 1 (a_cons d_int a_nil)))) a_nil))))) (d_intc m_int (d_eq hr (d_call h__law_take hr (by decide) (a_hnd 1 (a_cons d_int a_nil))) d_int))))
 (s_cons (s_set 8 sc_law.nd (d_call h__law_multiple hr (by decide) (a_cons (d_var 2) (a_cons (d_var 7) (a_cons (d_var 5) a_nil)))))
 (s_cons (s_if (t_ne hr (d_call h_kills hr (by decide) (a_cons (d_var 2) (a_cons (d_var 7) (a_cons (d_var 5) a_nil)))) (d_isN (d_var 8)))
 (s_one (s_ret d_bl))
 s_nil)
 (s_cons (s_if (t_isN (d_var 5))
 (s_one s_continue)
 s_nil)
 (s_cons (s_set 9 sc_law.nd (d_eq hr (d_call h__law_value hr (by decide) (a_cons (d_ix (d_b (d_var 2)) d_int) (a_cons (d_call h_division_polynomial hr (by decide) (a_cons (d_var 2) (a_cons (d_var 7) a_nil))) (a_cons (d_ix (d_b (d_var 5)) d_int) a_nil)))) d_int))
 (s_cons (s_set 10 sc_law.nd (d_eq hr (d_var 7) (d_mul d_int (d_div (d_var 7) d_int))))
 (s_cons (s_if (t_ne hr (d_or (d_var 9) (d_one (d_and (d_var 10) (d_one (d_eq hr (d_ix (d_b (d_var 5)) d_int) d_int))))) (d_isN (d_var 8)))
 (s_one (s_ret d_bl))
 s_nil)
 (s_cons (s_if (t_w (w_and (t_isN (d_var 8)) (w_and1 (t_notN (d_call h_first_of_multiple hr (by decide) (a_cons (d_var 2) (a_cons (d_var 7) (a_cons (d_var 5) a_nil))))))))
 (s_one (s_ret d_bl))
 s_nil)
 (s_one (s_if (t_w (w_and (t_notN (d_var 8)) (w_and1 (t_ne hr (d_call h_first_of_multiple hr (by decide) (a_cons (d_var 2) (a_cons (d_var 7) (a_cons (d_var 5) a_nil)))) (d_ix (d_b (d_var 8)) d_int)))))
 (s_one (s_ret d_bl))
 s_nil))))))))))))))
 (s_one (s_ret d_bl))))))) mf_law
end
theorem all_mk {l : PySem.W.OpenLaw} {w : World} {K : PySem.W.Frag} {h : Heap} {mg : Str → Option Value} {fa f0 f1 f2 f3 f4 f5 f6 f7 f8 f9 f10 f11 f12 f13 f14 f15 f16 f17 f18 f19 f20 f21 f22 f23 f24 f25 f26 f27 f28 f29 f30 f31 : Addr} (X : K.In h) (G : h.Ns mainGlobals mg) (hfa : mg "law" = some (.ref fa))
    {od0 an0 : Option Addr} {sl0 : Array (Option Value)} {oc0 kV0 dc0 pm0 cd0 ct0 : Value}
    (a0 : PySem.W.nsIn K mainGlobals "inverse_by" = some (some (.ref f0))) (l0 : K.lookup f0 = some ⟨oc0, od0, .func (PySem.W.fnOf "inverse_by" "inverse_by" (defArgs s_inverse_by) (defBody s_inverse_by) (defScope s_inverse_by) .none kV0 dc0 pm0 an0 cd0 ct0), sl0⟩) (c0 : PySem.W.codeIn K cd0 "inverse_by" = true) (k0 : PySem.W.keepIn K (.ref f0) = true)
    {od1 an1 : Option Addr} {sl1 : Array (Option Value)} {oc1 kV1 dc1 pm1 cd1 ct1 : Value}
    (a1 : PySem.W.nsIn K mainGlobals "inverse" = some (some (.ref f1))) (l1 : K.lookup f1 = some ⟨oc1, od1, .func (PySem.W.fnOf "inverse" "inverse" (defArgs s_inverse) (defBody s_inverse) (defScope s_inverse) .none kV1 dc1 pm1 an1 cd1 ct1), sl1⟩) (c1 : PySem.W.codeIn K cd1 "inverse" = true) (k1 : PySem.W.keepIn K (.ref f1) = true)
    {od2 an2 : Option Addr} {sl2 : Array (Option Value)} {oc2 kV2 dc2 pm2 cd2 ct2 : Value}
    (a2 : PySem.W.nsIn K mainGlobals "side" = some (some (.ref f2))) (l2 : K.lookup f2 = some ⟨oc2, od2, .func (PySem.W.fnOf "side" "side" (defArgs s_side) (defBody s_side) (defScope s_side) .none kV2 dc2 pm2 an2 cd2 ct2), sl2⟩) (c2 : PySem.W.codeIn K cd2 "side" = true) (k2 : PySem.W.keepIn K (.ref f2) = true)
    {od3 an3 : Option Addr} {sl3 : Array (Option Value)} {oc3 kV3 dc3 pm3 cd3 ct3 : Value}
    (a3 : PySem.W.nsIn K mainGlobals "trimmed" = some (some (.ref f3))) (l3 : K.lookup f3 = some ⟨oc3, od3, .func (PySem.W.fnOf "trimmed" "trimmed" (defArgs s_trimmed) (defBody s_trimmed) (defScope s_trimmed) .none kV3 dc3 pm3 an3 cd3 ct3), sl3⟩) (c3 : PySem.W.codeIn K cd3 "trimmed" = true) (k3 : PySem.W.keepIn K (.ref f3) = true)
    {od4 an4 : Option Addr} {sl4 : Array (Option Value)} {oc4 kV4 dc4 pm4 cd4 ct4 : Value}
    (a4 : PySem.W.nsIn K mainGlobals "plus" = some (some (.ref f4))) (l4 : K.lookup f4 = some ⟨oc4, od4, .func (PySem.W.fnOf "plus" "plus" (defArgs s_plus) (defBody s_plus) (defScope s_plus) .none kV4 dc4 pm4 an4 cd4 ct4), sl4⟩) (c4 : PySem.W.codeIn K cd4 "plus" = true) (k4 : PySem.W.keepIn K (.ref f4) = true)
    {od5 an5 : Option Addr} {sl5 : Array (Option Value)} {oc5 kV5 dc5 pm5 cd5 ct5 : Value}
    (a5 : PySem.W.nsIn K mainGlobals "scaled" = some (some (.ref f5))) (l5 : K.lookup f5 = some ⟨oc5, od5, .func (PySem.W.fnOf "scaled" "scaled" (defArgs s_scaled) (defBody s_scaled) (defScope s_scaled) .none kV5 dc5 pm5 an5 cd5 ct5), sl5⟩) (c5 : PySem.W.codeIn K cd5 "scaled" = true) (k5 : PySem.W.keepIn K (.ref f5) = true)
    {od6 an6 : Option Addr} {sl6 : Array (Option Value)} {oc6 kV6 dc6 pm6 cd6 ct6 : Value}
    (a6 : PySem.W.nsIn K mainGlobals "minus" = some (some (.ref f6))) (l6 : K.lookup f6 = some ⟨oc6, od6, .func (PySem.W.fnOf "minus" "minus" (defArgs s_minus) (defBody s_minus) (defScope s_minus) .none kV6 dc6 pm6 an6 cd6 ct6), sl6⟩) (c6 : PySem.W.codeIn K cd6 "minus" = true) (k6 : PySem.W.keepIn K (.ref f6) = true)
    {od7 an7 : Option Addr} {sl7 : Array (Option Value)} {oc7 kV7 dc7 pm7 cd7 ct7 : Value}
    (a7 : PySem.W.nsIn K mainGlobals "times" = some (some (.ref f7))) (l7 : K.lookup f7 = some ⟨oc7, od7, .func (PySem.W.fnOf "times" "times" (defArgs s_times) (defBody s_times) (defScope s_times) .none kV7 dc7 pm7 an7 cd7 ct7), sl7⟩) (c7 : PySem.W.codeIn K cd7 "times" = true) (k7 : PySem.W.keepIn K (.ref f7) = true)
    {od8 an8 : Option Addr} {sl8 : Array (Option Value)} {oc8 kV8 dc8 pm8 cd8 ct8 : Value}
    (a8 : PySem.W.nsIn K mainGlobals "value" = some (some (.ref f8))) (l8 : K.lookup f8 = some ⟨oc8, od8, .func (PySem.W.fnOf "value" "value" (defArgs s_value) (defBody s_value) (defScope s_value) .none kV8 dc8 pm8 an8 cd8 ct8), sl8⟩) (c8 : PySem.W.codeIn K cd8 "value" = true) (k8 : PySem.W.keepIn K (.ref f8) = true)
    {od9 an9 : Option Addr} {sl9 : Array (Option Value)} {oc9 kV9 dc9 pm9 cd9 ct9 : Value}
    (a9 : PySem.W.nsIn K mainGlobals "cubic" = some (some (.ref f9))) (l9 : K.lookup f9 = some ⟨oc9, od9, .func (PySem.W.fnOf "cubic" "cubic" (defArgs s_cubic) (defBody s_cubic) (defScope s_cubic) .none kV9 dc9 pm9 an9 cd9 ct9), sl9⟩) (c9 : PySem.W.codeIn K cd9 "cubic" = true) (k9 : PySem.W.keepIn K (.ref f9) = true)
    {od10 an10 : Option Addr} {sl10 : Array (Option Value)} {oc10 kV10 dc10 pm10 cd10 ct10 : Value}
    (a10 : PySem.W.nsIn K mainGlobals "first_ones" = some (some (.ref f10))) (l10 : K.lookup f10 = some ⟨oc10, od10, .func (PySem.W.fnOf "first_ones" "first_ones" (defArgs s_first_ones) (defBody s_first_ones) (defScope s_first_ones) .none kV10 dc10 pm10 an10 cd10 ct10), sl10⟩) (c10 : PySem.W.codeIn K cd10 "first_ones" = true) (k10 : PySem.W.keepIn K (.ref f10) = true)
    {od11 an11 : Option Addr} {sl11 : Array (Option Value)} {oc11 kV11 dc11 pm11 cd11 ct11 : Value}
    (a11 : PySem.W.nsIn K mainGlobals "product" = some (some (.ref f11))) (l11 : K.lookup f11 = some ⟨oc11, od11, .func (PySem.W.fnOf "product" "product" (defArgs s_product) (defBody s_product) (defScope s_product) .none kV11 dc11 pm11 an11 cd11 ct11), sl11⟩) (c11 : PySem.W.codeIn K cd11 "product" = true) (k11 : PySem.W.keepIn K (.ref f11) = true)
    {od12 an12 : Option Addr} {sl12 : Array (Option Value)} {oc12 kV12 dc12 pm12 cd12 ct12 : Value}
    (a12 : PySem.W.nsIn K mainGlobals "next_one" = some (some (.ref f12))) (l12 : K.lookup f12 = some ⟨oc12, od12, .func (PySem.W.fnOf "next_one" "next_one" (defArgs s_next_one) (defBody s_next_one) (defScope s_next_one) .none kV12 dc12 pm12 an12 cd12 ct12), sl12⟩) (c12 : PySem.W.codeIn K cd12 "next_one" = true) (k12 : PySem.W.keepIn K (.ref f12) = true)
    {od13 an13 : Option Addr} {sl13 : Array (Option Value)} {oc13 kV13 dc13 pm13 cd13 ct13 : Value}
    (a13 : PySem.W.nsIn K mainGlobals "division_polynomials" = some (some (.ref f13))) (l13 : K.lookup f13 = some ⟨oc13, od13, .func (PySem.W.fnOf "division_polynomials" "division_polynomials" (defArgs s_division_polynomials) (defBody s_division_polynomials) (defScope s_division_polynomials) .none kV13 dc13 pm13 an13 cd13 ct13), sl13⟩) (c13 : PySem.W.codeIn K cd13 "division_polynomials" = true) (k13 : PySem.W.keepIn K (.ref f13) = true)
    {od14 an14 : Option Addr} {sl14 : Array (Option Value)} {oc14 kV14 dc14 pm14 cd14 ct14 : Value}
    (a14 : PySem.W.nsIn K mainGlobals "division_polynomial" = some (some (.ref f14))) (l14 : K.lookup f14 = some ⟨oc14, od14, .func (PySem.W.fnOf "division_polynomial" "division_polynomial" (defArgs s_division_polynomial) (defBody s_division_polynomial) (defScope s_division_polynomial) .none kV14 dc14 pm14 an14 cd14 ct14), sl14⟩) (c14 : PySem.W.codeIn K cd14 "division_polynomial" = true) (k14 : PySem.W.keepIn K (.ref f14) = true)
    {od15 an15 : Option Addr} {sl15 : Array (Option Value)} {oc15 kV15 dc15 pm15 cd15 ct15 : Value}
    (a15 : PySem.W.nsIn K mainGlobals "kills" = some (some (.ref f15))) (l15 : K.lookup f15 = some ⟨oc15, od15, .func (PySem.W.fnOf "kills" "kills" (defArgs s_kills) (defBody s_kills) (defScope s_kills) .none kV15 dc15 pm15 an15 cd15 ct15), sl15⟩) (c15 : PySem.W.codeIn K cd15 "kills" = true) (k15 : PySem.W.keepIn K (.ref f15) = true)
    {od16 an16 : Option Addr} {sl16 : Array (Option Value)} {oc16 kV16 dc16 pm16 cd16 ct16 : Value}
    (a16 : PySem.W.nsIn K mainGlobals "first_of_multiple" = some (some (.ref f16))) (l16 : K.lookup f16 = some ⟨oc16, od16, .func (PySem.W.fnOf "first_of_multiple" "first_of_multiple" (defArgs s_first_of_multiple) (defBody s_first_of_multiple) (defScope s_first_of_multiple) .none kV16 dc16 pm16 an16 cd16 ct16), sl16⟩) (c16 : PySem.W.codeIn K cd16 "first_of_multiple" = true) (k16 : PySem.W.keepIn K (.ref f16) = true)
    {od17 an17 : Option Addr} {sl17 : Array (Option Value)} {oc17 kV17 dc17 pm17 cd17 ct17 : Value}
    (a17 : PySem.W.nsIn K mainGlobals "_law_wide" = some (some (.ref f17))) (l17 : K.lookup f17 = some ⟨oc17, od17, .func (PySem.W.fnOf "_law_wide" "_law_wide" (defArgs s__law_wide) (defBody s__law_wide) (defScope s__law_wide) .none kV17 dc17 pm17 an17 cd17 ct17), sl17⟩) (c17 : PySem.W.codeIn K cd17 "_law_wide" = true) (k17 : PySem.W.keepIn K (.ref f17) = true)
    {od18 an18 : Option Addr} {sl18 : Array (Option Value)} {oc18 kV18 dc18 pm18 cd18 ct18 : Value}
    (a18 : PySem.W.nsIn K mainGlobals "_law_take" = some (some (.ref f18))) (l18 : K.lookup f18 = some ⟨oc18, od18, .func (PySem.W.fnOf "_law_take" "_law_take" (defArgs s__law_take) (defBody s__law_take) (defScope s__law_take) .none kV18 dc18 pm18 an18 cd18 ct18), sl18⟩) (c18 : PySem.W.codeIn K cd18 "_law_take" = true) (k18 : PySem.W.keepIn K (.ref f18) = true)
    {od19 an19 : Option Addr} {sl19 : Array (Option Value)} {oc19 kV19 dc19 pm19 cd19 ct19 : Value}
    (a19 : PySem.W.nsIn K mainGlobals "_law_pool" = some (some (.ref f19))) (l19 : K.lookup f19 = some ⟨oc19, od19, .func (PySem.W.fnOf "_law_pool" "_law_pool" (defArgs s__law_pool) (defBody s__law_pool) (defScope s__law_pool) .none kV19 dc19 pm19 an19 cd19 ct19), sl19⟩) (c19 : PySem.W.codeIn K cd19 "_law_pool" = true) (k19 : PySem.W.keepIn K (.ref f19) = true)
    {od20 an20 : Option Addr} {sl20 : Array (Option Value)} {oc20 kV20 dc20 pm20 cd20 ct20 : Value}
    (a20 : PySem.W.nsIn K mainGlobals "_law_mod" = some (some (.ref f20))) (l20 : K.lookup f20 = some ⟨oc20, od20, .func (PySem.W.fnOf "_law_mod" "_law_mod" (defArgs s__law_mod) (defBody s__law_mod) (defScope s__law_mod) .none kV20 dc20 pm20 an20 cd20 ct20), sl20⟩) (c20 : PySem.W.codeIn K cd20 "_law_mod" = true) (k20 : PySem.W.keepIn K (.ref f20) = true)
    {od21 an21 : Option Addr} {sl21 : Array (Option Value)} {oc21 kV21 dc21 pm21 cd21 ct21 : Value}
    (a21 : PySem.W.nsIn K mainGlobals "_law_prime_from" = some (some (.ref f21))) (l21 : K.lookup f21 = some ⟨oc21, od21, .func (PySem.W.fnOf "_law_prime_from" "_law_prime_from" (defArgs s__law_prime_from) (defBody s__law_prime_from) (defScope s__law_prime_from) .none kV21 dc21 pm21 an21 cd21 ct21), sl21⟩) (c21 : PySem.W.codeIn K cd21 "_law_prime_from" = true) (k21 : PySem.W.keepIn K (.ref f21) = true)
    {od22 an22 : Option Addr} {sl22 : Array (Option Value)} {oc22 kV22 dc22 pm22 cd22 ct22 : Value}
    (a22 : PySem.W.nsIn K mainGlobals "_law_prime" = some (some (.ref f22))) (l22 : K.lookup f22 = some ⟨oc22, od22, .func (PySem.W.fnOf "_law_prime" "_law_prime" (defArgs s__law_prime) (defBody s__law_prime) (defScope s__law_prime) .none kV22 dc22 pm22 an22 cd22 ct22), sl22⟩) (c22 : PySem.W.codeIn K cd22 "_law_prime" = true) (k22 : PySem.W.keepIn K (.ref f22) = true)
    {od23 an23 : Option Addr} {sl23 : Array (Option Value)} {oc23 kV23 dc23 pm23 cd23 ct23 : Value}
    (a23 : PySem.W.nsIn K mainGlobals "_law_pair" = some (some (.ref f23))) (l23 : K.lookup f23 = some ⟨oc23, od23, .func (PySem.W.fnOf "_law_pair" "_law_pair" (defArgs s__law_pair) (defBody s__law_pair) (defScope s__law_pair) .none kV23 dc23 pm23 an23 cd23 ct23), sl23⟩) (c23 : PySem.W.codeIn K cd23 "_law_pair" = true) (k23 : PySem.W.keepIn K (.ref f23) = true)
    {od24 an24 : Option Addr} {sl24 : Array (Option Value)} {oc24 kV24 dc24 pm24 cd24 ct24 : Value}
    (a24 : PySem.W.nsIn K mainGlobals "_law_curve" = some (some (.ref f24))) (l24 : K.lookup f24 = some ⟨oc24, od24, .func (PySem.W.fnOf "_law_curve" "_law_curve" (defArgs s__law_curve) (defBody s__law_curve) (defScope s__law_curve) .none kV24 dc24 pm24 an24 cd24 ct24), sl24⟩) (c24 : PySem.W.codeIn K cd24 "_law_curve" = true) (k24 : PySem.W.keepIn K (.ref f24) = true)
    {od25 an25 : Option Addr} {sl25 : Array (Option Value)} {oc25 kV25 dc25 pm25 cd25 ct25 : Value}
    (a25 : PySem.W.nsIn K mainGlobals "_law_side" = some (some (.ref f25))) (l25 : K.lookup f25 = some ⟨oc25, od25, .func (PySem.W.fnOf "_law_side" "_law_side" (defArgs s__law_side) (defBody s__law_side) (defScope s__law_side) .none kV25 dc25 pm25 an25 cd25 ct25), sl25⟩) (c25 : PySem.W.codeIn K cd25 "_law_side" = true) (k25 : PySem.W.keepIn K (.ref f25) = true)
    {od26 an26 : Option Addr} {sl26 : Array (Option Value)} {oc26 kV26 dc26 pm26 cd26 ct26 : Value}
    (a26 : PySem.W.nsIn K mainGlobals "_law_points" = some (some (.ref f26))) (l26 : K.lookup f26 = some ⟨oc26, od26, .func (PySem.W.fnOf "_law_points" "_law_points" (defArgs s__law_points) (defBody s__law_points) (defScope s__law_points) .none kV26 dc26 pm26 an26 cd26 ct26), sl26⟩) (c26 : PySem.W.codeIn K cd26 "_law_points" = true) (k26 : PySem.W.keepIn K (.ref f26) = true)
    {od27 an27 : Option Addr} {sl27 : Array (Option Value)} {oc27 kV27 dc27 pm27 cd27 ct27 : Value}
    (a27 : PySem.W.nsIn K mainGlobals "_law_inverse" = some (some (.ref f27))) (l27 : K.lookup f27 = some ⟨oc27, od27, .func (PySem.W.fnOf "_law_inverse" "_law_inverse" (defArgs s__law_inverse) (defBody s__law_inverse) (defScope s__law_inverse) .none kV27 dc27 pm27 an27 cd27 ct27), sl27⟩) (c27 : PySem.W.codeIn K cd27 "_law_inverse" = true) (k27 : PySem.W.keepIn K (.ref f27) = true)
    {od28 an28 : Option Addr} {sl28 : Array (Option Value)} {oc28 kV28 dc28 pm28 cd28 ct28 : Value}
    (a28 : PySem.W.nsIn K mainGlobals "_law_sum" = some (some (.ref f28))) (l28 : K.lookup f28 = some ⟨oc28, od28, .func (PySem.W.fnOf "_law_sum" "_law_sum" (defArgs s__law_sum) (defBody s__law_sum) (defScope s__law_sum) .none kV28 dc28 pm28 an28 cd28 ct28), sl28⟩) (c28 : PySem.W.codeIn K cd28 "_law_sum" = true) (k28 : PySem.W.keepIn K (.ref f28) = true)
    {od29 an29 : Option Addr} {sl29 : Array (Option Value)} {oc29 kV29 dc29 pm29 cd29 ct29 : Value}
    (a29 : PySem.W.nsIn K mainGlobals "_law_multiple" = some (some (.ref f29))) (l29 : K.lookup f29 = some ⟨oc29, od29, .func (PySem.W.fnOf "_law_multiple" "_law_multiple" (defArgs s__law_multiple) (defBody s__law_multiple) (defScope s__law_multiple) .none kV29 dc29 pm29 an29 cd29 ct29), sl29⟩) (c29 : PySem.W.codeIn K cd29 "_law_multiple" = true) (k29 : PySem.W.keepIn K (.ref f29) = true)
    {od30 an30 : Option Addr} {sl30 : Array (Option Value)} {oc30 kV30 dc30 pm30 cd30 ct30 : Value}
    (a30 : PySem.W.nsIn K mainGlobals "_law_value" = some (some (.ref f30))) (l30 : K.lookup f30 = some ⟨oc30, od30, .func (PySem.W.fnOf "_law_value" "_law_value" (defArgs s__law_value) (defBody s__law_value) (defScope s__law_value) .none kV30 dc30 pm30 an30 cd30 ct30), sl30⟩) (c30 : PySem.W.codeIn K cd30 "_law_value" = true) (k30 : PySem.W.keepIn K (.ref f30) = true)
    {od31 an31 : Option Addr} {sl31 : Array (Option Value)} {oc31 kV31 dc31 pm31 cd31 ct31 : Value}
    (a31 : PySem.W.nsIn K mainGlobals "law" = some (some (.ref f31))) (l31 : K.lookup f31 = some ⟨oc31, od31, .func (PySem.W.fnOf "law" "law" (defArgs s_law) (defBody s_law) (defScope s_law) .none kV31 dc31 pm31 an31 cd31 ct31), sl31⟩) (c31 : PySem.W.codeIn K cd31 "law" = true) (k31 : PySem.W.keepIn K (.ref f31) = true)
    (z_abs : PySem.W.nsIn K mainGlobals "abs" = some none)
    (z_int : PySem.W.nsIn K mainGlobals "int" = some none)
    (z_len : PySem.W.nsIn K mainGlobals "len" = some none)
    (z_list : PySem.W.nsIn K mainGlobals "list" = some none)
    (z_max : PySem.W.nsIn K mainGlobals "max" = some none)
    (z_min : PySem.W.nsIn K mainGlobals "min" = some none)
    (z_range : PySem.W.nsIn K mainGlobals "range" = some none)
    (z_reversed : PySem.W.nsIn K mainGlobals "reversed" = some none)
    (z_tuple : PySem.W.nsIn K mainGlobals "tuple" = some none)
    : ∃ fd : FuncData, (∀ (s : Shared) (v : Value), BindsTo s fd ⟨[v], []⟩ [("script", v)]) ∧ ∀ base : Heap, K.In base → base.Ns mainGlobals mg → FnOk l.prog w K mg base CX0 9 fa fd ["script"] (SpD K okH 1 M_law) := by
  have e := hfa.symm.trans (PySem.W.mg_of X G a31)
  cases e
  have F0 := fun_mk (st := s_inverse_by) l0 c0 k0
  have b0 := F0.binds (ps := ["modulus", "x"]) fun _ _ _ _ _ _ us hl => match us, hl with | [_, _], _ => rfl
  have F1 := fun_mk (st := s_inverse) l1 c1 k1
  have b1 := F1.binds (ps := ["p", "x"]) fun _ _ _ _ _ _ us hl => match us, hl with | [_, _], _ => rfl
  have F2 := fun_mk (st := s_side) l2 c2 k2
  have b2 := F2.binds (ps := ["curve", "x"]) fun _ _ _ _ _ _ us hl => match us, hl with | [_, _], _ => rfl
  have F3 := fun_mk (st := s_trimmed) l3 c3 k3
  have b3 := F3.binds (ps := ["p", "values"]) fun _ _ _ _ _ _ us hl => match us, hl with | [_, _], _ => rfl
  have F4 := fun_mk (st := s_plus) l4 c4 k4
  have b4 := F4.binds (ps := ["p", "f", "g"]) fun _ _ _ _ _ _ us hl => match us, hl with | [_, _, _], _ => rfl
  have F5 := fun_mk (st := s_scaled) l5 c5 k5
  have b5 := F5.binds (ps := ["p", "f", "c"]) fun _ _ _ _ _ _ us hl => match us, hl with | [_, _, _], _ => rfl
  have F6 := fun_mk (st := s_minus) l6 c6 k6
  have b6 := F6.binds (ps := ["p", "f", "g"]) fun _ _ _ _ _ _ us hl => match us, hl with | [_, _, _], _ => rfl
  have F7 := fun_mk (st := s_times) l7 c7 k7
  have b7 := F7.binds (ps := ["p", "f", "g"]) fun _ _ _ _ _ _ us hl => match us, hl with | [_, _, _], _ => rfl
  have F8 := fun_mk (st := s_value) l8 c8 k8
  have b8 := F8.binds (ps := ["p", "f", "x"]) fun _ _ _ _ _ _ us hl => match us, hl with | [_, _, _], _ => rfl
  have F9 := fun_mk (st := s_cubic) l9 c9 k9
  have b9 := F9.binds (ps := ["curve"]) fun _ _ _ _ _ _ us hl => match us, hl with | [_], _ => rfl
  have F10 := fun_mk (st := s_first_ones) l10 c10 k10
  have b10 := F10.binds (ps := ["curve"]) fun _ _ _ _ _ _ us hl => match us, hl with | [_], _ => rfl
  have F11 := fun_mk (st := s_product) l11 c11 k11
  have b11 := F11.binds (ps := ["p", "factors"]) fun _ _ _ _ _ _ us hl => match us, hl with | [_, _], _ => rfl
  have F12 := fun_mk (st := s_next_one) l12 c12 k12
  have b12 := F12.binds (ps := ["curve", "found"]) fun _ _ _ _ _ _ us hl => match us, hl with | [_, _], _ => rfl
  have F13 := fun_mk (st := s_division_polynomials) l13 c13 k13
  have b13 := F13.binds (ps := ["curve", "count"]) fun _ _ _ _ _ _ us hl => match us, hl with | [_, _], _ => rfl
  have F14 := fun_mk (st := s_division_polynomial) l14 c14 k14
  have b14 := F14.binds (ps := ["curve", "n"]) fun _ _ _ _ _ _ us hl => match us, hl with | [_, _], _ => rfl
  have F15 := fun_mk (st := s_kills) l15 c15 k15
  have b15 := F15.binds (ps := ["curve", "n", "point"]) fun _ _ _ _ _ _ us hl => match us, hl with | [_, _, _], _ => rfl
  have F16 := fun_mk (st := s_first_of_multiple) l16 c16 k16
  have b16 := F16.binds (ps := ["curve", "n", "point"]) fun _ _ _ _ _ _ us hl => match us, hl with | [_, _, _], _ => rfl
  have F17 := fun_mk (st := s__law_wide) l17 c17 k17
  have b17 := F17.binds (ps := ["script", "k"]) fun _ _ _ _ _ _ us hl => match us, hl with | [_, _], _ => rfl
  have F18 := fun_mk (st := s__law_take) l18 c18 k18
  have b18 := F18.binds (ps := ["pool", "most"]) fun _ _ _ _ _ _ us hl => match us, hl with | [_, _], _ => rfl
  have F19 := fun_mk (st := s__law_pool) l19 c19 k19
  have b19 := F19.binds (ps := ["script"]) fun _ _ _ _ _ _ us hl => match us, hl with | [_], _ => rfl
  have F20 := fun_mk (st := s__law_mod) l20 c20 k20
  have b20 := F20.binds (ps := ["x", "p"]) fun _ _ _ _ _ _ us hl => match us, hl with | [_, _], _ => rfl
  have F21 := fun_mk (st := s__law_prime_from) l21 c21 k21
  have b21 := F21.binds (ps := ["number"]) fun _ _ _ _ _ _ us hl => match us, hl with | [_], _ => rfl
  have F22 := fun_mk (st := s__law_prime) l22 c22 k22
  have b22 := F22.binds (ps := ["pool", "most"]) fun _ _ _ _ _ _ us hl => match us, hl with | [_, _], _ => rfl
  have F23 := fun_mk (st := s__law_pair) l23 c23 k23
  have b23 := F23.binds (ps := ["pool", "p"]) fun _ _ _ _ _ _ us hl => match us, hl with | [_, _], _ => rfl
  have F24 := fun_mk (st := s__law_curve) l24 c24 k24
  have b24 := F24.binds (ps := ["pool", "most"]) fun _ _ _ _ _ _ us hl => match us, hl with | [_, _], _ => rfl
  have F25 := fun_mk (st := s__law_side) l25 c25 k25
  have b25 := F25.binds (ps := ["curve", "x"]) fun _ _ _ _ _ _ us hl => match us, hl with | [_, _], _ => rfl
  have F26 := fun_mk (st := s__law_points) l26 c26 k26
  have b26 := F26.binds (ps := ["curve"]) fun _ _ _ _ _ _ us hl => match us, hl with | [_], _ => rfl
  have F27 := fun_mk (st := s__law_inverse) l27 c27 k27
  have b27 := F27.binds (ps := ["p", "x"]) fun _ _ _ _ _ _ us hl => match us, hl with | [_, _], _ => rfl
  have F28 := fun_mk (st := s__law_sum) l28 c28 k28
  have b28 := F28.binds (ps := ["curve", "one", "two"]) fun _ _ _ _ _ _ us hl => match us, hl with | [_, _, _], _ => rfl
  have F29 := fun_mk (st := s__law_multiple) l29 c29 k29
  have b29 := F29.binds (ps := ["curve", "number", "point"]) fun _ _ _ _ _ _ us hl => match us, hl with | [_, _, _], _ => rfl
  have F30 := fun_mk (st := s__law_value) l30 c30 k30
  have b30 := F30.binds (ps := ["p", "f", "x"]) fun _ _ _ _ _ _ us hl => match us, hl with | [_, _, _], _ => rfl
  have F31 := fun_mk (st := s_law) l31 c31 k31
  have m_abs := PySem.W.mg_none_of X G z_abs
  have m_int := PySem.W.mg_none_of X G z_int
  have m_len := PySem.W.mg_none_of X G z_len
  have m_list := PySem.W.mg_none_of X G z_list
  have m_max := PySem.W.mg_none_of X G z_max
  have m_min := PySem.W.mg_none_of X G z_min
  have m_range := PySem.W.mg_none_of X G z_range
  have m_reversed := PySem.W.mg_none_of X G z_reversed
  have m_tuple := PySem.W.mg_none_of X G z_tuple
  refine ⟨PySem.W.fnOf "law" "law" (defArgs s_law) (defBody s_law) (defScope s_law) .none kV31 dc31 pm31 an31 cd31 ct31, fun s v => .of_eq rfl, fun base _ _ => ?_⟩
  have h_inverse_by : Has l.prog w K mg base okH 1 "inverse_by" 2 M_inverse_by := ⟨⟨_, _, _, ok_inverse_by F0, PySem.W.mg_of X G a0, F0.kp, b0⟩⟩
  have h_inverse : Has l.prog w K mg base okH 2 "inverse" 2 M_inverse := ⟨⟨_, _, _, ok_inverse F1 h_inverse_by, PySem.W.mg_of X G a1, F1.kp, b1⟩⟩
  have h_side : Has l.prog w K mg base okH 1 "side" 2 M_side := ⟨⟨_, _, _, ok_side F2, PySem.W.mg_of X G a2, F2.kp, b2⟩⟩
  have h_trimmed : Has l.prog w K mg base okH 1 "trimmed" 2 M_trimmed := ⟨⟨_, _, _, ok_trimmed F3 m_len m_tuple, PySem.W.mg_of X G a3, F3.kp, b3⟩⟩
  have h_plus : Has l.prog w K mg base okH 2 "plus" 3 M_plus := ⟨⟨_, _, _, ok_plus F4 h_trimmed m_len m_max m_range, PySem.W.mg_of X G a4, F4.kp, b4⟩⟩
  have h_scaled : Has l.prog w K mg base okH 2 "scaled" 3 M_scaled := ⟨⟨_, _, _, ok_scaled F5 h_trimmed, PySem.W.mg_of X G a5, F5.kp, b5⟩⟩
  have h_minus : Has l.prog w K mg base okH 3 "minus" 3 M_minus := ⟨⟨_, _, _, ok_minus F6 h_plus h_scaled, PySem.W.mg_of X G a6, F6.kp, b6⟩⟩
  have h_times : Has l.prog w K mg base okH 2 "times" 3 M_times := ⟨⟨_, _, _, ok_times F7 h_trimmed m_len m_range, PySem.W.mg_of X G a7, F7.kp, b7⟩⟩
  have h_value : Has l.prog w K mg base okH 1 "value" 3 M_value := ⟨⟨_, _, _, ok_value F8 m_reversed, PySem.W.mg_of X G a8, F8.kp, b8⟩⟩
  have h_cubic : Has l.prog w K mg base okH 1 "cubic" 1 M_cubic := ⟨⟨_, _, _, ok_cubic F9, PySem.W.mg_of X G a9, F9.kp, b9⟩⟩
  have h_first_ones : Has l.prog w K mg base okH 3 "first_ones" 1 M_first_ones := ⟨⟨_, _, _, ok_first_ones F10 h_scaled h_trimmed, PySem.W.mg_of X G a10, F10.kp, b10⟩⟩
  have h_product : Has l.prog w K mg base okH 3 "product" 2 M_product := ⟨⟨_, _, _, ok_product F11 h_times, PySem.W.mg_of X G a11, F11.kp, b11⟩⟩
  have h_next_one : Has l.prog w K mg base okH 4 "next_one" 2 M_next_one := ⟨⟨_, _, _, ok_next_one F12 h_product h_times h_minus h_scaled h_cubic m_len, PySem.W.mg_of X G a12, F12.kp, b12⟩⟩
  have h_division_polynomials : Has l.prog w K mg base okH 5 "division_polynomials" 2 M_division_polynomials := ⟨⟨_, _, _, ok_division_polynomials F13 h_first_ones h_next_one m_len, PySem.W.mg_of X G a13, F13.kp, b13⟩⟩
  have h_division_polynomial : Has l.prog w K mg base okH 6 "division_polynomial" 2 M_division_polynomial := ⟨⟨_, _, _, ok_division_polynomial F14 h_division_polynomials, PySem.W.mg_of X G a14, F14.kp, b14⟩⟩
  have h_kills : Has l.prog w K mg base okH 7 "kills" 3 M_kills := ⟨⟨_, _, _, ok_kills F15 h_value h_division_polynomial, PySem.W.mg_of X G a15, F15.kp, b15⟩⟩
  have h_first_of_multiple : Has l.prog w K mg base okH 8 "first_of_multiple" 3 M_first_of_multiple := ⟨⟨_, _, _, ok_first_of_multiple F16 h_kills h_division_polynomials h_value h_side h_inverse, PySem.W.mg_of X G a16, F16.kp, b16⟩⟩
  have h__law_wide : Has l.prog w K mg base okH 1 "_law_wide" 2 M__law_wide := ⟨⟨_, _, _, ok__law_wide F17 m_abs m_int m_len, PySem.W.mg_of X G a17, F17.kp, b17⟩⟩
  have h__law_take : Has l.prog w K mg base okH 2 "_law_take" 2 M__law_take := ⟨⟨_, _, _, ok__law_take F18 h__law_wide m_int, PySem.W.mg_of X G a18, F18.kp, b18⟩⟩
  have h__law_pool : Has l.prog w K mg base okH 1 "_law_pool" 1 M__law_pool := ⟨⟨_, _, _, ok__law_pool F19 m_list, PySem.W.mg_of X G a19, F19.kp, b19⟩⟩
  have h__law_mod : Has l.prog w K mg base okH 1 "_law_mod" 2 M__law_mod := ⟨⟨_, _, _, ok__law_mod F20 m_int, PySem.W.mg_of X G a20, F20.kp, b20⟩⟩
  have h__law_prime_from : Has l.prog w K mg base okH 2 "_law_prime_from" 1 M__law_prime_from := ⟨⟨_, _, _, ok__law_prime_from F21 h__law_mod m_range, PySem.W.mg_of X G a21, F21.kp, b21⟩⟩
  have h__law_prime : Has l.prog w K mg base okH 3 "_law_prime" 2 M__law_prime := ⟨⟨_, _, _, ok__law_prime F22 h__law_prime_from h__law_take, PySem.W.mg_of X G a22, F22.kp, b22⟩⟩
  have h__law_pair : Has l.prog w K mg base okH 3 "_law_pair" 2 M__law_pair := ⟨⟨_, _, _, ok__law_pair F23 h__law_take, PySem.W.mg_of X G a23, F23.kp, b23⟩⟩
  have h__law_curve : Has l.prog w K mg base okH 4 "_law_curve" 2 M__law_curve := ⟨⟨_, _, _, ok__law_curve F24 h__law_prime h__law_pair h__law_mod m_range, PySem.W.mg_of X G a24, F24.kp, b24⟩⟩
  have h__law_side : Has l.prog w K mg base okH 2 "_law_side" 2 M__law_side := ⟨⟨_, _, _, ok__law_side F25 h__law_mod, PySem.W.mg_of X G a25, F25.kp, b25⟩⟩
  have h__law_points : Has l.prog w K mg base okH 3 "_law_points" 1 M__law_points := ⟨⟨_, _, _, ok__law_points F26 h__law_mod h__law_side m_range, PySem.W.mg_of X G a26, F26.kp, b26⟩⟩
  have h__law_inverse : Has l.prog w K mg base okH 2 "_law_inverse" 2 M__law_inverse := ⟨⟨_, _, _, ok__law_inverse F27 h__law_mod, PySem.W.mg_of X G a27, F27.kp, b27⟩⟩
  have h__law_sum : Has l.prog w K mg base okH 3 "_law_sum" 3 M__law_sum := ⟨⟨_, _, _, ok__law_sum F28 h__law_mod h__law_inverse, PySem.W.mg_of X G a28, F28.kp, b28⟩⟩
  have h__law_multiple : Has l.prog w K mg base okH 4 "_law_multiple" 3 M__law_multiple := ⟨⟨_, _, _, ok__law_multiple F29 h__law_mod h__law_sum, PySem.W.mg_of X G a29, F29.kp, b29⟩⟩
  have h__law_value : Has l.prog w K mg base okH 2 "_law_value" 3 M__law_value := ⟨⟨_, _, _, ok__law_value F30 h__law_mod m_list m_reversed, PySem.W.mg_of X G a30, F30.kp, b30⟩⟩
  exact ok_law F31 h__law_pool h__law_curve h__law_points h__law_take h__law_multiple h_kills h__law_value h_division_polynomial h_first_of_multiple m_int m_len m_min m_range
end G
open PySem PySem.W PyProof.Rows
set_option maxRecDepth 100000 in
set_option maxHeartbeats 0 in
theorem PySem.Challenge.cw_curvetally_k31_whole_killed_points_holds : PySem.Challenge.rw_curvetally_k31_whole_killed_points.Holds := by
  w_on; o_law; k_head; (case hw => w_witness2)
  k_fill
  refine L2.walk_of (l := PySem.Challenge.rw_curvetally_k31_whole_killed_points) (n := 63) (k := 9) (x := "script") (CX := fun _ => L2.CX0) (sp := fun w => DL.SpD _ G.okH 1 DL.M_law) rfl (by decide) rfl ⟨rfl, by decide, by decide⟩ (fun w h Y => PySem.W.kIn_of Y) ?F (fun _ _ a ns hl _ hS => DL.law_sp hS hl) (fun _ _ _ _ _ h => h)
  case F =>
    intro w mg fa h KX GG hmg
    refine' G.all_mk KX GG hmg ?a0 ?l0 ?c0 ?k0 ?a1 ?l1 ?c1 ?k1 ?a2 ?l2 ?c2 ?k2 ?a3 ?l3 ?c3 ?k3 ?a4 ?l4 ?c4 ?k4 ?a5 ?l5 ?c5 ?k5 ?a6 ?l6 ?c6 ?k6 ?a7 ?l7 ?c7 ?k7 ?a8 ?l8 ?c8 ?k8 ?a9 ?l9 ?c9 ?k9 ?a10 ?l10 ?c10 ?k10 ?a11 ?l11 ?c11 ?k11 ?a12 ?l12 ?c12 ?k12 ?a13 ?l13 ?c13 ?k13 ?a14 ?l14 ?c14 ?k14 ?a15 ?l15 ?c15 ?k15 ?a16 ?l16 ?c16 ?k16 ?a17 ?l17 ?c17 ?k17 ?a18 ?l18 ?c18 ?k18 ?a19 ?l19 ?c19 ?k19 ?a20 ?l20 ?c20 ?k20 ?a21 ?l21 ?c21 ?k21 ?a22 ?l22 ?c22 ?k22 ?a23 ?l23 ?c23 ?k23 ?a24 ?l24 ?c24 ?k24 ?a25 ?l25 ?c25 ?k25 ?a26 ?l26 ?c26 ?k26 ?a27 ?l27 ?c27 ?k27 ?a28 ?l28 ?c28 ?k28 ?a29 ?l29 ?c29 ?k29 ?a30 ?l30 ?c30 ?k30 ?a31 ?l31 ?c31 ?k31 ?z_abs ?z_int ?z_len ?z_list ?z_max ?z_min ?z_range ?z_reversed ?z_tuple
    (case a0 => k_is)
    (case l0 => k_is)
    (case c0 => k_is)
    (case k0 => k_is)
    (case a1 => k_is)
    (case l1 => k_is)
    (case c1 => k_is)
    (case k1 => k_is)
    (case a2 => k_is)
    (case l2 => k_is)
    (case c2 => k_is)
    (case k2 => k_is)
    (case a3 => k_is)
    (case l3 => k_is)
    (case c3 => k_is)
    (case k3 => k_is)
    (case a4 => k_is)
    (case l4 => k_is)
    (case c4 => k_is)
    (case k4 => k_is)
    (case a5 => k_is)
    (case l5 => k_is)
    (case c5 => k_is)
    (case k5 => k_is)
    (case a6 => k_is)
    (case l6 => k_is)
    (case c6 => k_is)
    (case k6 => k_is)
    (case a7 => k_is)
    (case l7 => k_is)
    (case c7 => k_is)
    (case k7 => k_is)
    (case a8 => k_is)
    (case l8 => k_is)
    (case c8 => k_is)
    (case k8 => k_is)
    (case a9 => k_is)
    (case l9 => k_is)
    (case c9 => k_is)
    (case k9 => k_is)
    (case a10 => k_is)
    (case l10 => k_is)
    (case c10 => k_is)
    (case k10 => k_is)
    (case a11 => k_is)
    (case l11 => k_is)
    (case c11 => k_is)
    (case k11 => k_is)
    (case a12 => k_is)
    (case l12 => k_is)
    (case c12 => k_is)
    (case k12 => k_is)
    (case a13 => k_is)
    (case l13 => k_is)
    (case c13 => k_is)
    (case k13 => k_is)
    (case a14 => k_is)
    (case l14 => k_is)
    (case c14 => k_is)
    (case k14 => k_is)
    (case a15 => k_is)
    (case l15 => k_is)
    (case c15 => k_is)
    (case k15 => k_is)
    (case a16 => k_is)
    (case l16 => k_is)
    (case c16 => k_is)
    (case k16 => k_is)
    (case a17 => k_is)
    (case l17 => k_is)
    (case c17 => k_is)
    (case k17 => k_is)
    (case a18 => k_is)
    (case l18 => k_is)
    (case c18 => k_is)
    (case k18 => k_is)
    (case a19 => k_is)
    (case l19 => k_is)
    (case c19 => k_is)
    (case k19 => k_is)
    (case a20 => k_is)
    (case l20 => k_is)
    (case c20 => k_is)
    (case k20 => k_is)
    (case a21 => k_is)
    (case l21 => k_is)
    (case c21 => k_is)
    (case k21 => k_is)
    (case a22 => k_is)
    (case l22 => k_is)
    (case c22 => k_is)
    (case k22 => k_is)
    (case a23 => k_is)
    (case l23 => k_is)
    (case c23 => k_is)
    (case k23 => k_is)
    (case a24 => k_is)
    (case l24 => k_is)
    (case c24 => k_is)
    (case k24 => k_is)
    (case a25 => k_is)
    (case l25 => k_is)
    (case c25 => k_is)
    (case k25 => k_is)
    (case a26 => k_is)
    (case l26 => k_is)
    (case c26 => k_is)
    (case k26 => k_is)
    (case a27 => k_is)
    (case l27 => k_is)
    (case c27 => k_is)
    (case k27 => k_is)
    (case a28 => k_is)
    (case l28 => k_is)
    (case c28 => k_is)
    (case k28 => k_is)
    (case a29 => k_is)
    (case l29 => k_is)
    (case c29 => k_is)
    (case k29 => k_is)
    (case a30 => k_is)
    (case l30 => k_is)
    (case c30 => k_is)
    (case k30 => k_is)
    (case a31 => k_is)
    (case l31 => k_is)
    (case c31 => k_is)
    (case k31 => k_is)
    (case z_abs => k_is)
    (case z_int => k_is)
    (case z_len => k_is)
    (case z_list => k_is)
    (case z_max => k_is)
    (case z_min => k_is)
    (case z_range => k_is)
    (case z_reversed => k_is)
    (case z_tuple => k_is)
