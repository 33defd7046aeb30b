import PyProof.Rows.All
import Wide.All
import OpenK.AllK
import Wide.FinOn
import HandS.ForMost
import HandS.Wide
import HandS.WideBits
import HandS.Walk
import HandS.SortInts
import HandS.TupAny
import HandS.Rev
import HandS.Deep
import HandS.Style
import HandS.TupMul
import HandS.IsInst
import HandS.NoneIn
import HandS.Dict
import HandS.DictComp
import HandS.Iter
import HandS.SortRule
import KE.KeyNested
import KE.KDictSum
import KE.KDictCopyH
import KE.DataMinMax
import KE.SortData
import HandS.TupLen
import HandS.DictTup
import HandS.Defaults
import PySem.Challenge.RW_curvetally_k45_logarithms_and_independen
set_option Elab.async false
set_option linter.all false
set_option maxRecDepth 100000
set_option maxHeartbeats 4000000
/-! DN, part a: dicts whose keys are None, whole numbers and tuples of any depth, all together; at the model's level. -/
namespace DN
open PySem PySem.Spec PyProof.Rows L2

/-- a value that may be a key here -/
structure IsKey (h : Heap) (k : NestedKey) (v : Value) : Prop where
  is : NestedIs h k v
  dp : k.depth ≤ 8
  nt : ∀ x, k ≠ .text x
abbrev Row := NestedKey × Value × Value
def ent (w : World) (x : Row) : DictEntry := ⟨x.1.hash w, x.2.1, x.2.2⟩
/-- the rows, the key's own value kept -/
def rowPut (k : NestedKey) (v : Value) (x : Row) : Row := if x.1 = k then (x.1, x.2.1, v) else x
def rowAt (xs : List Row) (k : NestedKey) : Option Value := (xs.find? fun x => decide (x.1 = k)).map (·.2.2)
def rowSet (xs : List Row) (k : NestedKey) (kv v : Value) : List Row := if (rowAt xs k).isSome = true then xs.map (rowPut k v) else xs ++ [(k, kv, v)]
def Dict (w : World) (h : Heap) (d : Addr) (xs : List Row) : Prop :=
  ∃ o es ep, h.get? d = some o ∧ o.ExactDict ∧ o.data = .dict es ep ∧ es.toList = xs.map (ent w) ∧ (∀ x ∈ xs, IsKey h x.1 x.2.1) ∧ (xs.map (·.1)).Nodup

theorem IsKey.shape {h : Heap} {k : NestedKey} {v : Value} (x : IsKey h k v) : v = .none ∨ (∃ b, v = .bool b) ∨ (∃ i t, v = .int i t) ∨ ∃ a, v = .ref a := by
  obtain ⟨x, _, n⟩ := x
  cases x with
  | none => exact .inl rfl
  | bool e => exact .inr (.inl ⟨_, rfl⟩)
  | int i t => exact .inr (.inr (.inl ⟨_, _, rfl⟩))
  | text y t => exact absurd rfl (n y)
  | tup => exact .inr (.inr (.inr ⟨_, rfl⟩))
theorem IsKey.keep {h h' : Heap} {k : NestedKey} {v : Value} (x : IsKey h k v) (e : ∀ a o vs n, h.get? a = some o → o.data = .seq vs n → h'.get? a = some o) : IsKey h' k v := ⟨NestedIs.at e k v x.is, x.dp, x.nt⟩
theorem IsKey.inj {h : Heap} {k j : NestedKey} {v : Value} (x : IsKey h k v) (y : IsKey h j v) : k = j := NestedIs.inj _ _ _ x.is y.is

theorem at_of_get {xs : List Row} (hn : (xs.map (·.1)).Nodup) {i : Nat} {k : NestedKey} {p : Value × Value} (hx : xs[i]? = some (k, p)) : rowAt xs k = some p.2 := by
  have hm : (k, p) ∈ xs := List.mem_of_getElem? hx
  unfold rowAt
  cases e : xs.find? fun x => decide (x.1 = k) with
  | none => exact absurd (decide_eq_true (rfl : k = k)) (List.find?_eq_none.mp e _ hm)
  | some y =>
    have h1 := List.mem_of_find?_eq_some e
    have h2 : y.1 = k := by simpa using List.find?_some e
    obtain ⟨j, hj⟩ := List.mem_iff_getElem?.mp h1
    have a : (xs.map (·.1))[i]? = some k := by rw [List.getElem?_map, hx]; rfl
    have b : (xs.map (·.1))[j]? = some k := by rw [List.getElem?_map, hj]; exact congrArg some h2
    have : i = j := (List.getElem?_inj (List.getElem?_eq_some_iff.mp a).1 hn).mp (a.trans b.symm)
    rw [← this, hx] at hj
    cases hj
    rfl
theorem at_none {xs : List Row} {k : NestedKey} (h : ∀ (j : Nat) (p : Value × Value), xs[j]? ≠ some (k, p)) : rowAt xs k = none := by
  unfold rowAt
  rw [List.find?_eq_none.mpr, Option.map_none]
  intro x hx hk
  obtain ⟨j, hj⟩ := List.mem_iff_getElem?.mp hx
  have e : x.1 = k := of_decide_eq_true hk
  exact h j x.2 (by rw [hj, ← e])
theorem idx_uniq {xs : List Row} (hn : (xs.map (·.1)).Nodup) {i j : Nat} {k : NestedKey} {p q : Value × Value} (hi : xs[i]? = some (k, p)) (hj : xs[j]? = some (k, q)) : i = j := by
  have a : (xs.map (·.1))[i]? = some k := by rw [List.getElem?_map, hi]; rfl
  have b : (xs.map (·.1))[j]? = some k := by rw [List.getElem?_map, hj]; rfl
  exact (List.getElem?_inj (List.getElem?_eq_some_iff.mp a).1 hn).mp (a.trans b.symm)

section
variable {prog : Program} {w : World} {A : Around} {E : Value → Shared → Prop} {s : Shared}
theorem hash_key {k : NestedKey} {v : Value} {Q : Int → Shared → Prop} (hu : A.units + 8 < cLine) (x : IsKey s.heap k v) (h : Q (k.hash w) { s with toks := s.toks + k.draws }) : wpAny (model prog w) A (pyHash v) Q E s :=
  pyHash_key k v A s Q x.is (by have := x.dp; omega) h
theorem eq_key {x y : NestedKey} {u v : Value} {Q : Bool → Shared → Prop} (hu : A.units + 8 < cLine) (hx : IsKey s.heap x u) (hy : IsKey s.heap y v) (h : Q (decide (x = y)) s) : wpAny (model prog w) A (eqBool u v) Q E s :=
  eqAt_key x y A s _ _ hx.is hy.is (by have := hx.dp; omega) _ _ _ _ (by rw [← NestedKey.decide_eq]; exact h)
theorem quiet {k : NestedKey} {v : Value} {Q : Bool → Shared → Prop} (x : IsKey s.heap k v) (h : Q true s) : wpAny (model prog w) A (eqIsQuiet 8 v) Q E s := quiet_key k v 8 s x.is x.dp A E Q h
theorem tells {v : Value} {k : NestedKey} {stored : List Value} {Q : Bool → Shared → Prop} (x : IsKey s.heap k v) (hst : ∀ v ∈ stored, ∃ k', IsKey s.heap k' v) (h : Q false s) : wpAny (model prog w) A (tableMayTell v stored) Q E s := by
  unfold tableMayTell
  split
  · exact wpAny_pure h
  · refine wpAny_bind (quiet x ?_)
    simp only [Bool.not_true, Bool.false_eq_true, if_false]
    refine wpAny_bind ?_
    refine wpAny_forIn_list _ (fun rest r s' => s' = s ∧ r = (none, ()) ∧ ∀ v ∈ rest, ∃ k', IsKey s.heap k' v) _ ?_ ?_ _ _ ⟨rfl, rfl, hst⟩
    · rintro y rest r s' ⟨rfl, rfl, hr⟩
      obtain ⟨k', hb⟩ := hr y List.mem_cons_self
      refine wpAny_bind (quiet hb ?_)
      simp only [Bool.not_true, Bool.false_eq_true, if_false]
      exact wpAny_pure ⟨rfl, rfl, fun v hv => hr v (List.mem_cons_of_mem _ hv)⟩
    · rintro r s' ⟨rfl, rfl, _⟩
      exact wpAny_pure h
end
end DN
namespace DN
open PySem PySem.Spec PyProof.Rows L2
section
variable {prog : Program} {w : World} {A : Around} {E : Value → Shared → Prop} {s : Shared}
theorem find {d : Addr} {o : Obj} {es : Array DictEntry} {ep : Nat} {xs : List Row} {k : NestedKey} {v : Value} {Q : Option Nat → Shared → Prop} (hu : A.units + 8 < cLine) (hk : IsKey s.heap k v)
    (ho : s.heap.get? d = some o) (hd : o.data = .dict es ep) (he : es.toList = xs.map (ent w)) (his : ∀ x ∈ xs, IsKey s.heap x.1 x.2.1) (hn : (xs.map (·.1)).Nodup)
    (hnone : (∀ (j : Nat) (p : Value × Value), xs[j]? ≠ some (k, p)) → Q none s) (hsome : ∀ (j : Nat) (p : Value × Value), xs[j]? = some (k, p) → Q (some j) s) :
    wpAny (model prog w) A (dictFind d v (k.hash w)) Q E s := by
  have at_ : ∀ j, es[j]? = (xs[j]?).map (ent w) := fun j => by rw [← Array.getElem?_toList, he, List.getElem?_map]
  have hsz : es.size = xs.length := by rw [← Array.length_toList, he, List.length_map]
  have haskey : ∀ (j : Nat) (p : Value × Value), xs[j]? = some (k, p) → ((es[j]?.map (·.hash)) == some (k.hash w)) = true := fun j p hj => by
    rw [at_ j, hj]
    simp [ent]
  have hmem : ∀ e ∈ es, ∃ x ∈ xs, e = ent w x := fun e hin => by
    have : e ∈ xs.map (ent w) := he ▸ Array.mem_toList_iff.mpr hin
    obtain ⟨x, hx, rfl⟩ := List.mem_map.mp this
    exact ⟨x, hx, rfl⟩
  have hst : ∀ v ∈ (placesWithHash es.size (fun i => es[i]?.map (·.hash)) (k.hash w)).filterMap (fun i => es[i]?.map (·.key)), ∃ k', IsKey s.heap k' v := fun v hv => by
    obtain ⟨i, _, hi⟩ := List.mem_filterMap.mp hv
    cases hei : es[i]? with
    | none => rw [hei] at hi; cases hi
    | some e =>
      rw [hei] at hi
      obtain rfl : e.key = v := by simpa using hi
      obtain ⟨x, hx, rfl⟩ := hmem e (Array.mem_of_getElem? hei)
      exact ⟨x.1, his x hx⟩
  -- what is known of the places gone by
  have hyp : (placesWithHash es.size (fun i => es[i]?.map (·.hash)) (k.hash w)) = (List.range' 0 (es.size - 0)).filter (fun i => (es[i]?.map (·.hash)) == some (k.hash w)) := by
    rw [placesWithHash, List.range_eq_range', Nat.sub_zero]
  have next : ∀ {i x : Nat} {rest : List Nat}, (List.range' i (es.size - i)).filter (fun i => (es[i]?.map (·.hash)) == some (k.hash w)) = x :: rest → (∀ j p, j < i → xs[j]? ≠ some (k, p)) →
      x < es.size ∧ rest = (List.range' (x + 1) (es.size - (x + 1))).filter (fun i => (es[i]?.map (·.hash)) == some (k.hash w)) ∧ ∀ j p, j < x → xs[j]? ≠ some (k, p) := fun {i x rest} hr hno => by
    obtain ⟨hix, hxn, hpx, hskip, hrest⟩ := filter_range'_cons _ _ _ _ _ hr
    have hlt : x < es.size := by omega
    refine ⟨hlt, by rw [hrest]; congr 2; omega, fun j p hjx hj => ?_⟩
    rcases Nat.lt_or_ge j i with h | h
    · exact hno j p h hj
    · have := hskip j h hjx
      rw [haskey j p hj] at this
      cases this
  have done : ∀ {i : Nat}, [] = (List.range' i (es.size - i)).filter (fun i => (es[i]?.map (·.hash)) == some (k.hash w)) → (∀ j p, j < i → xs[j]? ≠ some (k, p)) → ∀ (j : Nat) (p : Value × Value), xs[j]? ≠ some (k, p) := fun {i} hr hno j p hj => by
    rcases Nat.lt_or_ge j i with h | h
    · exact hno j p h hj
    · have hjl : j < es.size := by
        rw [hsz]
        rcases Nat.lt_or_ge j xs.length with h' | h'
        · exact h'
        · rw [List.getElem?_eq_none h'] at hj; cases hj
      have := List.filter_eq_nil_iff.mp hr.symm j (List.mem_range'_1.mpr ⟨h, by omega⟩)
      exact this (haskey j p hj)
  have get : ∀ {x : Nat}, x < es.size → ∃ k' b v', xs[x]? = some (k', b, v') ∧ IsKey s.heap k' b ∧ es[x]? = some ⟨k'.hash w, b, v'⟩ := fun {x} hlt => by
    obtain ⟨⟨k', b, v'⟩, hkv⟩ : ∃ y, xs[x]? = some y := ⟨xs[x]'(by rw [← hsz]; exact hlt), List.getElem?_eq_getElem _⟩
    exact ⟨k', b, v', hkv, his _ (List.mem_of_getElem? hkv), by rw [at_ x, hkv]; rfl⟩
  have no1 : ∀ {x : Nat} {k' : NestedKey} {b v' : Value}, xs[x]? = some (k', b, v') → ¬ k' = k → (∀ j p, j < x → xs[j]? ≠ some (k, p)) → ∀ j p, j < x + 1 → xs[j]? ≠ some (k, p) := fun {x k' b v'} hkv hne hno j p hjx hj => by
    rcases Nat.lt_or_ge j x with h | h
    · exact hno j p h hj
    · have : j = x := by omega
      subst this
      rw [hkv] at hj
      injection hj with hj
      injection hj with hj
      exact hne hj
  have plain : wpAny (model prog w) A (dictWalkPlain d v (k.hash w) es (placesWithHash es.size (fun i => es[i]?.map (·.hash)) (k.hash w))) Q E s := by
    unfold dictWalkPlain
    refine wpAny_bind ?_
    refine wpAny_forIn_list _ (fun rest b s' => s' = s ∧ ∃ i, b = (none, ()) ∧ rest = (List.range' i (es.size - i)).filter (fun i => (es[i]?.map (·.hash)) == some (k.hash w)) ∧ ∀ j p, j < i → xs[j]? ≠ some (k, p)) _ ?_ ?_ _ _
      ⟨rfl, 0, rfl, hyp, fun _ _ h => absurd h (Nat.not_lt_zero _)⟩
    · rintro x rest b s' ⟨rfl, i, rfl, hr, hno⟩
      obtain ⟨hlt, hrest, hno'⟩ := next hr.symm hno
      obtain ⟨k', b, v', hkv, hib, hex⟩ := get hlt
      rw [hex]
      dsimp only
      by_cases hh : (k'.hash w == k.hash w) = true
      · rw [if_pos hh]
        refine wpAny_bind (wpAny_dictEpoch ho hd (wpAny_bind (eq_key hu hib hk (wpAny_bind (wpAny_dictEpoch ho hd ?_)))))
        rw [if_neg (by simp)]
        by_cases hkk : k' = k
        · rw [if_pos (decide_eq_true hkk)]
          subst hkk
          exact wpAny_bind (wpAny_rule (wpAny_pure (wpAny_pure (hsome x _ hkv))))
        · rw [if_neg (by rw [decide_eq_false hkk]; decide)]
          exact wpAny_bind (wpAny_rule (wpAny_pure ⟨rfl, x + 1, rfl, hrest, no1 hkv hkk hno'⟩))
      · rw [if_neg hh]
        refine wpAny_pure ⟨rfl, x + 1, rfl, hrest, no1 hkv (fun z => hh ?_) hno'⟩
        rw [z]; exact beq_self_eq_true _
    · rintro b s' ⟨rfl, i, rfl, hr, hno⟩
      exact wpAny_pure (hnone (done hr hno))
  have next2 : ∀ {i x : Nat} {rest : List Nat}, (List.range' i (es.size - i)).filter (fun i => (es[i]?.map (·.hash)) == some (k.hash w)) = x :: rest →
      x < es.size ∧ i ≤ x ∧ rest = (List.range' (x + 1) (es.size - (x + 1))).filter (fun i => (es[i]?.map (·.hash)) == some (k.hash w)) := fun {i x rest} hr => by
    obtain ⟨hix, hxn, _, _, hrest⟩ := filter_range'_cons _ _ _ _ _ hr
    exact ⟨by omega, hix, by rw [hrest]; congr 2; omega⟩
  by_cases hall : (v :: (placesWithHash es.size (fun i => es[i]?.map (·.hash)) (k.hash w)).filterMap (fun i => es[i]?.map (·.key))).all carriedByValue = true
  · rcases hk.shape with rfl | ⟨b, rfl⟩ | ⟨i, t, rfl⟩ | ⟨a, rfl⟩
    all_goals
      unfold dictFind
      refine wpAny_holding ?_
      refine wpAny_bind (wpAny_dictEntries ho hd ?_)
      dsimp only
      rw [if_pos hall]
      exact plain
  by_cases hone : (((placesWithHash es.size (fun i => es[i]?.map (·.hash)) (k.hash w)).filterMap (fun i => es[i]?.map (·.key))) == [v]) = true
  all_goals
    rcases hk.shape with rfl | ⟨b, rfl⟩ | ⟨i, t, rfl⟩ | ⟨a, rfl⟩
  all_goals
    unfold dictFind
    refine wpAny_holding ?_
    refine wpAny_bind (wpAny_dictEntries ho hd ?_)
    dsimp only
    rw [if_neg hall]
  all_goals
    first
      | rw [if_pos hone]
      | rw [if_neg hone]
      | skip
  all_goals
    first
      | rw [if_neg (show ¬ (es.any fun e => e.key == Value.ref a && e.hash != k.hash w) = true by
          rw [← Array.any_toList, List.any_eq_true]
          rintro ⟨e, hin, hc⟩
          obtain ⟨x, hx, rfl⟩ := hmem e (Array.mem_toList_iff.mp hin)
          simp only [ent, Bool.and_eq_true, beq_iff_eq, bne_iff_ne, ne_eq] at hc
          obtain ⟨hxa, hne⟩ := hc
          have := his x hx
          rw [hxa] at this
          exact hne (by rw [this.inj hk]))]
      | skip
  all_goals
    first
      | rw [if_pos hone]
      | rw [if_neg hone]
      | skip
    first
      | refine wpAny_bind (wpAny_pure ?_)
      | refine wpAny_bind (tells hk hst ?_)
    rw [if_neg (by simp)]
    refine wpAny_bind ?_
    refine wpAny_forIn_list _
      (fun rest b s' => s' = s ∧ ∃ i hit, b = (none, hit) ∧ rest = (List.range' i (es.size - i)).filter (fun i => (es[i]?.map (·.hash)) == some (k.hash w)) ∧
        ((hit = none ∧ ∀ j p, j < i → xs[j]? ≠ some (k, p)) ∨ ∃ j p, hit = some j ∧ j < i ∧ xs[j]? = some (k, p))) _ ?_ ?_ _ _
      ⟨rfl, 0, none, rfl, hyp, .inl ⟨rfl, fun _ _ h => absurd h (Nat.not_lt_zero _)⟩⟩
    · rintro x rest b s' ⟨rfl, i, hit, rfl, hr, hH⟩
      obtain ⟨hlt, hix, hrest⟩ := next2 hr.symm
      obtain ⟨k', b, v', hkv, hib, hex⟩ := get hlt
      have stay : ¬ k' = k → ((hit = none ∧ ∀ j p, j < x + 1 → xs[j]? ≠ some (k, p)) ∨ ∃ j p, hit = some j ∧ j < x + 1 ∧ xs[j]? = some (k, p)) := fun hne => by
        rcases hH with ⟨h0, hno⟩ | ⟨j, p, h1, hji, hj⟩
        · exact .inl ⟨h0, no1 hkv hne (next hr.symm hno).2.2⟩
        · exact .inr ⟨j, p, h1, by omega, hj⟩
      rw [hex]
      dsimp only
      by_cases hh : (k'.hash w == k.hash w) = true
      · rw [if_pos hh]
        refine wpAny_bind (wpAny_dictEpoch ho hd (wpAny_bind (eq_key hu hib hk (wpAny_bind (wpAny_dictEpoch ho hd ?_)))))
        rw [if_neg (by simp)]
        by_cases hkk : k' = k
        · rw [if_pos (decide_eq_true hkk)]
          subst hkk
          rcases hH with ⟨rfl, _⟩ | ⟨j, p, _, hji, hj⟩
          · rw [if_neg (by simp)]
            refine wpAny_bind (wpAny_rule ?_)
            split
            · exact wpAny_pure (wpAny_pure (hsome x _ hkv))
            · exact wpAny_pure ⟨rfl, x + 1, some x, rfl, hrest, .inr ⟨x, _, rfl, Nat.lt_succ_self x, hkv⟩⟩
          · exact absurd (idx_uniq hn hj hkv) (by omega)
        · rw [if_neg (by rw [decide_eq_false hkk]; decide)]
          refine wpAny_bind (wpAny_rule ?_)
          rw [if_neg (by simp)]
          exact wpAny_pure ⟨rfl, x + 1, hit, rfl, hrest, stay hkk⟩
      · rw [if_neg hh]
        refine wpAny_pure ⟨rfl, x + 1, hit, rfl, hrest, stay fun z => hh ?_⟩
        rw [z]; exact beq_self_eq_true _
    · rintro b s' ⟨rfl, i, hit, rfl, hr, hH⟩
      rcases hH with ⟨rfl, hno⟩ | ⟨j, p, rfl, _, hj⟩
      · exact wpAny_pure (hnone (done hr hno))
      · exact wpAny_pure (hsome j p hj)
end
end DN
namespace DN
open PySem PySem.Spec PyProof.Rows L2
theorem IsKey.but {h h' : Heap} {k : NestedKey} {v : Value} {d : Addr} {o : Obj} {es : Array DictEntry} {ep : Nat} (x : IsKey h k v) (ho : h.get? d = some o) (hd : o.data = .dict es ep) (hs : Heap.SameBut d h h') : IsKey h' k v :=
  x.keep fun b ob vs n hb hc => by
    refine (hs.2 b fun e => ?_).trans hb
    subst e
    rw [ho] at hb
    cases hb
    rw [hd] at hc
    cases hc
theorem put_notin {k : NestedKey} {v : Value} : ∀ {xs : List Row}, k ∉ xs.map (·.1) → xs.map (rowPut k v) = xs
  | [], _ => rfl
  | x :: xs, h => by
    rw [List.map_cons, List.mem_cons, not_or] at h
    rw [List.map_cons, put_notin h.2, rowPut, if_neg fun e => h.1 e.symm]
theorem put_keys (k : NestedKey) (v : Value) (xs : List Row) : (xs.map (rowPut k v)).map (·.1) = xs.map (·.1) := by
  rw [List.map_map]
  refine List.map_congr_left fun x _ => ?_
  show (rowPut k v x).1 = x.1
  unfold rowPut
  split <;> rfl
theorem modify_put {w : World} {k : NestedKey} {v : Value} : ∀ {xs : List Row} {j : Nat} {p : Value × Value}, (xs.map (·.1)).Nodup → xs[j]? = some (k, p) → (xs.map (ent w)).modify j (fun e : DictEntry => { e with val := v }) = (xs.map (rowPut k v)).map (ent w)
  | [], _, _, _, h => by simp at h
  | x :: xs, 0, p, hn, h => by
    rw [List.getElem?_cons_zero] at h
    cases h
    rw [List.map_cons, List.nodup_cons] at hn
    rw [List.map_cons, List.map_cons, List.map_cons, put_notin hn.1, rowPut, if_pos rfl]
    rfl
  | x :: xs, j + 1, p, hn, h => by
    rw [List.getElem?_cons_succ] at h
    rw [List.map_cons, List.nodup_cons] at hn
    have hne : ¬ x.1 = k := fun e => hn.1 (List.mem_map.mpr ⟨(k, p), List.mem_of_getElem? h, e.symm⟩)
    have e : (xs.map (rowPut k v)).map (ent w) = (xs.map (ent w)).modify j fun e : DictEntry => { e with val := v } := (modify_put (w := w) (v := v) hn.2 h).symm
    rw [List.map_cons, List.map_cons, List.map_cons, e, rowPut, if_neg hne]
    rfl
theorem rowSet_len (xs : List Row) (k : NestedKey) (kv v : Value) : (rowSet xs k kv v).length ≤ xs.length + 1 := by
  unfold rowSet
  split
  · rw [List.length_map]; omega
  · rw [List.length_append]; exact Nat.le_refl _
theorem Dict.typeIs {w : World} {s : Shared} {d : Addr} {xs : List Row} (m : Dict w s.heap d xs) : s.TypeIs (.ref d) "dict" := let ⟨o, _, _, ho, hc, _⟩ := m; ⟨o, ho, hc.1⟩
theorem Dict.new {w : World} (h : Heap) : Dict w (h.push { cls := .type "dict", data := .dict #[] }) h.objs.size [] :=
  ⟨_, #[], 0, Heap.get?_push_size _ rfl, ⟨rfl, rfl, rfl⟩, rfl, rfl, fun _ hx => by simp at hx, List.nodup_nil⟩
section
variable {prog : Program} {w : World} {A : Around} {E : Value → Shared → Prop} {s : Shared} {d : Addr} {k : NestedKey} {v r : Value} {xs : List Row}
theorem getW {Q : Option Value → Shared → Prop} (hu : A.units + 8 < cLine) (hk : IsKey s.heap k v) (m : Dict w s.heap d xs) (h : Q (rowAt xs k) { s with toks := s.toks + k.draws }) : wpAny (model prog w) A (dictGet d v) Q E s := by
  obtain ⟨o, es, ep, ho, _, hd, he, his, hn⟩ := m
  unfold dictGet
  refine wpAny_holding ?_
  refine wpAny_bind (hash_key hu hk (wpAny_bind (find (s := { s with toks := s.toks + k.draws }) hu hk ho hd he his hn ?_ ?_)))
  · intro hno
    rw [at_none hno] at h
    exact wpAny_pure h
  · intro j p hj
    rw [at_of_get hn hj] at h
    refine wpAny_bind (wpAny_dictEntries (s := { s with toks := s.toks + k.draws }) ho hd ?_)
    rw [← Array.getElem?_toList, he, List.getElem?_map, hj]
    exact wpAny_pure h
theorem setH {Q : Unit → Shared → Prop} (hu : A.units + 8 < cLine) (hk : IsKey s.heap k v) (m : Dict w s.heap d xs) (hz : xs.length ≤ sizeLine)
    (h : ∀ h', Dict w h' d (rowSet xs k v r) → Heap.SameBut d s.heap h' → Q () { s with heap := h' }) : wpAny (model prog w) A (dictSetHashed d v (k.hash w) r) Q E s := by
  obtain ⟨o, es, ep, ho, hc, hd, he, his, hn⟩ := m
  have hsz : es.size = xs.length := by rw [← Array.length_toList, he, List.length_map]
  unfold dictSetHashed
  refine wpAny_holding ?_
  refine wpAny_bind (find hu hk ho hd he his hn ?_ ?_)
  · intro hno
    have e : rowSet xs k v r = xs ++ [(k, v, r)] := by unfold rowSet; rw [at_none hno]; rfl
    refine wpAny_bind (wpAny_rule (wpAny_updateDictKeys (hz := by omega) ho hd (h _ ⟨_, _, ep + 1, Heap.get?_update_self _ ho (Obj.isFreed_of_dict (Obj.data_mapDictKeys hd _)),
      hc.mapDictKeys _, Obj.data_mapDictKeys hd _, ?_, ?_, ?_⟩ (Heap.SameBut.update ..))))
    · rw [e]
      simp [he, ent]
    · rw [e]
      intro x hx
      rcases List.mem_append.mp hx with hx | hx
      · exact (his x hx).but ho hd (Heap.SameBut.update ..)
      · rw [List.mem_singleton.mp hx]
        exact hk.but ho hd (Heap.SameBut.update ..)
    · rw [e, List.map_append, List.nodup_append]
      refine ⟨hn, by simp, fun x hx y hy z => ?_⟩
      rw [List.map_cons, List.map_nil, List.mem_singleton] at hy
      subst hy
      subst z
      obtain ⟨q, hq, e⟩ := List.mem_map.mp hx
      obtain ⟨j, hj⟩ := List.mem_iff_getElem?.mp hq
      exact hno j q.2 (by rw [hj, ← e])
  · intro j p hj
    have e : rowSet xs k v r = xs.map (rowPut k r) := by unfold rowSet; rw [at_of_get hn hj]; rfl
    refine wpAny_bind (wpAny_rule (wpAny_bind (wpAny_updateDict ho hd (wpAny_point (h _ ⟨_, _, ep, Heap.get?_update_self _ ho (Obj.isFreed_of_dict (Obj.data_mapDict hd _)),
      hc.mapDict _, Obj.data_mapDict hd _, ?_, ?_, ?_⟩ (Heap.SameBut.update ..))))))
    · rw [e]
      have := modify_put (w := w) (v := r) hn hj
      rw [← he] at this
      obtain ⟨l⟩ := es
      simpa using this
    · rw [e]
      intro x hx
      obtain ⟨y, hy, rfl⟩ := List.mem_map.mp hx
      have : IsKey s.heap (rowPut k r y).1 (rowPut k r y).2.1 := by
        unfold rowPut
        split <;> exact his y hy
      exact this.but ho hd (Heap.SameBut.update ..)
    · rw [e, put_keys]; exact hn
theorem setW {Q : Unit → Shared → Prop} (hu : A.units + 8 < cLine) (hk : IsKey s.heap k v) (m : Dict w s.heap d xs) (hz : xs.length ≤ sizeLine)
    (h : ∀ h', Dict w h' d (rowSet xs k v r) → Heap.SameBut d s.heap h' → Q () { s with heap := h', toks := s.toks + k.draws }) : wpAny (model prog w) A (dictSet d v r) Q E s := by
  unfold dictSet
  refine wpAny_holding ?_
  exact wpAny_bind (hash_key hu hk (setH (s := { s with toks := s.toks + k.draws }) hu hk m hz h))

/-! ### the roads of Python -/
theorem in_ {Q : Value → Shared → Prop} (hu : A.in1.units + 8 < cLine) (hk : IsKey s.heap k v) (hd : (d == sysModules) = false) (m : Dict w s.heap d xs) (h : Q (.bool (rowAt xs k).isSome) { s with toks := s.toks + k.draws }) :
    wpAny (model prog w) A (compareOp .In v (.ref d)) Q E s := by
  show wpAny _ _ (do return .bool (← contains (.ref d) v)) Q E s
  refine wpAny_bind ?_
  unfold contains
  refine wpAny_holding ?_
  refine wpAny_bind (wpAny_specialOf m.typeIs slot_dict_contains.lookup ?_)
  show wpAny _ _ (if (some (Value.builtin "dict.__contains__") == some Value.none) = true then _ else _) _ E s
  rw [if_neg (by rw [beq_builtin_none]; exact Bool.false_ne_true)]
  refine wpAny_bind (wpAny_callSpecialUnlessNone?_slot (name := Str.ofString "__contains__") m.typeIs slot_dict_contains
    (wpAny_call_entry slot_dict_contains m.typeIs entry_dict_contains ?_ (args_dict_contains _ _)))
  show wpAny _ _ (dictGet d v >>= _) _ _ s
  refine wpAny_bind (getW hu hk m ?_)
  cases hf : rowAt xs k with
  | some p =>
    rw [hf] at h
    show wpAny _ _ (ret (.bool true)) _ _ _
    exact wpAny_pure ⟨_, rfl, wpAny_truthy_bool (wpAny_pure h)⟩
  | none =>
    rw [hf] at h
    show wpAny _ _ (Builtin.Dict.pendingKey? d v >>= _) _ _ _
    exact wpAny_bind (wpAny_pendingKey_other hd (wpAny_pure ⟨_, rfl, wpAny_truthy_bool (wpAny_pure h)⟩))
theorem notIn {Q : Value → Shared → Prop} (hu : A.in1.units + 8 < cLine) (hk : IsKey s.heap k v) (hd : (d == sysModules) = false) (m : Dict w s.heap d xs) (h : Q (.bool (!(rowAt xs k).isSome)) { s with toks := s.toks + k.draws }) :
    wpAny (model prog w) A (compareOp .NotIn v (.ref d)) Q E s := by
  show wpAny _ _ (do return .bool (!(← contains (.ref d) v))) Q E s
  refine wpAny_bind ?_
  unfold contains
  refine wpAny_holding ?_
  refine wpAny_bind (wpAny_specialOf m.typeIs slot_dict_contains.lookup ?_)
  show wpAny _ _ (if (some (Value.builtin "dict.__contains__") == some Value.none) = true then _ else _) _ E s
  rw [if_neg (by rw [beq_builtin_none]; exact Bool.false_ne_true)]
  refine wpAny_bind (wpAny_callSpecialUnlessNone?_slot (name := Str.ofString "__contains__") m.typeIs slot_dict_contains
    (wpAny_call_entry slot_dict_contains m.typeIs entry_dict_contains ?_ (args_dict_contains _ _)))
  show wpAny _ _ (dictGet d v >>= _) _ _ s
  refine wpAny_bind (getW hu hk m ?_)
  cases hf : rowAt xs k with
  | some p =>
    rw [hf] at h
    show wpAny _ _ (ret (.bool true)) _ _ _
    exact wpAny_pure ⟨_, rfl, wpAny_truthy_bool (wpAny_pure h)⟩
  | none =>
    rw [hf] at h
    show wpAny _ _ (Builtin.Dict.pendingKey? d v >>= _) _ _ _
    exact wpAny_bind (wpAny_pendingKey_other hd (wpAny_pure ⟨_, rfl, wpAny_truthy_bool (wpAny_pure h)⟩))
theorem item {Q : Value → Shared → Prop} (hu : A.in1.units + 8 < cLine) (hk : IsKey s.heap k v) (m : Dict w s.heap d xs) (hp : rowAt xs k = some r) (h : Q r { s with toks := s.toks + k.draws }) :
    wpAny (model prog w) A (getItem (.ref d) v) Q E s := by
  unfold getItem
  refine wpAny_holding ?_
  refine wpAny_bind (wpAny_sequenceKey m.typeIs (by decide) ?_)
  refine wpAny_bind (wpAny_callSpecial?_slot (name := Str.ofString "__getitem__") m.typeIs slot_dict_getitem
    (wpAny_call_entry slot_dict_getitem m.typeIs entry_dict_getitem ?_ (args_dict_getitem _ _)))
  show wpAny _ _ (dictGet d v >>= _) _ _ s
  refine wpAny_bind (getW hu hk m ?_)
  rw [hp]
  exact wpAny_pure ⟨r, rfl, wpAny_pure h⟩
theorem store {Q : Unit → Shared → Prop} (hu : A.in1.units + 8 < cLine) (hk : IsKey s.heap k v) (m : Dict w s.heap d xs) (hz : xs.length ≤ sizeLine)
    (h : ∀ h', Dict w h' d (rowSet xs k v r) → Heap.SameBut d s.heap h' → Q () { s with heap := h', toks := s.toks + k.draws }) : wpAny (model prog w) A (setItem (.ref d) v r) Q E s := by
  unfold setItem
  refine wpAny_holding ?_
  refine wpAny_bind (wpAny_sequenceKey m.typeIs (by decide) ?_)
  refine wpAny_bind (wpAny_callSpecial?_slot (name := Str.ofString "__setitem__") m.typeIs slot_dict_setitem
    (wpAny_call_entry slot_dict_setitem m.typeIs entry_dict_setitem ?_ (args_dict_setitem _ _ _)))
  show wpAny _ _ (Builtin.Dict.notOrdered "__setitem__" ⟨[.ref d, v, r], []⟩ >>= _) _ _ s
  refine wpAny_bind (wpAny_notOrdered_dict m.typeIs ?_)
  show wpAny _ _ (dictSet d v r >>= _) _ _ s
  exact wpAny_bind (setW hu hk m hz fun h' m' hs' => wpAny_pure ⟨.none, rfl, wpAny_pure (h h' m' hs')⟩)
end
section
variable {prog : Program} {w : World} {d : Addr} {v : Value}
theorem meets_get1 (hd : (d == sysModules) = false) : MeetsIn prog w (Builtin.«dict.get» ⟨[.ref d, v], []⟩) (fun A R s => A.in1.units + 8 < cLine ∧ ∃ k xs, IsKey s.heap k v ∧ Dict w s.heap d xs ∧ R (.ok (.ret ((rowAt xs k).getD .none))) { s with toks := s.toks + k.draws }) :=
  .of_wp fun A R s ⟨hu, k, xs, hk, m, h⟩ => by
    show wpAny _ _ (dictGet d v >>= _) _ _ s
    refine wpAny_bind (getW hu hk m ?_)
    cases hf : rowAt xs k with
    | some x =>
      rw [hf] at h
      exact wpAny_pure ⟨x, rfl, h⟩
    | none =>
      rw [hf] at h
      show wpAny _ _ (Builtin.Dict.missed d v >>= _) _ _ _
      exact wpAny_bind (wpAny_missed_other hd (wpAny_pure ⟨.none, rfl, h⟩))
theorem meets_get2 (hd : (d == sysModules) = false) (y : Value) : MeetsIn prog w (Builtin.«dict.get» ⟨[.ref d, v, y], []⟩) (fun A R s => A.in1.units + 8 < cLine ∧ ∃ k xs, IsKey s.heap k v ∧ Dict w s.heap d xs ∧ R (.ok (.ret ((rowAt xs k).getD y))) { s with toks := s.toks + k.draws }) :=
  .of_wp fun A R s ⟨hu, k, xs, hk, m, h⟩ => by
    show wpAny _ _ (dictGet d v >>= _) _ _ s
    refine wpAny_bind (getW hu hk m ?_)
    cases hf : rowAt xs k with
    | some x =>
      rw [hf] at h
      exact wpAny_pure ⟨x, rfl, h⟩
    | none =>
      rw [hf] at h
      show wpAny _ _ (Builtin.Dict.missed d v >>= _) _ _ _
      exact wpAny_bind (wpAny_missed_other hd (wpAny_pure ⟨y, rfl, h⟩))
end
end DN
/-! DN, part b: such dicts as tracked things; rules of expressions and statements. -/
namespace DN
open PySem PySem.Spec PyProof.Rows L2

mutual
/-- v is the key k, at most n deep -/
inductive NV (K : PySem.W.Frag) (H : Hp) : Nat → NestedKey → V → Prop
  | none (n : Nat) : NV K H n .none .non
  | int (n : Nat) (i : Int) : NV K H n (.num i) (.int i)
  | tup {n : Nat} {a : Addr} {xs : List V} {ks : List NestedKey} : SqT K H a xs → NVs K H n ks xs → NV K H (n + 1) (.tup ks) (.ref a)
inductive NVs (K : PySem.W.Frag) (H : Hp) : Nat → List NestedKey → List V → Prop
  | nil (n : Nat) : NVs K H n [] []
  | cons {n : Nat} {k : NestedKey} {v : V} {ks : List NestedKey} {vs : List V} : NV K H n k v → NVs K H n ks vs → NVs K H n (k :: ks) (v :: vs)
end
mutual
theorem NV.depth {K : PySem.W.Frag} {H : Hp} : ∀ {n : Nat} {k : NestedKey} {v : V}, NV K H n k v → k.depth ≤ n
  | _, _, _, .none n => Nat.zero_le _
  | _, _, _, .int n i => Nat.zero_le _
  | _, _, _, .tup _ r => by rw [NestedKey.depth]; exact Nat.succ_le_succ (NVs.depth r)
theorem NVs.depth {K : PySem.W.Frag} {H : Hp} : ∀ {n : Nat} {ks : List NestedKey} {vs : List V}, NVs K H n ks vs → NestedKey.depthAll ks ≤ n
  | _, _, _, .nil n => Nat.zero_le _
  | _, _, _, .cons h r => by
    rw [NestedKey.depthAll]
    exact Nat.max_le.mpr ⟨NV.depth h, NVs.depth r⟩
end
mutual
theorem NV.hash {K : PySem.W.Frag} {H : Hp} (w w' : World) : ∀ {n : Nat} {k : NestedKey} {v : V}, NV K H n k v → k.hash w = k.hash w'
  | _, _, _, .none n => rfl
  | _, _, _, .int n i => rfl
  | _, _, _, .tup _ r => by rw [NestedKey.hash, NestedKey.hash, NVs.hash w w' r]
theorem NVs.hash {K : PySem.W.Frag} {H : Hp} (w w' : World) : ∀ {n : Nat} {ks : List NestedKey} {vs : List V}, NVs K H n ks vs → NestedKey.hashes w ks = NestedKey.hashes w' ks
  | _, _, _, .nil n => rfl
  | _, _, _, .cons h r => by rw [NestedKey.hashes, NestedKey.hashes, NV.hash w w' h, NVs.hash w w' r]
end
theorem sqT_same {K : PySem.W.Frag} {H H' : Hp} {a : Addr} {xs : List V} (e : ∀ b o, H b = some o → Mut (some o) ∨ H' b = some o) (h : SqT K H a xs) : SqT K H' a xs := by
  rcases h with (h | ⟨o, h⟩) | h
  · rcases e _ _ h with z | z
    · exact z.elim
    · exact .inl (.inl z)
  · rcases e _ _ h with z | z
    · exact z.elim
    · exact .inl (.inr ⟨o, z⟩)
  · exact .inr h
mutual
theorem NV.same {K : PySem.W.Frag} {H H' : Hp} (e : ∀ b o, H b = some o → Mut (some o) ∨ H' b = some o) : ∀ {n : Nat} {k : NestedKey} {v : V}, NV K H n k v → NV K H' n k v
  | _, _, _, .none n => .none n
  | _, _, _, .int n i => .int n i
  | _, _, _, .tup h r => .tup (sqT_same e h) (NVs.same e r)
theorem NVs.same {K : PySem.W.Frag} {H H' : Hp} (e : ∀ b o, H b = some o → Mut (some o) ∨ H' b = some o) : ∀ {n : Nat} {ks : List NestedKey} {vs : List V}, NVs K H n ks vs → NVs K H' n ks vs
  | _, _, _, .nil n => .nil n
  | _, _, _, .cons h r => .cons (NV.same e h) (NVs.same e r)
end
mutual
theorem NV.is {X : Cx} {pins : List (Addr × Obj)} {σ : L2.St} {H : Hp} {s : Shared} (I : Inv X pins σ H s) : ∀ {n : Nat} {k : NestedKey} {v : V}, NV X.K H n k v → ∀ {u : Value}, RelV v u → NestedIs s.heap k u
  | _, _, _, .none n, u, r => by cases r; exact .none
  | _, _, _, .int n i, u, r => by obtain ⟨t, rfl⟩ := r; exact .int i t
  | _, _, _, .tup h q, u, r => by
    cases r
    obtain ⟨its, rv, ⟨o, ho, hc, m, hd⟩, _⟩ := I.tuple h
    exact .tup ho hc hd (NVs.is I q (by simpa using rv))
theorem NVs.is {X : Cx} {pins : List (Addr × Obj)} {σ : L2.St} {H : Hp} {s : Shared} (I : Inv X pins σ H s) : ∀ {n : Nat} {ks : List NestedKey} {vs : List V}, NVs X.K H n ks vs → ∀ {us : List Value}, Vals vs us → NestedAll s.heap ks us
  | _, _, _, .nil n, us, r => by cases r; exact .nil
  | _, _, _, .cons h q, us, r => by
    cases r with
    | cons r1 r2 => exact .cons (NV.is I h r1) (NVs.is I q r2)
end
theorem NV.notext {K : PySem.W.Frag} {H : Hp} {n : Nat} {k : NestedKey} {v : V} (h : NV K H n k v) : ∀ x, k ≠ .text x := fun x e => by subst e; cases h
theorem NV.key {X : Cx} {pins : List (Addr × Obj)} {σ : L2.St} {H : Hp} {s : Shared} (I : Inv X pins σ H s) {k : NestedKey} {v : V} {u : Value} (h : NV X.K H 8 k v) (r : RelV v u) : IsKey s.heap k u := ⟨h.is I r, h.depth, h.notext⟩

/-! ### rows -/
abbrev MRow := NestedKey × V × V
def RowR (x : MRow) (e : DictEntry) : Prop := (∀ w, e.hash = x.1.hash w) ∧ RelV x.2.1 e.key ∧ RelV x.2.2 e.val
/-- the dict at a -/
def dN (a : Addr) (ks : List MRow) : HO := .ext fun h => ∃ o es ep, h.get? a = some o ∧ o.ExactDict ∧ o.data = .dict es ep ∧ Paired RowR ks es.toList ∧ (ks.map (·.1)).Nodup ∧ ks.length ≤ sizeLine ∧ (a == sysModules) = false
def putR (k : NestedKey) (v : V) (x : MRow) : MRow := if x.1 = k then (x.1, x.2.1, v) else x
def valM (ks : List MRow) (k : NestedKey) : Option V := (ks.find? fun x => decide (x.1 = k)).map (·.2.2)
def putM (ks : List MRow) (k : NestedKey) (kv v : V) : List MRow := if (valM ks k).isSome = true then ks.map (putR k v) else ks ++ [(k, kv, v)]
abbrev MR : List MRow → List Row → Prop := Paired fun m r => m.1 = r.1 ∧ RelV m.2.1 r.2.1 ∧ RelV m.2.2 r.2.2
theorem MR.val {k : NestedKey} : ∀ {ks : List MRow} {xs : List Row}, MR ks xs → RelO (valM ks k) (rowAt xs k)
  | _, _, .nil => True.intro
  | _, _, .cons (a := m) (b := r) (l₁ := ms) (l₂ := rs) h t => by
    have ih := MR.val (k := k) t
    obtain ⟨h1, _, h2⟩ := h
    unfold valM rowAt
    by_cases e : m.1 = k
    · rw [List.find?_cons_of_pos (by exact decide_eq_true e), List.find?_cons_of_pos (by exact decide_eq_true (h1.symm.trans e))]
      exact h2
    · rw [List.find?_cons_of_neg (by simpa using e), List.find?_cons_of_neg (by simpa using fun z => e (h1.trans z))]
      exact ih
theorem MR.map {k : NestedKey} {v : V} {u : Value} (ru : RelV v u) : ∀ {ks : List MRow} {xs : List Row}, MR ks xs → MR (ks.map (putR k v)) (xs.map (rowPut k u))
  | _, _, .nil => .nil
  | _, _, .cons (a := m) (b := r) (l₁ := ms) (l₂ := rs) h t => by
    rw [List.map_cons, List.map_cons]
    refine .cons ?_ (MR.map ru t)
    obtain ⟨h1, h2, h3⟩ := h
    unfold putR rowPut
    by_cases e : m.1 = k
    · rw [if_pos e, if_pos (h1.symm.trans e)]; exact ⟨h1, h2, ru⟩
    · rw [if_neg e, if_neg fun z => e (h1.trans z)]; exact ⟨h1, h2, h3⟩
theorem MR.put {k : NestedKey} {kv v : V} {ku u : Value} {ks : List MRow} {xs : List Row} (r : MR ks xs) (rk : RelV kv ku) (rv : RelV v u) : MR (putM ks k kv v) (rowSet xs k ku u) := by
  unfold putM rowSet
  rw [(MR.val (k := k) r).isSome_eq]
  split
  · exact r.map rv
  · exact Paired.snoc r ⟨rfl, rk, rv⟩
theorem MR.keys : ∀ {ks : List MRow} {xs : List Row}, MR ks xs → ks.map (·.1) = xs.map (·.1)
  | _, _, .nil => rfl
  | _, _, .cons h t => by rw [List.map_cons, List.map_cons, h.1, MR.keys t]
theorem rows_of {w : World} : ∀ {ks : List MRow} {es : List DictEntry}, Paired RowR ks es → ∃ xs : List Row, MR ks xs ∧ es = xs.map (ent w)
  | _, _, .nil => ⟨[], .nil, rfl⟩
  | _, _, .cons (a := m) (b := e) h t => by
    obtain ⟨xs, r, e1⟩ := rows_of (w := w) t
    refine ⟨(m.1, e.key, e.val) :: xs, .cons ⟨rfl, h.2.1, h.2.2⟩ r, ?_⟩
    rw [List.map_cons, ← e1]
    obtain ⟨h1, _, _⟩ := h
    show e :: _ = ⟨m.1.hash w, e.key, e.val⟩ :: _
    rw [← h1 w]
theorem rows_to {K : PySem.W.Frag} {H : Hp} {w : World} : ∀ {ks : List MRow} {xs : List Row}, MR ks xs → (∀ x ∈ ks, NV K H 8 x.1 x.2.1) → Paired RowR ks (xs.map (ent w))
  | _, _, .nil, _ => .nil
  | _, _, .cons (a := m) (b := e) h t, hk => by
    rw [List.map_cons]
    refine .cons ⟨fun w' => ?_, h.2.1, h.2.2⟩ (rows_to t fun x hx => hk x (.tail _ hx))
    show e.1.hash w = _
    rw [← h.1]
    exact (hk _ (.head _)).hash w w'
section
variable {X : Cx} {pins : List (Addr × Obj)} {σ : L2.St} {H : Hp} {s : Shared} {a : Addr} {ks : List MRow}
theorem dn_rd (I : Inv X pins σ H s) (e : H a = some (dN a ks)) (hk : ∀ x ∈ ks, NV X.K H 8 x.1 x.2.1) : (a == sysModules) = false ∧ ∃ xs, MR ks xs ∧ xs.length ≤ sizeLine ∧ Dict X.w s.heap a xs := by
  obtain ⟨⟨o, es, ep, ho, hx, hd, hr, hn, hz, hm⟩, _⟩ := (show ObjOk X.prog X.w H s.heap a (dN a ks) from I.hok a _ e)
  obtain ⟨xs, r, e1⟩ := rows_of (w := X.w) hr
  have all : ∀ {ks : List MRow} {xs : List Row}, MR ks xs → (∀ x ∈ ks, NV X.K H 8 x.1 x.2.1) → ∀ x ∈ xs, IsKey s.heap x.1 x.2.1 := by
    intro ks xs r
    induction r with
    | nil => intro _ x hx; cases hx
    | cons h t ih =>
      intro hk x hx
      rcases List.mem_cons.mp hx with rfl | hx
      · rw [← h.1]; exact (hk _ (.head _)).key I h.2.1
      · exact ih (fun y hy => hk y (.tail _ hy)) x hx
  exact ⟨hm, xs, r, by rw [← Paired.length r]; exact hz, o, es, ep, ho, hx, hd, e1, all r hk, by rw [← r.keys]; exact hn⟩
theorem dn_ok {P : Program} {w : World} {K : PySem.W.Frag} {H H' : Hp} {h : Heap} {xs : List Row} (r : MR ks xs) (hk : ∀ x ∈ ks, NV K H' 8 x.1 x.2.1) (hm : (a == sysModules) = false) (hz : ks.length ≤ sizeLine) (m : Dict w h a xs) : ObjOk P w H h a (dN a ks) := by
  obtain ⟨o, es, ep, ho, hx, hd, he, _, hn⟩ := m
  refine ⟨⟨o, es, ep, ho, hx, hd, by rw [he]; exact rows_to r hk, by rw [r.keys]; exact hn, hz, hm⟩, ⟨o, ho⟩, fun h1 h2 p q => ?_⟩
  obtain ⟨o, es, ep, ho, z⟩ := p
  exact ⟨o, es, ep, q o ho, z⟩
theorem putM_len (ks : List MRow) (k : NestedKey) (kv v : V) : (putM ks k kv v).length ≤ ks.length + 1 := by
  unfold putM
  split
  · rw [List.length_map]; omega
  · rw [List.length_append]; exact Nat.le_refl _
theorem putM_keys {K : PySem.W.Frag} {H : Hp} {k : NestedKey} {kv v : V} (hk : ∀ x ∈ ks, NV K H 8 x.1 x.2.1) (h : NV K H 8 k kv) : ∀ x ∈ putM ks k kv v, NV K H 8 x.1 x.2.1 := by
  unfold putM
  intro x hx
  split at hx
  · obtain ⟨y, hy, rfl⟩ := List.mem_map.mp hx
    have := hk y hy
    unfold putR
    split <;> exact this
  · rcases List.mem_append.mp hx with hx | hx
    · exact hk x hx
    · rw [List.mem_singleton.mp hx]; exact h
end
/-- what the dict at a holds at the key y -/
def MGet (K : PySem.W.Frag) (H : Hp) (a : Addr) (y : V) (r : Option V) : Prop := ∃ ks k, H a = some (dN a ks) ∧ (∀ x ∈ ks, NV K H 8 x.1 x.2.1) ∧ NV K H 8 k y ∧ r = valM ks k
def MPut (K : PySem.W.Frag) (H : Hp) (a : Addr) (y v : V) (H' : Hp) : Prop := ∃ ks k, H a = some (dN a ks) ∧ (∀ x ∈ ks, NV K H 8 x.1 x.2.1) ∧ NV K H 8 k y ∧ ks.length < sizeLine ∧ H' = upd H a (dN a (putM ks k y v))
def MIs (K : PySem.W.Frag) (H : Hp) (a : Addr) : Prop := ∃ ks, H a = some (dN a ks) ∧ ∀ x ∈ ks, NV K H 8 x.1 x.2.1
section
variable {X : Cx} {pins : List (Addr × Obj)} {σ : L2.St} {H : Hp} {s : Shared} {a : Addr} {y v : V} {u r : Value} {o : Option V} {E : Value → Shared → Prop}
theorem m_item {Q : Value → Shared → Prop} (hu : X.A.units + 9 < cLine) (I : Inv X pins σ H s) (g : MGet X.K H a y (some v)) (ry : RelV y u) (h : ∀ w' s', Inv X pins σ H s' → RelV v w' → Q w' s') :
    wpAny (model X.prog X.w) X.A (getItem (.ref a) u) Q E s := by
  obtain ⟨ks, k, e, hk, hy, l⟩ := g
  obtain ⟨hd, xs, rel, hz, dd⟩ := dn_rd I e hk
  obtain ⟨w', hw, rw'⟩ := RelO.some_of (v := v) (o := rowAt xs k) (by rw [l]; exact rel.val)
  exact item (by rw [Around.in1_units]; omega) (hy.key I ry) dd hw (h w' _ (I.tok _) rw')
theorem m_in {Q : Value → Shared → Prop} (hu : X.A.units + 9 < cLine) (I : Inv X pins σ H s) (g : MGet X.K H a y o) (ry : RelV y u) (h : ∀ s', Inv X pins σ H s' → Q (.bool o.isSome) s') :
    wpAny (model X.prog X.w) X.A (compareOp .In u (.ref a)) Q E s := by
  obtain ⟨ks, k, e, hk, hy, l⟩ := g
  obtain ⟨hd, xs, rel, hz, dd⟩ := dn_rd I e hk
  refine in_ (by rw [Around.in1_units]; omega) (hy.key I ry) hd dd ?_
  rw [← (rel.val (k := k)).isSome_eq, ← l]
  exact h _ (I.tok _)
theorem m_notIn {Q : Value → Shared → Prop} (hu : X.A.units + 9 < cLine) (I : Inv X pins σ H s) (g : MGet X.K H a y o) (ry : RelV y u) (h : ∀ s', Inv X pins σ H s' → Q (.bool (!o.isSome)) s') :
    wpAny (model X.prog X.w) X.A (compareOp .NotIn u (.ref a)) Q E s := by
  obtain ⟨ks, k, e, hk, hy, l⟩ := g
  obtain ⟨hd, xs, rel, hz, dd⟩ := dn_rd I e hk
  refine notIn (by rw [Around.in1_units]; omega) (hy.key I ry) hd dd ?_
  rw [← (rel.val (k := k)).isSome_eq, ← l]
  exact h _ (I.tok _)
theorem m_put {H' : Hp} {Q : Unit → Shared → Prop} (hu : X.A.units + 9 < cLine) (I : Inv X pins σ H s) (g : MPut X.K H a y v H') (ry : RelV y u) (rv : RelV v r) (h : ∀ s', Inv X pins σ H' s' → Q () s') :
    wpAny (model X.prog X.w) X.A (setItem (.ref a) u r) Q E s := by
  obtain ⟨ks, k, e, hk, hy, hl, rfl⟩ := g
  obtain ⟨hd, xs, rel, hz, dd⟩ := dn_rd I e hk
  refine store (by rw [Around.in1_units]; omega) (hy.key I ry) dd hz fun h' dd' hs => h _ ?_
  have he : ∃ q, h'.get? a = some q := let ⟨q, _, _, hq, _⟩ := dd'; ⟨q, hq⟩
  exact d_write I (by rw [e]; exact True.intro) hs he (dn_ok (rel.put ry rv) (putM_keys hk hy) hd (by have := putM_len ks k y v; omega) dd')
theorem m_get1 {Q : Value → Shared → Prop} (hu : X.A.units + 9 < cLine) (I : Inv X pins σ H s) (g : MGet X.K H a y o) (ry : RelV y u) (h : ∀ w' s', Inv X pins σ H s' → RelV (o.getD .non) w' → Q w' s') :
    wpAny (model X.prog X.w) X.A (call (.builtin "dict.get") [.ref a, u]) Q E s := by
  obtain ⟨ks, k, e, hk, hy, l⟩ := g
  obtain ⟨hd, xs, rel, hz, dd⟩ := dn_rd I e hk
  refine call_meetsIn PySem.F.slot_dict_get dd.typeIs PySem.F.entry_dict_get (PySem.F.args_dict_get_2 _ _) (meets_get1 hd) ⟨by rw [Around.in1_units]; omega, k, xs, hy.key I ry, dd, h _ _ (I.tok _) ?_⟩
  rw [l]
  exact (rel.val (k := k)).getD rfl
theorem m_get2 {d : V} {Q : Value → Shared → Prop} (hu : X.A.units + 9 < cLine) (I : Inv X pins σ H s) (g : MGet X.K H a y o) (ry : RelV y u) (rd : RelV d r) (h : ∀ w' s', Inv X pins σ H s' → RelV (o.getD d) w' → Q w' s') :
    wpAny (model X.prog X.w) X.A (call (.builtin "dict.get") [.ref a, u, r]) Q E s := by
  obtain ⟨ks, k, e, hk, hy, l⟩ := g
  obtain ⟨hd, xs, rel, hz, dd⟩ := dn_rd I e hk
  refine call_meetsIn PySem.F.slot_dict_get dd.typeIs PySem.F.entry_dict_get (PySem.F.args_dict_get_3 _ _ _) (meets_get2 hd r) ⟨by rw [Around.in1_units]; omega, k, xs, hy.key I ry, dd, h _ _ (I.tok _) ?_⟩
  rw [l]
  exact (rel.val (k := k)).getD rd
theorem m_at (I : Inv X pins σ H s) (d : MIs X.K H a) : s.TypeIs (.ref a) "dict" ∧ (∀ b, Value.ref a = .ref b → ∃ ob, s.heap.get? b = some ob ∧ ob.dict = none) := by
  obtain ⟨ks, e, hk⟩ := d
  obtain ⟨hd, xs, rel, hz, dd⟩ := dn_rd I e hk
  refine ⟨dd.typeIs, fun b q => ?_⟩
  cases q
  obtain ⟨ob, _, _, h1, h2, _⟩ := dd
  exact ⟨ob, h1, h2.2.1⟩
theorem MGet.is {K : PySem.W.Frag} (g : MGet K H a y o) : MIs K H a := let ⟨ks, _, e, hk, _⟩ := g; ⟨ks, e, hk⟩
end

/-! ### readings and rules -/
def tMGet (K : PySem.W.Frag) (td ty : TE) : TE := fun σ H Q => td σ H fun x H1 => ty σ H1 fun y H2 => ∃ a v, x = .ref a ∧ MGet K H2 a y (some v) ∧ Q v H2
def tMIn (K : PySem.W.Frag) (ty td : TE) : TE := fun σ H Q => ty σ H fun y H1 => td σ H1 fun x H2 => ∃ a o, x = .ref a ∧ MGet K H2 a y o ∧ Q (.bl o.isSome) H2
def tMNotIn (K : PySem.W.Frag) (ty td : TE) : TE := fun σ H Q => ty σ H fun y H1 => td σ H1 fun x H2 => ∃ a o, x = .ref a ∧ MGet K H2 a y o ∧ Q (.bl (!o.isSome)) H2
def sMPut (K : PySem.W.Frag) (td ty tv : TE) : TS := fun D σ H => tv σ H fun v H1 => td σ H1 fun x H2 => ty σ H2 fun y H3 => ∃ a H4, x = .ref a ∧ MPut K H3 a y v H4 ∧ D.nx σ H4
def tMGet1 (K : PySem.W.Frag) (td ty : TE) : TE := fun σ H Q => td σ H fun x H1 => ∃ a, x = .ref a ∧ MIs K H1 a ∧ ty σ H1 fun y H2 => ∃ o, MGet K H2 a y o ∧ Q (o.getD .non) H2
def tMGet2 (K : PySem.W.Frag) (td ty tx : TE) : TE := fun σ H Q => td σ H fun x H1 => ∃ a, x = .ref a ∧ MIs K H1 a ∧ ty σ H1 fun y H2 => tx σ H2 fun z H3 => ∃ o, MGet K H3 a y o ∧ Q (o.getD z) H3
def tMNew : TE := fun _ H Q => ∀ p, H p = none → Q (.ref p) (upd H p (dN p []))
section
variable {X : Cx} {o i e f value : Expr} {pos pos' tpos apos cpos : Pos} {td ty tv tx : TE}
theorem pe_mget (hu : X.A.units + 9 < cLine) (ho : PE X o td) (hi : PE X i ty) (hs : NoSl i) : PE X (.Subscript o i pos) (tMGet X.K td ty) := by
  refine ⟨fun pins s σ H Q I h => ?_⟩
  refine subD_of PySem.F.slot_dict_getitem.lookup hs (thn (ho.run pins s σ H _ I h) fun u s1 ⟨x, H1, I1, rx, q1⟩ => thn (hi.run pins s1 σ H1 _ I1 q1) fun iv s2 ⟨y, H2, I2, ry, a, v, ex, g, q2⟩ => ?_)
  subst ex
  obtain rfl : u = Value.ref a := rx
  exact ⟨(m_at I2 g.is).1, m_item hu I2 g ry fun w' s3 I3 rw' => ⟨v, H2, I3, rw', q2⟩⟩
theorem pc_min (hu : X.A.units + 9 < cLine) (hi : PE X i ty) (ho : PE X o td) : PC X .In i o (tMIn X.K ty td) := by
  refine ⟨fun pins s σ H Q I h => ?_⟩
  refine thn (hi.run pins s σ H _ I h) fun iv s1 ⟨y, H1, I1, ry, q1⟩ => thn (ho.run pins s1 σ H1 _ I1 q1) fun u s2 ⟨x, H2, I2, rx, a, ov, ex, g, q2⟩ => ?_
  subst ex
  obtain rfl : u = Value.ref a := rx
  exact m_in hu I2 g ry fun s3 I3 => ⟨.bl ov.isSome, H2, I3, rfl, q2⟩
theorem pc_mnotin (hu : X.A.units + 9 < cLine) (hi : PE X i ty) (ho : PE X o td) : PC X .NotIn i o (tMNotIn X.K ty td) := by
  refine ⟨fun pins s σ H Q I h => ?_⟩
  refine thn (hi.run pins s σ H _ I h) fun iv s1 ⟨y, H1, I1, ry, q1⟩ => thn (ho.run pins s1 σ H1 _ I1 q1) fun u s2 ⟨x, H2, I2, rx, a, ov, ex, g, q2⟩ => ?_
  subst ex
  obtain rfl : u = Value.ref a := rx
  exact m_notIn hu I2 g ry fun s3 I3 => ⟨.bl (!ov.isSome), H2, I3, rfl, q2⟩
theorem ps_mput (hu : X.A.units + 9 < cLine) (ho : PE X o td) (hi : PE X i ty) (hv : PE X value tv) (hs : swapsWith value (some (.Subscript o i pos')) pos.line X.env = pure false) :
    PS X (.Assign [.Subscript o i pos'] value pos) (sMPut X.K td ty tv) := by
  refine ⟨fun pins s σ H D I h => ?_⟩
  refine wpAny_Assign_Subscript (thn (hv.run pins s σ H _ I h) fun r s1 ⟨v, H1, I1, rv, q1⟩ => thn (ho.run pins s1 σ H1 _ I1 q1) fun u s2 ⟨x, H2, I2, rx, q2⟩ => thn (hi.run pins s2 σ H2 _ I2 q2) fun iv s3 ⟨y, H3, I3, ry, a, H4, ex, g, q3⟩ => ?_) hs
  subst ex
  obtain rfl : u = Value.ref a := rx
  exact m_put hu I3 g ry rv fun s4 I4 => ⟨σ, H4, I4, q3⟩
theorem pe_mget1 (hu : X.A.units + 9 < cLine) (ho : PE X o td) (he : PE X e ty) (m : M1 X o "get" apos e cpos) : PE X (.Call (.Attribute o "get" apos) [e] [] cpos) (tMGet1 X.K td ty) := by
  refine ⟨fun pins s σ H Q I h => ?_⟩
  refine wpAny_Call_method m.base m.few m.line PySem.F.plainAttrs_dict PySem.F.slot_dict_get PySem.F.type_dict_get (thn (ho.run pins s σ H _ I h) fun u s1 ⟨x, H1, I1, rx, a, ex, d, q1⟩ => ?_)
  subst ex
  obtain rfl : u = Value.ref a := rx
  obtain ⟨t1, t2⟩ := m_at I1 d
  refine ⟨t1, t2, ?_⟩
  rw [m.trees]
  refine Calls.callWith_builtin rfl (Calls.evalArgs_plain (Calls.spliced_cons (thn (he.run pins s1 σ H1 _ I1 q1) fun iv s2 ⟨y, H2, I2, ry, ov, g, q2⟩ => Calls.spliced_nil ?_)))
  exact m_get1 hu I2 g ry fun w' s3 I3 rw' => ⟨_, H2, I3, rw', q2⟩
theorem pe_mget2 (hu : X.A.units + 9 < cLine) (ho : PE X o td) (he : PE X e ty) (hf : PE X f tx) (m : M2 X o "get" apos e f cpos) : PE X (.Call (.Attribute o "get" apos) [e, f] [] cpos) (tMGet2 X.K td ty tx) := by
  refine ⟨fun pins s σ H Q I h => ?_⟩
  refine wpAny_Call_method m.base m.few m.line PySem.F.plainAttrs_dict PySem.F.slot_dict_get PySem.F.type_dict_get (thn (ho.run pins s σ H _ I h) fun u s1 ⟨x, H1, I1, rx, a, ex, d, q1⟩ => ?_)
  subst ex
  obtain rfl : u = Value.ref a := rx
  obtain ⟨t1, t2⟩ := m_at I1 d
  refine ⟨t1, t2, ?_⟩
  rw [m.trees]
  refine Calls.callWith_builtin rfl (Calls.evalArgs_plain (Calls.spliced_cons (thn (he.run pins s1 σ H1 _ I1 q1) fun iv s2 ⟨y, H2, I2, ry, q2⟩ =>
    Calls.spliced_cons (thn (hf.run pins s2 σ H2 _ I2 q2) fun fv s3 ⟨z, H3, I3, rz, ov, g, q3⟩ => Calls.spliced_nil ?_))))
  exact m_get2 hu I3 g ry rz fun w' s4 I4 rw' => ⟨_, H3, I4, rw', q3⟩
theorem pe_mnew : PE X (.Dict [] [] pos) tMNew := ⟨fun pins s σ H Q I h =>
  wpAny_Dict_empty ⟨.ref s.heap.objs.size, _, I.laid (a := s.heap.objs.size) (o := dN s.heap.objs.size []) (t' := s.toks) (fun _ _ q => Heap.get?_push_of_some _ q) (Nat.le_refl _)
    (dn_ok (K := X.K) (H' := H) (xs := []) .nil (fun x hx => by cases hx) (beq_eq_false_iff_ne.mpr (Ne.symm (Nat.ne_of_lt I.big))) (Nat.zero_le _) (Dict.new s.heap)), rfl, h _ (I.hok.fresh (Nat.le_refl _))⟩⟩
end
end DN
/-! DL, part a: data without a heap; slots of a frame; the relation between both. -/
namespace DL
open PySem L2

abbrev D := PyData
open DN (MRow NV)
/-- a dict that is read alone: its keys and its values -/
abbrev dFrz (kvs : List (NestedKey × D)) : D := .dict ((.bool true, .none) :: kvs.map fun kv => (kv.1.data, kv.2))
/-- a key as it stands -/
abbrev keyD : L2.Key → D
  | .inl i => .int i
  | .inr x => .str x
/-- a dict with whole numbers or texts for keys that is read alone, and may be walked -/
abbrev dFri (kvs : List (L2.Key × D)) : D := .dict ((.bool false, .none) :: kvs.map fun kv => (keyD kv.1, kv.2))
/-- a def that is handed on as a value -/
abbrev dFn (x : Str) : D := .dict [(.bool true, .bool true), (.str x, .none)]
/-- an instance of an own class, read alone: its class's name, its fields -/
abbrev dOb (x : Str) (fs : List (Str × D)) : D := .dict ((.bool true, .str x) :: fs.map fun kv => (.str kv.1, kv.2))
/-- the script: a list of ints that is read alone -/
abbrev scr (ns : List Int) : D := .dict [(.none, .list (ns.map PyData.int))]
mutual
inductive Rp (K : PySem.W.Frag) (H : Hp) : V → D → Prop
  | non : Rp K H .non .none
  | bl (b : Bool) : Rp K H (.bl b) (.bool b)
  | int (i : Int) : Rp K H (.int i) (.int i)
  | str (x : Str) : Rp K H (.str x) (.str x)
  | lst {a : Addr} {xs : List V} {ds : List D} : H a = some (.lst xs) → Rps K H xs ds → Rp K H (.ref a) (.list ds)
  | tup {a : Addr} {xs : List V} {ds : List D} : SqT K H a xs → Rps K H xs ds → Rp K H (.ref a) (.tuple ds)
  | scr {a : Addr} {ns : List Int} : SqL K H a (ns.map V.int) → Rp K H (.ref a) (scr ns)
  | dct {a : Addr} {ks : List MRow} {kvs : List (NestedKey × D)} : H a = some (DN.dN a ks) → (∀ x ∈ ks, NV K H 8 x.1 x.2.1) → ks.map (·.1) = kvs.map (·.1) → Rps K H (ks.map (·.2.2)) (kvs.map (·.2)) → Rp K H (.ref a) (dFrz kvs)
  | dci {a : Addr} {o : Obj} {ks : List (L2.Key × V)} {kvs : List (L2.Key × D)} : H a = some (.frz o (.dK ks)) → ks.map (·.1) = kvs.map (·.1) → Rps K H (ks.map (·.2)) (kvs.map (·.2)) → Rp K H (.ref a) (dFri kvs)
  | fn {f : Addr} {x : Str} : PySem.W.nsIn K mainGlobals x = some (some (.ref f)) → Rp K H (.ref f) (dFn x)
  | ob {a dx C : Addr} {fs : List (Str × V)} {x : Str} {kvs : List (Str × D)} : H a = some (.ins C dx fs) → PySem.W.nsIn K mainGlobals x = some (some (.ref C)) → fs.map (·.1) = kvs.map (·.1) → Rps K H (fs.map (·.2)) (kvs.map (·.2)) → Rp K H (.ref a) (dOb x kvs)
inductive Rps (K : PySem.W.Frag) (H : Hp) : List V → List D → Prop
  | nil : Rps K H [] []
  | cons {v : V} {vs : List V} {d : D} {ds : List D} : Rp K H v d → Rps K H vs ds → Rps K H (v :: vs) (d :: ds)
end
theorem Same.tup {K : PySem.W.Frag} {H H' : Hp} {a : Addr} {xs : List V} (e : Same H H') (h : SqT K H a xs) : SqT K H' a xs := by
  rcases h with (h | ⟨o, h⟩) | h
  · exact .inl (.inl (e _ _ h))
  · exact .inl (.inr ⟨o, e _ _ h⟩)
  · exact .inr h
mutual
theorem Rp.mono {K : PySem.W.Frag} {H H' : Hp} (e : Same H H') : ∀ {v : V} {d : D}, Rp K H v d → Rp K H' v d
  | _, _, .non => .non
  | _, _, .bl b => .bl b
  | _, _, .int i => .int i
  | _, _, .str x => .str x
  | _, _, .lst h r => .lst (e _ _ h) (Rps.mono e r)
  | _, _, .tup h r => .tup (Same.tup e h) (Rps.mono e r)
  | _, _, .scr h => .scr (e.seq h)
  | _, _, .dct h k q r => .dct (e _ _ h) (fun x hx => (k x hx).same fun b o z => .inr (e b o z)) q (Rps.mono e r)
  | _, _, .dci h q r => .dci (e _ _ h) q (Rps.mono e r)
  | _, _, .fn h => .fn h
  | _, _, .ob h c q r => .ob (e _ _ h) c q (Rps.mono e r)
theorem Rps.mono {K : PySem.W.Frag} {H H' : Hp} (e : Same H H') : ∀ {vs : List V} {ds : List D}, Rps K H vs ds → Rps K H' vs ds
  | _, _, .nil => .nil
  | _, _, .cons h r => .cons (Rp.mono e h) (Rps.mono e r)
end
mutual
theorem Rp.dp {K : PySem.W.Frag} {H : Hp} : ∀ {v : V} {d : D}, Rp K H v d → d.canLay0 = true → Dp K H v d
  | _, _, .non, _ => .non
  | _, _, .bl b, _ => .bl b
  | _, _, .int i, _ => .int i
  | _, _, .str x, _ => .str x
  | _, _, .lst h r, l => .lst (SqL.of h) (Rps.dp r (by simpa [PyData.canLay0] using l))
  | _, _, .tup h r, l => .tup h (Rps.dp r (by simpa [PyData.canLay0] using l))
  | _, _, .scr h, l => by simp [PyData.canLay0] at l
  | _, _, .dct _ _ _ _, l => by simp [PyData.canLay0] at l
  | _, _, .dci _ _ _, l => by simp [PyData.canLay0] at l
  | _, _, .fn _, l => by simp [PyData.canLay0] at l
  | _, _, .ob _ _ _ _, l => by simp [PyData.canLay0] at l
theorem Rps.dp {K : PySem.W.Frag} {H : Hp} : ∀ {vs : List V} {ds : List D}, Rps K H vs ds → PyData.canLayAll0 ds = true → DpAll K H vs ds
  | _, _, .nil, _ => .nil
  | _, _, .cons h r, l => by
    have l' := Bool.and_eq_true_iff.mp (by simpa [PyData.canLayAll0] using l)
    exact .cons (Rp.dp h l'.1) (Rps.dp r l'.2)
end
theorem Rp.sh {K : PySem.W.Frag} {H : Hp} {v : V} {d : D} (h : Rp K H v d) (s : SeqAt.shaped d = true) : Dp K H v d := h.dp (SeqAt.canLay_of_shaped s)
section
variable {K : PySem.W.Frag} {H : Hp} {vs ws : List V} {ds es : List D}
theorem Rps.length : ∀ {vs : List V} {ds : List D}, Rps K H vs ds → vs.length = ds.length
  | _, _, .nil => rfl
  | _, _, .cons _ r => by rw [List.length_cons, List.length_cons, Rps.length r]
theorem Rps.append : ∀ {vs ws : List V} {ds es : List D}, Rps K H vs ds → Rps K H ws es → Rps K H (vs ++ ws) (ds ++ es)
  | _, _, _, _, .nil, s => s
  | _, _, _, _, .cons h r, s => .cons h (Rps.append r s)
theorem Rps.get : ∀ {vs : List V} {ds : List D} {i : Nat} {d : D}, Rps K H vs ds → ds[i]? = some d → ∃ v, vs[i]? = some v ∧ Rp K H v d
  | _, _, _, _, .nil, e => by simp at e
  | _, _, 0, _, .cons h _, e => by simp at e; subst e; exact ⟨_, rfl, h⟩
  | _, _, i + 1, _, .cons _ r, e => by
    obtain ⟨v, h1, h2⟩ := Rps.get (i := i) r (by simpa using e)
    exact ⟨v, by simpa using h1, h2⟩
theorem Rps.getV : ∀ {vs : List V} {ds : List D} {i : Nat} {v : V}, Rps K H vs ds → vs[i]? = some v → ∃ d, ds[i]? = some d ∧ Rp K H v d
  | _, _, _, _, .nil, e => by simp at e
  | _, _, 0, _, .cons h _, e => by simp at e; subst e; exact ⟨_, rfl, h⟩
  | _, _, i + 1, _, .cons _ r, e => by
    obtain ⟨v, h1, h2⟩ := Rps.getV (i := i) r (by simpa using e)
    exact ⟨v, by simpa using h1, h2⟩
theorem Rps.set {x : V} {d : D} (h : Rp K H x d) : ∀ {vs : List V} {ds : List D} (i : Nat), Rps K H vs ds → Rps K H (vs.set i x) (ds.set i d)
  | _, _, _, .nil => .nil
  | _, _, 0, .cons _ t => .cons h t
  | _, _, i + 1, .cons q t => .cons q (Rps.set h i t)
theorem Rps.take : ∀ {vs : List V} {ds : List D} (n : Nat), Rps K H vs ds → Rps K H (vs.take n) (ds.take n)
  | _, _, 0, _ => .nil
  | _, _, _ + 1, .nil => .nil
  | _, _, n + 1, .cons r t => .cons r (Rps.take n t)
theorem Rps.drop : ∀ {vs : List V} {ds : List D} (n : Nat), Rps K H vs ds → Rps K H (vs.drop n) (ds.drop n)
  | _, _, 0, r => r
  | _, _, _ + 1, .nil => .nil
  | _, _, n + 1, .cons _ t => Rps.drop n t
theorem Rps.rev : ∀ {vs : List V} {ds : List D}, Rps K H vs ds → Rps K H vs.reverse ds.reverse
  | _, _, .nil => .nil
  | _, _, .cons h r => by
    rw [List.reverse_cons, List.reverse_cons]
    exact (Rps.rev r).append (.cons h .nil)
theorem Rps.dropLast (r : Rps K H vs ds) : Rps K H vs.dropLast ds.dropLast := by
  rw [List.dropLast_eq_take, List.dropLast_eq_take, r.length]
  exact r.take _
theorem Rps.rep (r : Rps K H vs ds) : ∀ k : Nat, Rps K H (List.replicate k vs).flatten (List.replicate k ds).flatten
  | 0 => .nil
  | k + 1 => by
    rw [List.replicate_succ, List.replicate_succ, List.flatten_cons, List.flatten_cons]
    exact r.append (Rps.rep r k)
theorem Rps.one {v : V} {d : D} (h : Rp K H v d) : Rps K H [v] [d] := .cons h .nil
theorem Rps.cons_inv {d : D} {ds : List D} {vs : List V} (h : Rps K H vs (d :: ds)) : ∃ v ws, vs = v :: ws ∧ Rp K H v d ∧ Rps K H ws ds := by
  cases h with
  | cons h r => exact ⟨_, _, rfl, h, r⟩
theorem Rps.nil_inv {vs : List V} (h : Rps K H vs []) : vs = [] := by cases h; rfl
end
/-- ints -/
abbrev dints (ns : List Int) : List D := ns.map PyData.int
theorem Rps.ints_inv {K : PySem.W.Frag} {H : Hp} : ∀ {ns : List Int} {vs : List V}, Rps K H vs (dints ns) → vs = ns.map V.int
  | [], _, h => h.nil_inv
  | n :: ns, _, h => by
    obtain ⟨v, ws, rfl, h1, h2⟩ := h.cons_inv
    cases h1
    rw [Rps.ints_inv h2]
    rfl
theorem Rps.of_ints {K : PySem.W.Frag} {H : Hp} : ∀ (ns : List Int), Rps K H (ns.map V.int) (dints ns)
  | [] => .nil
  | n :: ns => .cons (.int n) (Rps.of_ints ns)
theorem Rps.bools_inv {K : PySem.W.Frag} {H : Hp} : ∀ {ns : List Bool} {vs : List V}, Rps K H vs (ns.map PyData.bool) → vs = ns.map V.bl
  | [], _, h => h.nil_inv
  | n :: ns, _, h => by
    obtain ⟨v, ws, rfl, h1, h2⟩ := h.cons_inv
    cases h1
    rw [Rps.bools_inv h2]
    rfl

/-! ### slots -/
/-- what a slot of the frame holds: a value that no longer changes; a list of one's own; a handle (a list of one's own, its contents told by ok alone); a dict of one's own -/
inductive Sl where
  | v (d : D) | own (ds : List D) | hnd | dct (kvs : List (Key × D)) | dcm (kvs : List (NestedKey × D))
abbrev EnvD := List (Option Sl)
def Sl.isOwn : Sl → Bool
  | .v _ => false
  | _ => true
inductive Rt where
  | v (d : D) | own (ds : List D) | two (d : D) (ds : List D)
def Rt.val : Rt → D
  | .v d => d
  | .own ds => .list ds
  | .two d ds => .list [d, .list ds]

structure Ctx where
  He : Hp
  H0e : Hp
  ha : Option Addr
  Kp : Hp

/-- keys and values, row by row -/
def MRps (K : PySem.W.Frag) (H : Hp) (ks : List MRow) (es : List (NestedKey × D)) : Prop := ks.map (·.1) = es.map (·.1) ∧ Rps K H (ks.map (·.2.2)) (es.map (·.2)) ∧ ∀ x ∈ ks, NV K H 8 x.1 x.2.1
theorem MRps.mono {K : PySem.W.Frag} {H H1 : Hp} {ks : List MRow} {es : List (NestedKey × D)} (e : Same H H1) (h : MRps K H ks es) : MRps K H1 ks es := ⟨h.1, h.2.1.mono e, fun x hx => (h.2.2 x hx).same fun b o z => .inr (e b o z)⟩
def KRps (K : PySem.W.Frag) (H : Hp) (ks : List (Key × V)) (es : List (Key × D)) : Prop := ks.map Prod.fst = es.map Prod.fst ∧ Rps K H (ks.map Prod.snd) (es.map Prod.snd)
section
variable (K : PySem.W.Frag) (ok : List D → Prop)
/-- a list of one's own at p: unknown to H0, its items known -/
structure OwnAt (H0 H : Hp) (p : Addr) (ds : List D) : Prop where
  n0 : H0 p = none
  ex : ∃ vs, H p = some (.lst vs) ∧ Rps K H0 vs ds
def SlotOk (C : Ctx) (H0 H : Hp) (x : Option (Option V)) : Sl → Prop
  | .v d => ∃ v, x = some (some v) ∧ Rp K H0 v d
  | .own ds => ∃ p, x = some (some (.ref p)) ∧ C.He p = none ∧ OwnAt K H0 H p ds
  | .hnd => ∃ a ds, x = some (some (.ref a)) ∧ (C.ha = some a ∨ C.He a = none) ∧ OwnAt K H0 H a ds ∧ ok ds
  | .dct kvs => ∃ p ks, x = some (some (.ref p)) ∧ C.He p = none ∧ H0 p = none ∧ H p = some (.dK ks) ∧ KRps K H0 ks kvs
  | .dcm kvs => ∃ p ks, x = some (some (.ref p)) ∧ C.He p = none ∧ H0 p = none ∧ H p = some (DN.dN p ks) ∧ MRps K H0 ks kvs
structure Rel (C : Ctx) (H0 : Hp) (σ : St) (H : Hp) (env : EnvD) : Prop where
  sub : Same H0 H
  grow : Same C.H0e H0
  new : ∀ b o, H0 b = some o → C.H0e b = some o ∨ C.He b = none
  fr : ∀ b o, C.He b = some o → some b ≠ C.ha → H b = some o
  hv : ∀ a, C.ha = some a → (∃ o, C.He a = some o) ∧ ∃ ds, OwnAt K H0 H a ds ∧ ok ds
  len : σ.length = env.length
  slot : ∀ (i : Nat) s, env[i]? = some (some s) → SlotOk K ok C H0 H σ[i]? s
  dis : ∀ (i j : Nat) s t p, i ≠ j → env[i]? = some (some s) → env[j]? = some (some t) → s.isOwn = true → t.isOwn = true → σ[i]? = some (some (.ref p)) → σ[j]? ≠ some (some (.ref p))
  kp : Same C.Kp H
  kn : ∀ (i : Nat) s p, env[i]? = some (some s) → s.isOwn = true → σ[i]? = some (some (.ref p)) → C.Kp p = none
  kh : ∀ a, C.ha = some a → C.Kp a = none
  kz : ∀ b o, C.Kp b = some o → H0 b = none
end
section
variable {K : PySem.W.Frag} {ok : List D → Prop} {C : Ctx} {H0 H01 H H1 : Hp} {σ : St} {env : EnvD}
theorem OwnAt.is {p : Addr} {ds : List D} (h : OwnAt K H0 H p ds) : ∃ vs, H p = some (.lst vs) := let ⟨vs, hp, _⟩ := h.ex; ⟨vs, hp⟩
theorem KRps.mono {ks : List (Key × V)} {es : List (Key × D)} (e : Same H H1) (h : KRps K H ks es) : KRps K H1 ks es := ⟨h.1, h.2.mono e⟩
/-- an own slot's address -/
theorem Rel.own_addr (R : Rel K ok C H0 σ H env) {i : Nat} {s : Sl} (h : env[i]? = some (some s)) (o : s.isOwn = true) : ∃ p u, σ[i]? = some (some (.ref p)) ∧ H0 p = none ∧ H p = some u ∧ (C.ha = some p ∨ C.He p = none) ∧ Mut (some u) := by
  have q := R.slot i s h
  cases s with
  | v d => cases o
  | own ds => obtain ⟨p, e, n, n0, vs, hp, _⟩ := q; exact ⟨p, _, e, n0, hp, .inr n, trivial⟩
  | hnd => obtain ⟨a, ds, e, n, ⟨n0, vs, hp, _⟩, _⟩ := q; exact ⟨a, _, e, n0, hp, n, trivial⟩
  | dct kvs => obtain ⟨p, ks, e, n, n0, hp, _⟩ := q; exact ⟨p, _, e, n0, hp, .inr n, trivial⟩
  | dcm kvs => obtain ⟨p, ks, e, n, n0, hp, _⟩ := q; exact ⟨p, _, e, n0, hp, .inr n, trivial⟩
/-- fresh for the whole: not tracked, so new since the entry too -/
theorem Rel.fresh (R : Rel K ok C H0 σ H env) {p : Addr} (h : H p = none) : C.He p = none := by
  cases e : C.He p with
  | none => rfl
  | some o =>
    by_cases ha : some p = C.ha
    · obtain ⟨_, ds, ⟨_, vs, hp, _⟩, _⟩ := R.hv p ha.symm
      rw [h] at hp; cases hp
    · have := R.fr p o e ha
      rw [h] at this; cases this
theorem OwnAt.keep {p : Addr} {ds : List D} (h : OwnAt K H0 H p ds) (e : Same H0 H01) (n : H01 p = none) (k : ∀ o, H p = some o → H1 p = some o) : OwnAt K H01 H1 p ds := by
  obtain ⟨_, vs, hp, r⟩ := h
  exact ⟨n, vs, k _ hp, r.mono e⟩
/-- THE STEP: all that was tracked is kept, what is known has grown by new objects -/
theorem Rel.step (R : Rel K ok C H0 σ H env) (e0 : Same H0 H01) (sub : Same H01 H1) (new : ∀ b o, H01 b = some o → H0 b = some o ∨ H b = none) (kp : Same H H1) : Rel K ok C H01 σ H1 env := by
  have non : ∀ p u, H0 p = none → H p = some u → H01 p = none := fun p u n h => by
    cases q : H01 p with
    | none => rfl
    | some o =>
      rcases new p o q with z | z
      · rw [n] at z; cases z
      · rw [h] at z; cases z
  refine ⟨sub, fun b o h => e0 _ _ (R.grow b o h), fun b o h => ?_, fun b o h n => kp _ _ (R.fr b o h n), fun a ha => ?_, R.len, fun i s h => ?_, R.dis, fun b o z => kp _ _ (R.kp b o z), R.kn, R.kh, fun b o z => non b o (R.kz b o z) (R.kp b o z)⟩
  · rcases new b o h with z | z
    · exact R.new b o z
    · exact .inr (R.fresh z)
  · obtain ⟨h1, ds, h2, h3⟩ := R.hv a ha
    obtain ⟨vs, hp⟩ := h2.is
    exact ⟨h1, ds, h2.keep e0 (non a _ h2.n0 hp) (kp a), h3⟩
  · have q := R.slot i s h
    cases s with
    | v d => obtain ⟨v, e, r⟩ := q; exact ⟨v, e, r.mono e0⟩
    | own ds =>
      obtain ⟨p, e, n, h2⟩ := q
      obtain ⟨vs, hp⟩ := h2.is
      exact ⟨p, e, n, h2.keep e0 (non p _ h2.n0 hp) (kp p)⟩
    | hnd =>
      obtain ⟨a, ds, e, n, h2, h3⟩ := q
      obtain ⟨vs, hp⟩ := h2.is
      exact ⟨a, ds, e, n, h2.keep e0 (non a _ h2.n0 hp) (kp a), h3⟩
    | dct kvs =>
      obtain ⟨p, ks, e, n, n0, hp, r⟩ := q
      exact ⟨p, ks, e, n, non p _ n0 hp, kp _ _ hp, r.mono e0⟩
    | dcm kvs =>
      obtain ⟨p, ks, e, n, n0, hp, r⟩ := q
      exact ⟨p, ks, e, n, non p _ n0 hp, kp _ _ hp, r.mono e0⟩
theorem same_new {p : Addr} {o : HO} (h : H p = none) : Same H (upd H p o) := fun b x e => by
  rw [upd_ne (ne_of_none e h)]
  exact e
/-- a new object is laid and known -/
theorem Rel.laid (R : Rel K ok C H0 σ H env) {p : Addr} {o : HO} (h : H p = none) : Rel K ok C (upd H0 p o) σ (upd H p o) env ∧ Same H0 (upd H0 p o) := by
  have h0 : H0 p = none := R.sub.free h
  have e0 : Same H0 (upd H0 p o) := same_new h0
  refine ⟨R.step e0 (fun b x e => ?_) (fun b x e => ?_) (same_new h), e0⟩
  · by_cases hb : b = p
    · subst hb; rw [upd_same] at e ⊢; exact e
    · rw [upd_ne hb] at e ⊢; exact R.sub _ _ e
  · by_cases hb : b = p
    · subst hb; exact .inr h
    · rw [upd_ne hb] at e; exact .inl e
/-- a new object is laid, not known -/
theorem Rel.laid0 (R : Rel K ok C H0 σ H env) {p : Addr} {o : HO} (h : H p = none) : Rel K ok C H0 σ (upd H p o) env :=
  R.step (Same.refl _) (fun b x e => by rw [upd_ne (ne_of_none (R.sub b x e) h)]; exact R.sub b x e) (fun b x e => .inl e) (same_new h)
/-- what is unknown, of one's own and in no slot becomes known -/
theorem Rel.know (R : Rel K ok C H0 σ H env) {p : Addr} {o : HO} (h : H p = some o) (n0 : H0 p = none) (n : C.He p = none) (kq : C.Kp p = none) (ns : ∀ (i : Nat) s, env[i]? = some (some s) → s.isOwn = true → σ[i]? ≠ some (some (.ref p))) :
    Rel K ok C (upd H0 p o) σ H env ∧ Same H0 (upd H0 p o) := by
  have e0 : Same H0 (upd H0 p o) := same_new n0
  have non : ∀ q, q ≠ p → H0 q = none → (upd H0 p o) q = none := fun q hq z => by rw [upd_ne hq]; exact z
  refine ⟨⟨fun b x e => ?_, fun b x e => e0 _ _ (R.grow b x e), fun b x e => ?_, R.fr, fun a ha => ?_, R.len, fun i s hs => ?_, R.dis, R.kp, R.kn, R.kh, fun b x z => non b (fun y => by subst y; rw [kq] at z; cases z) (R.kz b x z)⟩, e0⟩
  · by_cases hb : b = p
    · subst hb; rw [upd_same] at e; rw [h]; exact e
    · rw [upd_ne hb] at e; exact R.sub _ _ e
  · by_cases hb : b = p
    · subst hb; exact .inr n
    · rw [upd_ne hb] at e; exact R.new _ _ e
  · obtain ⟨⟨oa, h1⟩, ds, h2, h3⟩ := R.hv a ha
    have hap : a ≠ p := fun z => by subst z; rw [n] at h1; cases h1
    exact ⟨⟨oa, h1⟩, ds, h2.keep e0 (non a hap h2.n0) (fun _ z => z), h3⟩
  · have q := R.slot i s hs
    cases s with
    | v d => obtain ⟨v, e, r⟩ := q; exact ⟨v, e, r.mono e0⟩
    | own ds =>
      obtain ⟨a, e, m, h2⟩ := q
      exact ⟨a, e, m, h2.keep e0 (non a (fun z => by subst z; exact ns i _ hs rfl e) h2.n0) (fun _ z => z)⟩
    | hnd =>
      obtain ⟨a, ds, e, m, h2, h3⟩ := q
      exact ⟨a, ds, e, m, h2.keep e0 (non a (fun z => by subst z; exact ns i _ hs rfl e) h2.n0) (fun _ z => z), h3⟩
    | dct kvs =>
      obtain ⟨a, ks, e, m, m0, hp, r⟩ := q
      exact ⟨a, ks, e, m, non a (fun z => by subst z; exact ns i _ hs rfl e) m0, hp, r.mono e0⟩
    | dcm kvs =>
      obtain ⟨a, ks, e, m, m0, hp, r⟩ := q
      exact ⟨a, ks, e, m, non a (fun z => by subst z; exact ns i _ hs rfl e) m0, hp, r.mono e0⟩
/-- what is not in any own slot: addresses that were untracked -/
theorem Rel.noslot (R : Rel K ok C H0 σ H env) {p : Addr} (h : H p = none) : ∀ (i : Nat) s, env[i]? = some (some s) → s.isOwn = true → σ[i]? ≠ some (some (.ref p)) := fun i s hs o z => by
  obtain ⟨q, u, e, _, hp, _⟩ := R.own_addr hs o
  rw [e] at z
  cases z
  rw [h] at hp; cases hp
/-- a slot is stored: a known value -/
theorem Rel.setV (R : Rel K ok C H0 σ H env) {i : Nat} {x : V} {d : D} (r : Rp K H0 x d) : Rel K ok C H0 (σ.set i (some x)) H (env.set i (some (.v d))) := by
  refine ⟨R.sub, R.grow, R.new, R.fr, R.hv, by rw [List.length_set, List.length_set]; exact R.len, fun j s hs => ?_, fun j k s t p hjk hs ht os ot => ?_, R.kp, fun j s p hs os => ?_, R.kh, R.kz⟩
  · by_cases hj : i = j
    · subst hj
      by_cases hi : i < env.length
      · rw [List.getElem?_set_self hi] at hs
        cases hs
        exact ⟨x, by rw [List.getElem?_set_self (by rw [R.len]; exact hi)], r⟩
      · rw [List.getElem?_eq_none (by rw [List.length_set]; omega)] at hs; cases hs
    · rw [List.getElem?_set_ne hj] at hs ⊢
      exact R.slot j s hs
  · have h1 : i ≠ j := fun z => by
      subst z
      by_cases hi : i < env.length
      · rw [List.getElem?_set_self hi] at hs; cases hs; cases os
      · rw [List.getElem?_eq_none (by rw [List.length_set]; omega)] at hs; cases hs
    have h2 : i ≠ k := fun z => by
      subst z
      by_cases hi : i < env.length
      · rw [List.getElem?_set_self hi] at ht; cases ht; cases ot
      · rw [List.getElem?_eq_none (by rw [List.length_set]; omega)] at ht; cases ht
    rw [List.getElem?_set_ne h1] at hs ⊢
    rw [List.getElem?_set_ne h2] at ht ⊢
    exact R.dis j k s t p hjk hs ht os ot
  · have h1 : i ≠ j := fun z => by
      subst z
      by_cases hi : i < env.length
      · rw [List.getElem?_set_self hi] at hs; cases hs; cases os
      · rw [List.getElem?_eq_none (by rw [List.length_set]; omega)] at hs; cases hs
    rw [List.getElem?_set_ne h1] at hs ⊢
    exact R.kn j s p hs os
/-- a slot is stored: a thing of one's own -/
theorem Rel.setO (R : Rel K ok C H0 σ H env) {i : Nat} {p : Addr} {s : Sl} (q : SlotOk K ok C H0 H (some (some (.ref p))) s) (os : s.isOwn = true) (kq : C.Kp p = none)
    (ns : ∀ (j : Nat) t, j ≠ i → env[j]? = some (some t) → t.isOwn = true → σ[j]? ≠ some (some (.ref p))) : Rel K ok C H0 (σ.set i (some (.ref p))) H (env.set i (some s)) := by
  refine ⟨R.sub, R.grow, R.new, R.fr, R.hv, by rw [List.length_set, List.length_set]; exact R.len, fun j t ht => ?_, fun j k t u a hjk ht hu ot ou e1 e2 => ?_, R.kp, fun j t a ht ot e1 => ?_, R.kh, R.kz⟩
  · by_cases hj : i = j
    · subst hj
      by_cases hi : i < env.length
      · rw [List.getElem?_set_self hi] at ht
        cases ht
        rw [List.getElem?_set_self (by rw [R.len]; exact hi)]
        exact q
      · rw [List.getElem?_eq_none (by rw [List.length_set]; omega)] at ht; cases ht
    · rw [List.getElem?_set_ne hj] at ht ⊢
      exact R.slot j t ht
  · have lt : ∀ {j : Nat} {t : Sl}, (env.set i (some s))[j]? = some (some t) → j < env.length := fun {j t} z => by
      have := (List.getElem?_eq_some_iff.mp z).1
      rw [List.length_set] at this
      exact this
    by_cases h1 : i = j
    · subst h1
      have h2 : i ≠ k := hjk
      rw [List.getElem?_set_ne h2] at hu e2
      rw [List.getElem?_set_self (by rw [R.len]; exact lt ht)] at e1
      cases e1
      exact ns k u (Ne.symm h2) hu ou e2
    · rw [List.getElem?_set_ne h1] at ht e1
      by_cases h2 : i = k
      · subst h2
        rw [List.getElem?_set_self (by rw [R.len]; exact lt hu)] at e2
        cases e2
        exact ns j t (Ne.symm h1) ht ot e1
      · rw [List.getElem?_set_ne h2] at hu e2
        exact R.dis j k t u a hjk ht hu ot ou e1 e2
  · by_cases h1 : i = j
    · subst h1
      by_cases hi : i < env.length
      · rw [List.getElem?_set_self (by rw [R.len]; exact hi)] at e1
        cases e1
        exact kq
      · rw [List.getElem?_eq_none (by rw [List.length_set]; omega)] at ht; cases ht
    · rw [List.getElem?_set_ne h1] at ht e1
      exact R.kn j t a ht ot e1
/-- a slot forgotten -/
theorem Rel.drop (R : Rel K ok C H0 σ H env) {i : Nat} {y : Option V} : Rel K ok C H0 (σ.set i y) H (env.set i none) := by
  refine ⟨R.sub, R.grow, R.new, R.fr, R.hv, by rw [List.length_set, List.length_set]; exact R.len, fun j s hs => ?_, fun j k s t p hjk hs ht os ot => ?_, R.kp, fun j s p hs os => ?_, R.kh, R.kz⟩
  · have hj : i ≠ j := fun z => by
      subst z
      by_cases hi : i < env.length
      · rw [List.getElem?_set_self hi] at hs; cases hs
      · rw [List.getElem?_eq_none (by rw [List.length_set]; omega)] at hs; cases hs
    rw [List.getElem?_set_ne hj] at hs ⊢
    exact R.slot j s hs
  · have ne : ∀ {j : Nat} {t : Sl}, (env.set i none)[j]? = some (some t) → i ≠ j := fun {j t} z q => by
      subst q
      by_cases hi : i < env.length
      · rw [List.getElem?_set_self hi] at z; cases z
      · rw [List.getElem?_eq_none (by rw [List.length_set]; omega)] at z; cases z
    have h1 := ne hs
    have h2 := ne ht
    rw [List.getElem?_set_ne h1] at hs ⊢
    rw [List.getElem?_set_ne h2] at ht ⊢
    exact R.dis j k s t p hjk hs ht os ot
  · have hj : i ≠ j := fun z => by
      subst z
      by_cases hi : i < env.length
      · rw [List.getElem?_set_self hi] at hs; cases hs
      · rw [List.getElem?_eq_none (by rw [List.length_set]; omega)] at hs; cases hs
    rw [List.getElem?_set_ne hj] at hs ⊢
    exact R.kn j s p hs os
/-- a thing of one's own changes -/
theorem Rel.put (R : Rel K ok C H0 σ H env) {i : Nat} {p : Addr} {s t : Sl} {o : HO} (hs : env[i]? = some (some s)) (os : s.isOwn = true) (e : σ[i]? = some (some (.ref p))) (nh : C.ha ≠ some p)
    (ot : t.isOwn = true) (q : SlotOk K ok C H0 (upd H p o) (some (some (.ref p))) t) : Rel K ok C H0 σ (upd H p o) (env.set i (some t)) := by
  obtain ⟨p', u, e', n0, hp, hn, _⟩ := R.own_addr hs os
  rw [e] at e'
  cases e'
  have hn : C.He p = none := hn.resolve_left nh
  have lt : i < env.length := (List.getElem?_eq_some_iff.mp hs).1
  have up : ∀ {b : Addr} {x : HO}, b ≠ p → H b = some x → (upd H p o) b = some x := fun {b x} hb z => by rw [upd_ne hb]; exact z
  refine ⟨fun b x z => up (fun y => by subst y; rw [n0] at z; cases z) (R.sub b x z), R.grow, R.new, fun b x z m => up (fun y => by subst y; rw [hn] at z; cases z) (R.fr b x z m), fun a ha => ?_, ?_, fun j r hr => ?_, fun j k r r' a hjk hr hr' o1 o2 e1 => ?_, fun b x z => up (fun y => by subst y; rw [R.kn i s b hs os e] at z; cases z) (R.kp b x z), fun j r a hr o' e1 => ?_, R.kh, R.kz⟩
  · obtain ⟨h1, ds, h2, h3⟩ := R.hv a ha
    have hap : a ≠ p := fun z => by subst z; exact nh ha
    exact ⟨h1, ds, h2.keep (Same.refl _) h2.n0 (fun x z => up hap z), h3⟩
  · rw [List.length_set]; exact R.len
  · by_cases hj : i = j
    · subst hj
      rw [List.getElem?_set_self lt] at hr
      cases hr
      rw [e]; exact q
    · rw [List.getElem?_set_ne hj] at hr
      have w := R.slot j r hr
      have other : ∀ {a : Addr}, r.isOwn = true → σ[j]? = some (some (.ref a)) → a ≠ p := fun {a} o' z y => by
        subst y
        exact R.dis i j s r a hj hs hr os o' e z
      cases r with
      | v d => exact w
      | own ds => obtain ⟨a, z, m, h2⟩ := w; exact ⟨a, z, m, h2.keep (Same.refl _) h2.n0 (fun x y => up (other rfl z) y)⟩
      | hnd => obtain ⟨a, ds, z, m, h2, h3⟩ := w; exact ⟨a, ds, z, m, h2.keep (Same.refl _) h2.n0 (fun x y => up (other rfl z) y), h3⟩
      | dct kvs => obtain ⟨a, ks, z, m, m0, hq, r'⟩ := w; exact ⟨a, ks, z, m, m0, up (other rfl z) hq, r'⟩
      | dcm kvs => obtain ⟨a, ks, z, m, m0, hq, r'⟩ := w; exact ⟨a, ks, z, m, m0, up (other rfl z) hq, r'⟩
  · have old : ∀ {j : Nat} {r : Sl}, (env.set i (some t))[j]? = some (some r) → r.isOwn = true → ∃ r', env[j]? = some (some r') ∧ r'.isOwn = true := fun {j r} z o' => by
      by_cases hj : i = j
      · subst hj; exact ⟨s, hs, os⟩
      · rw [List.getElem?_set_ne hj] at z; exact ⟨r, z, o'⟩
    obtain ⟨r1, z1, y1⟩ := old hr o1
    obtain ⟨r2, z2, y2⟩ := old hr' o2
    exact R.dis j k r1 r2 a hjk z1 z2 y1 y2 e1
  · by_cases hj : i = j
    · subst hj; rw [e] at e1; cases e1; exact R.kn i s p hs os e
    · rw [List.getElem?_set_ne hj] at hr; exact R.kn j r a hr o' e1
/-- a call has run that may have changed the handle at a -/
theorem Rel.called (R : Rel K ok C H0 σ H env) {i : Nat} {a : Addr} (hs : env[i]? = some (some .hnd)) (ea : σ[i]? = some (some (.ref a))) (e0 : Same H0 H01) (sub : Same H01 H1) (new : ∀ b o, H01 b = some o → H0 b = some o ∨ H b = none)
    (kp : ∀ b o, H b = some o → b ≠ a → H1 b = some o) (na : H01 a = none) {ds' : List D} (ha' : OwnAt K H01 H1 a ds') (ok' : ok ds') : Rel K ok C H01 σ H1 env := by
  have non : ∀ p u, H0 p = none → H p = some u → H01 p = none := fun p u n h => by
    cases q : H01 p with
    | none => rfl
    | some o =>
      rcases new p o q with z | z
      · rw [n] at z; cases z
      · rw [h] at z; cases z
  obtain ⟨a', da, ea', na', ⟨na0, va, hva, _⟩, _⟩ := R.slot i .hnd hs
  rw [ea] at ea'
  cases ea'
  refine ⟨sub, fun b o h => e0 _ _ (R.grow b o h), fun b o h => ?_, fun b o h n => ?_, fun b hb => ?_, R.len, fun j s h => ?_, R.dis, fun b o z => kp _ _ (R.kp b o z) (fun y => by subst y; rw [R.kn i _ b hs rfl ea] at z; cases z), R.kn, R.kh, fun b o z => non b o (R.kz b o z) (R.kp b o z)⟩
  · rcases new b o h with z | z
    · exact R.new b o z
    · exact .inr (R.fresh z)
  · refine kp _ _ (R.fr b o h n) fun z => ?_
    subst z
    rcases na' with z | z
    · exact n z.symm
    · rw [h] at z; cases z
  · obtain ⟨h1, ds, h2, h3⟩ := R.hv b hb
    by_cases hba : b = a
    · subst hba; exact ⟨h1, ds', ha', ok'⟩
    · obtain ⟨vs, hp⟩ := h2.is
      exact ⟨h1, ds, h2.keep e0 (non b _ h2.n0 hp) (fun o z => kp b o z hba), h3⟩
  · have q := R.slot j s h
    have other : ∀ {b : Addr}, i ≠ j → s.isOwn = true → σ[j]? = some (some (.ref b)) → b ≠ a := fun {b} hij o' z y => by
      subst y
      exact R.dis i j .hnd s b hij hs h rfl o' ea z
    by_cases hij : i = j
    · subst hij
      rw [hs] at h
      cases h
      exact ⟨a, ds', ea, na', ha', ok'⟩
    · cases s with
      | v d => obtain ⟨v, e, r⟩ := q; exact ⟨v, e, r.mono e0⟩
      | own ds =>
        obtain ⟨p, e, n, h2⟩ := q
        obtain ⟨vs, hp⟩ := h2.is
        exact ⟨p, e, n, h2.keep e0 (non p _ h2.n0 hp) (fun o z => kp p o z (other hij rfl e))⟩
      | hnd =>
        obtain ⟨b, ds, e, n, h2, h3⟩ := q
        obtain ⟨vs, hp⟩ := h2.is
        exact ⟨b, ds, e, n, h2.keep e0 (non b _ h2.n0 hp) (fun o z => kp b o z (other hij rfl e)), h3⟩
      | dct kvs =>
        obtain ⟨p, ks, e, n, n0, hp, r⟩ := q
        exact ⟨p, ks, e, n, non p _ n0 hp, kp _ _ hp (other hij rfl e), r.mono e0⟩
      | dcm kvs =>
        obtain ⟨p, ks, e, n, n0, hp, r⟩ := q
        exact ⟨p, ks, e, n, non p _ n0 hp, kp _ _ hp (other hij rfl e), r.mono e0⟩
/-- a thing that no slot holds is protected, or no longer -/
theorem Rel.guard (R : Rel K ok C H0 σ H env) {Kq : Hp} (h : Same Kq H) (ns : ∀ p o, Kq p = some o → C.Kp p = some o ∨ ((∀ (i : Nat) s, env[i]? = some (some s) → s.isOwn = true → σ[i]? ≠ some (some (.ref p))) ∧ C.ha ≠ some p ∧ H0 p = none)) : Rel K ok { C with Kp := Kq } H0 σ H env := by
  refine ⟨R.sub, R.grow, R.new, R.fr, R.hv, R.len, fun i s hs => ?_, R.dis, h, fun i s p hs os e => ?_, fun a ha => ?_, fun b o z => ?_⟩
  · have q := R.slot i s hs
    cases s <;> exact q
  · cases q : Kq p with
    | none => exact q
    | some o =>
      rcases ns p o q with z | z
      · rw [R.kn i s p hs os e] at z; cases z
      · exact absurd e (z.1 i s hs os)
  · cases q : Kq a with
    | none => exact q
    | some o =>
      rcases ns a o q with z | z
      · rw [R.kh a ha] at z; cases z
      · exact absurd ha z.2.1
  · rcases ns b o z with z | z
    · exact R.kz b o z
    · exact z.2.2
end
end DL
/-! DL, part b: expressions, tests, arguments: what is asked, without a heap; each rule sound. -/
namespace DL
open PySem L2

abbrev WE := EnvD → (D → Prop) → Prop
abbrev WL := EnvD → (List D → Prop) → Prop
abbrev WT := EnvD → (Bool → Prop) → Prop
inductive Ar where
  | v (d : D) | hnd
abbrev WA := EnvD → (List Ar → Prop) → Prop

/-- a slot by its place -/
def get : EnvD → Nat → Option Sl
  | [], _ => none
  | x :: _, 0 => x
  | _ :: r, n + 1 => get r n
theorem get_eq : ∀ {env : EnvD} {i : Nat} {s : Sl}, get env i = some s → env[i]? = some (some s)
  | [], _, _, h => by cases h
  | x :: _, 0, s, h => by
    have h' : x = some s := h
    subst h'; rfl
  | _ :: r, n + 1, s, h => by
    rw [List.getElem?_cons_succ]
    exact get_eq (env := r) h

structure FreshL (K : PySem.W.Frag) (C : Ctx) (H0 : Hp) (σ : L2.St) (H : Hp) (env : EnvD) (p : Addr) (ds : List D) : Prop where
  he : C.He p = none
  own : OwnAt K H0 H p ds
  ns : ∀ (i : Nat) s, env[i]? = some (some s) → s.isOwn = true → σ[i]? ≠ some (some (.ref p))
  kq : C.Kp p = none

def ArgR (K : PySem.W.Frag) (H0 : Hp) (σ : L2.St) (env : EnvD) : Ar → V → Prop
  | .v d, x => Rp K H0 x d
  | .hnd, x => ∃ (i : Nat) (a : Addr), env[i]? = some (some .hnd) ∧ σ[i]? = some (some (.ref a)) ∧ x = .ref a
inductive ArgsR (K : PySem.W.Frag) (H0 : Hp) (σ : L2.St) (env : EnvD) : List Ar → List V → Prop
  | nil : ArgsR K H0 σ env [] []
  | cons {a : Ar} {as : List Ar} {x : V} {xs : List V} : ArgR K H0 σ env a x → ArgsR K H0 σ env as xs → ArgsR K H0 σ env (a :: as) (x :: xs)
section
variable {K : PySem.W.Frag} {ok : List D → Prop}
theorem ArgR.mono {H0 H01 : Hp} {σ : L2.St} {env : EnvD} (e : Same H0 H01) : ∀ {a : Ar} {x : V}, ArgR K H0 σ env a x → ArgR K H01 σ env a x
  | .v _, _, h => Rp.mono e h
  | .hnd, _, h => h
theorem ArgsR.length {H0 : Hp} {σ : L2.St} {env : EnvD} : ∀ {as : List Ar} {xs : List V}, ArgsR K H0 σ env as xs → as.length = xs.length
  | _, _, .nil => rfl
  | _, _, .cons _ t => by rw [List.length_cons, List.length_cons, ArgsR.length t]
variable (K ok)
def SndE (te : TE) (we : WE) : Prop := ∀ (C : Ctx) (H0 : Hp) (σ : L2.St) (H : Hp) (env : EnvD) (Q : D → Prop) (R : VK), Rel K ok C H0 σ H env → we env Q →
  (∀ d v H1 H01, Q d → Rel K ok C H01 σ H1 env → Same H0 H01 → Rp K H01 v d → R v H1) → te σ H R
def SndL (te : TE) (wl : WL) : Prop := ∀ (C : Ctx) (H0 : Hp) (σ : L2.St) (H : Hp) (env : EnvD) (Q : List D → Prop) (R : VK), Rel K ok C H0 σ H env → wl env Q →
  (∀ ds p H1 H01, Q ds → Rel K ok C H01 σ H1 env → Same H0 H01 → FreshL K C H01 σ H1 env p ds → R (.ref p) H1) → te σ H R
def SndT (tt : TT) (wt : WT) : Prop := ∀ (C : Ctx) (H0 : Hp) (σ : L2.St) (H : Hp) (env : EnvD) (Q : Bool → Prop) (R : Bool → Hp → Prop), Rel K ok C H0 σ H env → wt env Q →
  (∀ b H1 H01, Q b → Rel K ok C H01 σ H1 env → Same H0 H01 → R b H1) → tt σ H R
def SndA (ta : TA) (wa : WA) : Prop := ∀ (C : Ctx) (H0 : Hp) (σ : L2.St) (H : Hp) (env : EnvD) (Q : List Ar → Prop) (R : List V → Hp → Prop), Rel K ok C H0 σ H env → wa env Q →
  (∀ as vs H1 H01, Q as → Rel K ok C H01 σ H1 env → Same H0 H01 → ArgsR K H01 σ env as vs → R vs H1) → ta σ H R
/-- borrowed: a known value, or a list of one's own that stands while the slots do -/
def Bor (H0 H : Hp) (v : V) (d : D) : Prop := Rp K H0 v d ∨ ∃ p ds, v = .ref p ∧ d = .list ds ∧ OwnAt K H0 H p ds
def SndB (te : TE) (wb : WE) : Prop := ∀ (C : Ctx) (H0 : Hp) (σ : L2.St) (H : Hp) (env : EnvD) (Q : D → Prop) (R : VK), Rel K ok C H0 σ H env → wb env Q →
  (∀ d v H1 H01, Q d → Rel K ok C H01 σ H1 env → Same H0 H01 → (∀ H2 H02, Rel K ok C H02 σ H2 env → Same H01 H02 → Bor K H02 H2 v d) → R v H1) → te σ H R
end
section
variable (X : Cx) (ok : List D → Prop)
def PDE (e : Expr) (we : WE) : Prop := ∃ te, PE X e te ∧ SndE X.K ok te we
def PDL (e : Expr) (wl : WL) : Prop := ∃ te, PE X e te ∧ SndL X.K ok te wl
def PDB (e : Expr) (wb : WE) : Prop := ∃ te, PE X e te ∧ SndB X.K ok te wb
def PDT (e : Expr) (wt : WT) : Prop := ∃ tt, PT X e tt ∧ SndT X.K ok tt wt
def PDW (e : Expr) (wt : WT) : Prop := ∃ tt, PW X e tt ∧ SndT X.K ok tt wt
def PDA (es : List Expr) (wa : WA) : Prop := ∃ ta, PA X es ta ∧ SndA X.K ok ta wa
end

/-! ### what is asked -/
def wC (d : D) : WE := fun _ Q => Q d
def wVar (i : Nat) : WE := fun env Q => match get env i with
  | some (.v d) => Q d
  | _ => False
/-- a name as it stands, also a list of one's own -/
def wBor (i : Nat) : WE := fun env Q => match get env i with
  | some (.v d) => Q d
  | some (.own ds) => Q (.list ds)
  | _ => False
def wBin (f : D → D → (D → Prop) → Prop) (a b : WE) : WE := fun env Q => a env fun x => b env fun y => f x y Q
def wUn (f : D → (D → Prop) → Prop) (a : WE) : WE := fun env Q => a env fun x => f x Q
def fI (g : Int → Int → Int) : D → D → (D → Prop) → Prop := fun d e Q => match d, e with
  | .int i, .int j => Q (.int (g i j))
  | _, _ => False
def fIC (c : Int → Int → Prop) (g : Int → Int → Int) : D → D → (D → Prop) → Prop := fun d e Q => match d, e with
  | .int i, .int j => c i j ∧ Q (.int (g i j))
  | _, _ => False
def fB (g : Int → Int → Bool) : D → D → (D → Prop) → Prop := fun d e Q => match d, e with
  | .int i, .int j => Q (.bool (g i j))
  | _, _ => False
def fAdd : D → D → (D → Prop) → Prop := fun d e Q => match d, e with
  | .int i, .int j => Q (.int (i + j))
  | _, _ => False
def fSub : D → D → (D → Prop) → Prop := fun d e Q => match d, e with
  | .int i, .int j => Q (.int (i - j))
  | _, _ => False
def fMul : D → D → (D → Prop) → Prop := fun d e Q => match d, e with
  | .int i, .int j => CMul i j ∧ Q (.int (i * j))
  | _, _ => False
def fMulX : D → D → (D → Prop) → Prop := fun d e Q => match d, e with
  | .int i, .int j => CMulX i j ∧ Q (.int (i * j))
  | _, _ => False
def fMod : D → D → (D → Prop) → Prop := fun d e Q => match d, e with
  | .int i, .int j => 0 < j ∧ Q (.int (i % j))
  | _, _ => False
def fDiv : D → D → (D → Prop) → Prop := fun d e Q => match d, e with
  | .int i, .int j => CDivW i j ∧ Q (.int (i / j))
  | _, _ => False
def fShl : D → D → (D → Prop) → Prop := fun d e Q => match d, e with
  | .int i, .int j => CPow i j ∧ Q (.int (i * 2 ^ j.toNat))
  | _, _ => False
def fPow : D → D → (D → Prop) → Prop := fun d e Q => match d, e with
  | .int i, .int j => CPow i j ∧ Q (.int (i ^ j.toNat))
  | _, _ => False
def fMax2 : D → D → (D → Prop) → Prop := fun d e Q => match d, e with
  | .int i, .int j => Q (.int (if j > i then j else i))
  | _, _ => False
def fMin2 : D → D → (D → Prop) → Prop := fun d e Q => match d, e with
  | .int i, .int j => Q (.int (if j < i then j else i))
  | _, _ => False
def fLt : D → D → (D → Prop) → Prop := fun d e Q => match d, e with
  | .int i, .int j => Q (.bool (decide (i < j)))
  | _, _ => False
def fLe : D → D → (D → Prop) → Prop := fun d e Q => match d, e with
  | .int i, .int j => Q (.bool (decide (i ≤ j)))
  | _, _ => False
def fGt : D → D → (D → Prop) → Prop := fun d e Q => match d, e with
  | .int i, .int j => Q (.bool (decide (j < i)))
  | _, _ => False
def fGe : D → D → (D → Prop) → Prop := fun d e Q => match d, e with
  | .int i, .int j => Q (.bool (decide (j ≤ i)))
  | _, _ => False
def fEq : D → D → (D → Prop) → Prop := fun d e Q => match d, e with
  | .int i, .int j => Q (.bool (decide (i = j)))
  | d, e => SeqAt.shaped d = true ∧ SeqAt.shaped e = true ∧ Q (.bool (PyData.eqv d e))
def fNe : D → D → (D → Prop) → Prop := fun d e Q => match d, e with
  | .int i, .int j => Q (.bool (!decide (i = j)))
  | d, e => SeqAt.shaped d = true ∧ SeqAt.shaped e = true ∧ Q (.bool (!PyData.eqv d e))
def isNone : D → Bool
  | .none => true
  | _ => false
def fNeg : D → (D → Prop) → Prop := fun d Q => match d with
  | .int i => Q (.int (-i))
  | _ => False
def wIsN (a : WE) : WE := fun env Q => a env fun x => Q (.bool (isNone x))
def wNotN (a : WE) : WE := fun env Q => a env fun x => Q (.bool (!isNone x))
def wTest (a : WE) : WT := fun env Q => a env fun x => match x with
  | .bool b => Q b
  | _ => False
def wNot (t : WT) : WT := fun env Q => t env fun b => Q (!b)
/-- both ways -/
def wAnd (t u : WT) : WT := fun env Q => t env fun b => (b = true → u env Q) ∧ (b = false → Q false)
def wOr (t u : WT) : WT := fun env Q => t env fun b => (b = true → Q true) ∧ (b = false → u env Q)
/-- by a told answer of the second -/
def wAndD (t u : WT) : WT := fun env Q => t env fun b => ∃ c : Bool, (b = true → u env fun d => d = c) ∧ Q (b && c)
def wOrD (t u : WT) : WT := fun env Q => t env fun b => ∃ c : Bool, (b = false → u env fun d => d = c) ∧ Q (b || c)
/-- as values -/
def wBl (t : WT) : WE := fun env Q => t env fun b => Q (.bool b)
def wIfE (t : WT) (a b : WE) : WE := fun env Q => t env fun c => (c = true → a env Q) ∧ (c = false → b env Q)
def wNil : WA := fun _ Q => Q []
def wCons (a : WE) (r : WA) : WA := fun env Q => a env fun x => r env fun xs => Q (.v x :: xs)
def wConsH (i : Nat) (r : WA) : WA := fun env Q => match get env i with
  | some .hnd => r env fun xs => Q (.hnd :: xs)
  | _ => False
def vals : List Ar → List D
  | [] => []
  | .v d :: r => d :: vals r
  | .hnd :: r => vals r
def wTup (a : WA) : WE := fun env Q => a env fun as => as.length ≤ 1000 ∧ Q (.tuple (vals as))
def wLst (a : WA) : WL := fun env Q => a env fun as => as.length ≤ 1000 ∧ Q (vals as)
/-- a new list as a value -/
def wFz (l : WL) : WE := fun env Q => l env fun ds => Q (.list ds)
def fIx : D → D → (D → Prop) → Prop := fun d e Q => match d, e with
  | .list ds, .int i => ∃ x, atI ds i = some x ∧ Q x
  | .tuple ds, .int i => ∃ x, atI ds i = some x ∧ Q x
  | .dict [(.none, .list ds)], .int i => ∃ x, atI ds i = some x ∧ Q x
  | _, _ => False
def wIx (a b : WE) : WE := fun env Q => a env fun x => b env fun y => fIx x y Q
def wLen (a : WE) : WE := fun env Q => a env fun x => match x with
  | .list ds => Q (.int ds.length)
  | .tuple ds => Q (.int ds.length)
  | .dict [(.none, .list ds)] => Q (.int ds.length)
  | _ => False
abbrev WM := List Ar → (Rt → Prop) → Prop
def wCall (n : Nat) (M : WM) (a : WA) : WE := fun env Q => a env fun as => as.length = n ∧ M as fun r => Q r.val
def wCallO (n : Nat) (M : WM) (a : WA) : WL := fun env Q => a env fun as => as.length = n ∧ M as fun r => match r with
  | .own ds => Q ds
  | .v _ => False
  | .two _ _ => False

/-! ### soundness -/
section
variable {K : PySem.W.Frag} {ok : List D → Prop} {ta tb te : TE} {wa wb we : WE} {t u : TT} {wt wu : WT}
theorem SndE.b (h : SndE K ok te we) : SndB K ok te we := fun C H0 σ H env Q R rel hw k => h C H0 σ H env Q R rel hw fun d v H1 H01 q r e x => k d v H1 H01 q r e fun H2 H02 _ e2 => .inl (x.mono e2)
theorem SndL.fz {wl : WL} (h : SndL K ok te wl) : SndE K ok te (wFz wl) := fun C H0 σ H env Q R rel hw k => h C H0 σ H env _ R rel hw fun ds p H1 H01 q r e f => by
  obtain ⟨n0, vs, hp, hr⟩ := f.own
  obtain ⟨r2, e2⟩ := r.know hp n0 f.he f.kq f.ns
  exact k _ _ H1 _ q r2 (e.trans e2) (.lst upd_same (hr.mono e2))
theorem snd_c {v : V} {d : D} (h : ∀ H, Rp K H v d) : SndE K ok (tC v) (wC d) := fun C H0 σ H env Q R rel hw k => k d v H H0 hw rel (Same.refl _) (h _)
theorem snd_var {i : Nat} : SndE K ok (tVar i) (wVar i) := fun C H0 σ H env Q R rel hw k => by
  unfold wVar at hw
  split at hw
  · rename_i d hd
    obtain ⟨v, e, r⟩ := rel.slot i _ (get_eq hd)
    exact ⟨v, e, k d v H H0 hw rel (Same.refl _) r⟩
  · exact hw.elim
theorem snd_bor {i : Nat} : SndB K ok (tVar i) (wBor i) := fun C H0 σ H env Q R rel hw k => by
  unfold wBor at hw
  split at hw
  · rename_i d hd
    obtain ⟨v, e, r⟩ := rel.slot i _ (get_eq hd)
    exact ⟨v, e, k d v H H0 hw rel (Same.refl _) fun H2 H02 _ e2 => .inl (r.mono e2)⟩
  · rename_i ds hd
    obtain ⟨p, e, n, o⟩ := rel.slot i _ (get_eq hd)
    refine ⟨_, e, k _ _ H H0 hw rel (Same.refl _) fun H2 H02 r2 e2 => .inr ⟨p, ds, rfl, rfl, ?_⟩⟩
    obtain ⟨p', e', n', o'⟩ := r2.slot i _ (get_eq hd)
    rw [e] at e'
    cases e'
    exact o'
  · exact hw.elim
/-- an operation on values that leaves the heap -/
def OpD (K : PySem.W.Frag) (r : R2) (f : D → D → (D → Prop) → Prop) : Prop := ∀ (H0 H : Hp) (x y : V) (d e : D) (Q : D → Prop) (R : VK), Same H0 H → Rp K H0 x d → Rp K H0 y e → f d e Q → (∀ z v, Q z → Rp K H0 v z → R v H) → r x y H R
theorem snd_bin {r : R2} {f : D → D → (D → Prop) → Prop} (hr : OpD K r f) (ha : SndE K ok ta wa) (hb : SndE K ok tb wb) : SndE K ok (tOp r ta tb) (wBin f wa wb) := fun C H0 σ H env Q R rel hw k =>
  ha C H0 σ H env _ _ rel hw fun d v H1 H01 q r1 e1 x1 => hb C H01 σ H1 env _ _ r1 q fun e u H2 H02 q2 r2 e2 x2 =>
    hr H02 H2 v u d e Q R r2.sub (x1.mono e2) x2 q2 fun z w qz rz => k z w H2 H02 qz r2 (e1.trans e2) rz
theorem opd_I0 {g : Int → Int → Int} : OpD K (rI0 fun i j => .int (g i j)) (fI g) := fun H0 H x y d e Q R _ hx hy h k => by
  unfold fI at h
  split at h
  · cases hx; cases hy
    exact ⟨_, _, rfl, rfl, k _ _ h (.int _)⟩
  · exact h.elim
theorem opd_I {c : Int → Int → Prop} {g : Int → Int → Int} : OpD K (rI c fun i j => .int (g i j)) (fIC c g) := fun H0 H x y d e Q R _ hx hy h k => by
  unfold fIC at h
  split at h
  · cases hx; cases hy
    exact ⟨_, _, rfl, rfl, h.1, k _ _ h.2 (.int _)⟩
  · exact h.elim
theorem opd_B0 {g : Int → Int → Bool} : OpD K (rI0 fun i j => .bl (g i j)) (fB g) := fun H0 H x y d e Q R _ hx hy h k => by
  unfold fB at h
  split at h
  · cases hx; cases hy
    exact ⟨_, _, rfl, rfl, k _ _ h (.bl _)⟩
  · exact h.elim
theorem opd_add : OpD K (rI0 fun i j => .int (i + j)) fAdd := fun H0 H x y d e Q R _ hx hy h k => by
  unfold fAdd at h
  split at h
  · cases hx; cases hy
    exact ⟨_, _, rfl, rfl, k _ _ h (.int _)⟩
  · exact h.elim
theorem opd_sub : OpD K (rI0 fun i j => .int (i - j)) fSub := fun H0 H x y d e Q R _ hx hy h k => by
  unfold fSub at h
  split at h
  · cases hx; cases hy
    exact ⟨_, _, rfl, rfl, k _ _ h (.int _)⟩
  · exact h.elim
theorem opd_mul : OpD K (rI CMul fun i j => .int (i * j)) fMul := fun H0 H x y d e Q R _ hx hy h k => by
  unfold fMul at h
  split at h
  · cases hx; cases hy
    exact ⟨_, _, rfl, rfl, h.1, k _ _ h.2 (.int _)⟩
  · exact h.elim
theorem opd_mulX : OpD K (rI CMulX fun i j => .int (i * j)) fMulX := fun H0 H x y d e Q R _ hx hy h k => by
  unfold fMulX at h
  split at h
  · cases hx; cases hy
    exact ⟨_, _, rfl, rfl, h.1, k _ _ h.2 (.int _)⟩
  · exact h.elim
theorem opd_mod : OpD K (rI (fun _ j => 0 < j) fun i j => .int (i % j)) fMod := fun H0 H x y d e Q R _ hx hy h k => by
  unfold fMod at h
  split at h
  · cases hx; cases hy
    exact ⟨_, _, rfl, rfl, h.1, k _ _ h.2 (.int _)⟩
  · exact h.elim
theorem opd_div : OpD K (rI CDivW fun i j => .int (i / j)) fDiv := fun H0 H x y d e Q R _ hx hy h k => by
  unfold fDiv at h
  split at h
  · cases hx; cases hy
    exact ⟨_, _, rfl, rfl, h.1, k _ _ h.2 (.int _)⟩
  · exact h.elim
theorem opd_shl : OpD K (rI CPow fun i j => .int (i * 2 ^ j.toNat)) fShl := fun H0 H x y d e Q R _ hx hy h k => by
  unfold fShl at h
  split at h
  · cases hx; cases hy
    exact ⟨_, _, rfl, rfl, h.1, k _ _ h.2 (.int _)⟩
  · exact h.elim
theorem opd_pow : OpD K (rI CPow fun i j => .int (i ^ j.toNat)) fPow := fun H0 H x y d e Q R _ hx hy h k => by
  unfold fPow at h
  split at h
  · cases hx; cases hy
    exact ⟨_, _, rfl, rfl, h.1, k _ _ h.2 (.int _)⟩
  · exact h.elim
theorem opd_lt : OpD K (rI0 fun i j => .bl (decide (i < j))) fLt := fun H0 H x y d e Q R _ hx hy h k => by
  unfold fLt at h
  split at h
  · cases hx; cases hy
    exact ⟨_, _, rfl, rfl, k _ _ h (.bl _)⟩
  · exact h.elim
theorem opd_le : OpD K (rI0 fun i j => .bl (decide (i ≤ j))) fLe := fun H0 H x y d e Q R _ hx hy h k => by
  unfold fLe at h
  split at h
  · cases hx; cases hy
    exact ⟨_, _, rfl, rfl, k _ _ h (.bl _)⟩
  · exact h.elim
theorem opd_gt : OpD K (rI0 fun i j => .bl (decide (j < i))) fGt := fun H0 H x y d e Q R _ hx hy h k => by
  unfold fGt at h
  split at h
  · cases hx; cases hy
    exact ⟨_, _, rfl, rfl, k _ _ h (.bl _)⟩
  · exact h.elim
theorem opd_ge : OpD K (rI0 fun i j => .bl (decide (j ≤ i))) fGe := fun H0 H x y d e Q R _ hx hy h k => by
  unfold fGe at h
  split at h
  · cases hx; cases hy
    exact ⟨_, _, rfl, rfl, k _ _ h (.bl _)⟩
  · exact h.elim
theorem eqv_int (i j : Int) : PyData.eqv (.int i) (.int j) = decide (i = j) := by
  rw [PyData.eqv]
  by_cases h : i = j <;> simp [h]
theorem shaped_int (i : Int) : SeqAt.shaped (.int i) = true := by simp [SeqAt.shaped, PyData.canLay0, PyData.depth]
theorem opd_eq : OpD K (rEqD K) fEq := fun H0 H x y d e Q R s hx hy h k => by
  unfold fEq at h
  split at h
  · refine ⟨_, _, (hx.mono s).sh (shaped_int _), (hy.mono s).sh (shaped_int _), shaped_int _, shaped_int _, ?_⟩
    rw [eqv_int]
    exact k _ _ h (.bl _)
  · exact ⟨_, _, (hx.mono s).sh h.1, (hy.mono s).sh h.2.1, h.1, h.2.1, k _ _ h.2.2 (.bl _)⟩
theorem opd_ne : OpD K (rNeD K) fNe := fun H0 H x y d e Q R s hx hy h k => by
  unfold fNe at h
  split at h
  · refine ⟨_, _, (hx.mono s).sh (shaped_int _), (hy.mono s).sh (shaped_int _), shaped_int _, shaped_int _, ?_⟩
    rw [eqv_int]
    exact k _ _ h (.bl _)
  · exact ⟨_, _, (hx.mono s).sh h.1, (hy.mono s).sh h.2.1, h.1, h.2.1, k _ _ h.2.2 (.bl _)⟩
theorem Rp.isNone {H : Hp} {v : V} {d : D} (h : Rp K H v d) : decide (v = .non) = isNone d := by cases h <;> rfl
theorem snd_isN (ha : SndE K ok ta wa) : SndE K ok (tIsN ta) (wIsN wa) := fun C H0 σ H env Q R rel hw k => ha C H0 σ H env _ _ rel hw fun d v H1 H01 q r1 e1 x1 => by
  rw [x1.isNone]
  exact k _ _ H1 H01 q r1 e1 (.bl _)
theorem snd_notN (ha : SndE K ok ta wa) : SndE K ok (tNotN ta) (wNotN wa) := fun C H0 σ H env Q R rel hw k => ha C H0 σ H env _ _ rel hw fun d v H1 H01 q r1 e1 x1 => by
  rw [x1.isNone]
  exact k _ _ H1 H01 q r1 e1 (.bl _)
theorem snd_neg (ha : SndE K ok ta wa) : SndE K ok (tUn (rU fun i => .int (-i)) ta) (wUn fNeg wa) := fun C H0 σ H env Q R rel hw k => ha C H0 σ H env _ _ rel hw fun d v H1 H01 q r1 e1 x1 => by
  unfold fNeg at q
  split at q
  · cases x1
    exact ⟨_, rfl, k _ _ H1 H01 q r1 e1 (.int _)⟩
  · exact q.elim
theorem snd_test (ha : SndE K ok ta wa) : SndT K ok (tTest ta) (wTest wa) := fun C H0 σ H env Q R rel hw k => ha C H0 σ H env _ _ rel hw fun d v H1 H01 q r1 e1 x1 => by
  try dsimp only at q
  split at q
  · cases x1
    exact ⟨_, rfl, k _ H1 H01 q r1 e1⟩
  · exact q.elim
theorem snd_tB (ha : SndE K ok ta wa) : SndT K ok (tB ta) (wTest wa) := snd_test ha
theorem snd_not (h : SndT K ok t wt) : SndT K ok (tNot t) (wNot wt) := fun C H0 σ H env Q R rel hw k => h C H0 σ H env _ _ rel hw fun b H1 H01 q r1 e1 => k _ H1 H01 q r1 e1
theorem snd_and (h : SndT K ok t wt) (h2 : SndT K ok u wu) : SndT K ok (tAnd t u) (wAnd wt wu) := fun C H0 σ H env Q R rel hw k => h C H0 σ H env _ _ rel hw fun b H1 H01 q r1 e1 => by
  cases b with
  | true =>
    refine iteT (h2 C H01 σ H1 env _ _ r1 (q.1 rfl) fun c H2 H02 q2 r2 e2 => k c H2 H02 q2 r2 (e1.trans e2))
  | false => exact iteF (k _ H1 H01 (q.2 rfl) r1 e1)
theorem snd_or (h : SndT K ok t wt) (h2 : SndT K ok u wu) : SndT K ok (tOr t u) (wOr wt wu) := fun C H0 σ H env Q R rel hw k => h C H0 σ H env _ _ rel hw fun b H1 H01 q r1 e1 => by
  cases b with
  | false =>
    refine iteF (h2 C H01 σ H1 env _ _ r1 (q.2 rfl) fun c H2 H02 q2 r2 e2 => k c H2 H02 q2 r2 (e1.trans e2))
  | true => exact iteT (k _ H1 H01 (q.1 rfl) r1 e1)
theorem snd_andD (h : SndT K ok t wt) (h2 : SndT K ok u wu) : SndT K ok (tAnd t u) (wAndD wt wu) := fun C H0 σ H env Q R rel hw k => h C H0 σ H env _ _ rel hw fun b H1 H01 q r1 e1 => by
  obtain ⟨c, q1, q2⟩ := q
  cases b with
  | true => exact iteT (h2 C H01 σ H1 env _ _ r1 (q1 rfl) fun d H2 H02 q3 r2 e2 => by subst q3; exact k _ H2 H02 q2 r2 (e1.trans e2))
  | false => exact iteF (k _ H1 H01 q2 r1 e1)
theorem snd_orD (h : SndT K ok t wt) (h2 : SndT K ok u wu) : SndT K ok (tOr t u) (wOrD wt wu) := fun C H0 σ H env Q R rel hw k => h C H0 σ H env _ _ rel hw fun b H1 H01 q r1 e1 => by
  obtain ⟨c, q1, q2⟩ := q
  cases b with
  | false => exact iteF (h2 C H01 σ H1 env _ _ r1 (q1 rfl) fun d H2 H02 q3 r2 e2 => by subst q3; exact k _ H2 H02 q2 r2 (e1.trans e2))
  | true => exact iteT (k _ H1 H01 q2 r1 e1)
/-- and, or as values of truth values -/
theorem snd_andV (h : SndE K ok ta wa) (h2 : SndE K ok tb wb) : SndE K ok (tAndV ta tb) (wBl (wAndD (wTest wa) (wTest wb))) := fun C H0 σ H env Q R rel hw k => h C H0 σ H env _ _ rel hw fun d v H1 H01 q r1 e1 x1 => by
  try dsimp only at q
  split at q
  · rename_i b
    cases x1
    obtain ⟨c, q1, q2⟩ := q
    refine ⟨b, rfl, ?_⟩
    cases b with
    | true =>
      refine iteT (h2 C H01 σ H1 env _ _ r1 (q1 rfl) fun d v H2 H02 q3 r2 e2 x2 => ?_)
      dsimp only at q3
      split at q3
      · subst q3; cases x2; exact k _ _ H2 H02 q2 r2 (e1.trans e2) (.bl _)
      · exact q3.elim
    | false => exact iteF (k _ _ H1 H01 q2 r1 e1 (.bl _))
  · exact q.elim
theorem snd_orV (h : SndE K ok ta wa) (h2 : SndE K ok tb wb) : SndE K ok (tOrV ta tb) (wBl (wOrD (wTest wa) (wTest wb))) := fun C H0 σ H env Q R rel hw k => h C H0 σ H env _ _ rel hw fun d v H1 H01 q r1 e1 x1 => by
  try dsimp only at q
  split at q
  · rename_i b
    cases x1
    obtain ⟨c, q1, q2⟩ := q
    refine ⟨b, rfl, ?_⟩
    cases b with
    | false =>
      refine iteF (h2 C H01 σ H1 env _ _ r1 (q1 rfl) fun d v H2 H02 q3 r2 e2 x2 => ?_)
      dsimp only at q3
      split at q3
      · subst q3; cases x2; exact k _ _ H2 H02 q2 r2 (e1.trans e2) (.bl _)
      · exact q3.elim
    | true => exact iteT (k _ _ H1 H01 q2 r1 e1 (.bl _))
  · exact q.elim
theorem snd_notV (h : SndE K ok ta wa) : SndE K ok (tNotV ta) (wBl (wNot (wTest wa))) := fun C H0 σ H env Q R rel hw k => h C H0 σ H env _ _ rel hw fun d v H1 H01 q r1 e1 x1 => by
  try dsimp only at q
  split at q
  · cases x1
    exact ⟨_, rfl, k _ _ H1 H01 q r1 e1 (.bl _)⟩
  · exact q.elim
theorem snd_ifE (h : SndT K ok t wt) (ha : SndE K ok ta wa) (hb : SndE K ok tb wb) : SndE K ok (tIf t ta tb) (wIfE wt wa wb) := fun C H0 σ H env Q R rel hw k => h C H0 σ H env _ _ rel hw fun b H1 H01 q r1 e1 => by
  cases b with
  | true => exact iteT (ha C H01 σ H1 env _ _ r1 (q.1 rfl) fun d v H2 H02 q2 r2 e2 x => k d v H2 H02 q2 r2 (e1.trans e2) x)
  | false => exact iteF (hb C H01 σ H1 env _ _ r1 (q.2 rfl) fun d v H2 H02 q2 r2 e2 x => k d v H2 H02 q2 r2 (e1.trans e2) x)
theorem snd_nil : SndA K ok tNil wNil := fun C H0 σ H env Q R rel hw k => k _ _ H H0 hw rel (Same.refl _) .nil
theorem ArgsR.mono {H0 H01 : Hp} {σ : L2.St} {env : EnvD} (e : Same H0 H01) : ∀ {as : List Ar} {xs : List V}, ArgsR K H0 σ env as xs → ArgsR K H01 σ env as xs
  | _, _, .nil => .nil
  | _, _, .cons h t => .cons (ArgR.mono e h) (ArgsR.mono e t)
theorem snd_cons {tr : TA} {wr : WA} (ha : SndE K ok ta wa) (hr : SndA K ok tr wr) : SndA K ok (tCons ta tr) (wCons wa wr) := fun C H0 σ H env Q R rel hw k =>
  ha C H0 σ H env _ _ rel hw fun d v H1 H01 q r1 e1 x1 => hr C H01 σ H1 env _ _ r1 q fun as vs H2 H02 q2 r2 e2 x2 => k _ _ H2 H02 q2 r2 (e1.trans e2) (.cons (show ArgR K H02 σ env (.v d) v from x1.mono e2) x2)
theorem snd_consH {i : Nat} {tr : TA} {wr : WA} (hr : SndA K ok tr wr) : SndA K ok (tCons (tVar i) tr) (wConsH i wr) := fun C H0 σ H env Q R rel hw k => by
  unfold wConsH at hw
  split at hw
  · rename_i hd
    obtain ⟨a, ds, e, _, _, _⟩ := rel.slot i _ (get_eq hd)
    exact ⟨_, e, hr C H0 σ H env _ _ rel hw fun as vs H2 H02 q2 r2 e2 x2 => k _ _ H2 H02 q2 r2 e2 (.cons (show ArgR K H02 σ env .hnd (.ref a) from ⟨i, a, get_eq hd, e, rfl⟩) x2)⟩
  · exact hw.elim
/-- no handle among the arguments -/
def plainA : List Ar → Bool
  | [] => true
  | .v _ :: r => plainA r
  | .hnd :: _ => false
theorem ArgsR.vals {H0 : Hp} {σ : L2.St} {env : EnvD} : ∀ {as : List Ar} {xs : List V}, ArgsR K H0 σ env as xs → plainA as = true → Rps K H0 xs (DL.vals as) ∧ xs.length = as.length
  | _, _, .nil, _ => ⟨.nil, rfl⟩
  | .v d :: _, _, .cons h t, p => let ⟨a, b⟩ := ArgsR.vals t p; ⟨.cons h a, by rw [List.length_cons, List.length_cons, b]⟩
  | .hnd :: _, _, .cons _ _, p => by cases p
end
/-- displays: items that are no handles -/
def wTupP (a : WA) : WE := fun env Q => a env fun as => plainA as = true ∧ as.length ≤ 1000 ∧ Q (.tuple (vals as))
def wLstP (a : WA) : WL := fun env Q => a env fun as => plainA as = true ∧ as.length ≤ 1000 ∧ Q (vals as)
section
variable {K : PySem.W.Frag} {ok : List D → Prop} {ta tb te : TE} {wa wb we : WE} {t u : TT} {wt wu : WT}
theorem le1000 {n : Nat} (h : n ≤ 1000) : n ≤ sizeLine := Nat.le_trans h (by decide)
theorem snd_tup {tr : TA} {wr : WA} (hr : SndA K ok tr wr) : SndE K ok (tTup tr) (wTupP wr) := fun C H0 σ H env Q R rel hw k =>
  hr C H0 σ H env _ _ rel hw fun as vs H1 H01 q r1 e1 x1 => by
    obtain ⟨q1, q2, q3⟩ := q
    obtain ⟨x2, l⟩ := x1.vals q1
    refine ⟨by rw [l]; exact le1000 q2, fun p hp => ?_⟩
    obtain ⟨r2, e2⟩ := r1.laid (o := .tup vs) hp
    exact k _ _ _ _ q3 r2 (e1.trans e2) (.tup (SqT.of upd_same) (x2.mono e2))
theorem snd_lst {tr : TA} {wr : WA} (hr : SndA K ok tr wr) : SndL K ok (tLst tr) (wLstP wr) := fun C H0 σ H env Q R rel hw k =>
  hr C H0 σ H env _ _ rel hw fun as vs H1 H01 q r1 e1 x1 => by
    obtain ⟨q1, q2, q3⟩ := q
    obtain ⟨x2, l⟩ := x1.vals q1
    refine ⟨by rw [l]; exact le1000 q2, fun p hp => ?_⟩
    exact k _ _ _ _ q3 (r1.laid0 hp) e1 ⟨r1.fresh hp, ⟨r1.sub.free hp, vs, upd_same, x2⟩, r1.noslot hp, r1.kp.free hp⟩
/-- a borrowed list or tuple as it is read -/
theorem Bor.seq {H0 H : Hp} {v : V} {d : D} (s : Same H0 H) (h : Bor K H0 H v d) {ds : List D} (e : d = .list ds ∨ d = .tuple ds) : ∃ p vs, v = .ref p ∧ Rps K H0 vs ds ∧ ((d = .list ds ∧ H p = some (.lst vs)) ∨ (d = .tuple ds ∧ SqT K H p vs)) := by
  rcases h with h | ⟨p, es, rfl, rfl, _, vs, hp, r⟩
  · rcases e with rfl | rfl
    · cases h with
      | lst h r => exact ⟨_, _, rfl, r, .inl ⟨rfl, s _ _ h⟩⟩
    · cases h with
      | tup h r => exact ⟨_, _, rfl, r, .inr ⟨rfl, Same.tup s h⟩⟩
  · rcases e with e | e
    · cases e; exact ⟨p, vs, rfl, r, .inl ⟨rfl, hp⟩⟩
    · cases e
theorem atI_rel {H0 : Hp} {vs : List V} {ds : List D} {i : Int} {d : D} (r : Rps K H0 vs ds) (h : atI ds i = some d) : ∃ v, atI vs i = some v ∧ Rp K H0 v d := by
  unfold atI at h ⊢
  rw [r.length]
  cases e : ixN ds.length i with
  | none => rw [e] at h; cases h
  | some j =>
    rw [e] at h
    exact r.get h
theorem snd_ix (ha : SndB K ok ta wa) (hb : SndE K ok tb wb) : SndE K ok (tOp (rIx K) ta tb) (wIx wa wb) := fun C H0 σ H env Q R rel hw k =>
  ha C H0 σ H env _ _ rel hw fun d v H1 H01 q r1 e1 x1 => hb C H01 σ H1 env _ _ r1 q fun e u H2 H02 q2 r2 e2 x2 => by
    unfold fIx at q2
    split at q2
    · rename_i ds i
      obtain ⟨x, hx, q3⟩ := q2
      obtain ⟨p, vs, rfl, r, h⟩ := (x1 H2 H02 r2 e2).seq r2.sub (.inl rfl)
      obtain ⟨w, hw, rw'⟩ := atI_rel r hx
      cases x2
      rcases h with ⟨_, h⟩ | ⟨h, _⟩
      · exact .inl ⟨p, vs, i, w, rfl, rfl, SqL.of h, hw, k _ _ H2 H02 q3 r2 (e1.trans e2) rw'⟩
      · cases h
    · rename_i ds i
      obtain ⟨x, hx, q3⟩ := q2
      obtain ⟨p, vs, rfl, r, h⟩ := (x1 H2 H02 r2 e2).seq r2.sub (.inr rfl)
      obtain ⟨w, hw, rw'⟩ := atI_rel r hx
      cases x2
      rcases h with ⟨h, _⟩ | ⟨_, h⟩
      · cases h
      · exact .inr (.inl ⟨p, vs, i, w, rfl, rfl, h, hw, k _ _ H2 H02 q3 r2 (e1.trans e2) rw'⟩)
    · rename_i ds i
      obtain ⟨x, hx, q3⟩ := q2
      rcases x1 H2 H02 r2 e2 with h | ⟨_, _, _, h, _⟩
      · cases h with
        | @scr a ns h =>
          obtain ⟨w, hw, rw'⟩ := atI_rel (K := K) (H0 := H02) (Rps.of_ints ns) hx
          cases x2
          exact .inl ⟨a, _, i, w, rfl, rfl, r2.sub.seq h, hw, k _ _ H2 H02 q3 r2 (e1.trans e2) rw'⟩
      · cases h
    · exact q2.elim
/-- a call of one argument that is read at once -/
theorem snd_len (ha : SndB K ok ta wa) : SndE K ok (tCB (fun xs H Q => ∃ p ys, xs = [.ref p] ∧ (SqL K H p ys ∨ SqT K H p ys) ∧ Q (.int ys.length) H) (tCons ta tNil)) (wLen wa) := fun C H0 σ H env Q R rel hw k =>
  ha C H0 σ H env _ _ rel hw fun d v H1 H01 q r1 e1 x1 => by
    have b := x1 H1 H01 r1 (Same.refl _)
    try dsimp only at q
    split at q
    · rename_i ds
      obtain ⟨p, vs, rfl, r, h⟩ := b.seq r1.sub (.inl rfl)
      rcases h with ⟨_, h⟩ | ⟨h, _⟩
      · refine ⟨p, vs, rfl, .inl (SqL.of h), k _ _ H1 H01 ?_ r1 e1 (.int _)⟩
        rw [r.length]; exact q
      · cases h
    · rename_i ds
      obtain ⟨p, vs, rfl, r, h⟩ := b.seq r1.sub (.inr rfl)
      rcases h with ⟨h, _⟩ | ⟨_, h⟩
      · cases h
      · refine ⟨p, vs, rfl, .inr h, k _ _ H1 H01 ?_ r1 e1 (.int _)⟩
        rw [r.length]; exact q
    · rename_i ds
      rcases b with h | ⟨_, _, _, h, _⟩
      · cases h with
        | @scr a ns h =>
          refine ⟨a, _, rfl, .inl (r1.sub.seq h), k _ _ H1 H01 ?_ r1 e1 (.int _)⟩
          rw [List.length_map] at q ⊢
          exact q
      · cases h
    · exact q.elim
end
/-! ### the promise of a def -/
def HndArgs (as : List Ar) : Nat := (as.filter fun a => match a with | .hnd => true | _ => false).length
inductive ArgsOk (K : PySem.W.Frag) (H0 : Hp) (ha : Option Addr) : List V → List Ar → Prop
  | nil : ArgsOk K H0 ha [] []
  | cons {x : V} {d : D} {xs : List V} {as : List Ar} : Rp K H0 x d → ArgsOk K H0 ha xs as → ArgsOk K H0 ha (x :: xs) (.v d :: as)
  | hnd {a : Addr} {xs : List V} {as : List Ar} : ha = some a → ArgsOk K H0 ha xs as → ArgsOk K H0 ha (.ref a :: xs) (.hnd :: as)
def RetOk (K : PySem.W.Frag) (He H0 H : Hp) (v : V) : Rt → Prop
  | .v d => Rp K H0 v d
  | .own ds => ∃ p, v = .ref p ∧ He p = none ∧ OwnAt K H0 H p ds
  | .two d ds => ∃ r p x, v = .ref r ∧ p ≠ r ∧ He r = none ∧ H0 r = none ∧ H r = some (.lst [x, .ref p]) ∧ Rp K H0 x d ∧ He p = none ∧ OwnAt K H0 H p ds
structure PostOk (K : PySem.W.Frag) (ok : List D → Prop) (H0 H : Hp) (ha : Option Addr) (v : V) (H' : Hp) (r : Rt) (H01 : Hp) : Prop where
  grow : Same H0 H01
  sub : Same H01 H'
  new : ∀ b o, H01 b = some o → H0 b = some o ∨ H b = none
  fr : ∀ b o, H b = some o → some b ≠ ha → H' b = some o
  hv : ∀ a, ha = some a → ∃ ds, OwnAt K H01 H' a ds ∧ ok ds
  res : RetOk K H H01 H' v r
/-- at most one handle -/
def oneH : List Ar → Bool
  | [] => true
  | .v _ :: r => oneH r
  | .hnd :: r => plainA r
/-- at a call: H0, the known part; ha: the handle that is handed in -/
def SpD (K : PySem.W.Frag) (ok : List D → Prop) (n : Nat) (M : WM) : Sp := fun vs H Q _ => ∃ (H0 : Hp) (ha : Option Addr) (as : List Ar) (Q' : Rt → Prop), as.length = n ∧ vs.length = n ∧ oneH as = true ∧ Same H0 H ∧ ArgsOk K H0 ha vs as ∧
  (∀ a, ha = some a → ∃ ds, OwnAt K H0 H a ds ∧ ok ds) ∧ M as Q' ∧ ∀ v H' r H01, Q' r → PostOk K ok H0 H ha v H' r H01 → Q v H'
section
variable {K : PySem.W.Frag} {ok : List D → Prop}
theorem argsOk_plain {H0 : Hp} {σ : L2.St} {env : EnvD} {ha : Option Addr} : ∀ {as : List Ar} {xs : List V}, ArgsR K H0 σ env as xs → plainA as = true → ArgsOk K H0 ha xs as
  | _, _, .nil, _ => .nil
  | .v d :: _, _, .cons h t, p => .cons h (argsOk_plain t p)
  | .hnd :: _, _, .cons _ _, p => by cases p
theorem argsOk_one {H0 : Hp} {σ : L2.St} {env : EnvD} : ∀ {as : List Ar} {xs : List V}, ArgsR K H0 σ env as xs → oneH as = true →
    (plainA as = true ∧ ArgsOk K H0 none xs as) ∨ ∃ (i : Nat) (a : Addr), env[i]? = some (some .hnd) ∧ σ[i]? = some (some (.ref a)) ∧ ArgsOk K H0 (some a) xs as
  | _, _, .nil, _ => .inl ⟨rfl, .nil⟩
  | .v d :: _, _, .cons h t, p => by
    rcases argsOk_one t p with ⟨p', h'⟩ | ⟨i, a, e1, e2, h'⟩
    · exact .inl ⟨p', .cons h h'⟩
    · exact .inr ⟨i, a, e1, e2, .cons h h'⟩
  | .hnd :: _, _, .cons h t, p => by
    obtain ⟨i, a, e1, e2, rfl⟩ := h
    exact .inr ⟨i, a, e1, e2, .hnd rfl (argsOk_plain t p)⟩
/-- what a call does, for the caller -/
theorem call_core {n : Nat} {M : WM} {C : Ctx} {H0 : Hp} {σ : L2.St} {H : Hp} {env : EnvD} {as : List Ar} {vs : List V} {Q' : Rt → Prop} {R : VK} (rel : Rel K ok C H0 σ H env) (ha : ArgsR K H0 σ env as vs) (h1 : oneH as = true) (hn : as.length = n) (hM : M as Q')
    (k : ∀ v r H1 H01, Q' r → Rel K ok C H01 σ H1 env → Same H0 H01 → (match r with | .v d => Rp K H01 v d | .own ds => ∃ p, v = .ref p ∧ FreshL K C H01 σ H1 env p ds | .two d ds => ∃ q p x, v = .ref q ∧ p ≠ q ∧ C.He q = none ∧ C.Kp q = none ∧ (∀ (i : Nat) s, env[i]? = some (some s) → s.isOwn = true → σ[i]? ≠ some (some (.ref q))) ∧ H01 q = none ∧ H1 q = some (.lst [x, .ref p]) ∧ Rp K H01 x d ∧ FreshL K C H01 σ H1 env p ds) → R v H1) : SpD K ok n M vs H R fun _ _ _ => False := by
  have hl : vs.length = n := by rw [← ha.length]; exact hn
  have fin : ∀ {ha' : Option Addr} {v : V} {H' : Hp} {r : Rt} {H01 : Hp}, Q' r → PostOk K ok H0 H ha' v H' r H01 → Rel K ok C H01 σ H' env → R v H' := fun {ha' v H' r H01} q P r2 => k v r H' H01 q r2 P.grow (by
    have z := P.res
    cases r with
    | v d => exact z
    | own ds =>
      obtain ⟨p, e, n1, o⟩ := z
      exact ⟨p, e, rel.fresh n1, o, rel.noslot n1, rel.kp.free n1⟩
    | two d ds =>
      obtain ⟨q, p, x, e, hne, nq, n0, hq, hx, n1, o⟩ := z
      exact ⟨q, p, x, e, hne, rel.fresh nq, rel.kp.free nq, rel.noslot nq, n0, hq, hx, rel.fresh n1, o, rel.noslot n1, rel.kp.free n1⟩)
  rcases argsOk_one ha h1 with ⟨_, h'⟩ | ⟨i, a, e1, e2, h'⟩
  · exact ⟨H0, none, as, Q', hn, hl, h1, rel.sub, h', fun a z => (by cases z), hM, fun v H' r H01 q P => fin q P (rel.step P.grow P.sub P.new fun b o z => P.fr b o z (by simp))⟩
  · obtain ⟨a', da, ea', _, o1, k1⟩ := rel.slot i _ e1
    rw [e2] at ea'
    cases ea'
    refine ⟨H0, some a, as, Q', hn, hl, h1, rel.sub, h', fun b z => (by cases z; exact ⟨da, o1, k1⟩), hM, fun v H' r H01 q P => fin q P ?_⟩
    obtain ⟨ds', o2, k2⟩ := P.hv a rfl
    exact rel.called e1 e2 P.grow P.sub P.new (fun b o z hb => P.fr b o z (by simpa using hb)) o2.n0 o2 k2
theorem SpD.exc {n : Nat} {M : WM} {vs : List V} {H : Hp} {Q : VK} {E E' : XK} (h : SpD K ok n M vs H Q E) : SpD K ok n M vs H Q E' := h
end
def wCallP (n : Nat) (M : WM) (a : WA) : WE := fun env Q => a env fun as => oneH as = true ∧ as.length = n ∧ M as fun r => Q r.val
def wCallOP (n : Nat) (M : WM) (a : WA) : WL := fun env Q => a env fun as => oneH as = true ∧ as.length = n ∧ M as fun r => match r with
  | .own ds => Q ds
  | .v _ => False
  | .two _ _ => False
section
variable {K : PySem.W.Frag} {ok : List D → Prop}
theorem snd_call {n : Nat} {M : WM} {tr : TA} {wr : WA} {E : XK} (hr : SndA K ok tr wr) : SndE K ok (tCall (SpD K ok n M) [] E tr) (wCallP n M wr) := fun C H0 σ H env Q R rel hw k =>
  hr C H0 σ H env _ _ rel hw fun as vs H1 H01 q r1 e1 x1 => by
    obtain ⟨q1, q2, q3⟩ := q
    show SpD K ok n M (vs ++ []) H1 R E
    rw [List.append_nil]
    refine SpD.exc (call_core r1 x1 q1 q2 q3 fun v r H2 H02 hq r2 e2 z => ?_)
    cases r with
    | v d => exact k _ _ H2 H02 hq r2 (e1.trans e2) z
    | own ds =>
      obtain ⟨p, rfl, f⟩ := z
      obtain ⟨n0, ws, hp, hr'⟩ := f.own
      obtain ⟨r3, e3⟩ := r2.know hp n0 f.he f.kq f.ns
      exact k _ _ H2 _ hq r3 ((e1.trans e2).trans e3) (.lst upd_same (hr'.mono e3))
    | two d ds =>
      obtain ⟨q, p, x, rfl, hne, heq, kq, nsq, q0, hqq, hx, f⟩ := z
      obtain ⟨n0, ws, hp, hr'⟩ := f.own
      obtain ⟨r3, e3⟩ := r2.know hp n0 f.he f.kq f.ns
      obtain ⟨r4, e4⟩ := r3.know hqq (by rw [upd_ne (Ne.symm hne)]; exact q0) heq kq nsq
      exact k _ _ H2 _ hq r4 (((e1.trans e2).trans e3).trans e4) (.lst upd_same (.cons (hx.mono (e3.trans e4)) (.cons (.lst (e4 _ _ upd_same) ((hr'.mono e3).mono e4)) .nil)))
theorem snd_callO {n : Nat} {M : WM} {tr : TA} {wr : WA} {E : XK} (hr : SndA K ok tr wr) : SndL K ok (tCall (SpD K ok n M) [] E tr) (wCallOP n M wr) := fun C H0 σ H env Q R rel hw k =>
  hr C H0 σ H env _ _ rel hw fun as vs H1 H01 q r1 e1 x1 => by
    obtain ⟨q1, q2, q3⟩ := q
    show SpD K ok n M (vs ++ []) H1 R E
    rw [List.append_nil]
    refine SpD.exc (call_core r1 x1 q1 q2 q3 fun v r H2 H02 hq r2 e2 z => ?_)
    cases r with
    | v d => exact hq.elim
    | own ds =>
      obtain ⟨p, rfl, f⟩ := z
      exact k _ _ H2 H02 hq r2 (e1.trans e2) f
    | two d ds => exact hq.elim
end
end DL
/-! DL, part c: statements, loops, comprehensions, defs. -/
namespace DL
open PySem L2

structure WEnds where
  nx : EnvD → Prop
  rt : Rt → Prop
  bk : EnvD → Prop := fun _ => False
  ct : EnvD → Prop := fun _ => False
abbrev WS := WEnds → EnvD → Prop
abbrev WI := EnvD → (List D → Prop) → Prop
abbrev WG := D → EnvD → (EnvD → Prop) → Prop
structure EndsOk (K : PySem.W.Frag) (ok : List D → Prop) (C : Ctx) (H0 : Hp) (E : Ends) (W : WEnds) : Prop where
  nx : ∀ env σ H H01, Same H0 H01 → Rel K ok C H01 σ H env → W.nx env → E.nx σ H
  rt : ∀ r v σ H H01 env, Same H0 H01 → Rel K ok C H01 σ H env → W.rt r → RetOk K C.He H01 H v r → E.rt v H
  bk : ∀ env σ H H01, Same H0 H01 → Rel K ok C H01 σ H env → W.bk env → E.bk σ H
  ct : ∀ env σ H H01, Same H0 H01 → Rel K ok C H01 σ H env → W.ct env → E.ct σ H
def SndS (K : PySem.W.Frag) (ok : List D → Prop) (ts : TS) (ws : WS) : Prop := ∀ (C : Ctx) (H0 : Hp) (σ : L2.St) (H : Hp) (env : EnvD) (E : Ends) (W : WEnds), Rel K ok C H0 σ H env → ws W env → EndsOk K ok C H0 E W → ts E σ H
/-- what is walked: as many turns as ds has items -/
structure WalkD (K : PySem.W.Frag) (J : It) (ds : List D) (H01 : Hp) : Prop where
  goes : ∀ i H, i < ds.length → Same H01 H → J.go i H
  stops : ∀ H, Same H01 H → J.stop ds.length H
  yields : ∀ i H x H', i < ds.length → Same H01 H → J.yld i H x H' → ∃ d, ds[i]? = some d ∧ ((H' = H ∧ Rp K H01 x d) ∨ ∃ T xs es, x = .ref T ∧ H T = none ∧ H' = upd H T (.tup xs) ∧ d = .tuple es ∧ Rps K H01 xs es)
def SndI (K : PySem.W.Frag) (ok : List D → Prop) (ti : TI) (wi : WI) : Prop := ∀ (C : Ctx) (H0 : Hp) (σ : L2.St) (H : Hp) (env : EnvD) (Q : List D → Prop) (R : It → Hp → Prop), Rel K ok C H0 σ H env → wi env Q →
  (∀ ds J H1 H01, Q ds → Rel K ok C H01 σ H1 env → Same H0 H01 → WalkD K J ds H01 → R J H1) → ti σ H R
def wpE (env : EnvD) : List Nat → EnvD
  | [] => env
  | v :: vs => (wpE env vs).set v none
def SndG (K : PySem.W.Frag) (ok : List D → Prop) (vs : List Nat) (g : TG) (wg : WG) : Prop := ∀ (C : Ctx) (H0 : Hp) (σ : L2.St) (H : Hp) (env : EnvD) (x : V) (d : D) (Q : EnvD → Prop) (R : L2.St → Hp → Prop), Rel K ok C H0 σ H env → Rp K H0 x d → wg d env Q →
  (∀ env' σ', Rel K ok C H0 σ' H env' → Q env' → wipe σ' vs = wipe σ vs ∧ wpE env' vs = wpE env vs → R σ' H) → g x σ H R

/-! ### what is asked -/
def wSeq (a b : WS) : WS := fun W env => a { W with nx := b W } env
def wNx : WS := fun W env => W.nx env
def wBk : WS := fun W env => W.bk env
def wCt : WS := fun W env => W.ct env
def wNever : WS := fun _ _ => False
def wSet (i : Nat) (a : WE) : WS := fun W env => a env fun d => W.nx (env.set i (some (.v d)))
def wSetO (i : Nat) (a : WL) : WS := fun W env => a env fun ds => W.nx (env.set i (some (.own ds)))
def wSetH (ok : List D → Prop) (i : Nat) (a : WL) : WS := fun W env => a env fun ds => ok ds ∧ W.nx (env.set i (some .hnd))
def wDrop (a : WE) : WS := fun W env => a env fun _ => W.nx env
def wRet (a : WE) : WS := fun W env => a env fun d => W.rt (.v d)
def wRetO (a : WL) : WS := fun W env => a env fun ds => W.rt (.own ds)
def wRetV (i : Nat) : WS := fun W env => match get env i with
  | some (.v d) => W.rt (.v d)
  | some (.own ds) => W.rt (.own ds)
  | _ => False
def wRetN : WS := fun W _ => W.rt (.v .none)
def wIf (t : WT) (a b : WS) : WS := fun W env => t env fun c => (c = true → a W env) ∧ (c = false → b W env)
def frz (i : Nat) (env : EnvD) : EnvD := match get env i with
  | some (.own ds) => env.set i (some (.v (.list ds)))
  | _ => env
def wFrz (i : Nat) (s : WS) : WS := fun W env => s W (frz i env)
def wApp (i : Nat) (a : WE) : WS := fun W env => match get env i with
  | some (.own ds) => a env fun d => ds.length < 1000000 ∧ W.nx (env.set i (some (.own (ds ++ [d]))))
  | _ => False
def wExt (i : Nat) (a : WE) : WS := fun W env => match get env i with
  | some (.own ds) => a env fun d => match d with
    | .list es => ds.length + es.length < 1000000 ∧ W.nx (env.set i (some (.own (ds ++ es))))
    | _ => False
  | _ => False
def wPop (i : Nat) : WS := fun W env => match get env i with
  | some (.own ds) => ds ≠ [] ∧ W.nx (env.set i (some (.own ds.dropLast)))
  | _ => False
def wPut (i : Nat) (k a : WE) : WS := fun W env => match get env i with
  | some (.own ds) => a env fun d => k env fun j => match j with
    | .int z => ∃ n, ixN ds.length z = some n ∧ W.nx (env.set i (some (.own (ds.set n d))))
    | _ => False
  | _ => False
def wPar (i j : Nat) (a : WA) : WS := fun W env => a env fun as => match as with
  | [.v x, .v y] => W.nx ((env.set i (some (.v x))).set j (some (.v y)))
  | _ => False
def wWhile (t : WT) (b : WS) : WS := fun W env => ∃ I : Nat → EnvD → Prop, (∃ m, I m env) ∧ ∀ m env, I m env → t env fun c =>
  (c = true → ∃ N : EnvD → Prop, (∀ e, N e → ∃ m', m' < m ∧ I m' e) ∧ b { W with nx := N, ct := N, bk := W.nx } env) ∧ (c = false → W.nx env)
def wFor (wi : WI) (wg : WG) (b : WS) : WS := fun W env => wi env fun ds => ∃ I : Nat → EnvD → Prop, I 0 env ∧
  (∀ i d env, ds[i]? = some d → I i env → wg d env fun env2 => b { W with nx := I (i + 1), ct := I (i + 1), bk := W.nx } env2) ∧ ∀ env, I ds.length env → W.nx env
def wAsg (a : WE) (g : WG) : WS := fun W env => a env fun d => g d env W.nx
def gN (i : Nat) : WG := fun d env Q => Q (env.set i (some (.v d)))
abbrev WGs := List D → EnvD → (EnvD → Prop) → Prop
def gsNil : WGs := fun ds env Q => ds = [] ∧ Q env
def gsCons (a : WG) (r : WGs) : WGs := fun ds env Q => match ds with
  | d :: es => a d env fun env' => r es env' Q
  | [] => False
def gT (n : Nat) (r : WGs) : WG := fun d env Q => match d with
  | .tuple ds => ds.length = n ∧ r ds env Q
  | _ => False
def iL (a : WE) : WI := fun env Q => a env fun d => match d with
  | .list ds => Q ds
  | _ => False
def iT (a : WE) : WI := fun env Q => a env fun d => match d with
  | .tuple ds => Q ds
  | _ => False
/-- lo, lo + 1, .. (n of them) -/
def rng (lo : Int) (n : Nat) : List D := (List.range n).map fun i : Nat => PyData.int (lo + i)
def iR1 (a : WE) : WI := fun env Q => a env fun d => match d with
  | .int j => (-(2 ^ 62) ≤ j ∧ j < 2 ^ 62) ∧ Q (rng 0 j.toNat)
  | _ => False
def iR2 (a b : WE) : WI := fun env Q => a env fun d => b env fun e => match d, e with
  | .int i, .int j => (-(2 ^ 62) ≤ i ∧ i < 2 ^ 62 ∧ -(2 ^ 62) ≤ j ∧ j < 2 ^ 62) ∧ Q (rng i (j - i).toNat)
  | _, _ => False
/-- i, i + c, .. as long as it is short of j -/
def rngC (lo c : Int) (n : Nat) : List D := (List.range n).map fun i : Nat => PyData.int (lo + i * c)
def iR3 (a b c : WE) : WI := fun env Q => a env fun d => b env fun e => c env fun s => match d, e, s with
  | .int i, .int j, .int k => ∃ n, RgC i j k n ∧ Q (rngC i k n)
  | _, _, _ => False
def iRev (a : WE) : WI := fun env Q => a env fun d => match d with
  | .list ds => Q ds.reverse
  | _ => False
def wYes : WT := fun _ Q => Q true
/-- the slots of a block's own names hold values, or nothing -/
def wpN (env : EnvD) : List Nat → Prop
  | [] => True
  | i :: vs => (match get env i with | some s => s.isOwn = false | none => True) ∧ wpN env vs
def wLc (wi : WI) (wg : WG) (wt : WT) (we : WE) (vs : List Nat) : WL := fun env Q => wi env fun ds => ds.length < 1000000 ∧ wpN env vs ∧ ∃ I : Nat → List D → Prop, I 0 [] ∧
  (∀ i d acc, ds[i]? = some d → I i acc → wg d (wpE env vs) fun env2 => wt env2 fun b => (b = true → we env2 fun y => I (i + 1) (acc ++ [y])) ∧ (b = false → I (i + 1) acc)) ∧ ∀ acc, I ds.length acc → Q acc

/-! ### soundness -/
section
variable {K : PySem.W.Frag} {ok : List D → Prop} {C : Ctx} {H0 H01 : Hp} {E : Ends} {W : WEnds}
theorem EndsOk.mono (h : EndsOk K ok C H0 E W) (e : Same H0 H01) : EndsOk K ok C H01 E W :=
  ⟨fun a b c d s => h.nx a b c d (e.trans s), fun a b c d x y s => h.rt a b c d x y (e.trans s), fun a b c d s => h.bk a b c d (e.trans s), fun a b c d s => h.ct a b c d (e.trans s)⟩
variable {t u : TS} {a b : WS} {te : TE} {we : WE} {wl : WL} {tt : TT} {wt : WT}
theorem ss_seq (ha : SndS K ok t a) (hb : SndS K ok u b) : SndS K ok (tSeq t u) (wSeq a b) := fun C H0 σ H env E W rel hw h =>
  ha C H0 σ H env _ { W with nx := b W } rel hw ⟨fun env' σ' H' H01 s r q => hb C H01 σ' H' env' E W r q (h.mono s), h.rt, h.bk, h.ct⟩
theorem ss_nx : SndS K ok tNext wNx := fun C H0 σ H env E W rel hw h => h.nx env σ H H0 (Same.refl _) rel hw
theorem ss_bk : SndS K ok tBreak wBk := fun C H0 σ H env E W rel hw h => h.bk env σ H H0 (Same.refl _) rel hw
theorem ss_ct : SndS K ok tCont wCt := fun C H0 σ H env E W rel hw h => h.ct env σ H H0 (Same.refl _) rel hw
theorem ss_never : SndS K ok tNever wNever := fun C H0 σ H env E W rel hw h => hw.elim
theorem ss_set {i : Nat} (he : SndE K ok te we) : SndS K ok (tAsg te (gName i)) (wSet i we) := fun C H0 σ H env E W rel hw h =>
  he C H0 σ H env _ _ rel hw fun d v H1 H01 q r e x => h.nx _ _ _ H01 e (r.setV x) q
theorem ss_setO {i : Nat} (he : SndL K ok te wl) : SndS K ok (tAsg te (gName i)) (wSetO i wl) := fun C H0 σ H env E W rel hw h =>
  he C H0 σ H env _ _ rel hw fun ds p H1 H01 q r e f => h.nx _ _ _ H01 e (r.setO (s := .own ds) ⟨p, rfl, f.he, f.own⟩ rfl f.kq fun j t _ ht ot => f.ns j t ht ot) q
theorem ss_setH {i : Nat} (he : SndL K ok te wl) : SndS K ok (tAsg te (gName i)) (wSetH ok i wl) := fun C H0 σ H env E W rel hw h =>
  he C H0 σ H env _ _ rel hw fun ds p H1 H01 q r e f => h.nx _ _ _ H01 e (r.setO (s := .hnd) ⟨p, ds, rfl, .inr f.he, f.own, q.1⟩ rfl f.kq fun j t _ ht ot => f.ns j t ht ot) q.2
theorem ss_drop (he : SndE K ok te we) : SndS K ok (tDrop te) (wDrop we) := fun C H0 σ H env E W rel hw h =>
  he C H0 σ H env _ _ rel hw fun d v H1 H01 q r e x => h.nx _ _ _ H01 e r q
theorem ss_ret (he : SndE K ok te we) : SndS K ok (tRet te) (wRet we) := fun C H0 σ H env E W rel hw h =>
  he C H0 σ H env _ _ rel hw fun d v H1 H01 q r e x => h.rt (.v d) v σ H1 H01 env e r q x
theorem ss_retO (he : SndL K ok te wl) : SndS K ok (tRet te) (wRetO wl) := fun C H0 σ H env E W rel hw h =>
  he C H0 σ H env _ _ rel hw fun ds p H1 H01 q r e f => h.rt (.own ds) _ σ H1 H01 env e r q ⟨p, rfl, f.he, f.own⟩
theorem ss_retV {i : Nat} : SndS K ok (tRet (tVar i)) (wRetV i) := fun C H0 σ H env E W rel hw h => by
  unfold wRetV at hw
  split at hw
  · rename_i d hd
    obtain ⟨v, e, x⟩ := rel.slot i _ (get_eq hd)
    exact ⟨v, e, h.rt _ v σ H H0 env (Same.refl _) rel hw x⟩
  · rename_i ds hd
    obtain ⟨p, e, n, o⟩ := rel.slot i _ (get_eq hd)
    exact ⟨_, e, h.rt (.own ds) _ σ H H0 env (Same.refl _) rel hw ⟨p, rfl, n, o⟩⟩
  · exact hw.elim
theorem ss_retN : SndS K ok tRetN wRetN := fun C H0 σ H env E W rel hw h => h.rt (.v .none) .non σ H H0 env (Same.refl _) rel hw .non
theorem ss_if (hc : SndT K ok tt wt) (ha : SndS K ok t a) (hb : SndS K ok u b) : SndS K ok (tIfS tt t u) (wIf wt a b) := fun C H0 σ H env E W rel hw h =>
  hc C H0 σ H env _ _ rel hw fun c H1 H01 q r e => by
    cases c with
    | true => exact iteT (ha C H01 σ H1 env E W r (q.1 rfl) (h.mono e))
    | false => exact iteF (hb C H01 σ H1 env E W r (q.2 rfl) (h.mono e))
theorem ss_frz {i : Nat} (ha : SndS K ok t a) : SndS K ok t (wFrz i a) := fun C H0 σ H env E W rel hw h => by
  unfold wFrz frz at hw
  split at hw
  · rename_i ds hd
    have he := get_eq hd
    obtain ⟨p, e, n, n0, vs, hp, hr⟩ := rel.slot i _ he
    -- the slot is forgotten, then the list becomes known, then the slot holds it
    have r1 : Rel K ok C H0 σ H (env.set i none) := by
      have q := rel.drop (i := i) (y := some (.ref p))
      have es : σ.set i (some (.ref p)) = σ := by
        apply List.ext_getElem?
        intro j
        by_cases hj : i = j
        · subst hj
          rw [e]
          have lt : i < σ.length := by rw [rel.len]; exact (List.getElem?_eq_some_iff.mp he).1
          rw [List.getElem?_set_self lt]
        · rw [List.getElem?_set_ne hj]
      rw [es] at q
      exact q
    obtain ⟨r2, e2⟩ := r1.know hp n0 n (rel.kn i _ p he rfl e) (fun j s hs os z => by
      have hj : i ≠ j := fun y => by
        subst y
        rw [List.getElem?_set_self (List.getElem?_eq_some_iff.mp he).1] at hs; cases hs
      rw [List.getElem?_set_ne hj] at hs
      exact rel.dis i j _ s p hj he hs rfl os e z)
    have r3 := r2.setV (i := i) (x := .ref p) (d := .list ds) (.lst upd_same (hr.mono e2))
    have es : σ.set i (some (.ref p)) = σ := by
      apply List.ext_getElem?
      intro j
      by_cases hj : i = j
      · subst hj
        rw [e]
        have lt : i < σ.length := by rw [rel.len]; exact (List.getElem?_eq_some_iff.mp he).1
        rw [List.getElem?_set_self lt]
      · rw [List.getElem?_set_ne hj]
    rw [es, List.set_set] at r3
    exact ha C _ σ H _ E W r3 hw (h.mono e2)
  · exact ha C H0 σ H env E W rel hw h
theorem lt_size {n : Nat} (h : n < 1000000) : n < sizeLine := Nat.lt_trans h (by decide)
/-- an own slot's list is changed -/
theorem Rel.putL {σ : L2.St} {H : Hp} {env : EnvD} (rel : Rel K ok C H0 σ H env) {i : Nat} {p : Addr} {ds es : List D} {ws : List V} (he : env[i]? = some (some (.own ds))) (e : σ[i]? = some (some (.ref p))) (n : C.He p = none) (n0 : H0 p = none) (hr : Rps K H0 ws es) :
    Rel K ok C H0 σ (upd H p (.lst ws)) (env.set i (some (.own es))) :=
  rel.put (s := .own ds) (t := .own es) he rfl e (fun z => by obtain ⟨⟨o, y⟩, _⟩ := rel.hv p z; rw [n] at y; cases y) rfl ⟨p, rfl, n, n0, ws, upd_same, hr⟩
theorem ss_app {i : Nat} (he : SndE K ok te we) : SndS K ok (tDrop (tBM K "list" rAppend (tVar i) (tCons te tNil))) (wApp i we) := fun C H0 σ H env E W rel hw h => by
  unfold wApp at hw
  split at hw
  · rename_i ds hd
    obtain ⟨p, e, n, n0, vs0, hp0, hr0⟩ := rel.slot i _ (get_eq hd)
    refine ⟨.ref p, e, .inl ⟨rfl, vs0, SqL.of hp0⟩, ?_⟩
    refine he C H0 σ H env _ _ rel hw fun d v H1 H01 q r e1 x => ?_
    obtain ⟨p', e', n, n0, vs, hp, hr⟩ := r.slot i _ (get_eq hd)
    rw [e] at e'
    cases e'
    refine ⟨p, vs, v, rfl, rfl, hp, by rw [hr.length]; exact lt_size q.1, ?_⟩
    exact h.nx _ _ _ H01 e1 (r.putL (get_eq hd) e n n0 (hr.append (.one x))) q.2
  · exact hw.elim
theorem ss_ext {i : Nat} (he : SndE K ok te we) : SndS K ok (tDrop (tBM K "list" rExtend (tVar i) (tCons te tNil))) (wExt i we) := fun C H0 σ H env E W rel hw h => by
  unfold wExt at hw
  split at hw
  · rename_i ds hd
    obtain ⟨p, e, n, n0, vs0, hp0, hr0⟩ := rel.slot i _ (get_eq hd)
    refine ⟨.ref p, e, .inl ⟨rfl, vs0, SqL.of hp0⟩, ?_⟩
    refine he C H0 σ H env _ _ rel hw fun d v H1 H01 q r e1 x => ?_
    obtain ⟨p', e', n, n0, vs, hp, hr⟩ := r.slot i _ (get_eq hd)
    rw [e] at e'
    cases e'
    try dsimp only at q
    split at q
    · cases x with
      | lst hb rb =>
        refine ⟨p, _, vs, _, rfl, rfl, hp, r.sub _ _ hb, by rw [hr.length, rb.length]; exact Nat.le_of_lt (lt_size q.1), ?_⟩
        exact h.nx _ _ _ H01 e1 (r.putL (get_eq hd) e n n0 (hr.append rb)) q.2
    · exact q.elim
  · exact hw.elim
theorem ss_pop {i : Nat} : SndS K ok (tDrop (tBM0 K "list" rPop (tVar i))) (wPop i) := fun C H0 σ H env E W rel hw h => by
  unfold wPop at hw
  split at hw
  · rename_i ds hd
    obtain ⟨p, e, n, n0, vs, hp, hr⟩ := rel.slot i _ (get_eq hd)
    have lt : vs.length - 1 < vs.length := by
      have := hr.length
      have : ds.length ≠ 0 := fun z => hw.1 (List.eq_nil_of_length_eq_zero z)
      omega
    refine ⟨.ref p, e, .inl ⟨rfl, vs, SqL.of hp⟩, p, vs, vs[vs.length - 1], rfl, rfl, hp, List.getElem?_eq_getElem lt, ?_⟩
    exact h.nx _ _ _ H0 (Same.refl _) (rel.putL (get_eq hd) e n n0 hr.dropLast) hw.2
  · exact hw.elim
theorem ss_put {i : Nat} {tk : TE} {wk : WE} (he : SndE K ok te we) (hk : SndE K ok tk wk) : SndS K ok (tAsg te (gSub (tVar i) tk rSetL)) (wPut i wk we) := fun C H0 σ H env E W rel hw h => by
  unfold wPut at hw
  split at hw
  · rename_i ds hd
    refine he C H0 σ H env _ _ rel hw fun d v H1 H01 q r e1 x => ?_
    obtain ⟨p, e, n, n0, vs0, hp0, hr0⟩ := r.slot i _ (get_eq hd)
    refine ⟨.ref p, e, hk C H01 σ H1 env _ _ r q fun j u H2 H02 q2 r2 e2 y => ?_⟩
    try dsimp only at q2
    split at q2
    · cases y
      obtain ⟨m, hm, q3⟩ := q2
      obtain ⟨p', e', n, n0, vs, hp, hr⟩ := r2.slot i _ (get_eq hd)
      rw [e] at e'
      cases e'
      refine ⟨p, vs, _, m, rfl, rfl, hp, by rw [hr.length]; exact hm, ?_⟩
      exact h.nx _ _ _ H02 (e1.trans e2) (r2.putL (get_eq hd) e n n0 (hr.set (x.mono e2) m)) q3
    · exact q2.elim
  · exact hw.elim
theorem ss_par {i j : Nat} {ta : TA} {wa : WA} (ha : SndA K ok ta wa) : SndS K ok (tPar i j ta) (wPar i j wa) := fun C H0 σ H env E W rel hw h =>
  ha C H0 σ H env _ _ rel hw fun as vs H1 H01 q r e x => by
    try dsimp only at q
    split at q
    · cases x with
      | cons x1 x =>
        cases x with
        | cons x2 x =>
          cases x
          refine ⟨_, _, rfl, ?_⟩
          exact h.nx _ _ _ H01 e ((r.setV (show Rp K H01 _ _ from x1)).setV (show Rp K H01 _ _ from x2)) q
    · exact q.elim
theorem ss_while (hc : SndT K ok tt wt) (hb : SndS K ok t a) : SndS K ok (tWhile tt t) (wWhile wt a) := fun C H0 σ H env E W rel hw h => by
  obtain ⟨I, ⟨m0, i0⟩, turn⟩ := hw
  refine ⟨fun m σ H => ∃ env H01, Same H0 H01 ∧ Rel K ok C H01 σ H env ∧ I m env, ⟨m0, env, H0, Same.refl _, rel, i0⟩, ?_⟩
  rintro m σ1 H1 ⟨env1, H01, e1, r1, i1⟩
  refine hc C H01 σ1 H1 env1 _ _ r1 (turn m env1 i1) fun c H2 H02 q r2 e2 => ?_
  cases c with
  | true =>
    refine iteT ?_
    obtain ⟨N, hN, q⟩ := q.1 rfl
    refine ⟨fun σ' H' => ∃ env' H03, Same H0 H03 ∧ Rel K ok C H03 σ' H' env' ∧ N env', fun σ' H' ⟨env', H03, e3, r3, n3⟩ => ?_, ?_⟩
    · obtain ⟨m', hm, i'⟩ := hN env' n3
      exact ⟨m', hm, env', H03, e3, r3, i'⟩
    · exact hb C H02 σ1 H2 env1 _ _ r2 q ⟨fun env' σ' H' H03 s r n => ⟨env', H03, (e1.trans e2).trans s, r, n⟩, fun r v σ' H' H03 env' s => h.rt r v σ' H' H03 env' ((e1.trans e2).trans s),
        fun env' σ' H' H03 s r n => h.nx env' σ' H' H03 ((e1.trans e2).trans s) r n, fun env' σ' H' H03 s r n => ⟨env', H03, (e1.trans e2).trans s, r, n⟩⟩
  | false => exact iteF (h.nx _ _ _ H02 (e1.trans e2) r2 (q.2 rfl))
/-- what the walk gives at a turn: the item known -/
theorem WalkD.item {J : It} {ds : List D} {H01 H02 : Hp} {σ : L2.St} {H H' : Hp} {env : EnvD} {i : Nat} {x : V} (w : WalkD K J ds H01) (e : Same H01 H02) (r : Rel K ok C H02 σ H env) (hi : i < ds.length) (y : J.yld i H x H') :
    ∃ d H03, ds[i]? = some d ∧ Rel K ok C H03 σ H' env ∧ Same H02 H03 ∧ Rp K H03 x d ∧ Same H H' := by
  obtain ⟨d, hd, z⟩ := w.yields i H x H' hi (e.trans r.sub) y
  rcases z with ⟨rfl, z⟩ | ⟨T, xs, es, rfl, nT, rfl, rfl, z⟩
  · exact ⟨d, H02, hd, r, Same.refl _, z.mono e, Same.refl _⟩
  · obtain ⟨r2, e2⟩ := r.laid (o := .tup xs) nT
    exact ⟨_, _, hd, r2, e2, .tup (SqT.of upd_same) ((z.mono e).mono e2), same_new nT⟩
theorem ss_for {vs : List Nat} {ti : TI} {wi : WI} {g : TG} {wg : WG} (hi : SndI K ok ti wi) (hg : SndG K ok vs g wg) (hb : SndS K ok t a) : SndS K ok (tFor ti g t) (wFor wi wg a) := fun C H0 σ H env E W rel hw h =>
  hi C H0 σ H env _ _ rel hw fun ds J H1 H01 q r1 e1 w => by
    obtain ⟨I, i0, turn, fin⟩ := q
    refine ⟨fun i m σ H => m = ds.length - i ∧ i ≤ ds.length ∧ ∃ env H02, Same H01 H02 ∧ Rel K ok C H02 σ H env ∧ I i env, ⟨ds.length, by simp, Nat.zero_le _, env, H01, Same.refl _, r1, i0⟩, ?_⟩
    rintro i m σ2 H2 ⟨rfl, hil, env2, H02, e2, r2, i2⟩
    by_cases hlt : i < ds.length
    · refine .inr ⟨w.goes i H2 hlt (e2.trans r2.sub), fun σ' H' => ∃ env' H04, Same H01 H04 ∧ Rel K ok C H04 σ' H' env' ∧ I (i + 1) env', fun σ' H' ⟨env', H04, z⟩ => ⟨ds.length - (i + 1), by omega, rfl, hlt, env', H04, z⟩, fun x H' y => ?_⟩
      obtain ⟨d, H03, hd, r3, e3, x3, _⟩ := w.item e2 r2 hlt y
      have e03 := (e1.trans e2).trans e3
      refine hg C H03 σ2 H' env2 x d _ _ r3 x3 (turn i d env2 hd i2) fun env4 σ4 r4 q4 _ => ?_
      exact hb C H03 σ4 H' env4 _ _ r4 q4 ⟨fun env' σ' H' H04 s r n => ⟨env', H04, (e2.trans e3).trans s, r, n⟩, fun r v σ' H' H04 env' s => h.rt r v σ' H' H04 env' (e03.trans s),
        fun env' σ' H' H04 s r n => h.nx env' σ' H' H04 (e03.trans s) r n, fun env' σ' H' H04 s r n => ⟨env', H04, (e2.trans e3).trans s, r, n⟩⟩
    · have hi' : i = ds.length := by omega
      subst hi'
      exact .inl ⟨w.stops H2 (e2.trans r2.sub), h.nx env2 σ2 H2 H02 (e1.trans e2) r2 (fin env2 i2)⟩
theorem ss_asg {vs : List Nat} {g : TG} {wg : WG} (he : SndE K ok te we) (hg : SndG K ok vs g wg) : SndS K ok (tAsg te g) (wAsg we wg) := fun C H0 σ H env E W rel hw h =>
  he C H0 σ H env _ _ rel hw fun d v H1 H01 q r e x => hg C H01 σ H1 env v d _ _ r x q fun env' σ' r' q' _ => h.nx env' σ' H1 H01 e r' q'
/-! targets -/
theorem wipe_get {σ : L2.St} {j : Nat} : ∀ {vs : List Nat}, (wipe σ vs)[j]? = if j ∈ vs then (if j < σ.length then some none else none) else σ[j]?
  | [] => by simp [wipe]
  | v :: vs => by
    unfold wipe
    by_cases hj : v = j
    · subst hj
      rw [if_pos List.mem_cons_self]
      by_cases hl : v < σ.length
      · rw [if_pos hl, List.getElem?_set_self (by rw [wipe_length]; exact hl)]
      · rw [if_neg hl, List.getElem?_eq_none (by rw [List.length_set, wipe_length]; omega)]
    · rw [List.getElem?_set_ne hj, wipe_get]
      have : (j ∈ v :: vs) ↔ j ∈ vs := by simp [Ne.symm hj]
      simp only [this]
theorem wipe_set {σ : L2.St} {i : Nat} {x : Option V} {vs : List Nat} (h : i ∈ vs) : wipe (σ.set i x) vs = wipe σ vs := by
  apply List.ext_getElem?
  intro j
  rw [wipe_get, wipe_get, List.length_set]
  by_cases hj : j ∈ vs
  · rw [if_pos hj, if_pos hj]
  · rw [if_neg hj, if_neg hj, List.getElem?_set_ne (fun z => hj (by subst z; exact h))]
theorem wpE_len {env : EnvD} : ∀ vs : List Nat, (wpE env vs).length = env.length
  | [] => rfl
  | v :: vs => by unfold wpE; rw [List.length_set, wpE_len vs]
theorem wpE_get {env : EnvD} {j : Nat} : ∀ {vs : List Nat}, (wpE env vs)[j]? = if j ∈ vs then (if j < env.length then some none else none) else env[j]?
  | [] => by simp [wpE]
  | v :: vs => by
    unfold wpE
    by_cases hj : v = j
    · subst hj
      rw [if_pos List.mem_cons_self]
      by_cases hl : v < env.length
      · rw [if_pos hl, List.getElem?_set_self (by rw [wpE_len]; exact hl)]
      · rw [if_neg hl, List.getElem?_eq_none (by rw [List.length_set, wpE_len]; omega)]
    · rw [List.getElem?_set_ne hj, wpE_get]
      have : (j ∈ v :: vs) ↔ j ∈ vs := by simp [Ne.symm hj]
      simp only [this]
theorem wpE_set {env : EnvD} {i : Nat} {x : Option Sl} {vs : List Nat} (h : i ∈ vs) : wpE (env.set i x) vs = wpE env vs := by
  apply List.ext_getElem?
  intro j
  rw [wpE_get, wpE_get, List.length_set]
  by_cases hj : j ∈ vs
  · rw [if_pos hj, if_pos hj]
  · rw [if_neg hj, if_neg hj, List.getElem?_set_ne (fun z => hj (by subst z; exact h))]
theorem sg_name {i : Nat} {vs : List Nat} (h : i ∈ vs) : SndG K ok vs (gName i) (gN i) := fun C H0 σ H env x d Q R rel hx q k => k _ _ (rel.setV hx) q ⟨wipe_set h, wpE_set h⟩
def SndGs (K : PySem.W.Frag) (ok : List D → Prop) (vs : List Nat) (g : TGs) (wg : WGs) : Prop := ∀ (C : Ctx) (H0 : Hp) (σ : L2.St) (H : Hp) (env : EnvD) (xs : List V) (ds : List D) (Q : EnvD → Prop) (R : L2.St → Hp → Prop), Rel K ok C H0 σ H env → Rps K H0 xs ds → wg ds env Q →
  (∀ env' σ', Rel K ok C H0 σ' H env' → Q env' → wipe σ' vs = wipe σ vs ∧ wpE env' vs = wpE env vs → R σ' H) → g xs σ H R
theorem sgs_nil {vs : List Nat} : SndGs K ok vs gNil gsNil := fun C H0 σ H env xs ds Q R rel hx q k => by
  obtain ⟨rfl, q⟩ := q
  exact ⟨hx.nil_inv, k env σ rel q ⟨rfl, rfl⟩⟩
theorem sgs_cons {vs : List Nat} {g : TG} {wg : WG} {gs : TGs} {wgs : WGs} (h1 : SndG K ok vs g wg) (h2 : SndGs K ok vs gs wgs) : SndGs K ok vs (gCons g gs) (gsCons wg wgs) := fun C H0 σ H env xs ds Q R rel hx q k => by
  cases ds with
  | nil => exact q.elim
  | cons d es =>
    obtain ⟨v, ws, rfl, x1, x2⟩ := hx.cons_inv
    exact ⟨v, ws, rfl, h1 C H0 σ H env v d _ _ rel x1 q fun env' σ' r' q' w' => h2 C H0 σ' H env' ws es _ _ r' x2 q' fun env2 σ2 r2 q2 w2 => k env2 σ2 r2 q2 ⟨w2.1.trans w'.1, w2.2.trans w'.2⟩⟩
theorem sg_tup {vs : List Nat} {n : Nat} {gs : TGs} {wgs : WGs} (h : SndGs K ok vs gs wgs) : SndG K ok vs (gTup K n gs) (gT n wgs) := fun C H0 σ H env x d Q R rel hx q k => by
  unfold gT at q
  split at q
  · cases hx with
    | tup ha hr => exact ⟨_, _, rfl, Same.tup rel.sub ha, by rw [hr.length]; exact q.1, h C H0 σ H env _ _ _ _ rel hr q.2 k⟩
  · exact q.elim
/-! what is walked -/
theorem si_list (he : SndE K ok te we) : SndI K ok (iList K te) (iL we) := fun C H0 σ H env Q R rel hw k => he C H0 σ H env _ _ rel hw fun d v H1 H01 q r e x => by
  try dsimp only at q
  split at q
  · cases x with
    | lst ha hr =>
      rename_i a xs
      refine ⟨a, rfl, ⟨xs, SqL.of (r.sub _ _ ha)⟩, k _ _ _ H01 q r e ⟨fun i H2 hi s => ?_, fun H2 s => ⟨xs, SqL.of (s _ _ ha), by rw [hr.length]; exact Nat.le_refl _⟩, fun i H2 x H3 hi s y => ?_⟩⟩
      · have hi' : i < xs.length := by rw [hr.length]; exact hi
        exact ⟨xs, xs[i], SqL.of (s _ _ ha), List.getElem?_eq_getElem hi'⟩
      · obtain ⟨rfl, y⟩ := y
        obtain ⟨d, hd, x'⟩ := hr.getV (y xs (SqL.of (s _ _ ha)))
        exact ⟨d, hd, .inl ⟨rfl, x'⟩⟩
  · exact q.elim
theorem si_tup (he : SndE K ok te we) : SndI K ok (iTup K te) (iT we) := fun C H0 σ H env Q R rel hw k => he C H0 σ H env _ _ rel hw fun d v H1 H01 q r e x => by
  try dsimp only at q
  split at q
  · cases x with
    | tup ha hr =>
      rename_i a xs
      refine ⟨a, rfl, ⟨xs, Same.tup r.sub ha⟩, k _ _ _ H01 q r e ⟨fun i H2 hi s => ?_, fun H2 s => ⟨xs, Same.tup s ha, by rw [hr.length]; exact Nat.le_refl _⟩, fun i H2 x H3 hi s y => ?_⟩⟩
      · have hi' : i < xs.length := by rw [hr.length]; exact hi
        exact ⟨xs, xs[i], Same.tup s ha, List.getElem?_eq_getElem hi'⟩
      · obtain ⟨rfl, y⟩ := y
        obtain ⟨d, hd, x'⟩ := hr.getV (y xs (Same.tup s ha))
        exact ⟨d, hd, .inl ⟨rfl, x'⟩⟩
  · exact q.elim
theorem rng_get {lo : Int} {n i : Nat} (h : i < n) : (rng lo n)[i]? = some (.int (lo + i)) := by
  unfold rng
  rw [List.getElem?_map, List.getElem?_range h]
  rfl
theorem rng_len {lo : Int} {n : Nat} : (rng lo n).length = n := by unfold rng; rw [List.length_map, List.length_range]
theorem walk_rng {lo : Int} {n : Nat} {H01 : Hp} : WalkD K (Itr lo n) (rng lo n) H01 := by
  refine ⟨fun i H hi s => by rw [rng_len] at hi; exact hi, fun H s => by rw [rng_len]; exact Nat.le_refl _, fun i H x H' hi s y => ?_⟩
  obtain ⟨rfl, rfl⟩ := y
  rw [rng_len] at hi
  exact ⟨_, rng_get hi, .inl ⟨rfl, .int _⟩⟩
theorem si_r1 (he : SndE K ok te we) : SndI K ok (iRng1 (tCons te tNil)) (iR1 we) := fun C H0 σ H env Q R rel hw k => he C H0 σ H env _ _ rel hw fun d v H1 H01 q r e x => by
  try dsimp only at q
  split at q
  · cases x
    exact ⟨_, rfl, q.1.1, q.1.2, k _ _ _ H01 q.2 r e walk_rng⟩
  · exact q.elim
theorem si_r2 {tf : TE} {wf : WE} (he : SndE K ok te we) (hf : SndE K ok tf wf) : SndI K ok (iRng2 (tCons te (tCons tf tNil))) (iR2 we wf) := fun C H0 σ H env Q R rel hw k => he C H0 σ H env _ _ rel hw fun d v H1 H01 q r e x =>
  hf C H01 σ H1 env _ _ r q fun d2 v2 H2 H02 q2 r2 e2 x2 => by
    try dsimp only at q2
    split at q2
    · cases x; cases x2
      exact ⟨_, _, rfl, q2.1, k _ _ _ H02 q2.2 r2 (e.trans e2) walk_rng⟩
    · exact q2.elim
/-! comprehensions -/
theorem st_yes : SndT K ok tYes wYes := fun C H0 σ H env Q R rel hw k => k true H H0 hw rel (Same.refl _)
theorem Rel.wipe {σ : L2.St} {H : Hp} {env : EnvD} (rel : Rel K ok C H0 σ H env) : ∀ vs : List Nat, Rel K ok C H0 (L2.wipe σ vs) H (wpE env vs)
  | [] => rel
  | v :: vs => (Rel.wipe rel vs).drop
theorem get_of : ∀ {env : EnvD} {i : Nat} {s : Sl}, env[i]? = some (some s) → get env i = some s
  | [], i, s, h => by rw [List.getElem?_nil] at h; cases h
  | x :: r, 0, s, h => by
    rw [List.getElem?_cons_zero] at h
    exact Option.some.inj h
  | x :: r, i + 1, s, h => by
    rw [List.getElem?_cons_succ] at h
    exact get_of (env := r) h
theorem wpN_get {env : EnvD} : ∀ {vs : List Nat}, wpN env vs → ∀ {i : Nat} {s : Sl}, i ∈ vs → env[i]? = some (some s) → s.isOwn = false
  | [], _, i, s, h, _ => (by cases h)
  | v :: vs, ⟨h1, h2⟩, i, s, h, hs => by
    rcases List.mem_cons.mp h with rfl | h
    · have e : get env i = some s := get_of hs
      rw [e] at h1
      exact h1
    · exact wpN_get h2 h hs
theorem Rel.unwipe {C' : Ctx} {H00 : Hp} {σ : L2.St} {H H' : Hp} {env : EnvD} {vs : List Nat} (old : Rel K ok C' H00 σ H' env) (e : Same H00 H0) (rel : Rel K ok C H0 (L2.wipe σ vs) H (wpE env vs)) (h : wpN env vs) : Rel K ok C H0 σ H env := by
  have key : ∀ {i : Nat} {s : Sl}, env[i]? = some (some s) → s.isOwn = true → (L2.wipe σ vs)[i]? = σ[i]? ∧ (wpE env vs)[i]? = some (some s) := fun {i s} hs ho => by
    have hi : i ∉ vs := fun z => by
      have := wpN_get h z hs
      rw [ho] at this
      cases this
    rw [wipe_get, if_neg hi, wpE_get, if_neg hi]
    exact ⟨rfl, hs⟩
  refine ⟨rel.sub, rel.grow, rel.new, rel.fr, rel.hv, old.len, fun i s hs => ?_, fun i j s t p hij hs ht os ot e1 => ?_, rel.kp, fun i s p hs os e1 => ?_, rel.kh, rel.kz⟩
  · cases ho : s.isOwn with
    | true =>
      obtain ⟨k1, k2⟩ := key hs ho
      have q := rel.slot i s k2
      rw [k1] at q
      exact q
    | false =>
      cases s with
      | v d =>
        obtain ⟨v, ev, r⟩ := old.slot i _ hs
        exact ⟨v, ev, r.mono e⟩
      | own _ => cases ho
      | hnd => cases ho
      | dct _ => cases ho
      | dcm _ => cases ho
  · obtain ⟨k1, k2⟩ := key hs os
    obtain ⟨k3, k4⟩ := key ht ot
    rw [← k1] at e1
    rw [← k3]
    exact rel.dis i j s t p hij k2 k4 os ot e1
  · obtain ⟨k1, k2⟩ := key hs os
    rw [← k1] at e1
    exact rel.kn i s p k2 os e1
theorem wpE_wpE {env : EnvD} {vs : List Nat} : wpE (wpE env vs) vs = wpE env vs := by
  apply List.ext_getElem?
  intro j
  rw [wpE_get, wpE_get, wpE_len]
  by_cases hj : j ∈ vs
  · rw [if_pos hj, if_pos hj]
  · rw [if_neg hj, if_neg hj]
theorem sl_lc {vs : List Nat} {ti : TI} {wi : WI} {g : TG} {wg : WG} (hi : SndI K ok ti wi) (hg : SndG K ok vs g wg) (ht : SndT K ok tt wt) (he : SndE K ok te we) : SndL K ok (tLc ti g tt te vs) (wLc wi wg wt we vs) := fun C H0 σ H env Q R rel hw k =>
  hi C H0 σ H env _ _ rel hw fun ds J H1 H01 q r1 e1 w => by
    obtain ⟨hlen, hwp, I, i0, turn, fin⟩ := q
    intro A hA
    have hA0 : C.Kp A = none := r1.kp.free hA
    -- the list at A is no slot's; the block's context protects it
    have out : ∀ {vs' : List V} {H2 H02 : Hp} {env2 : EnvD} {σ2 : L2.St}, Rel K ok { C with Kp := upd C.Kp A (.lst vs') } H02 σ2 H2 env2 → Rel K ok C H02 σ2 H2 env2 := fun {vs' H2 H02 env2 σ2} r =>
      (r.guard (Kq := C.Kp) (fun b o z => r.kp b o (by rw [show ({ C with Kp := upd C.Kp A (.lst vs') } : Ctx).Kp = upd C.Kp A (.lst vs') from rfl, upd_ne (ne_of_none z hA0)]; exact z)) fun p o z => .inl (by
        show upd C.Kp A (.lst vs') p = some o
        rw [upd_ne (ne_of_none z hA0)]; exact z))
    let Pv : Nat → Hp → Prop := fun i H => ∃ acc vs' H02, Same H01 H02 ∧ Rel K ok { C with Kp := upd C.Kp A (.lst vs') } H02 σ H env ∧ H A = some (.lst vs') ∧ H02 A = none ∧ Rps K H02 vs' acc ∧ acc.length ≤ i ∧ I i acc
    have nsl : ∀ {vs' : List V} {H2 H02 : Hp} {σ2 : L2.St} {env2 : EnvD}, Rel K ok { C with Kp := upd C.Kp A (.lst vs') } H02 σ2 H2 env2 → ∀ (i : Nat) s, env2[i]? = some (some s) → s.isOwn = true → σ2[i]? ≠ some (some (.ref A)) := fun {vs' H2 H02 σ2 env2} r i s hs os z => by
      have y := r.kn i s A hs os z
      have y2 : upd C.Kp A (.lst vs') A = none := y
      rw [upd_same] at y2; cases y2
    have hCA : C.He A = none := r1.fresh hA
    have nha : C.ha ≠ some A := fun z => by obtain ⟨⟨o, y⟩, _⟩ := r1.hv A z; rw [hCA] at y; cases y
    -- the list at A changes
    have change : ∀ {vs' ws : List V} {H2 H02 : Hp} {env2 : EnvD} {σ2 : L2.St}, Rel K ok { C with Kp := upd C.Kp A (.lst vs') } H02 σ2 H2 env2 → H02 A = none → Rel K ok { C with Kp := upd C.Kp A (.lst ws) } H02 σ2 (upd H2 A (.lst ws)) env2 := fun {vs' ws H2 H02 env2 σ2} r n0 => by
      have up : ∀ {b : Addr} {x : HO}, b ≠ A → H2 b = some x → (upd H2 A (.lst ws)) b = some x := fun {b x} hb z => by rw [upd_ne hb]; exact z
      have ns := nsl r
      refine ⟨fun b o z => up (ne_of_none z n0) (r.sub b o z), r.grow, r.new, fun b o z m => up (ne_of_none z hCA) (r.fr b o z m), fun a ha => ?_, r.len, fun i s hs => ?_, r.dis, fun b o z => ?_, fun i s p hs os e => ?_, fun a ha => ?_, fun b o z => ?_⟩
      · obtain ⟨h1, dd, h2, h3⟩ := r.hv a ha
        exact ⟨h1, dd, h2.keep (Same.refl _) h2.n0 (fun o z => up (fun y => by subst y; exact nha ha) z), h3⟩
      · have q := r.slot i s hs
        have other : ∀ {a : Addr}, s.isOwn = true → σ2[i]? = some (some (.ref a)) → a ≠ A := fun {a} o' z y => by subst y; exact ns i s hs o' z
        cases s with
        | v d => exact q
        | own dd => obtain ⟨p, e, m, h2⟩ := q; exact ⟨p, e, m, h2.keep (Same.refl _) h2.n0 (fun o z => up (other rfl e) z)⟩
        | hnd => obtain ⟨p, dd, e, m, h2, h3⟩ := q; exact ⟨p, dd, e, m, h2.keep (Same.refl _) h2.n0 (fun o z => up (other rfl e) z), h3⟩
        | dct kvs => obtain ⟨p, ks, e, m, m0, hp, r'⟩ := q; exact ⟨p, ks, e, m, m0, up (other rfl e) hp, r'⟩
        | dcm kvs => obtain ⟨p, ks, e, m, m0, hp, r'⟩ := q; exact ⟨p, ks, e, m, m0, up (other rfl e) hp, r'⟩
      · have z' : upd C.Kp A (.lst ws) b = some o := z
        by_cases hb : b = A
        · subst hb; rw [upd_same] at z' ⊢; exact z'
        · rw [upd_ne hb] at z'
          exact up hb (r.kp b o (by show upd C.Kp A (.lst vs') b = some o; rw [upd_ne hb]; exact z'))
      · have y : upd C.Kp A (.lst vs') p = none := r.kn i s p hs os e
        show upd C.Kp A (.lst ws) p = none
        by_cases hb : p = A
        · subst hb; rw [upd_same] at y; cases y
        · rw [upd_ne hb] at y ⊢; exact y
      · have y : upd C.Kp A (.lst vs') a = none := r.kh a ha
        show upd C.Kp A (.lst ws) a = none
        by_cases hb : a = A
        · subst hb; rw [upd_same] at y; cases y
        · rw [upd_ne hb] at y ⊢; exact y
      · have z' : upd C.Kp A (.lst ws) b = some o := z
        by_cases hb : b = A
        · subst hb; exact n0
        · rw [upd_ne hb] at z'
          exact r.kz b o (by show upd C.Kp A (.lst vs') b = some o; rw [upd_ne hb]; exact z')
    refine ⟨fun i m H => m = ds.length - i ∧ i ≤ ds.length ∧ Pv i H, ⟨ds.length, by simp, Nat.zero_le _, [], [], H01, Same.refl _, ?_, upd_same, r1.sub.free hA, .nil, Nat.zero_le _, i0⟩, ?_⟩
    · refine (r1.laid0 (o := .lst []) hA).guard (fun b o z => ?_) fun p o z => ?_
      · by_cases hb : b = A
        · subst hb; rw [upd_same] at z ⊢; exact z
        · rw [upd_ne hb] at z ⊢; exact r1.kp b o z
      · by_cases hb : p = A
        · subst hb; exact .inr ⟨r1.noslot hA, nha, r1.sub.free hA⟩
        · rw [upd_ne hb] at z; exact .inl z
    rintro i m H2 ⟨rfl, hil, acc, vs', H02, e2, r2, hpA, nA, hr, hacc, i2⟩
    by_cases hlt : i < ds.length
    · refine .inr ⟨w.goes i H2 hlt (e2.trans r2.sub), Pv (i + 1), fun H' p' => ⟨ds.length - (i + 1), by omega, rfl, hlt, p'⟩, fun x H' y => ?_⟩
      obtain ⟨d, H03, hd, r3, e3, x3, kp3⟩ := w.item e2 r2 hlt y
      have r3' : Rel K ok { C with Kp := upd C.Kp A (.lst vs') } H03 (L2.wipe σ vs) H' (wpE env vs) := r3.wipe vs
      refine hg _ H03 _ H' _ x d _ _ r3' x3 (turn i d acc hd i2) fun env4 σ4 r4 q4 w4 => ⟨?_, ?_⟩
      · rw [w4.1]
        apply List.ext_getElem?
        intro j
        rw [wipe_get, wipe_get, wipe_length]
        by_cases hj : j ∈ vs
        · rw [if_pos hj, if_pos hj]
        · rw [if_neg hj, if_neg hj]
      -- the frame of the block aside: σ and env as they were
      have outer : ∀ {vs2 : List V} {Hn H0n : Hp}, Same H03 H0n → Rel K ok { C with Kp := upd C.Kp A (.lst vs2) } H0n σ4 Hn env4 → Rel K ok { C with Kp := upd C.Kp A (.lst vs2) } H0n σ Hn env := by
        intro vs2 Hn H0n e30 rn
        have z := rn.wipe vs
        rw [w4.1, w4.2, wpE_wpE] at z
        have e3 : L2.wipe (L2.wipe σ vs) vs = L2.wipe σ vs := by
          apply List.ext_getElem?
          intro j
          rw [wipe_get, wipe_get, wipe_length]
          by_cases hj : j ∈ vs
          · rw [if_pos hj, if_pos hj]
          · rw [if_neg hj, if_neg hj]
        rw [e3] at z
        exact r3.unwipe e30 z hwp
      have atA : ∀ {Hn H0n : Hp}, Rel K ok { C with Kp := upd C.Kp A (.lst vs') } H0n σ4 Hn env4 → Hn A = some (.lst vs') := fun {Hn H0n} rn => rn.kp A _ upd_same
      have noA : ∀ {Hn H0n : Hp}, Rel K ok { C with Kp := upd C.Kp A (.lst vs') } H0n σ4 Hn env4 → Same H03 H0n → H0n A = none := fun {Hn H0n} rn _ => rn.kz A _ upd_same
      refine ht _ H03 σ4 H' env4 _ _ r4 q4 fun b H5 H05 q5 r5 e5 => ?_
      cases b with
      | true =>
        refine iteT (he _ H05 σ4 H5 env4 _ _ r5 (q5.1 rfl) fun z v H6 H06 q6 r6 e6 x6 => ?_)
        have n6 := noA r6 (e5.trans e6)
        refine ⟨vs', atA r6, by rw [hr.length]; exact Nat.lt_of_le_of_lt hacc (Nat.lt_trans hlt (lt_size hlen)), acc ++ [z], vs' ++ [v], H06, ((e2.trans e3).trans e5).trans e6, change (outer (e5.trans e6) r6) n6, upd_same, n6, ((hr.mono ((e3.trans e5).trans e6)).append (.one x6)), by rw [List.length_append, List.length_singleton]; omega, q6⟩
      | false =>
        exact iteF ⟨acc, vs', H05, (e2.trans e3).trans e5, outer e5 r5, atA r5, noA r5 e5, hr.mono (e3.trans e5), Nat.le_succ_of_le hacc, q5.2 rfl⟩
    · have hi' : i = ds.length := by omega
      subst hi'
      refine .inl ⟨w.stops H2 (e2.trans r2.sub), k acc A H2 H02 (fin acc i2) (out r2) (e1.trans e2) ⟨hCA, ⟨nA, vs', hpA, hr⟩, nsl r2, hA0⟩⟩
end
end DL
/-! DL, part d: the rules by syntax; defs and their calls. -/
namespace DL
open PySem L2

section
variable (X : Cx) (ok : List D → Prop)
def PDS (st : Stmt) (ws : WS) : Prop := ∃ ts, PS X st ts ∧ SndS X.K ok ts ws
def PDSs (st : List Stmt) (ws : WS) : Prop := ∃ ts, PSs X st ts ∧ SndS X.K ok ts ws
def PDG (vs : List Nat) (tg : Expr) (wg : WG) : Prop := ∃ g, PG X tg g ∧ SndG X.K ok vs g wg
def PDGs (vs : List Nat) (tgs : List Expr) (wg : WGs) : Prop := ∃ g, PGs X tgs g ∧ SndGs X.K ok vs g wg
def PDI (tg iter : Expr) (wi : WI) : Prop := ∃ ti, PI X tg iter ti ∧ SndI X.K ok ti wi
end
/-- a def of the module, as a caller sees it -/
structure Has (P : Program) (w : World) (K : PySem.W.Frag) (mg : Str → Option Value) (base : Heap) (ok : List D → Prop) (k : Nat) (x : Str) (n : Nat) (M : WM) : Prop where
  ex : ∃ f fd ps, FnOk P w K mg base CX0 k f fd ps (SpD K ok n M) ∧ mg x = some (.ref f) ∧ PySem.W.keepIn K (.ref f) = true ∧ Binds K fd ps []
section
variable {X : Cx} {ok : List D → Prop} {a b c e : Expr} {es : List Expr} {wa wb wc we : WE} {wr : WA} {wl : WL} {wt wu : WT} {pos p apos : Pos} {x : Str}
/-! ### expressions -/
theorem d_int {i j} : PDE X ok (.Constant (.int i) j pos) (wC (.int i)) := ⟨_, pe_int, snd_c fun H => .int i⟩
theorem d_bl {i j} : PDE X ok (.Constant (.bool i) j pos) (wC (.bool i)) := ⟨_, pe_bl, snd_c fun H => .bl i⟩
theorem d_non {j} : PDE X ok (.Constant .none j pos) (wC .none) := ⟨_, pe_non, snd_c fun H => .non⟩
theorem d_str {i j} : PDE X ok (.Constant (.str i) j pos) (wC (.str i)) := ⟨_, pe_str, snd_c fun H => .str i⟩
theorem d_var (i : Nat) (hN : X.N[i]? = some x := by rfl) (hv : Vis X.env.scope x := by first | exact Or.inl rfl | exact Or.inr (Or.inl rfl) | exact Or.inr (Or.inr rfl)) (hd : (x == ("__debug__" : Str)) = false := by decide)
    (hcd : (x == ("__classdict__" : Str)) = false := by decide) : PDE X ok (.Name x pos) (wVar i) := ⟨_, pe_var hN hv hd hcd, snd_var⟩
theorem d_bor (i : Nat) (hN : X.N[i]? = some x := by rfl) (hv : Vis X.env.scope x := by first | exact Or.inl rfl | exact Or.inr (Or.inl rfl) | exact Or.inr (Or.inr rfl)) (hd : (x == ("__debug__" : Str)) = false := by decide)
    (hcd : (x == ("__classdict__" : Str)) = false := by decide) : PDB X ok (.Name x pos) (wBor i) := ⟨_, pe_var hN hv hd hcd, snd_bor⟩
theorem d_b (h : PDE X ok e we) : PDB X ok e we := let ⟨t, h1, h2⟩ := h; ⟨t, h1, h2.b⟩
theorem d_fz (h : PDL X ok e wl) : PDE X ok e (wFz wl) := let ⟨t, h1, h2⟩ := h; ⟨t, h1, h2.fz⟩
/-- a name of the module that holds a written value -/
theorem d_glob {v : V} {d : D} {u : Value} (hm : X.mg x = some u) (r : RelV v u) (hd : ∀ H, Rp X.K H v d) (hg : Gl X x := by rfl) (hdd : (x == ("__debug__" : Str)) = false := by decide) : PDE X ok (.Name x pos) (wC d) := ⟨_, pe_glob hg hm r hdd, snd_c hd⟩
theorem d_op {op : Operator} {r : R2} {f : D → D → (D → Prop) → Prop} (ho : OpR X (binaryOp op) r) (hf : OpD X.K r f) (ha : PDE X ok a wa) (hb : PDE X ok b wb) : PDE X ok (.BinOp a op b pos) (wBin f wa wb) :=
  let ⟨_, a1, a2⟩ := ha; let ⟨_, b1, b2⟩ := hb; ⟨_, pe_op ho a1 b1, snd_bin hf a2 b2⟩
theorem d_add (ha : PDE X ok a wa) (hb : PDE X ok b wb) : PDE X ok (.BinOp a .Add b pos) (wBin fAdd wa wb) := d_op op_add opd_add ha hb
theorem d_sub (ha : PDE X ok a wa) (hb : PDE X ok b wb) : PDE X ok (.BinOp a .Sub b pos) (wBin fSub wa wb) := d_op op_sub opd_sub ha hb
theorem d_mul (ha : PDE X ok a wa) (hb : PDE X ok b wb) : PDE X ok (.BinOp a .Mult b pos) (wBin fMul wa wb) := d_op op_mul opd_mul ha hb
theorem d_mulX (ha : PDE X ok a wa) (hb : PDE X ok b wb) : PDE X ok (.BinOp a .Mult b pos) (wBin fMulX wa wb) := d_op op_mulX opd_mulX ha hb
theorem d_mod (ha : PDE X ok a wa) (hb : PDE X ok b wb) : PDE X ok (.BinOp a .Mod b pos) (wBin fMod wa wb) := d_op op_mod opd_mod ha hb
theorem d_div (ha : PDE X ok a wa) (hb : PDE X ok b wb) : PDE X ok (.BinOp a .FloorDiv b pos) (wBin fDiv wa wb) := d_op op_fdivW opd_div ha hb
theorem d_shl (ha : PDE X ok a wa) (hb : PDE X ok b wb) : PDE X ok (.BinOp a .LShift b pos) (wBin fShl wa wb) := d_op op_shl opd_shl ha hb
theorem d_pow (ha : PDE X ok a wa) (hb : PDE X ok b wb) : PDE X ok (.BinOp a .Pow b pos) (wBin fPow wa wb) := d_op op_pow opd_pow ha hb
theorem d_neg (ha : PDE X ok a wa) : PDE X ok (.UnaryOp .USub a pos) (wUn fNeg wa) := let ⟨_, a1, a2⟩ := ha; ⟨_, pe_un un_neg a1, snd_neg a2⟩
theorem d_cmp {op : CmpOp} {r : R2} {f : D → D → (D → Prop) → Prop} (ho : OpR X (compareOp op) r) (hf : OpD X.K r f) (hm : behindInMarks op b = false) (ha : PDE X ok a wa) (hb : PDE X ok b wb) : PDE X ok (.Compare a [op] [b] pos) (wBin f wa wb) :=
  let ⟨_, a1, a2⟩ := ha; let ⟨_, b1, b2⟩ := hb; ⟨_, pe_cmpR ho a1 b1 hm, snd_bin hf a2 b2⟩
theorem t_cmp {op : CmpOp} {r : R2} {f : D → D → (D → Prop) → Prop} (ho : OpR X (compareOp op) r) (hf : OpD X.K r f) (hm : behindInMarks op b = false) (ha : PDE X ok a wa) (hb : PDE X ok b wb) : PDT X ok (.Compare a [op] [b] pos) (wTest (wBin f wa wb)) :=
  let ⟨_, a1, a2⟩ := ha; let ⟨_, b1, b2⟩ := hb; ⟨_, pt_cmpR ho a1 b1 hm, snd_test (snd_bin hf a2 b2)⟩
theorem d_lt (ha : PDE X ok a wa) (hb : PDE X ok b wb) : PDE X ok (.Compare a [.Lt] [b] pos) (wBin fLt wa wb) := d_cmp op_lt opd_lt (nomark _) ha hb
theorem d_le (ha : PDE X ok a wa) (hb : PDE X ok b wb) : PDE X ok (.Compare a [.LtE] [b] pos) (wBin fLe wa wb) := d_cmp op_le opd_le (nomark _) ha hb
theorem d_gt (ha : PDE X ok a wa) (hb : PDE X ok b wb) : PDE X ok (.Compare a [.Gt] [b] pos) (wBin fGt wa wb) := d_cmp op_gt opd_gt (nomark _) ha hb
theorem d_ge (ha : PDE X ok a wa) (hb : PDE X ok b wb) : PDE X ok (.Compare a [.GtE] [b] pos) (wBin fGe wa wb) := d_cmp op_ge opd_ge (nomark _) ha hb
theorem t_lt (ha : PDE X ok a wa) (hb : PDE X ok b wb) : PDT X ok (.Compare a [.Lt] [b] pos) (wTest (wBin fLt wa wb)) := t_cmp op_lt opd_lt (nomark _) ha hb
theorem t_le (ha : PDE X ok a wa) (hb : PDE X ok b wb) : PDT X ok (.Compare a [.LtE] [b] pos) (wTest (wBin fLe wa wb)) := t_cmp op_le opd_le (nomark _) ha hb
theorem t_gt (ha : PDE X ok a wa) (hb : PDE X ok b wb) : PDT X ok (.Compare a [.Gt] [b] pos) (wTest (wBin fGt wa wb)) := t_cmp op_gt opd_gt (nomark _) ha hb
theorem t_ge (ha : PDE X ok a wa) (hb : PDE X ok b wb) : PDT X ok (.Compare a [.GtE] [b] pos) (wTest (wBin fGe wa wb)) := t_cmp op_ge opd_ge (nomark _) ha hb
theorem d_eq {k : Nat} (hr : Room k X.A) (ha : PDE X ok a wa) (hb : PDE X ok b wb) : PDE X ok (.Compare a [.Eq] [b] pos) (wBin fEq wa wb) := d_cmp (op_eqD hr.units) opd_eq (nomark _) ha hb
theorem d_ne {k : Nat} (hr : Room k X.A) (ha : PDE X ok a wa) (hb : PDE X ok b wb) : PDE X ok (.Compare a [.NotEq] [b] pos) (wBin fNe wa wb) := d_cmp (op_neD hr.units) opd_ne (nomark _) ha hb
theorem t_eq {k : Nat} (hr : Room k X.A) (ha : PDE X ok a wa) (hb : PDE X ok b wb) : PDT X ok (.Compare a [.Eq] [b] pos) (wTest (wBin fEq wa wb)) := t_cmp (op_eqD hr.units) opd_eq (nomark _) ha hb
theorem t_ne {k : Nat} (hr : Room k X.A) (ha : PDE X ok a wa) (hb : PDE X ok b wb) : PDT X ok (.Compare a [.NotEq] [b] pos) (wTest (wBin fNe wa wb)) := t_cmp (op_neD hr.units) opd_ne (nomark _) ha hb
theorem d_isN {j pos'} (ha : PDE X ok a wa) : PDE X ok (.Compare a [.Is] [.Constant .none j pos'] pos) (wIsN wa) := let ⟨_, a1, a2⟩ := ha; ⟨_, pe_cmp (pc_isN a1) rfl, snd_isN a2⟩
theorem d_notN {j pos'} (ha : PDE X ok a wa) : PDE X ok (.Compare a [.IsNot] [.Constant .none j pos'] pos) (wNotN wa) := let ⟨_, a1, a2⟩ := ha; ⟨_, pe_cmp (pc_notN a1) rfl, snd_notN a2⟩
theorem t_isN {j pos'} (ha : PDE X ok a wa) : PDT X ok (.Compare a [.Is] [.Constant .none j pos'] pos) (wTest (wIsN wa)) := let ⟨_, a1, a2⟩ := ha; ⟨_, pt_cmp (pc_isN a1) rfl, snd_tB (snd_isN a2)⟩
theorem t_notN {j pos'} (ha : PDE X ok a wa) : PDT X ok (.Compare a [.IsNot] [.Constant .none j pos'] pos) (wTest (wNotN wa)) := let ⟨_, a1, a2⟩ := ha; ⟨_, pt_cmp (pc_notN a1) rfl, snd_tB (snd_notN a2)⟩
/-- a chain of two comparisons of ints -/
def wChn (f f' : D → D → (D → Prop) → Prop) (a b c : WE) : WE := fun env Q => a env fun x => b env fun y => f x y fun z => match z with
  | .bool k => ∃ d : Bool, (k = true → c env fun w => f' y w fun z' => z' = .bool d) ∧ Q (.bool (k && d))
  | _ => False
theorem snd_chn {K : PySem.W.Frag} {r r' : R2} {f f' : D → D → (D → Prop) → Prop} {ta tb tc : TE} (hr : OpD K r f) (hr' : OpD K r' f') (ha : SndE K ok ta wa) (hb : SndE K ok tb wb) (hc : SndE K ok tc wc) : SndE K ok (tChain r r' ta tb tc) (wChn f f' wa wb wc) := fun C H0 σ H env Q R rel hw k =>
  ha C H0 σ H env _ _ rel hw fun d v H1 H01 q r1 e1 x1 => hb C H01 σ H1 env _ _ r1 q fun e u H2 H02 q2 r2 e2 x2 =>
    hr H02 H2 v u d e _ _ r2.sub (x1.mono e2) x2 q2 fun z w qz rz => by
      try dsimp only at qz
      split at qz
      · rename_i k'
        cases rz
        obtain ⟨d', q3, q4⟩ := qz
        refine ⟨k', rfl, ?_⟩
        cases k' with
        | true => exact iteT (hc C H02 σ H2 env _ _ r2 (q3 rfl) fun e3 u3 H3 H03 q5 r3 e3' x3 => hr' H03 H3 u u3 e e3 _ _ r3.sub (x2.mono e3') x3 q5 fun z2 w2 qz2 rz2 => by
            subst qz2
            exact k _ _ H3 H03 q4 r3 ((e1.trans e2).trans e3') rz2)
        | false => exact iteF (k _ _ H2 H02 q4 r2 (e1.trans e2) (.bl _))
      · exact qz.elim
theorem d_chn {op op' : CmpOp} {r r' : R2} {f f' : D → D → (D → Prop) → Prop} (ho : OpR X (compareOp op) r) (hf : OpD X.K r f) (ho' : OpR X (compareOp op') r') (hf' : OpD X.K r' f') (ha : PDE X ok a wa) (hb : PDE X ok b wb) (hc : PDE X ok c wc)
    (hm : lastMarks [op, op'] [b, c] = false := by with_unfolding_all rfl) : PDE X ok (.Compare a [op, op'] [b, c] pos) (wChn f f' wa wb wc) :=
  let ⟨_, a1, a2⟩ := ha; let ⟨_, b1, b2⟩ := hb; let ⟨_, c1, c2⟩ := hc; ⟨_, pe_chain ho ho' a1 b1 c1 hm, snd_chn hf hf' a2 b2 c2⟩
theorem t_chn {op op' : CmpOp} {r r' : R2} {f f' : D → D → (D → Prop) → Prop} (ho : OpR X (compareOp op) r) (hf : OpD X.K r f) (ho' : OpR X (compareOp op') r') (hf' : OpD X.K r' f') (ha : PDE X ok a wa) (hb : PDE X ok b wb) (hc : PDE X ok c wc)
    (hm : lastMarks [op, op'] [b, c] = false := by with_unfolding_all rfl) : PDT X ok (.Compare a [op, op'] [b, c] pos) (wTest (wChn f f' wa wb wc)) :=
  let ⟨_, a1, a2⟩ := ha; let ⟨_, b1, b2⟩ := hb; let ⟨_, c1, c2⟩ := hc; ⟨_, pt_chain ho ho' a1 b1 c1 hm, snd_test (snd_chn hf hf' a2 b2 c2)⟩
/-! ### tests -/
theorem t_val (ha : PDE X ok a wa) (he : ∀ whole, isTrue a X.env whole = (do let v ← whole; standAt a.pos; holding [v] (truthy v)) := by intro _; rfl) : PDT X ok a (wTest wa) := let ⟨_, a1, a2⟩ := ha; ⟨_, pt_val a1 he, snd_tB a2⟩
theorem t_not (h : PDT X ok a wt) : PDT X ok (.UnaryOp .Not a pos) (wNot wt) := let ⟨_, a1, a2⟩ := h; ⟨_, pt_not a1, snd_not a2⟩
theorem t_w (h : PDW X ok a wt) : PDT X ok a wt := let ⟨_, a1, a2⟩ := h; ⟨_, a1.pt, a2⟩
theorem w_and1 (h : PDT X ok a wt) : PDW X ok (.BoolOp .And [a] pos) wt := let ⟨_, a1, a2⟩ := h; ⟨_, pw_and1 a1, a2⟩
theorem w_or1 (h : PDT X ok a wt) : PDW X ok (.BoolOp .Or [a] pos) wt := let ⟨_, a1, a2⟩ := h; ⟨_, pw_or1 a1, a2⟩
theorem w_and (h : PDT X ok a wt) (h2 : PDW X ok (.BoolOp .And (b :: es) pos) wu) : PDW X ok (.BoolOp .And (a :: b :: es) pos) (wAndD wt wu) := let ⟨_, a1, a2⟩ := h; let ⟨_, b1, b2⟩ := h2; ⟨_, pw_and a1 b1, snd_andD a2 b2⟩
theorem w_or (h : PDT X ok a wt) (h2 : PDW X ok (.BoolOp .Or (b :: es) pos) wu) : PDW X ok (.BoolOp .Or (a :: b :: es) pos) (wOrD wt wu) := let ⟨_, a1, a2⟩ := h; let ⟨_, b1, b2⟩ := h2; ⟨_, pw_or a1 b1, snd_orD a2 b2⟩
theorem w_andB (h : PDT X ok a wt) (h2 : PDW X ok (.BoolOp .And (b :: es) pos) wu) : PDW X ok (.BoolOp .And (a :: b :: es) pos) (wAnd wt wu) := let ⟨_, a1, a2⟩ := h; let ⟨_, b1, b2⟩ := h2; ⟨_, pw_and a1 b1, snd_and a2 b2⟩
theorem w_orB (h : PDT X ok a wt) (h2 : PDW X ok (.BoolOp .Or (b :: es) pos) wu) : PDW X ok (.BoolOp .Or (a :: b :: es) pos) (wOr wt wu) := let ⟨_, a1, a2⟩ := h; let ⟨_, b1, b2⟩ := h2; ⟨_, pw_or a1 b1, snd_or a2 b2⟩
theorem d_one {op} (h : PDE X ok a wa) : PDE X ok (.BoolOp op [a] pos) wa := let ⟨_, a1, a2⟩ := h; ⟨_, pe_one a1, a2⟩
theorem d_and (h : PDE X ok a wa) (h2 : PDE X ok (.BoolOp .And (b :: es) pos) wb) : PDE X ok (.BoolOp .And (a :: b :: es) pos) (wBl (wAndD (wTest wa) (wTest wb))) := let ⟨_, a1, a2⟩ := h; let ⟨_, b1, b2⟩ := h2; ⟨_, pe_and a1 b1, snd_andV a2 b2⟩
theorem d_or (h : PDE X ok a wa) (h2 : PDE X ok (.BoolOp .Or (b :: es) pos) wb) : PDE X ok (.BoolOp .Or (a :: b :: es) pos) (wBl (wOrD (wTest wa) (wTest wb))) := let ⟨_, a1, a2⟩ := h; let ⟨_, b1, b2⟩ := h2; ⟨_, pe_or a1 b1, snd_orV a2 b2⟩
theorem d_not (h : PDE X ok a wa) : PDE X ok (.UnaryOp .Not a pos) (wBl (wNot (wTest wa))) := let ⟨_, a1, a2⟩ := h; ⟨_, pe_not a1, snd_notV a2⟩
theorem d_ifE (h : PDT X ok c wt) (ha : PDE X ok a wa) (hb : PDE X ok b wb) : PDE X ok (.IfExp c a b pos) (wIfE wt wa wb) := let ⟨_, c1, c2⟩ := h; let ⟨_, a1, a2⟩ := ha; let ⟨_, b1, b2⟩ := hb; ⟨_, pe_ifExp c1 a1 b1, snd_ifE c2 a2 b2⟩
/-! ### arguments, displays, calls -/
theorem a_nil : PDA X ok [] wNil := ⟨_, pa_nil, snd_nil⟩
theorem a_cons (ha : PDE X ok e we) (hr : PDA X ok es wr) (hs : starEach (e :: es) X.env = (false, eval e X.env) :: starEach es X.env := by rfl) : PDA X ok (e :: es) (wCons we wr) := let ⟨_, a1, a2⟩ := ha; let ⟨_, b1, b2⟩ := hr; ⟨_, pa_cons a1 b1 hs, snd_cons a2 b2⟩
theorem a_hnd (i : Nat) (hr : PDA X ok es wr) (hN : X.N[i]? = some x := by rfl) (hv : Vis X.env.scope x := by first | exact Or.inl rfl | exact Or.inr (Or.inl rfl) | exact Or.inr (Or.inr rfl)) (hd : (x == ("__debug__" : Str)) = false := by decide)
    (hcd : (x == ("__classdict__" : Str)) = false := by decide) (hs : starEach (.Name x pos :: es) X.env = (false, eval (.Name x pos) X.env) :: starEach es X.env := by rfl) : PDA X ok (.Name x pos :: es) (wConsH i wr) := let ⟨_, b1, b2⟩ := hr; ⟨_, pa_cons (pe_var hN hv hd hcd) b1 hs, snd_consH b2⟩
theorem d_tup {x1} (h : PDA X ok es wr) : PDE X ok (.Tuple es x1 pos) (wTupP wr) := let ⟨_, a1, a2⟩ := h; ⟨_, pe_tup a1, snd_tup a2⟩
theorem l_lst (h : PDA X ok es wr) : PDL X ok (.List es pos) (wLstP wr) := let ⟨_, a1, a2⟩ := h; ⟨_, pe_lst a1, snd_lst a2⟩
theorem d_ix (ha : PDB X ok a wa) (hb : PDE X ok b wb) (hs : PlainIx b := by exact fun _ _ => rfl) : PDE X ok (.Subscript a b pos) (wIx wa wb) := let ⟨_, a1, a2⟩ := ha; let ⟨_, b1, b2⟩ := hb; ⟨_, pe_ix ix_seq a1 b1 hs, snd_ix a2 b2⟩
theorem d_len (hm : X.mg "len" = none) (ha : PDB X ok a wa) (hg : Gl X "len" := by rfl) (hs : starEach [a] X.env = (false, eval a X.env) :: starEach [] X.env := by rfl) (hpl : (backTo pos (starEach [] X.env)).any (·.1) = false := by rfl) :
    PDE X ok (.Call (.Name "len" p) [a] [] pos) (wLen wa) := let ⟨_, a1, a2⟩ := ha; ⟨_, pe_callB call_len_seq hg hm PySem.boot_len (pa_cons a1 pa_nil hs) (by decide) (by decide) hs hpl, snd_len a2⟩
theorem d_call {k j n : Nat} {M : WM} (h : Has X.prog X.w X.K X.mg X.base ok k x n M) (hr : Room j X.A) (hk : k ≤ j) (ha : PDA X ok (e :: es) wr) (hg : Gl X x := by rfl) (hdb : (x == ("__debug__" : Str)) = false := by decide)
    (he : starEach (e :: es) X.env = (false, eval e X.env) :: starEach es X.env := by rfl) (hpl : (backTo pos (starEach es X.env)).any (·.1) = false := by rfl) : PDE X ok (.Call (.Name x p) (e :: es) [] pos) (wCallP n M wr) :=
  let ⟨f, fd, ps, G, hm, kp, bs⟩ := h.ex; let ⟨_, a1, a2⟩ := ha; ⟨_, pe_call G (hr.mono hk) hg hm kp bs .nil pass0 a1 hdb he hpl, snd_call a2⟩
theorem l_call {k j n : Nat} {M : WM} (h : Has X.prog X.w X.K X.mg X.base ok k x n M) (hr : Room j X.A) (hk : k ≤ j) (ha : PDA X ok (e :: es) wr) (hg : Gl X x := by rfl) (hdb : (x == ("__debug__" : Str)) = false := by decide)
    (he : starEach (e :: es) X.env = (false, eval e X.env) :: starEach es X.env := by rfl) (hpl : (backTo pos (starEach es X.env)).any (·.1) = false := by rfl) : PDL X ok (.Call (.Name x p) (e :: es) [] pos) (wCallOP n M wr) :=
  let ⟨f, fd, ps, G, hm, kp, bs⟩ := h.ex; let ⟨_, a1, a2⟩ := ha; ⟨_, pe_call G (hr.mono hk) hg hm kp bs .nil pass0 a1 hdb he hpl, snd_callO a2⟩
end
/-! ### built-in calls on values -/
/-- a call of a built-in of one argument, the value read off known data -/
def CallD1 (K : PySem.W.Frag) (r : List V → Hp → VK → Prop) (f : D → (D → Prop) → Prop) : Prop := ∀ (H0 H : Hp) (x : V) (d : D) (Q : D → Prop) (R : VK), Same H0 H → Rp K H0 x d → f d Q → (∀ z v, Q z → Rp K H0 v z → R v H) → r [x] H R
def CallD2 (K : PySem.W.Frag) (r : List V → Hp → VK → Prop) (f : D → D → (D → Prop) → Prop) : Prop := ∀ (H0 H : Hp) (x y : V) (d e : D) (Q : D → Prop) (R : VK), Same H0 H → Rp K H0 x d → Rp K H0 y e → f d e Q → (∀ z v, Q z → Rp K H0 v z → R v H) → r [x, y] H R
section
variable {K : PySem.W.Frag} {ok : List D → Prop} {ta tb : TE} {wa wb : WE}
theorem snd_c1 {r : List V → Hp → VK → Prop} {f : D → (D → Prop) → Prop} (hr : CallD1 K r f) (ha : SndE K ok ta wa) : SndE K ok (tCB r (tCons ta tNil)) (wUn f wa) := fun C H0 σ H env Q R rel hw k =>
  ha C H0 σ H env _ _ rel hw fun d v H1 H01 q r1 e1 x1 => hr H01 H1 v d Q R r1.sub x1 q fun z w qz rz => k z w H1 H01 qz r1 e1 rz
theorem snd_c2 {r : List V → Hp → VK → Prop} {f : D → D → (D → Prop) → Prop} (hr : CallD2 K r f) (ha : SndE K ok ta wa) (hb : SndE K ok tb wb) : SndE K ok (tCB r (tCons ta (tCons tb tNil))) (wBin f wa wb) := fun C H0 σ H env Q R rel hw k =>
  ha C H0 σ H env _ _ rel hw fun d v H1 H01 q r1 e1 x1 => hb C H01 σ H1 env _ _ r1 q fun e u H2 H02 q2 r2 e2 x2 => hr H02 H2 v u d e Q R r2.sub (x1.mono e2) x2 q2 fun z w qz rz => k z w H2 H02 qz r2 (e1.trans e2) rz
def fAbs : D → (D → Prop) → Prop := fun d Q => match d with
  | .int i => Q (.int (if i < 0 then -i else i))
  | _ => False
def fInt : D → (D → Prop) → Prop := fun d Q => match d with
  | .int i => Q (.int i)
  | .bool k => Q (.int (if k then 1 else 0))
  | _ => False
theorem cd_abs : CallD1 K (fun xs H Q => ∃ i, xs = [.int i] ∧ Q (.int (if i < 0 then -i else i)) H) fAbs := fun H0 H x d Q R s hx q k => by
  unfold fAbs at q
  split at q
  · cases hx; exact ⟨_, rfl, k _ _ q (.int _)⟩
  · exact q.elim
theorem cd_int : CallD1 K (fun xs H Q => (∃ i, xs = [.int i] ∧ Q (.int i) H) ∨ ∃ k, xs = [.bl k] ∧ Q (.int (if k then 1 else 0)) H) fInt := fun H0 H x d Q R s hx q k => by
  unfold fInt at q
  split at q
  · cases hx; exact .inl ⟨_, rfl, k _ _ q (.int _)⟩
  · cases hx; exact .inr ⟨_, rfl, k _ _ q (.int _)⟩
  · exact q.elim
theorem cd_max2 : CallD2 K (fun xs H Q => ∃ i j, xs = [.int i, .int j] ∧ Q (.int (if j > i then j else i)) H) fMax2 := fun H0 H x y d e Q R s hx hy q k => by
  unfold fMax2 at q
  split at q
  · cases hx; cases hy; exact ⟨_, _, rfl, k _ _ q (.int _)⟩
  · exact q.elim
theorem cd_min2 : CallD2 K (fun xs H Q => ∃ i j, xs = [.int i, .int j] ∧ Q (.int (if j < i then j else i)) H) fMin2 := fun H0 H x y d e Q R s hx hy q k => by
  unfold fMin2 at q
  split at q
  · cases hx; cases hy; exact ⟨_, _, rfl, k _ _ q (.int _)⟩
  · exact q.elim
end
section
variable {X : Cx} {ok : List D → Prop} {a b c e : Expr} {es : List Expr} {wa wb wc we : WE} {wr : WA} {wl : WL} {wt wu : WT} {pos p apos : Pos} {x : Str}
theorem d_B1 {id : String} {r : List V → Hp → VK → Prop} {f : D → (D → Prop) → Prop} (hc : CallR X (.builtin id) r) (hf : CallD1 X.K r f) (hv : bootBuiltins x = some (.builtin id)) (hm : X.mg x = none) (ha : PDE X ok a wa) (hn : x ≠ "__name__" := by decide) (hdb : (x == ("__debug__" : Str)) = false := by decide) (hg : Gl X x := by rfl) (hs : starEach [a] X.env = (false, eval a X.env) :: starEach [] X.env := by rfl)
    (hpl : (backTo pos (starEach [] X.env)).any (·.1) = false := by rfl) : PDE X ok (.Call (.Name x p) [a] [] pos) (wUn f wa) := let ⟨_, a1, a2⟩ := ha; ⟨_, pe_callB hc hg hm hv (pa_cons a1 pa_nil hs) hn hdb hs hpl, snd_c1 hf a2⟩
theorem d_T1 {T : String} {r : List V → Hp → VK → Prop} {f : D → (D → Prop) → Prop} (hc : CallR X (.type T) r) (hf : CallD1 X.K r f) (hv : bootBuiltins x = some (.type T)) (hm : X.mg x = none) (ha : PDE X ok a wa) (hn : x ≠ "__name__" := by decide) (hdb : (x == ("__debug__" : Str)) = false := by decide) (hg : Gl X x := by rfl) (hs : starEach [a] X.env = (false, eval a X.env) :: starEach [] X.env := by rfl)
    (hpl : (backTo pos (starEach [] X.env)).any (·.1) = false := by rfl) : PDE X ok (.Call (.Name x p) [a] [] pos) (wUn f wa) := let ⟨_, a1, a2⟩ := ha; ⟨_, pe_callTy hc hg hm hv (pa_cons a1 pa_nil hs) hn hdb hs hpl, snd_c1 hf a2⟩
theorem d_B2 {id : String} {r : List V → Hp → VK → Prop} {f : D → D → (D → Prop) → Prop} (hc : CallR X (.builtin id) r) (hf : CallD2 X.K r f) (hv : bootBuiltins x = some (.builtin id)) (hm : X.mg x = none) (ha : PDE X ok a wa) (hb : PDE X ok b wb) (hn : x ≠ "__name__" := by decide) (hdb : (x == ("__debug__" : Str)) = false := by decide) (hg : Gl X x := by rfl)
    (hs : starEach [a, b] X.env = (false, eval a X.env) :: starEach [b] X.env := by rfl) (hs2 : starEach [b] X.env = (false, eval b X.env) :: starEach [] X.env := by rfl) (hpl : (backTo pos (starEach [b] X.env)).any (·.1) = false := by rfl) : PDE X ok (.Call (.Name x p) [a, b] [] pos) (wBin f wa wb) :=
  let ⟨_, a1, a2⟩ := ha; let ⟨_, b1, b2⟩ := hb; ⟨_, pe_callB hc hg hm hv (pa_cons a1 (pa_cons b1 pa_nil hs2) hs) hn hdb hs hpl, snd_c2 hf a2 b2⟩
/-! ### statements -/
theorem s_nil : PDSs X ok [] wNx := ⟨_, pss_nil, ss_nx⟩
theorem s_one {st : Stmt} {ws : WS} (h : PDS X ok st ws) : PDSs X ok [st] ws := let ⟨_, a, b⟩ := h; ⟨_, pss_one a, b⟩
theorem s_cons {st : Stmt} {sts : List Stmt} {ws wr : WS} (h : PDS X ok st ws) (h2 : PDSs X ok sts wr) : PDSs X ok (st :: sts) (wSeq ws wr) := let ⟨_, a, b⟩ := h; let ⟨_, c, d⟩ := h2; ⟨_, pss_cons a c, ss_seq b d⟩
theorem s_never {sts : List Stmt} : PDSs X ok sts wNever := ⟨_, pss_never, ss_never⟩
theorem s_frz (i : Nat) {st : Stmt} {ws : WS} (h : PDS X ok st ws) : PDS X ok st (wFrz i ws) := let ⟨_, a, b⟩ := h; ⟨_, a, ss_frz b⟩
theorem s_pass : PDS X ok (.Pass pos) wNx := ⟨_, ps_pass, ss_nx⟩
theorem s_break : PDS X ok (.Break pos) wBk := ⟨_, ps_break, ss_bk⟩
theorem s_continue : PDS X ok (.Continue pos) wCt := ⟨_, ps_continue, ss_ct⟩
theorem s_no {st : Stmt} : PDS X ok st wNever := ⟨_, ps_never, ss_never⟩
theorem s_set (i : Nat) {pos' : Pos} (hN : X.N.Nodup) (he : PDE X ok e we) (hi : X.N[i]? = some x := by rfl) (hx : Loc X.env.scope x := by first | exact Or.inl rfl | exact Or.inr rfl) (hs : swapsWith e (some (.Name x pos')) pos.line X.env = pure false := by rfl) (hf : X.fn x = true ∨ X.env.scope.names.lookup x = some .local := by first | exact .inl rfl | exact .inr rfl) :
    PDS X ok (.Assign [.Name x pos'] e pos) (wSet i we) := let ⟨_, a, b⟩ := he; ⟨_, ps_set hN hi hx a hs hf, ss_set b⟩
theorem s_setO (i : Nat) {pos' : Pos} (hN : X.N.Nodup) (he : PDL X ok e wl) (hi : X.N[i]? = some x := by rfl) (hx : Loc X.env.scope x := by first | exact Or.inl rfl | exact Or.inr rfl) (hs : swapsWith e (some (.Name x pos')) pos.line X.env = pure false := by rfl) (hf : X.fn x = true ∨ X.env.scope.names.lookup x = some .local := by first | exact .inl rfl | exact .inr rfl) :
    PDS X ok (.Assign [.Name x pos'] e pos) (wSetO i wl) := let ⟨_, a, b⟩ := he; ⟨_, ps_set hN hi hx a hs hf, ss_setO b⟩
theorem s_setH (i : Nat) {pos' : Pos} (hN : X.N.Nodup) (he : PDL X ok e wl) (hi : X.N[i]? = some x := by rfl) (hx : Loc X.env.scope x := by first | exact Or.inl rfl | exact Or.inr rfl) (hs : swapsWith e (some (.Name x pos')) pos.line X.env = pure false := by rfl) (hf : X.fn x = true ∨ X.env.scope.names.lookup x = some .local := by first | exact .inl rfl | exact .inr rfl) :
    PDS X ok (.Assign [.Name x pos'] e pos) (wSetH ok i wl) := let ⟨_, a, b⟩ := he; ⟨_, ps_set hN hi hx a hs hf, ss_setH b⟩
theorem s_expr (he : PDE X ok e we) (hs : swapsWith e none pos.line X.env = pure false := by rfl) : PDS X ok (.Expr e pos) (wDrop we) := let ⟨_, a, b⟩ := he; ⟨_, ps_expr a hs, ss_drop b⟩
theorem s_ret (he : PDE X ok e we) : PDS X ok (.Return (some e) pos) (wRet we) := let ⟨_, a, b⟩ := he; ⟨_, ps_ret a, ss_ret b⟩
theorem s_retO (he : PDL X ok e wl) : PDS X ok (.Return (some e) pos) (wRetO wl) := let ⟨_, a, b⟩ := he; ⟨_, ps_ret a, ss_retO b⟩
theorem s_retV (i : Nat) {pos' : Pos} (hN : X.N[i]? = some x := by rfl) (hv : Vis X.env.scope x := by first | exact Or.inl rfl | exact Or.inr (Or.inl rfl) | exact Or.inr (Or.inr rfl)) (hd : (x == ("__debug__" : Str)) = false := by decide)
    (hcd : (x == ("__classdict__" : Str)) = false := by decide) : PDS X ok (.Return (some (.Name x pos')) pos) (wRetV i) := ⟨_, ps_ret (pe_var hN hv hd hcd), ss_retV⟩
theorem s_retN : PDS X ok (.Return none pos) wRetN := ⟨_, ps_retN, ss_retN⟩
theorem s_if {sa sb : List Stmt} {wsa wsb : WS} (hc : PDT X ok c wt) (ha : PDSs X ok sa wsa) (hb : PDSs X ok sb wsb) : PDS X ok (.If c sa sb pos) (wIf wt wsa wsb) := let ⟨_, c1, c2⟩ := hc; let ⟨_, a1, a2⟩ := ha; let ⟨_, b1, b2⟩ := hb; ⟨_, ps_if c1 a1 b1, ss_if c2 a2 b2⟩
theorem s_while {body : List Stmt} {ws : WS} (hp : PassesOwn (model X.prog X.w) X.A X.env X.xe) (hc : PDT X ok c wt) (hb : PDSs X ok body ws) : PDS X ok (.While c body [] pos) (wWhile wt ws) := let ⟨_, c1, c2⟩ := hc; let ⟨_, b1, b2⟩ := hb; ⟨_, ps_while hp c1 b1, ss_while c2 b2⟩
theorem s_for {vs : List Nat} {tg iter : Expr} {body : List Stmt} {wi : WI} {wg : WG} {ws : WS} (hp : PassesOwn (model X.prog X.w) X.A X.env X.xe) (hc : X.calm = true) (hi : PDI X ok tg iter wi) (hg : PDG X ok vs tg wg) (hb : PDSs X ok body ws) (hs : ∀ x, foldedSetIterable iter X.env x = pure x := by intro _; rfl) :
    PDS X ok (.For tg iter body [] pos) (wFor wi wg ws) := let ⟨_, i1, i2⟩ := hi; let ⟨_, g1, g2⟩ := hg; let ⟨_, b1, b2⟩ := hb; ⟨_, ps_for hp hc i1 g1 b1 hs, ss_for i2 g2 b2⟩
theorem s_app (i : Nat) {mp : Pos} (hpe : PDE X ok e we) (hN : X.N[i]? = some x := by rfl) (hv : Vis X.env.scope x := by first | exact Or.inl rfl | exact Or.inr (Or.inl rfl) | exact Or.inr (Or.inr rfl)) (hd : (x == ("__debug__" : Str)) = false := by decide) (hcd : (x == ("__classdict__" : Str)) = false := by decide)
    (hbase : attributeBase (.Name x mp) "append" X.env (eval (.Name x mp) X.env) = eval (.Name x mp) X.env := by rfl)
    (hfew : ((backTo p (starEach [e] X.env)).all (fun x => !x.1) && (backToKw p (keywordEach [] X.env)).all (fun x => x.1.isSome) && decide ([e].length + ([] : List Keyword).length + (if ([] : List Keyword).isEmpty then 0 else 1) < 30)) = true := by rfl)
    (hline : (apos.endLine == p.line) = true := by rfl) (hs : starEach [e] X.env = (false, eval e X.env) :: starEach [] X.env := by rfl) (hplain : (backTo p (starEach [] X.env)).any (·.1) = false := by rfl)
    (hsw : swapsWith (.Call (.Attribute (.Name x mp) "append" apos) [e] [] p) none pos.line X.env = pure false := by rfl) :
    PDS X ok (.Expr (.Call (.Attribute (.Name x mp) "append" apos) [e] [] p) pos) (wApp i we) := let ⟨_, a, b⟩ := hpe; ⟨_, ps_expr (pe_bm PySem.F.plainAttrs_list PySem.F.slot_list_append PySem.F.type_list_append mt_append (pe_var hN hv hd hcd) (pa_cons a pa_nil hs) hbase hfew hline hs hplain) hsw, ss_app b⟩
theorem s_ext (i : Nat) {mp : Pos} (hpe : PDE X ok e we) (hN : X.N[i]? = some x := by rfl) (hv : Vis X.env.scope x := by first | exact Or.inl rfl | exact Or.inr (Or.inl rfl) | exact Or.inr (Or.inr rfl)) (hd : (x == ("__debug__" : Str)) = false := by decide) (hcd : (x == ("__classdict__" : Str)) = false := by decide)
    (hbase : attributeBase (.Name x mp) "extend" X.env (eval (.Name x mp) X.env) = eval (.Name x mp) X.env := by rfl)
    (hfew : ((backTo p (starEach [e] X.env)).all (fun x => !x.1) && (backToKw p (keywordEach [] X.env)).all (fun x => x.1.isSome) && decide ([e].length + ([] : List Keyword).length + (if ([] : List Keyword).isEmpty then 0 else 1) < 30)) = true := by rfl)
    (hline : (apos.endLine == p.line) = true := by rfl) (hs : starEach [e] X.env = (false, eval e X.env) :: starEach [] X.env := by rfl) (hplain : (backTo p (starEach [] X.env)).any (·.1) = false := by rfl)
    (hsw : swapsWith (.Call (.Attribute (.Name x mp) "extend" apos) [e] [] p) none pos.line X.env = pure false := by rfl) :
    PDS X ok (.Expr (.Call (.Attribute (.Name x mp) "extend" apos) [e] [] p) pos) (wExt i we) := let ⟨_, a, b⟩ := hpe; ⟨_, ps_expr (pe_bm PySem.F.plainAttrs_list PySem.F.slot_list_extend PySem.F.type_list_extend mt_extend (pe_var hN hv hd hcd) (pa_cons a pa_nil hs) hbase hfew hline hs hplain) hsw, ss_ext b⟩
theorem s_pop (i : Nat) {mp : Pos} (hN : X.N[i]? = some x := by rfl) (hv : Vis X.env.scope x := by first | exact Or.inl rfl | exact Or.inr (Or.inl rfl) | exact Or.inr (Or.inr rfl)) (hd : (x == ("__debug__" : Str)) = false := by decide) (hcd : (x == ("__classdict__" : Str)) = false := by decide)
    (hbase : attributeBase (.Name x mp) "pop" X.env (eval (.Name x mp) X.env) = eval (.Name x mp) X.env := by rfl) (hline : (apos.endLine == p.line) = true := by rfl)
    (hsw : swapsWith (.Call (.Attribute (.Name x mp) "pop" apos) [] [] p) none pos.line X.env = pure false := by rfl) :
    PDS X ok (.Expr (.Call (.Attribute (.Name x mp) "pop" apos) [] [] p) pos) (wPop i) := ⟨_, ps_expr (pe_bm0 PySem.F.plainAttrs_list PySem.F.slot_list_pop PySem.F.type_list_pop mt_pop (pe_var hN hv hd hcd) hbase hline) hsw, ss_pop⟩
theorem s_put (i : Nat) {tp : Pos} {ix : Expr} {mp : Pos} (he : PDE X ok e we) (hk : PDE X ok ix wa) (hN : X.N[i]? = some x := by rfl) (hv : Vis X.env.scope x := by first | exact Or.inl rfl | exact Or.inr (Or.inl rfl) | exact Or.inr (Or.inr rfl)) (hd : (x == ("__debug__" : Str)) = false := by decide) (hcd : (x == ("__classdict__" : Str)) = false := by decide)
    (hg : ∀ (to tk : TE), PE X (.Name x mp) to → PE X ix tk → PG X (.Subscript (.Name x mp) ix tp) (gSub to tk rSetL) := by exact fun _ _ h1 h2 => pg_sub h1 h2 set_list)
    (hs : swapsWithSole [.Subscript (.Name x mp) ix tp] e pos.line X.env = pure false := by rfl) (hw : swappedStores [.Subscript (.Name x mp) ix tp] e X.env = pure none := by rfl) :
    PDS X ok (.Assign [.Subscript (.Name x mp) ix tp] e pos) (wPut i wa we) := let ⟨_, e1, e2⟩ := he; let ⟨_, k1, k2⟩ := hk; ⟨_, ps_asg e1 (hg _ _ (pe_var hN hv hd hcd) k1) hs hw, ss_put e2 k2⟩
theorem s_par (i j : Nat) {y : Str} {px py pt : Pos} {kt k2 pt2} (hc : X.calm = true) (hN : X.N.Nodup) (hij : i ≠ j) (ha : PDA X ok [a, b] wr) (hi : X.N[i]? = some x := by rfl) (hj : X.N[j]? = some y := by rfl)
    (hx : X.env.scope.names.lookup x = some .local := by rfl) (hy : X.env.scope.names.lookup y = some .local := by rfl)
    (hw : swappedStores [.Tuple [.Name x px, .Name y py] kt pt] (.Tuple [a, b] k2 pt2) X.env = pure (some [x, y]) := by rfl)
    (hs : swapsWithSole [.Tuple [.Name x px, .Name y py] kt pt] (.Tuple [a, b] k2 pt2) pos.line X.env = pure false := by rfl) :
    PDS X ok (.Assign [.Tuple [.Name x px, .Name y py] kt pt] (.Tuple [a, b] k2 pt2) pos) (wPar i j wr) := let ⟨_, a1, a2⟩ := ha; ⟨_, ps_par hc hN hi hj hij hx hy a1 hw hs, ss_par a2⟩
theorem s_asg {vs : List Nat} {tg : Expr} {wg : WG} (he : PDE X ok e we) (hg : PDG X ok vs tg wg) (hs : swapsWithSole [tg] e pos.line X.env = pure false := by rfl) (hw : swappedStores [tg] e X.env = pure none := by rfl) (h1 : (assignEach [tg] X.env).map (·.2) = [assign tg X.env] := by rfl) :
    PDS X ok (.Assign [tg] e pos) (wAsg we wg) := let ⟨_, a1, a2⟩ := he; let ⟨_, b1, b2⟩ := hg; ⟨_, ps_asg a1 b1 hs hw h1, ss_asg a2 b2⟩
/-! ### targets, what is walked, comprehensions -/
theorem g_name (i : Nat) {vs : List Nat} (hN : X.N.Nodup) (hm : i ∈ vs := by decide) (hi : X.N[i]? = some x := by rfl) (hx : Loc X.env.scope x := by first | exact Or.inl rfl | exact Or.inr rfl) (hf : X.fn x = true ∨ X.env.scope.names.lookup x = some .local := by first | exact .inl rfl | exact .inr rfl) :
    PDG X ok vs (.Name x pos) (gN i) := ⟨_, pg_name hN hi hx hf, sg_name hm⟩
theorem g_tup {vs : List Nat} {k : Nat} {n : Nat} {wg : WGs} (hc : X.calm = true) (h : PDGs X ok vs es wg) (hg : ∀ t, PGs X es t → PG X (.Tuple es k pos) (gTup X.K n t)) : PDG X ok vs (.Tuple es k pos) (gT n wg) := let ⟨_, a, b⟩ := h; ⟨_, hg _ a, sg_tup b⟩
theorem g_nil {vs : List Nat} : PDGs X ok vs [] gsNil := ⟨_, pgs_nil, sgs_nil⟩
theorem i_list {tg : Expr} (h : PDE X ok e we) : PDI X ok tg e (iL we) := let ⟨_, a, b⟩ := h; ⟨_, pi_list a, si_list b⟩
theorem i_tup {tg : Expr} (h : PDE X ok e we) : PDI X ok tg e (iT we) := let ⟨_, a, b⟩ := h; ⟨_, pi_tup a, si_tup b⟩
theorem i_r1 {tg : Expr} (hm : X.mg "range" = none) (h : PDE X ok a wa) (hg : Gl X "range" := by rfl) (hs : starEach [a] X.env = [(false, eval a X.env)] := by rfl) : PDI X ok tg (.Call (.Name "range" p) [a] [] pos) (iR1 wa) := let ⟨_, a1, a2⟩ := h; ⟨_, pi_range1 hg hm (pa_cons a1 pa_nil (by exact hs)) hs, si_r1 a2⟩
theorem i_r2 {tg : Expr} (hm : X.mg "range" = none) (h : PDE X ok a wa) (h2 : PDE X ok b wb) (hg : Gl X "range" := by rfl) (hs : starEach [a, b] X.env = [(false, eval a X.env), (false, eval b X.env)] := by rfl) (hs2 : starEach [b] X.env = [(false, eval b X.env)] := by rfl) :
    PDI X ok tg (.Call (.Name "range" p) [a, b] [] pos) (iR2 wa wb) := let ⟨_, a1, a2⟩ := h; let ⟨_, b1, b2⟩ := h2; ⟨_, pi_range2 hg hm (pa_cons a1 (pa_cons b1 pa_nil (by exact hs2)) (by rw [hs2]; exact hs)) hs hs2, si_r2 a2 b2⟩
theorem l_lc {tg iter elt : Expr} {ifs : List Expr} {scope : Scope} {own : List (Str × Nat)} {wi : WI} {wg : WG} {wt : WT} {we : WE} (hc : X.calm = true) (hN : X.N.Nodup) (hi : PDI X ok tg iter wi) (ok' : BlkOk X.N X.env.scope scope own)
    (hg : ∃ g, (∀ (s : Shared) (H : Hp) (C : Addr) (cl : List (Str × Addr)) (fp : List Addr), PG (X.blk s H scope (compEnvC scope cl C X.env) fp) tg g) ∧ SndG X.K ok (own.map (·.2)) g wg)
    (ht : ∃ tt, (∀ (s : Shared) (H : Hp) (C : Addr) (cl : List (Str × Addr)) (fp : List Addr), PTs (X.blk s H scope (compEnvC scope cl C X.env) fp) ifs tt) ∧ SndT X.K ok tt wt)
    (he : ∃ te, (∀ (s : Shared) (H : Hp) (C : Addr) (cl : List (Str × Addr)) (fp : List Addr), PE (X.blk s H scope (compEnvC scope cl C X.env) fp) elt te) ∧ SndE X.K ok te we)
    (hs : ∀ x, foldedSetIterable iter X.env x = pure x := by intro _; rfl) : PDL X ok (.ListComp elt [⟨tg, iter, ifs, 0⟩] scope pos) (wLc wi wg wt we (own.map (·.2))) :=
  let ⟨_, i1, i2⟩ := hi; let ⟨_, g1, g2⟩ := hg; let ⟨_, t1, t2⟩ := ht; let ⟨_, e1, e2⟩ := he; ⟨_, pe_lc hc hN i1 ok' g1 t1 e1 hs, sl_lc i2 g2 t2 e2⟩
theorem s_setLc (i : Nat) {py spos : Pos} {y : Str} {tg iter elt : Expr} {ifs : List Expr} {scope : Scope} {own : List (Str × Nat)} {wi : WI} {wg : WG} {wt : WT} {we : WE} (hc : X.calm = true) (hN : X.N.Nodup) (hi : PDI X ok tg iter wi) (ok' : BlkOk X.N X.env.scope scope own)
    (hg : ∃ g, (∀ (s : Shared) (H : Hp) (C : Addr) (cl : List (Str × Addr)) (fp : List Addr), PG (X.blk s H scope (compEnvC scope cl C X.env) fp) tg g) ∧ SndG X.K ok (own.map (·.2)) g wg)
    (ht : ∃ tt, (∀ (s : Shared) (H : Hp) (C : Addr) (cl : List (Str × Addr)) (fp : List Addr), PTs (X.blk s H scope (compEnvC scope cl C X.env) fp) ifs tt) ∧ SndT X.K ok tt wt)
    (he : ∃ te, (∀ (s : Shared) (H : Hp) (C : Addr) (cl : List (Str × Addr)) (fp : List Addr), PE (X.blk s H scope (compEnvC scope cl C X.env) fp) elt te) ∧ SndE X.K ok te we)
    (hsw : swapsWith (.ListComp elt [⟨tg, iter, ifs, 0⟩] scope pos) (some (.Name y py)) spos.line X.env = pure true) (hy : X.N[i]? = some y := by rfl) (hyl : X.env.scope.names.lookup y = some .local := by rfl)
    (hs : ∀ x, foldedSetIterable iter X.env x = pure x := by intro _; rfl) : PDS X ok (.Assign [.Name y py] (.ListComp elt [⟨tg, iter, ifs, 0⟩] scope pos) spos) (wSetO i (wLc wi wg wt we (own.map (·.2)))) :=
  let ⟨_, i1, i2⟩ := hi; let ⟨_, g1, g2⟩ := hg; let ⟨_, t1, t2⟩ := ht; let ⟨_, e1, e2⟩ := he; ⟨_, ps_setLc hc hN hy hyl hsw i1 ok' g1 t1 e1 hs, ss_setO (sl_lc i2 g2 t2 e2)⟩
end
/-! ### defs -/
/-- the frame at the entry: the arguments, then nothing -/
def stE : List Ar → Nat → EnvD
  | [], m => List.replicate m none
  | .v d :: r, m => some (.v d) :: stE r m
  | .hnd :: r, m => some .hnd :: stE r m
section
variable {K : PySem.W.Frag} {ok : List D → Prop}
theorem stE_len : ∀ (as : List Ar) (m : Nat), (stE as m).length = as.length + m
  | [], m => by show (List.replicate m none).length = 0 + m; rw [List.length_replicate, Nat.zero_add]
  | .v d :: r, m => by show (stE r m).length + 1 = r.length + 1 + m; rw [stE_len r m]; omega
  | .hnd :: r, m => by show (stE r m).length + 1 = r.length + 1 + m; rw [stE_len r m]; omega
theorem rep_none {m i : Nat} {s : Sl} (h : (List.replicate m (none : Option Sl))[i]? = some (some s)) : False := by
  rw [List.getElem?_replicate] at h
  split at h <;> cases h
theorem stE_slot {H0 : Hp} {ha : Option Addr} : ∀ {as : List Ar} {vs : List V} {m : Nat} {i : Nat} {s : Sl}, ArgsOk K H0 ha vs as → (stE as m)[i]? = some (some s) →
    ∃ x, vs[i]? = some x ∧ ((∃ d, s = .v d ∧ Rp K H0 x d) ∨ ∃ a, s = .hnd ∧ ha = some a ∧ x = .ref a)
  | [], _, m, i, s, _, e => (rep_none e).elim
  | .v d :: r, _, m, 0, s, .cons h _, e => by
    have e' : some (some (Sl.v d)) = some (some s) := e
    cases e'
    exact ⟨_, rfl, .inl ⟨d, rfl, h⟩⟩
  | .v d :: r, _, m, i + 1, s, .cons _ t, e => by
    obtain ⟨x, h1, h2⟩ := stE_slot (m := m) (i := i) t (by have z : (stE r m)[i]? = some (some s) := (List.getElem?_cons_succ).symm.trans e; exact z)
    exact ⟨x, by rw [List.getElem?_cons_succ]; exact h1, h2⟩
  | .hnd :: r, _, m, 0, s, .hnd h _, e => by
    have e' : some (some Sl.hnd) = some (some s) := e
    cases e'
    exact ⟨_, rfl, .inr ⟨_, rfl, h, rfl⟩⟩
  | .hnd :: r, _, m, i + 1, s, .hnd _ t, e => by
    obtain ⟨x, h1, h2⟩ := stE_slot (m := m) (i := i) t (by have z : (stE r m)[i]? = some (some s) := (List.getElem?_cons_succ).symm.trans e; exact z)
    exact ⟨x, by rw [List.getElem?_cons_succ]; exact h1, h2⟩
/-- at most one handle among the parameters: asked of the arguments -/
theorem stE_plain : ∀ {as : List Ar} {m i : Nat}, plainA as = true → (stE as m)[i]? ≠ some (some .hnd)
  | [], m, i, _ => fun e => rep_none e
  | .v d :: r, m, 0, _ => fun e => by have e' : some (some (Sl.v d)) = some (some Sl.hnd) := e; cases e'
  | .v d :: r, m, i + 1, p => fun e => stE_plain (as := r) (m := m) (i := i) p ((List.getElem?_cons_succ).symm.trans e)
  | .hnd :: r, m, i, p => by cases p
theorem stE_one : ∀ {as : List Ar} {m i j : Nat}, oneH as = true → (stE as m)[i]? = some (some .hnd) → (stE as m)[j]? = some (some .hnd) → i = j
  | [], m, i, j, _, e, _ => (rep_none e).elim
  | .v d :: r, m, 0, _, _, e, _ => by have e' : some (some (Sl.v d)) = some (some Sl.hnd) := e; cases e'
  | .v d :: r, m, i + 1, 0, _, _, e => by have e' : some (some (Sl.v d)) = some (some Sl.hnd) := e; cases e'
  | .v d :: r, m, i + 1, j + 1, p, e, f => by rw [stE_one (as := r) (m := m) (i := i) (j := j) p ((List.getElem?_cons_succ).symm.trans e) ((List.getElem?_cons_succ).symm.trans f)]
  | .hnd :: r, m, 0, 0, _, _, _ => rfl
  | .hnd :: r, m, i + 1, _, p, e, _ => (stE_plain (as := r) (m := m) (i := i) p ((List.getElem?_cons_succ).symm.trans e)).elim
  | .hnd :: r, m, 0, j + 1, p, _, e => (stE_plain (as := r) (m := m) (i := j) p ((List.getElem?_cons_succ).symm.trans e)).elim
end
section
variable {P : Program} {w : World} {K : PySem.W.Frag} {mg : Str → Option Value} {base : Heap} {ok : List D → Prop}
theorem rel_start {H0 H : Hp} {ha : Option Addr} {as : List Ar} {vs : List V} {m : Nat} (s0 : Same H0 H) (h : ArgsOk K H0 ha vs as) (hl : vs.length = as.length) (h1 : oneH as = true) (hv : ∀ a, ha = some a → ∃ ds, OwnAt K H0 H a ds ∧ ok ds) :
    Rel K ok ⟨H, H0, ha, fun _ => none⟩ H0 (vs.map some ++ List.replicate m none) H (stE as m) := by
  have look : ∀ {i : Nat} {x : V}, vs[i]? = some x → (vs.map some ++ List.replicate m none)[i]? = some (some x) := fun {i x} e => by
    have lt := (List.getElem?_eq_some_iff.mp e).1
    rw [List.getElem?_append_left (by rw [List.length_map]; exact lt), List.getElem?_map, e]
    rfl
  refine ⟨s0, Same.refl _, fun b o e => .inl e, fun b o e _ => e, fun a z => ?_, ?_, fun i s e => ?_, fun i j s t p hij hs ht os ot e1 e2 => ?_, fun b o z => (nomatch z), fun _ _ _ _ _ _ => rfl, fun _ _ => rfl, fun b o z => (nomatch z)⟩
  · obtain ⟨ds, o, k⟩ := hv a z
    obtain ⟨ws, hp⟩ := o.is
    exact ⟨⟨_, hp⟩, ds, o, k⟩
  · rw [stE_len, List.length_append, List.length_map, List.length_replicate, hl]
  · obtain ⟨x, h1, h2⟩ := stE_slot h e
    rw [look h1]
    rcases h2 with ⟨d, rfl, r⟩ | ⟨a, rfl, z, rfl⟩
    · exact ⟨x, rfl, r⟩
    · obtain ⟨ds, o, k⟩ := hv a z
      exact ⟨a, ds, rfl, .inl z, o, k⟩
  · obtain ⟨x, x1, x2⟩ := stE_slot h hs
    obtain ⟨y, y1, y2⟩ := stE_slot h ht
    rcases x2 with ⟨d, rfl, _⟩ | ⟨a, rfl, _, _⟩
    · cases os
    rcases y2 with ⟨d, rfl, _⟩ | ⟨a', rfl, _, _⟩
    · cases ot
    exact hij (stE_one h1 hs ht)
/-- THE RULE for a def: its body by the rules; what the body asks follows from the promise -/
theorem def_ok {x qual : Str} {st : Stmt} {f : Addr} {fd : FuncData} {N ps : List Str} {k n : Nat} {M : WM} {ws : WS} (F : Fun K x qual st f fd) (S : FnScope N ps (defScope st)) (hn : ps.length = n)
    (hb : ∀ (cdv : Value) (A : Around) (outer : List Env) (s : Shared) (H : Hp) (E : XK), Room k (A.deeper (PyProof.Rows.envOfC qual (defScope st) s.heap.objs.size f cdv)) → PDSs (cxOf CX0 P w K mg base N qual (defScope st) f cdv A outer s H E).nox ok (defBody st) ws)
    (hM : ∀ as Q, as.length = n → M as Q → ws { nx := fun _ => Q (.v .none), rt := Q } (stE as (N.length - n))) : FnOk P w K mg base CX0 (k + 1) f fd ps (SpD K ok n M) := by
  refine F.ok S (fun vs H Q E h => ?_) (fun cdv A outer s H vs Q E hr h => ?_)
  · obtain ⟨H0, ha, as, Q', h1, h2, _⟩ := h
    rw [h2, hn]
  · obtain ⟨H0, ha, as, Q', h1, h2, one, s0, hargs, hv, hMQ, k0⟩ := h
    obtain ⟨ts, p, snd⟩ := hb cdv A outer s H E hr
    refine ⟨ts, p, ?_⟩
    have rel : Rel K ok ⟨H, H0, ha, fun _ => none⟩ H0 (L2.start N vs) H (stE as (N.length - n)) := by
      have z := rel_start (ok := ok) (m := N.length - n) s0 hargs (by rw [h2, h1]) one hv
      unfold L2.start
      rw [h2]
      exact z
    have post : ∀ {r : Rt} {v : V} {σ' : L2.St} {H' H01 : Hp} {env' : EnvD}, Rel K ok ⟨H, H0, ha, fun _ => none⟩ H01 σ' H' env' → Q' r → RetOk K H H01 H' v r → Q v H' := fun {r v σ' H' H01 env'} R q rr =>
      k0 v H' r H01 q ⟨R.grow, R.sub, R.new, R.fr, fun a z => (R.hv a z).2, rr⟩
    exact snd _ H0 _ H _ _ _ rel (hM as Q' h1 hMQ) ⟨fun env' σ' H' H01 e R q => post (r := .v .none) R q .non, fun r v σ' H' H01 env' e R q rr => post R q rr, fun _ _ _ _ _ _ q => q.elim, fun _ _ _ _ _ _ q => q.elim⟩
end
end DL
/-! DL, part e: lists and tuples: sums, products, slices, sorted, sum, all, any, truth. -/
namespace DL
open PySem L2

abbrev WO := EnvD → (Option Int → Prop) → Prop
def SndO (K : PySem.W.Frag) (ok : List D → Prop) (to : TO) (wo : WO) : Prop := ∀ (C : Ctx) (H0 : Hp) (σ : L2.St) (H : Hp) (env : EnvD) (Q : Option Int → Prop) (R : Option Int → Hp → Prop), Rel K ok C H0 σ H env → wo env Q →
  (∀ o H1 H01, Q o → Rel K ok C H01 σ H1 env → Same H0 H01 → R o H1) → to σ H R
def PDO (X : Cx) (ok : List D → Prop) (e : Option Expr) (wo : WO) : Prop := ∃ to, PO X e to ∧ SndO X.K ok to wo
def woN : WO := fun _ Q => Q none
def woS (a : WE) : WO := fun env Q => a env fun x => match x with
  | .int i => Q (some i)
  | _ => False
def cutD {α : Type} (xs : List α) (lo hi : Option Int) : List α := (xs.drop (HT.sIx xs.length 0 lo)).take (HT.sIx xs.length xs.length hi - HT.sIx xs.length 0 lo)
/-- xs[a:b], a list -/
def wSlL (a : WE) (lo hi : WO) : WL := fun env Q => a env fun x => lo env fun l => hi env fun u => match x with
  | .list ds => Q (cutD ds l u)
  | _ => False
def wSlT (a : WE) (lo hi : WO) : WE := fun env Q => a env fun x => lo env fun l => hi env fun u => match x with
  | .tuple ds => Q (.tuple (cutD ds l u))
  | _ => False
def wCat (a b : WE) : WL := fun env Q => a env fun x => b env fun y => match x, y with
  | .list ds, .list es => ds.length + es.length < 1000000 ∧ Q (ds ++ es)
  | _, _ => False
def wRep (a b : WE) : WL := fun env Q => a env fun x => b env fun y => match x, y with
  | .list ds, .int k => k < 1000000 ∧ -1000000 < k ∧ ds.length * k.toNat < 1000000 ∧ Q (List.replicate k.toNat ds).flatten
  | _, _ => False
def wCatT (a b : WE) : WE := fun env Q => a env fun x => b env fun y => match x, y with
  | .tuple ds, .tuple es => ds.length + es.length < 1000000 ∧ Q (.tuple (ds ++ es))
  | _, _ => False
/-- list(x) -/
def wListOf (a : WE) : WL := fun env Q => a env fun x => match x with
  | .list ds => Q ds
  | .tuple ds => Q ds
  | .dict [(.none, .list ds)] => Q ds
  | _ => False
def wTupOf (a : WE) : WE := fun env Q => a env fun x => match x with
  | .list ds => Q (.tuple ds)
  | .tuple ds => Q (.tuple ds)
  | _ => False
/-- sum, max, min, sorted of a list of ints; all, any of a list of truth values: the ints told -/
def wSum (a : WE) : WE := fun env Q => a env fun x => ∃ ns, x = .list (dints ns) ∧ Q (.int ns.sum)
def wAll (a : WE) : WE := fun env Q => a env fun x => ∃ bs : List Bool, x = .list (bs.map PyData.bool) ∧ Q (.bool (bs.all id))
def wAny (a : WE) : WE := fun env Q => a env fun x => ∃ bs : List Bool, x = .list (bs.map PyData.bool) ∧ Q (.bool (bs.any id))
def wMaxL (a : WE) : WE := fun env Q => a env fun x => ∃ ns : List Int, x = .list (dints ns) ∧ 0 < ns.length ∧ ∀ m, m ∈ ns → (∀ y, y ∈ ns → y ≤ m) → Q (.int m)
def wMinL (a : WE) : WE := fun env Q => a env fun x => ∃ ns : List Int, x = .list (dints ns) ∧ 0 < ns.length ∧ ∀ m, m ∈ ns → (∀ y, y ∈ ns → m ≤ y) → Q (.int m)
def wSortI (a : WE) : WL := fun env Q => a env fun x => ∃ ns : List Int, x = .list (dints ns) ∧ ∀ ns' : List Int, ns'.Perm ns → ns'.Pairwise (· ≤ ·) → Q (dints ns')
/-- truth of a value: None, a truth value, an int, a list, a tuple -/
def wTru (a : WE) : WT := fun env Q => a env fun x => match x with
  | .none => Q false
  | .bool b => Q b
  | .int i => Q (i != 0)
  | .list ds => Q (!ds.isEmpty)
  | .tuple ds => Q (!ds.isEmpty)
  | _ => False
section
variable {K : PySem.W.Frag} {ok : List D → Prop} {ta tb te : TE} {wa wb we : WE} {t u : TT} {wt wu : WT}
theorem so_n : SndO K ok tNoPart woN := fun C H0 σ H env Q R rel hw k => k _ H H0 hw rel (Same.refl _)
theorem so_s (ha : SndE K ok ta wa) : SndO K ok (tPart ta) (woS wa) := fun C H0 σ H env Q R rel hw k => ha C H0 σ H env _ _ rel hw fun d v H1 H01 q r1 e1 x1 => by
  try dsimp only at q
  split at q
  · cases x1; exact ⟨_, rfl, k _ H1 H01 q r1 e1⟩
  · exact q.elim
theorem Rps.cut {H : Hp} {vs : List V} {ds : List D} {lo hi : Option Int} (r : Rps K H vs ds) : Rps K H (cutV vs lo hi) (cutD ds lo hi) := by
  unfold cutV cutD
  rw [r.length]
  exact (r.drop _).take _
theorem sl_sl {tl th : TO} {lo hi : WO} (ha : SndB K ok ta wa) (hl : SndO K ok tl lo) (hh : SndO K ok th hi) : SndL K ok (tSl (rSlL K) ta tl th) (wSlL wa lo hi) := fun C H0 σ H env Q R rel hw k =>
  ha C H0 σ H env _ _ rel hw fun d v H1 H01 q r1 e1 x1 => hl C H01 σ H1 env _ _ r1 q fun l H2 H02 q2 r2 e2 => hh C H02 σ H2 env _ _ r2 q2 fun u H3 H03 q3 r3 e3 => by
    try dsimp only at q3
    split at q3
    · rename_i ds
      obtain ⟨p, vs, rfl, r, h⟩ := (x1 H3 H03 r3 (e2.trans e3)).seq r3.sub (.inl rfl)
      rcases h with ⟨_, h⟩ | ⟨h, _⟩
      · exact ⟨p, vs, rfl, SqL.of h, fun p' np => k _ _ _ _ q3 (r3.laid0 np) ((e1.trans e2).trans e3) ⟨r3.fresh np, ⟨r3.sub.free np, _, upd_same, r.cut⟩, r3.noslot np, r3.kp.free np⟩⟩
      · cases h
    · exact q3.elim
theorem cut_whole {α : Type} {xs : List α} {lo hi : Option Int} (h : HT.sIx xs.length 0 lo = 0 ∧ HT.sIx xs.length xs.length hi = xs.length) : cutD xs lo hi = xs := by
  unfold cutD
  rw [h.1, h.2]
  simp
theorem se_slT {tl th : TO} {lo hi : WO} (ha : SndE K ok ta wa) (hl : SndO K ok tl lo) (hh : SndO K ok th hi) : SndE K ok (tSl (rSlA K) ta tl th) (wSlT wa lo hi) := fun C H0 σ H env Q R rel hw k =>
  ha C H0 σ H env _ _ rel hw fun d v H1 H01 q r1 e1 x1 => hl C H01 σ H1 env _ _ r1 q fun l H2 H02 q2 r2 e2 => hh C H02 σ H2 env _ _ r2 q2 fun u H3 H03 q3 r3 e3 => by
    try dsimp only at q3
    split at q3
    · cases x1 with
      | tup h r =>
        rename_i a xs
        have r' := r.mono (e2.trans e3)
        refine ⟨a, xs, rfl, Same.tup (Same.trans (Same.trans e2 e3) r3.sub) h, fun hw => ?_, fun hw p np => ?_⟩
        · refine k _ _ H3 H03 q3 r3 ((e1.trans e2).trans e3) (.tup (Same.tup (e2.trans e3) h) ?_)
          rw [r.length] at hw
          rw [cut_whole hw]
          exact r'
        · obtain ⟨r4, e4⟩ := r3.laid (o := .tup (cutV xs l u)) np
          exact k _ _ _ _ q3 r4 (((e1.trans e2).trans e3).trans e4) (.tup (SqT.of upd_same) ((r'.cut).mono e4))
    · exact q3.elim
theorem Bor.lst {H0 H : Hp} {v : V} {ds : List D} (s : Same H0 H) (h : Bor K H0 H v (.list ds)) : ∃ p vs, v = .ref p ∧ Rps K H0 vs ds ∧ H p = some (.lst vs) := by
  obtain ⟨p, vs, e, r, h⟩ := h.seq s (.inl rfl)
  rcases h with ⟨_, h⟩ | ⟨h, _⟩
  · exact ⟨p, vs, e, r, h⟩
  · cases h
theorem sl_cat (ha : SndB K ok ta wa) (hb : SndB K ok tb wb) : SndL K ok (tOp rCat ta tb) (wCat wa wb) := fun C H0 σ H env Q R rel hw k =>
  ha C H0 σ H env _ _ rel hw fun d v H1 H01 q r1 e1 x1 => hb C H01 σ H1 env _ _ r1 q fun e u H2 H02 q2 r2 e2 x2 => by
    try dsimp only at q2
    split at q2
    · obtain ⟨p, vs, rfl, r, h⟩ := (x1 H2 H02 r2 e2).lst r2.sub
      obtain ⟨p', vs', rfl, r', h'⟩ := (x2 H2 H02 r2 (Same.refl _)).lst r2.sub
      exact ⟨p, p', vs, vs', rfl, rfl, h, h', by rw [r.length, r'.length]; exact Nat.le_of_lt (lt_size q2.1), fun q np => k _ _ _ _ q2.2 (r2.laid0 np) (e1.trans e2) ⟨r2.fresh np, ⟨r2.sub.free np, _, upd_same, r.append r'⟩, r2.noslot np, r2.kp.free np⟩⟩
    · exact q2.elim
theorem sl_rep (ha : SndB K ok ta wa) (hb : SndE K ok tb wb) : SndL K ok (tOp rRep ta tb) (wRep wa wb) := fun C H0 σ H env Q R rel hw k =>
  ha C H0 σ H env _ _ rel hw fun d v H1 H01 q r1 e1 x1 => hb C H01 σ H1 env _ _ r1 q fun e u H2 H02 q2 r2 e2 x2 => by
    try dsimp only at q2
    split at q2
    · obtain ⟨p, vs, rfl, r, h⟩ := (x1 H2 H02 r2 e2).lst r2.sub
      cases x2
      exact ⟨p, _, vs, rfl, rfl, h, by omega, by omega, by rw [r.length]; exact Nat.le_of_lt (lt_size q2.2.2.1), fun q np => k _ _ _ _ q2.2.2.2 (r2.laid0 np) (e1.trans e2) ⟨r2.fresh np, ⟨r2.sub.free np, _, upd_same, r.rep _⟩, r2.noslot np, r2.kp.free np⟩⟩
    · exact q2.elim
theorem se_catT (ha : SndE K ok ta wa) (hb : SndE K ok tb wb) : SndE K ok (tOp (rCatA K) ta tb) (wCatT wa wb) := fun C H0 σ H env Q R rel hw k =>
  ha C H0 σ H env _ _ rel hw fun d v H1 H01 q r1 e1 x1 => hb C H01 σ H1 env _ _ r1 q fun e u H2 H02 q2 r2 e2 x2 => by
    try dsimp only at q2
    split at q2
    · cases x1 with
      | tup h r =>
        cases x2 with
        | tup h' r' =>
          have h2 := Same.tup e2 h
          have rr := r.mono e2
          refine ⟨_, _, _, _, rfl, rfl, Same.tup r2.sub h2, Same.tup r2.sub h', by rw [r.length, r'.length]; exact Nat.le_of_lt (lt_size q2.1), fun z => ?_, fun z z2 => ?_, fun _ _ p np => ?_⟩
          · subst z
            refine k _ _ H2 H02 q2.2 r2 (e1.trans e2) (.tup h' ?_)
            have l := r.length
            rw [List.eq_nil_of_length_eq_zero l.symm]
            exact r'
          · subst z2
            refine k _ _ H2 H02 q2.2 r2 (e1.trans e2) (.tup h2 ?_)
            have l := r'.length
            rw [List.eq_nil_of_length_eq_zero l.symm, List.append_nil]
            exact rr
          · obtain ⟨r4, e4⟩ := r2.laid (o := .tup (_ ++ _)) np
            exact k _ _ _ _ q2.2 r4 ((e1.trans e2).trans e4) (.tup (SqT.of upd_same) ((rr.append r').mono e4))
    · exact q2.elim
theorem sl_listOf (ha : SndB K ok ta wa) : SndL K ok (tCB (fun xs H Q => ∃ p ys, xs = [.ref p] ∧ (SqL K H p ys ∨ SqT K H p ys) ∧ ∀ l, H l = none → Q (.ref l) (upd H l (.lst ys))) (tCons ta tNil)) (wListOf wa) := fun C H0 σ H env Q R rel hw k =>
  ha C H0 σ H env _ _ rel hw fun d v H1 H01 q r1 e1 x1 => by
    have b := x1 H1 H01 r1 (Same.refl _)
    try dsimp only at q
    split at q
    · obtain ⟨p, vs, rfl, r, h⟩ := b.lst r1.sub
      exact ⟨p, vs, rfl, .inl (SqL.of h), fun l nl => k _ _ _ _ q (r1.laid0 nl) e1 ⟨r1.fresh nl, ⟨r1.sub.free nl, _, upd_same, r⟩, r1.noslot nl, r1.kp.free nl⟩⟩
    · obtain ⟨p, vs, rfl, r, h⟩ := b.seq r1.sub (.inr rfl)
      rcases h with ⟨h, _⟩ | ⟨_, h⟩
      · cases h
      · exact ⟨p, vs, rfl, .inr h, fun l nl => k _ _ _ _ q (r1.laid0 nl) e1 ⟨r1.fresh nl, ⟨r1.sub.free nl, _, upd_same, r⟩, r1.noslot nl, r1.kp.free nl⟩⟩
    · rcases b with h | ⟨_, _, _, h, _⟩
      · cases h with
        | @scr a ns h => exact ⟨a, _, rfl, .inl (r1.sub.seq h), fun l nl => k _ _ _ _ q (r1.laid0 nl) e1 ⟨r1.fresh nl, ⟨r1.sub.free nl, _, upd_same, Rps.of_ints ns⟩, r1.noslot nl, r1.kp.free nl⟩⟩
      · cases h
    · exact q.elim
theorem se_tupOf (ha : SndB K ok ta wa) : SndE K ok (tCB (fun xs H Q => ∃ p ys, xs = [.ref p] ∧ ((SqL K H p ys ∧ ∀ l, H l = none → Q (.ref l) (upd H l (.tup ys))) ∨ (SqT K H p ys ∧ Q (.ref p) H))) (tCons ta tNil)) (wTupOf wa) := fun C H0 σ H env Q R rel hw k =>
  ha C H0 σ H env _ _ rel hw fun d v H1 H01 q r1 e1 x1 => by
    have b := x1 H1 H01 r1 (Same.refl _)
    try dsimp only at q
    split at q
    · obtain ⟨p, vs, rfl, r, h⟩ := b.lst r1.sub
      refine ⟨p, vs, rfl, .inl ⟨SqL.of h, fun l nl => ?_⟩⟩
      obtain ⟨r4, e4⟩ := r1.laid (o := .tup vs) nl
      exact k _ _ _ _ q r4 (e1.trans e4) (.tup (SqT.of upd_same) (r.mono e4))
    · rcases b with h | ⟨_, _, _, h, _⟩
      · cases h with
        | tup h r => exact ⟨_, _, rfl, .inr ⟨Same.tup r1.sub h, k _ _ _ _ q r1 e1 (.tup h r)⟩⟩
      · cases h
    · exact q.elim
theorem Bor.ints {H0 H : Hp} {v : V} {ns : List Int} (s : Same H0 H) (h : Bor K H0 H v (.list (dints ns))) : ∃ p, v = .ref p ∧ SqL K H p (ns.map V.int) := by
  obtain ⟨p, vs, e, r, h⟩ := h.lst s
  rw [r.ints_inv] at h
  exact ⟨p, e, SqL.of h⟩
theorem se_sum (ha : SndB K ok ta wa) : SndE K ok (tCB (rSum K) (tCons ta tNil)) (wSum wa) := fun C H0 σ H env Q R rel hw k =>
  ha C H0 σ H env _ _ rel hw fun d v H1 H01 q r1 e1 x1 => by
    obtain ⟨ns, rfl, q⟩ := q
    obtain ⟨p, rfl, h⟩ := (x1 H1 H01 r1 (Same.refl _)).ints r1.sub
    exact ⟨p, ns, rfl, h, k _ _ _ _ q r1 e1 (.int _)⟩
theorem se_maxL (ha : SndB K ok ta wa) : SndE K ok (tCB (rMax K) (tCons ta tNil)) (wMaxL wa) := fun C H0 σ H env Q R rel hw k =>
  ha C H0 σ H env _ _ rel hw fun d v H1 H01 q r1 e1 x1 => by
    obtain ⟨ns, rfl, l, q⟩ := q
    obtain ⟨p, rfl, h⟩ := (x1 H1 H01 r1 (Same.refl _)).ints r1.sub
    exact ⟨p, ns, rfl, h, l, fun m hm hl => k _ _ _ _ (q m hm hl) r1 e1 (.int _)⟩
theorem se_minL (ha : SndB K ok ta wa) : SndE K ok (tCB (rMin K) (tCons ta tNil)) (wMinL wa) := fun C H0 σ H env Q R rel hw k =>
  ha C H0 σ H env _ _ rel hw fun d v H1 H01 q r1 e1 x1 => by
    obtain ⟨ns, rfl, l, q⟩ := q
    obtain ⟨p, rfl, h⟩ := (x1 H1 H01 r1 (Same.refl _)).ints r1.sub
    exact ⟨p, ns, rfl, h, l, fun m hm hl => k _ _ _ _ (q m hm hl) r1 e1 (.int _)⟩
theorem sl_sortI (ha : SndB K ok ta wa) : SndL K ok (tCB (rSortedI K) (tCons ta tNil)) (wSortI wa) := fun C H0 σ H env Q R rel hw k =>
  ha C H0 σ H env _ _ rel hw fun d v H1 H01 q r1 e1 x1 => by
    obtain ⟨ns, rfl, q⟩ := q
    obtain ⟨p, rfl, h⟩ := (x1 H1 H01 r1 (Same.refl _)).ints r1.sub
    exact ⟨p, ns, rfl, h, fun ns' l hp hs nl => k _ _ _ _ (q ns' hp hs) (r1.laid0 nl) e1 ⟨r1.fresh nl, ⟨r1.sub.free nl, _, upd_same, Rps.of_ints ns'⟩, r1.noslot nl, r1.kp.free nl⟩⟩
theorem se_all (ha : SndB K ok ta wa) : SndE K ok (tCB (rAll K) (tCons ta tNil)) (wAll wa) := fun C H0 σ H env Q R rel hw k =>
  ha C H0 σ H env _ _ rel hw fun d v H1 H01 q r1 e1 x1 => by
    obtain ⟨bs, rfl, q⟩ := q
    obtain ⟨p, vs, rfl, r, h⟩ := (x1 H1 H01 r1 (Same.refl _)).lst r1.sub
    rw [r.bools_inv] at h
    exact ⟨p, bs, rfl, SqL.of h, k _ _ _ _ q r1 e1 (.bl _)⟩
theorem se_any (ha : SndB K ok ta wa) : SndE K ok (tCB (rAny K) (tCons ta tNil)) (wAny wa) := fun C H0 σ H env Q R rel hw k =>
  ha C H0 σ H env _ _ rel hw fun d v H1 H01 q r1 e1 x1 => by
    obtain ⟨bs, rfl, q⟩ := q
    obtain ⟨p, vs, rfl, r, h⟩ := (x1 H1 H01 r1 (Same.refl _)).lst r1.sub
    rw [r.bools_inv] at h
    exact ⟨p, bs, rfl, SqL.of h, k _ _ _ _ q r1 e1 (.bl _)⟩
theorem st_tru (ha : SndB K ok ta wa) : SndT K ok (fun σ H Q => ta σ H fun x H' => ∃ k, TruV K x H' k ∧ Q k H') (wTru wa) := fun C H0 σ H env Q R rel hw k =>
  ha C H0 σ H env _ _ rel hw fun d v H1 H01 q r1 e1 x1 => by
    have b := x1 H1 H01 r1 (Same.refl _)
    have simple : ∀ {d : D}, (∀ ds, d ≠ .list ds) → Bor K H01 H1 v d → Rp K H01 v d := fun {d} n b => by
      rcases b with h | ⟨_, ds, _, h, _⟩
      · exact h
      · exact (n ds h).elim
    try dsimp only at q
    split at q
    · cases simple (fun _ => by simp) b; exact ⟨false, rfl, k _ H1 H01 q r1 e1⟩
    · cases simple (fun _ => by simp) b; exact ⟨_, rfl, k _ H1 H01 q r1 e1⟩
    · cases simple (fun _ => by simp) b; exact ⟨_, rfl, k _ H1 H01 q r1 e1⟩
    · rename_i ds
      obtain ⟨p, vs, rfl, r, h⟩ := b.lst r1.sub
      refine ⟨!ds.isEmpty, .inl ⟨vs, SqL.of h, ?_⟩, k _ H1 H01 q r1 e1⟩
      have l := r.length
      cases vs <;> cases ds <;> first | rfl | (simp at l)
    · rename_i ds
      cases simple (fun _ => by simp) b with
      | @tup a vs _ h r =>
        refine ⟨!ds.isEmpty, .inr (.inl ⟨vs, Same.tup r1.sub h, ?_⟩), k _ H1 H01 q r1 e1⟩
        have l := r.length
        cases vs <;> cases ds <;> first | rfl | (simp at l)
    · exact q.elim
end
section
variable {X : Cx} {ok : List D → Prop} {a b c e : Expr} {es : List Expr} {wa wb wc we : WE} {wr : WA} {wl : WL} {wt wu : WT} {pos p p2 apos : Pos} {x : Str}
theorem o_n : PDO X ok none woN := ⟨_, po_none, so_n⟩
theorem o_s (h : PDE X ok e we) : PDO X ok (some e) (woS we) := let ⟨_, a, b⟩ := h; ⟨_, po_some a, so_s b⟩
theorem l_sl {lo hi : Option Expr} {wlo whi : WO} (ha : PDB X ok a wa) (hl : PDO X ok lo wlo) (hh : PDO X ok hi whi) : PDL X ok (.Subscript a (.Slice lo hi none p2) pos) (wSlL wa wlo whi) := let ⟨_, a1, a2⟩ := ha; let ⟨_, b1, b2⟩ := hl; let ⟨_, c1, c2⟩ := hh; ⟨_, pe_slice sl_list a1 b1 c1, sl_sl a2 b2 c2⟩
theorem d_slT {lo hi : Option Expr} {wlo whi : WO} (ha : PDE X ok a wa) (hl : PDO X ok lo wlo) (hh : PDO X ok hi whi) : PDE X ok (.Subscript a (.Slice lo hi none p2) pos) (wSlT wa wlo whi) := let ⟨_, a1, a2⟩ := ha; let ⟨_, b1, b2⟩ := hl; let ⟨_, c1, c2⟩ := hh; ⟨_, pe_slice sl_tupA a1 b1 c1, se_slT a2 b2 c2⟩
theorem l_cat (ha : PDB X ok a wa) (hb : PDB X ok b wb) : PDL X ok (.BinOp a .Add b pos) (wCat wa wb) := let ⟨_, a1, a2⟩ := ha; let ⟨_, b1, b2⟩ := hb; ⟨_, pe_op op_cat a1 b1, sl_cat a2 b2⟩
theorem l_rep (ha : PDB X ok a wa) (hb : PDE X ok b wb) : PDL X ok (.BinOp a .Mult b pos) (wRep wa wb) := let ⟨_, a1, a2⟩ := ha; let ⟨_, b1, b2⟩ := hb; ⟨_, pe_op op_rep a1 b1, sl_rep a2 b2⟩
theorem d_catT (ha : PDE X ok a wa) (hb : PDE X ok b wb) : PDE X ok (.BinOp a .Add b pos) (wCatT wa wb) := let ⟨_, a1, a2⟩ := ha; let ⟨_, b1, b2⟩ := hb; ⟨_, pe_op op_catA a1 b1, se_catT a2 b2⟩
theorem t_tru (ha : PDB X ok a wa) (he : ∀ whole, isTrue a X.env whole = (do let v ← whole; standAt a.pos; holding [v] (truthy v)) := by intro _; rfl) : PDT X ok a (wTru wa) := let ⟨_, a1, a2⟩ := ha; ⟨_, pt_truth a1 he, st_tru a2⟩
theorem l_listOf (hm : X.mg "list" = none) (ha : PDB X ok a wa) (hg : Gl X "list" := by rfl) (hs : starEach [a] X.env = (false, eval a X.env) :: starEach [] X.env := by rfl) (hpl : (backTo pos (starEach [] X.env)).any (·.1) = false := by rfl) :
    PDL X ok (.Call (.Name "list" p) [a] [] pos) (wListOf wa) := let ⟨_, a1, a2⟩ := ha; ⟨_, pe_callTy call_list_of hg hm (by decide +kernel) (pa_cons a1 pa_nil hs) (by decide) (by decide) hs hpl, sl_listOf a2⟩
theorem d_tupOf (hm : X.mg "tuple" = none) (ha : PDB X ok a wa) (hg : Gl X "tuple" := by rfl) (hs : starEach [a] X.env = (false, eval a X.env) :: starEach [] X.env := by rfl) (hpl : (backTo pos (starEach [] X.env)).any (·.1) = false := by rfl) :
    PDE X ok (.Call (.Name "tuple" p) [a] [] pos) (wTupOf wa) := let ⟨_, a1, a2⟩ := ha; ⟨_, pe_callTy call_tuple_of hg hm (by decide +kernel) (pa_cons a1 pa_nil hs) (by decide) (by decide) hs hpl, se_tupOf a2⟩
theorem d_sum (hc : X.calm = true) (hm : X.mg "sum" = none) (ha : PDB X ok a wa) (hg : Gl X "sum" := by rfl) (hs : starEach [a] X.env = (false, eval a X.env) :: starEach [] X.env := by rfl) (hpl : (backTo pos (starEach [] X.env)).any (·.1) = false := by rfl) :
    PDE X ok (.Call (.Name "sum" p) [a] [] pos) (wSum wa) := let ⟨_, a1, a2⟩ := ha; ⟨_, pe_callB (cr_sum hc) hg hm (by decide +kernel) (pa_cons a1 pa_nil hs) (by decide) (by decide) hs hpl, se_sum a2⟩
theorem d_maxL (hc : X.calm = true) (hm : X.mg "max" = none) (ha : PDB X ok a wa) (hg : Gl X "max" := by rfl) (hs : starEach [a] X.env = (false, eval a X.env) :: starEach [] X.env := by rfl) (hpl : (backTo pos (starEach [] X.env)).any (·.1) = false := by rfl) :
    PDE X ok (.Call (.Name "max" p) [a] [] pos) (wMaxL wa) := let ⟨_, a1, a2⟩ := ha; ⟨_, pe_callB (cr_max hc) hg hm (by decide +kernel) (pa_cons a1 pa_nil hs) (by decide) (by decide) hs hpl, se_maxL a2⟩
theorem d_minL (hc : X.calm = true) (hm : X.mg "min" = none) (ha : PDB X ok a wa) (hg : Gl X "min" := by rfl) (hs : starEach [a] X.env = (false, eval a X.env) :: starEach [] X.env := by rfl) (hpl : (backTo pos (starEach [] X.env)).any (·.1) = false := by rfl) :
    PDE X ok (.Call (.Name "min" p) [a] [] pos) (wMinL wa) := let ⟨_, a1, a2⟩ := ha; ⟨_, pe_callB (cr_min hc) hg hm (by decide +kernel) (pa_cons a1 pa_nil hs) (by decide) (by decide) hs hpl, se_minL a2⟩
theorem d_all (hc : X.calm = true) (hm : X.mg "all" = none) (ha : PDB X ok a wa) (hg : Gl X "all" := by rfl) (hs : starEach [a] X.env = (false, eval a X.env) :: starEach [] X.env := by rfl) (hpl : (backTo pos (starEach [] X.env)).any (·.1) = false := by rfl) :
    PDE X ok (.Call (.Name "all" p) [a] [] pos) (wAll wa) := let ⟨_, a1, a2⟩ := ha; ⟨_, pe_callB (cr_all hc) hg hm (by decide +kernel) (pa_cons a1 pa_nil hs) (by decide) (by decide) hs hpl, se_all a2⟩
theorem d_any (hc : X.calm = true) (hm : X.mg "any" = none) (ha : PDB X ok a wa) (hg : Gl X "any" := by rfl) (hs : starEach [a] X.env = (false, eval a X.env) :: starEach [] X.env := by rfl) (hpl : (backTo pos (starEach [] X.env)).any (·.1) = false := by rfl) :
    PDE X ok (.Call (.Name "any" p) [a] [] pos) (wAny wa) := let ⟨_, a1, a2⟩ := ha; ⟨_, pe_callB (cr_any hc) hg hm (by decide +kernel) (pa_cons a1 pa_nil hs) (by decide) (by decide) hs hpl, se_any a2⟩
theorem l_sortI (hm : X.mg "sorted" = none) (ha : PDB X ok a wa) (hg : Gl X "sorted" := by rfl) (hs : starEach [a] X.env = (false, eval a X.env) :: starEach [] X.env := by rfl) (hpl : (backTo pos (starEach [] X.env)).any (·.1) = false := by rfl) :
    PDL X ok (.Call (.Name "sorted" p) [a] [] pos) (wSortI wa) := let ⟨_, a1, a2⟩ := ha; ⟨_, pe_callB cr_sortedI hg hm (by decide +kernel) (pa_cons a1 pa_nil hs) (by decide) (by decide) hs hpl, sl_sortI a2⟩
theorem d_abs (hm : X.mg "abs" = none) (ha : PDE X ok a wa) (hg : Gl X "abs" := by rfl) (hs : starEach [a] X.env = (false, eval a X.env) :: starEach [] X.env := by rfl) (hpl : (backTo pos (starEach [] X.env)).any (·.1) = false := by rfl) :
    PDE X ok (.Call (.Name "abs" p) [a] [] pos) (wUn fAbs wa) := d_B1 call_abs cd_abs (by decide +kernel) hm ha (by decide) (by decide) hg hs hpl
theorem d_intc (hm : X.mg "int" = none) (ha : PDE X ok a wa) (hg : Gl X "int" := by rfl) (hs : starEach [a] X.env = (false, eval a X.env) :: starEach [] X.env := by rfl) (hpl : (backTo pos (starEach [] X.env)).any (·.1) = false := by rfl) :
    PDE X ok (.Call (.Name "int" p) [a] [] pos) (wUn fInt wa) := d_T1 call_int1 cd_int (by decide +kernel) hm ha (by decide) (by decide) hg hs hpl
theorem d_max2 (hc : X.calm = true) (hm : X.mg "max" = none) (ha : PDE X ok a wa) (hb : PDE X ok b wb) (hg : Gl X "max" := by rfl) (hs : starEach [a, b] X.env = (false, eval a X.env) :: starEach [b] X.env := by rfl) (hs2 : starEach [b] X.env = (false, eval b X.env) :: starEach [] X.env := by rfl)
    (hpl : (backTo pos (starEach [b] X.env)).any (·.1) = false := by rfl) : PDE X ok (.Call (.Name "max" p) [a, b] [] pos) (wBin fMax2 wa wb) := d_B2 (call_max2 hc) cd_max2 (by decide +kernel) hm ha hb (by decide) (by decide) hg hs hs2 hpl
theorem d_min2 (hc : X.calm = true) (hm : X.mg "min" = none) (ha : PDE X ok a wa) (hb : PDE X ok b wb) (hg : Gl X "min" := by rfl) (hs : starEach [a, b] X.env = (false, eval a X.env) :: starEach [b] X.env := by rfl) (hs2 : starEach [b] X.env = (false, eval b X.env) :: starEach [] X.env := by rfl)
    (hpl : (backTo pos (starEach [b] X.env)).any (·.1) = false := by rfl) : PDE X ok (.Call (.Name "min" p) [a, b] [] pos) (wBin fMin2 wa wb) := d_B2 (call_min2 hc) cd_min2 (by decide +kernel) hm ha hb (by decide) (by decide) hg hs hs2 hpl
/-- n.bit_length() -/
def fBits : D → (D → Prop) → Prop := fun d Q => match d with
  | .int i => Q (.int (Builtin.Int.intBits i : Nat))
  | _ => False
theorem snd_bits {K : PySem.W.Frag} {ta : TE} (ha : SndE K ok ta wa) : SndE K ok (tBits ta) (wUn fBits wa) := fun C H0 σ H env Q R rel hw k => ha C H0 σ H env _ _ rel hw fun d v H1 H01 q r1 e1 x1 => by
  unfold fBits at q
  split at q
  · cases x1; exact ⟨_, rfl, k _ _ H1 H01 q r1 e1 (.int _)⟩
  · exact q.elim
theorem d_bits (ha : PDE X ok a wa) (hbase : attributeBase a "bit_length" X.env (eval a X.env) = eval a X.env := by rfl) (hline : (apos.endLine == pos.line) = true := by rfl) : PDE X ok (.Call (.Attribute a "bit_length" apos) [] [] pos) (wUn fBits wa) := let ⟨_, a1, a2⟩ := ha; ⟨_, pe_bits a1 hbase hline, snd_bits a2⟩
end
end DL
/-! DL, part f1: the first family of draws: state = [script, place, rest, mix]. -/
namespace DL
open PySem L2

def okF1 (ds : List D) : Prop := ∃ (ns : List Int) (place rest mix : Int), ds = [scr ns, .int place, .int rest, .int mix] ∧ 0 ≤ place
/-- _law_draw(state, many): some number from 0 to many - 1 -/
def M_draw : WM := fun as Q => ∃ n : Int, as = [.hnd, .v (.int n)] ∧ 0 < n ∧ n < 2 ^ 200 ∧ ∀ r : Int, 0 ≤ r → r < n → Q (.v (.int r))
theorem div200 {n : Int} (h0 : 0 < n) (h : n < 2 ^ 200) : ∀ i : Int, CDivW i n := fun i => wide_div (b := 200) h0 (by omega) (by decide) (by decide)
def rInt : List V → Hp → VK → Prop := fun xs H Q => (∃ i, xs = [.int i] ∧ Q (.int i) H) ∨ ∃ k, xs = [.bl k] ∧ Q (.int (if k then 1 else 0)) H
def rLen1 (K : PySem.W.Frag) : List V → Hp → VK → Prop := fun xs H Q => ∃ p ys, xs = [.ref p] ∧ (SqL K H p ys ∨ SqT K H p ys) ∧ Q (.int ys.length) H
def rAbs1 : List V → Hp → VK → Prop := fun xs H Q => ∃ i, xs = [.int i] ∧ Q (.int (if i < 0 then -i else i)) H
abbrev tPlus := tOp (rI0 fun i j => .int (i + j))
abbrev tTimes := tOp (rI CMul fun i j => .int (i * j))
abbrev tModu := tOp (rI (fun _ j => 0 < j) fun i j => .int (i % j))
abbrev tDivi := tOp (rI CDivW fun i j => .int (i / j))
abbrev tAt (K : PySem.W.Frag) (i : Int) : TE := tOp (rIx K) (tVar 0) (tC (.int i))
abbrev tIn (t : TE) : TE := tCB rInt (tCons t tNil)
abbrev gAt (i : Int) : TG := gSub (tVar 0) (tC (.int i)) rSetL
abbrev tdEnd (K : PySem.W.Frag) : TS := tSeq (tAsg (tModu (tIn (tAt K 2)) (tVar 1)) (gName 6)) (tSeq (tAsg (tDivi (tIn (tAt K 2)) (tVar 1)) (gAt 2)) (tRet (tVar 6)))
abbrev tdLast (K : PySem.W.Frag) : TS := tAsg (tModu (tIn (tPlus (tTimes (tAt K 3) (tC (.int 31))) (tVar 3))) (tC (.int 1000003))) (gAt 3)
abbrev tdYes (K : PySem.W.Frag) : TS := tSeq (tAsg (tModu (tIn (tPlus (tPlus (tTimes (tVar 3) (tC (.int 48271))) (tTimes (tVar 2) (tC (.int 69621)))) (tAt K 3))) (tC (.int 2147483647))) (gName 4))
  (tSeq (tAsg (tModu (tIn (tPlus (tPlus (tTimes (tVar 4) (tC (.int 16807))) (tVar 3)) (tC (.int 11)))) (tC (.int 2147483629))) (gName 5)) (tAsg (tPlus (tTimes (tVar 4) (tC (.int 2147483629))) (tVar 5)) (gAt 2)))
abbrev tdNo : TS := tAsg (tCB rAbs1 (tCons (tVar 3) tNil)) (gAt 2)
abbrev tdCell (K : PySem.W.Frag) : TS := tSeq (tIfS (tTest (tChain (rI0 fun i j => .bl (decide (i ≤ j))) (rI0 fun i j => .bl (decide (i < j))) (tC (.int 0)) (tVar 3) (tC (.int 1000000000000000000)))) (tdYes K) tdNo) (tdLast K)
abbrev tdBody (K : PySem.W.Frag) : TS := tSeq (tIfS (tTest (tOp (rI0 fun i j => .bl (decide (i ≤ j))) (tAt K 2) (tC (.int 0))))
    (tSeq (tAsg (tAt K 1) (gName 2)) (tSeq (tAsg (tPlus (tVar 2) (tC (.int 1))) (gAt 1)) (tSeq (tAsg (tPlus (tTimes (tVar 2) (tC (.int 7919))) (tC (.int 13))) (gName 3))
      (tSeq (tIfS (tTest (tOp (rI0 fun i j => .bl (decide (i < j))) (tVar 2) (tCB (rLen1 K) (tCons (tAt K 0) tNil)))) (tAsg (tOp (rIx K) (tAt K 0) (tVar 2)) (gName 3)) tNext) (tdCell K))))) tNext) (tdEnd K)
theorem dints_inj : ∀ {ns ms : List Int}, ns.map PyData.int = ms.map PyData.int → ns = ms
  | [], [], _ => rfl
  | [], _ :: _, h => by simp at h
  | _ :: _, [], h => by simp at h
  | a :: ns, b :: ms, h => by
    simp only [List.map_cons, List.cons.injEq, PyData.int.injEq] at h
    rw [h.1, dints_inj h.2]
theorem scr_inv {K : PySem.W.Frag} {H : Hp} {v : V} {ns : List Int} (h : Rp K H v (scr ns)) : ∃ a, v = .ref a ∧ SqL K H a (ns.map V.int) := by
  generalize hd : scr ns = d at h
  cases h with
  | scr h =>
    have e := PyData.dict.inj hd
    simp only [List.cons.injEq, Prod.mk.injEq, PyData.list.injEq, and_true, true_and] at e
    rw [dints_inj e]
    exact ⟨_, rfl, h⟩
  | _ => cases hd
section
variable {P : Program} {w : World} {K : PySem.W.Frag} {mg : Str → Option Value} {base : Heap}
theorem draw_ok {st : Stmt} {f : Addr} {fd : FuncData} {k : Nat} (F : Fun K "_law_draw" "_law_draw" st f fd) (S : FnScope ["state", "many", "place", "cell", "one", "two", "taken"] ["state", "many"] (defScope st))
    (hder : ∀ (cdv : Value) (A : Around) (outer : List Env) (s : Shared) (H : Hp) (E : XK), PSs (cxOf CX0 P w K mg base ["state", "many", "place", "cell", "one", "two", "taken"] "_law_draw" (defScope st) f cdv A outer s H E).nox (defBody st) (tdBody K)) :
    FnOk P w K mg base CX0 (k + 1) f fd ["state", "many"] (SpD K okF1 2 M_draw) := by
  refine F.ok S (fun vs H Q E h => ?_) (fun cdv A outer s H vs Q E hr h => ⟨_, hder cdv A outer s H E, ?_⟩)
  · obtain ⟨H0, ha, as, Q', h1, h2, _⟩ := h
    rw [h2]
    rfl
  obtain ⟨H0, ha, as, Q', h1, h2, one, s0, hargs, hv, ⟨n, rfl, n0, n1, hq⟩, k0⟩ := h
  obtain ⟨a, rfl, rfl⟩ : ∃ a, ha = some a ∧ vs = [.ref a, .int n] := by
    cases hargs with
    | hnd e t =>
      cases t with
      | cons r t =>
        cases t
        cases r
        exact ⟨_, e, rfl⟩
  obtain ⟨ds, ⟨na, vs0, hp0, hr0⟩, ns, place, rest, mix, rfl, hpl⟩ := hv a rfl
  obtain ⟨v0, ws, rfl, x0, hr1⟩ := hr0.cons_inv
  obtain ⟨v1, ws, rfl, x1, hr2⟩ := hr1.cons_inv
  obtain ⟨v2, ws, rfl, x2, hr3⟩ := hr2.cons_inv
  obtain ⟨v3, ws, rfl, x3, hr4⟩ := hr3.cons_inv
  rw [hr4.nil_inv] at hp0
  cases x1; cases x2; cases x3
  obtain ⟨sc, rfl, hsc⟩ : ∃ sc, v0 = .ref sc ∧ SqL K H0 sc (ns.map V.int) := scr_inv x0
  let D0 : Ends := { nx := fun _ H' => Q .non H', rt := Q }
  have fin : ∀ (H1 : Hp) (i1 i2 i3 : Int) (y2 y3 y4 y5 : Option V), (∀ b o, H b = some o → b ≠ a → H1 b = some o) → H1 a = some (.lst [.ref sc, .int i1, .int i2, .int i3]) → 0 ≤ i1 →
      tdEnd K D0 [some (.ref a), some (.int n), y2, y3, y4, y5, none] H1 := by
    intro H1 i1 i2 i3 y2 y3 y4 y5 fr1 hp1 hi1
    refine ⟨_, rfl, .inl ⟨a, _, 2, .int i2, rfl, rfl, SqL.of hp1, rfl, .inl ⟨i2, rfl, _, rfl, i2, n, rfl, rfl, n0, ?_⟩⟩⟩
    refine ⟨_, rfl, .inl ⟨a, _, 2, .int i2, rfl, rfl, SqL.of hp1, rfl, .inl ⟨i2, rfl, _, rfl, i2, n, rfl, rfl, div200 n0 n1 i2, ?_⟩⟩⟩
    refine ⟨_, rfl, a, _, 2, 2, rfl, rfl, hp1, rfl, ?_⟩
    refine ⟨_, rfl, k0 _ _ (.v (.int (i2 % n))) H0 (hq _ (Int.emod_nonneg _ (by omega)) (Int.emod_lt_of_pos _ n0)) ?_⟩
    refine ⟨Same.refl _, fun b o e => ?_, fun b o e => .inl e, fun b o e ne => ?_, fun b e => ?_, .int _⟩
    · rw [upd_ne (ne_of_none e na)]
      exact fr1 b o (s0 b o e) (ne_of_none e na)
    · have hb : b ≠ a := fun z => ne (by rw [z])
      rw [upd_ne hb]
      exact fr1 b o e hb
    · cases e
      exact ⟨[scr ns, .int i1, .int (i2 / n), .int i3], ⟨na, _, upd_same, .cons (.scr hsc) (.cons (.int _) (.cons (.int _) (.cons (.int _) .nil)))⟩, ns, i1, i2 / n, i3, rfl, hi1⟩
  have scH : ∀ {H1 : Hp}, (∀ b o, H b = some o → b ≠ a → H1 b = some o) → SqL K H1 sc (ns.map V.int) := fun {H1} fr1 => by
    have e1 : Same H0 H1 := fun b o e => fr1 b o (s0 b o e) (ne_of_none e na)
    exact e1.seq hsc
  refine ⟨_, rfl, .inl ⟨a, _, 2, .int rest, rfl, rfl, SqL.of hp0, rfl, _, _, rfl, rfl, _, rfl, ite2 (fun _ => ?_) (fun _ => ?_)⟩⟩
  · refine ⟨_, rfl, .inl ⟨a, _, 1, .int place, rfl, rfl, SqL.of hp0, rfl, ?_⟩⟩
    refine ⟨_, rfl, _, _, rfl, rfl, _, rfl, a, _, 1, 1, rfl, rfl, hp0, rfl, ?_⟩
    refine ⟨_, rfl, _, _, rfl, rfl, .inr ⟨by decide, by decide⟩, _, _, rfl, rfl, ?_⟩
    have hp1 : (upd H a (.lst [.ref sc, .int (place + 1), .int rest, .int mix])) a = some (.lst [.ref sc, .int (place + 1), .int rest, .int mix]) := upd_same
    have fr1 : ∀ b o, H b = some o → b ≠ a → (upd H a (.lst [.ref sc, .int (place + 1), .int rest, .int mix])) b = some o := fun b o e hb => by rw [upd_ne hb]; exact e
    have next : ∀ cell : Int, tdCell K { D0 with nx := tdEnd K D0 } [some (.ref a), some (.int n), some (.int place), some (.int cell), none, none, none] (upd H a (.lst [.ref sc, .int (place + 1), .int rest, .int mix])) := by
      intro cell
      have last : ∀ (H2 : Hp) (z : Int) (y4 y5 : Option V), (∀ b o, H b = some o → b ≠ a → H2 b = some o) → H2 a = some (.lst [.ref sc, .int (place + 1), .int z, .int mix]) →
          tdLast K { D0 with nx := tdEnd K D0 } [some (.ref a), some (.int n), some (.int place), some (.int cell), y4, y5, none] H2 := by
        intro H2 z y4 y5 fr2 hp2
        refine ⟨_, rfl, .inl ⟨a, _, 3, .int mix, rfl, rfl, SqL.of hp2, rfl, _, _, rfl, rfl, .inr ⟨by decide, by decide⟩, _, rfl, _, _, rfl, rfl, .inl ⟨_, rfl, _, _, rfl, rfl, (by show (0 : Int) < 1000003; decide), ?_⟩⟩⟩
        refine ⟨_, rfl, a, _, 3, 3, rfl, rfl, hp2, rfl, ?_⟩
        exact fin _ (place + 1) z _ _ _ _ _ (fun b o e hb => by rw [upd_ne hb]; exact fr2 b o e hb) upd_same (by omega)
      have yes : tdYes K { D0 with nx := tdLast K { D0 with nx := tdEnd K D0 } } [some (.ref a), some (.int n), some (.int place), some (.int cell), none, none, none] (upd H a (.lst [.ref sc, .int (place + 1), .int rest, .int mix])) := by
        refine ⟨_, rfl, _, _, rfl, rfl, .inr ⟨by decide, by decide⟩, _, rfl, _, _, rfl, rfl, .inr ⟨by decide, by decide⟩, _, _, rfl, rfl, _, rfl, .inl ⟨a, _, 3, .int mix, rfl, rfl, SqL.of hp1, rfl, _, _, rfl, rfl, .inl ⟨_, rfl, _, _, rfl, rfl, (by show (0 : Int) < 2147483647; decide), ?_⟩⟩⟩
        refine ⟨_, rfl, _, _, rfl, rfl, .inr ⟨by decide, by decide⟩, _, rfl, _, _, rfl, rfl, _, _, rfl, rfl, .inl ⟨_, rfl, _, _, rfl, rfl, (by show (0 : Int) < 2147483629; decide), ?_⟩⟩
        refine ⟨_, rfl, _, _, rfl, rfl, .inr ⟨by decide, by decide⟩, _, rfl, _, _, rfl, rfl, _, rfl, a, _, 2, 2, rfl, rfl, hp1, rfl, ?_⟩
        exact last _ _ _ _ (fun b o e hb => by rw [upd_ne hb]; exact fr1 b o e hb) upd_same
      have no : tdNo { D0 with nx := tdLast K { D0 with nx := tdEnd K D0 } } [some (.ref a), some (.int n), some (.int place), some (.int cell), none, none, none] (upd H a (.lst [.ref sc, .int (place + 1), .int rest, .int mix])) := by
        refine ⟨_, rfl, _, rfl, _, rfl, a, _, 2, 2, rfl, rfl, hp1, rfl, ?_⟩
        exact last _ _ _ _ (fun b o e hb => by rw [upd_ne hb]; exact fr1 b o e hb) upd_same
      refine ⟨_, rfl, _, _, rfl, rfl, _, rfl, ?_⟩
      exact ite2 (fun _ => ⟨_, _, rfl, rfl, ⟨_, rfl, ite2 (fun _ => yes) (fun _ => no)⟩⟩) (fun _ => ⟨false, rfl, iteF no⟩)
    refine ⟨_, rfl, _, rfl, .inl ⟨a, _, 0, .ref sc, rfl, rfl, SqL.of hp1, rfl, sc, _, rfl, .inl (scH fr1), _, _, rfl, rfl, _, rfl, ite2 (fun h => ?_) (fun _ => next _)⟩⟩
    have hlt : place.toNat < ns.length := by
      have := of_decide_eq_true h
      rw [List.length_map] at this
      omega
    have hat : atI (ns.map V.int) place = some (.int (ns[place.toNat])) := by
      have e : place = ((place.toNat : Nat) : Int) := by omega
      have z := atI_nat (xs := ns.map V.int) (j := place.toNat) (v := .int (ns[place.toNat])) (by rw [List.getElem?_map, List.getElem?_eq_getElem hlt]; rfl)
      rw [← e] at z
      exact z
    exact ⟨_, rfl, .inl ⟨a, _, 0, .ref sc, rfl, rfl, SqL.of hp1, rfl, _, rfl, .inl ⟨sc, _, place, _, rfl, rfl, scH fr1, hat, next _⟩⟩⟩
  · exact fin H place rest mix none none none none (fun _ _ e _ => e) hp0 hpl
end
end DL
/-! DL, part g: what the printer leans on besides. -/
namespace DL
open PySem L2

/-- a name of the module that holds written data -/
structure GlD (K : PySem.W.Frag) (mg : Str → Option Value) (x : Str) (d : D) where
  v : V
  ex : ∃ u, mg x = some u ∧ RelV v u
  rp : ∀ H, Rp K H v d
section
variable {X : Cx} {ok : List D → Prop} {a b c e : Expr} {es : List Expr} {wa wb wc we : WE} {wr : WA} {wl : WL} {wt wu : WT} {pos p p2 apos : Pos} {x : Str}
theorem pe_gl {d : D} (g : GlD X.K X.mg x d) (hg : Gl X x := by rfl) (hdd : (x == ("__debug__" : Str)) = false := by decide) : PE X (.Name x pos) (tC g.v) := let ⟨u, h1, h2⟩ := g.ex; pe_glob hg h1 h2 hdd
theorem snd_gl {K : PySem.W.Frag} {mg : Str → Option Value} {d : D} (g : GlD K mg x d) : SndE K ok (tC g.v) (wC d) := snd_c g.rp
theorem d_gl {d : D} (g : GlD X.K X.mg x d) (hg : Gl X x := by rfl) (hdd : (x == ("__debug__" : Str)) = false := by decide) : PDE X ok (.Name x pos) (wC d) := ⟨_, pe_gl g hg hdd, snd_gl g⟩
theorem pe_has {k j n : Nat} {M : WM} {t : TA} (h : Has X.prog X.w X.K X.mg X.base ok k x n M) (hr : Room j X.A) (hk : k ≤ j) (ha : PA X (e :: es) t) (hg : Gl X x := by rfl) (hdb : (x == ("__debug__" : Str)) = false := by decide)
    (he : starEach (e :: es) X.env = (false, eval e X.env) :: starEach es X.env := by rfl) (hpl : (backTo pos (starEach es X.env)).any (·.1) = false := by rfl) : PE X (.Call (.Name x p) (e :: es) [] pos) (tCall (SpD X.K ok n M) [] E0 t) :=
  let ⟨f, fd, ps, G, hm, kp, bs⟩ := h.ex; pe_call G (hr.mono hk) hg hm kp bs .nil pass0 ha hdb he hpl
theorem g_cons {vs : List Nat} {wg : WG} {wgs : WGs} (h1 : PDG X ok vs e wg) (h2 : PDGs X ok vs es wgs)
    (hg : ∀ (t : TG) (u : TGs), PG X e t → PGs X es u → PGs X (e :: es) (gCons t u) := by exact fun _ _ h1 h2 => pgs_cons h1 h2) : PDGs X ok vs (e :: es) (gsCons wg wgs) := let ⟨_, a, b⟩ := h1; let ⟨_, c, d⟩ := h2; ⟨_, hg _ _ a c, sgs_cons b d⟩
theorem g_tupN {vs : List Nat} {k n : Nat} {wg : WGs} (h : PDGs X ok vs es wg) (hg : ∀ t, PGs X es t → PG X (.Tuple es k pos) (gTup X.K n t) := by exact fun _ h => pg_tup rfl h) : PDG X ok vs (.Tuple es k pos) (gT n wg) := let ⟨_, a, b⟩ := h; ⟨_, hg _ a, sg_tup b⟩
def rMax2 : List V → Hp → VK → Prop := fun xs H Q => ∃ i j, xs = [.int i, .int j] ∧ Q (.int (if j > i then j else i)) H
def rMin2 : List V → Hp → VK → Prop := fun xs H Q => ∃ i j, xs = [.int i, .int j] ∧ Q (.int (if j < i then j else i)) H
def rListOf (K : PySem.W.Frag) : List V → Hp → VK → Prop := fun xs H Q => ∃ p ys, xs = [.ref p] ∧ (SqL K H p ys ∨ SqT K H p ys) ∧ ∀ l, H l = none → Q (.ref l) (upd H l (.lst ys))
/-- a new list at a name, known at once -/
def wSetF (i : Nat) (a : WL) : WS := fun W env => a env fun ds => W.nx (env.set i (some (.v (.list ds))))
theorem ss_setF {K : PySem.W.Frag} {te : TE} {i : Nat} (he : SndL K ok te wl) : SndS K ok (tAsg te (gName i)) (wSetF i wl) := ss_set he.fz
theorem s_setLcF (i : Nat) {py spos : Pos} {y : Str} {tg iter elt : Expr} {ifs : List Expr} {scope : Scope} {own : List (Str × Nat)} {wi : WI} {wg : WG} {wt : WT} {we : WE} (hc : X.calm = true) (hN : X.N.Nodup) (hi : PDI X ok tg iter wi) (ok' : BlkOk X.N X.env.scope scope own)
    (hg : ∃ g, (∀ (s : Shared) (H : Hp) (C : Addr) (cl : List (Str × Addr)) (fp : List Addr), PG (X.blk s H scope (compEnvC scope cl C X.env) fp) tg g) ∧ SndG X.K ok (own.map (·.2)) g wg)
    (ht : ∃ tt, (∀ (s : Shared) (H : Hp) (C : Addr) (cl : List (Str × Addr)) (fp : List Addr), PTs (X.blk s H scope (compEnvC scope cl C X.env) fp) ifs tt) ∧ SndT X.K ok tt wt)
    (he : ∃ te, (∀ (s : Shared) (H : Hp) (C : Addr) (cl : List (Str × Addr)) (fp : List Addr), PE (X.blk s H scope (compEnvC scope cl C X.env) fp) elt te) ∧ SndE X.K ok te we)
    (hsw : swapsWith (.ListComp elt [⟨tg, iter, ifs, 0⟩] scope pos) (some (.Name y py)) spos.line X.env = pure true) (hy : X.N[i]? = some y := by rfl) (hyl : X.env.scope.names.lookup y = some .local := by rfl)
    (hs : ∀ x, foldedSetIterable iter X.env x = pure x := by intro _; rfl) : PDS X ok (.Assign [.Name y py] (.ListComp elt [⟨tg, iter, ifs, 0⟩] scope pos) spos) (wSetF i (wLc wi wg wt we (own.map (·.2)))) :=
  let ⟨_, i1, i2⟩ := hi; let ⟨_, g1, g2⟩ := hg; let ⟨_, t1, t2⟩ := ht; let ⟨_, e1, e2⟩ := he; ⟨_, ps_setLc hc hN hy hyl hsw i1 ok' g1 t1 e1 hs, ss_setF (sl_lc i2 g2 t2 e2)⟩
end
/-- the law's own promise -/
def M_law : WM := fun as Q => ∃ ns : List Int, as = [.v (scr ns)] ∧ ns.length ≤ 63 ∧ Q (.v (.bool true))
theorem law_sp {K : PySem.W.Frag} {ok : List D → Prop} {H : Hp} {a : Addr} {ns : List Int} {E : XK} (h : SqL K H a (ns.map V.int)) (hl : ns.length ≤ 63) : SpD K ok 1 M_law [.ref a] H (fun v _ => v = .bl true) E := by
  refine ⟨H, none, [.v (scr ns)], fun r => r = .v (.bool true), rfl, rfl, rfl, Same.refl _, .cons (.scr h) .nil, fun _ e => (nomatch e), ⟨ns, rfl, hl, rfl⟩, fun v H' r H01 q P => ?_⟩
  subst q
  cases P.res
  rfl
end DL
/-! DL, part f3: draws of the third family (a list of numbers and a place). -/
namespace DL
open PySem L2
def okF3 (ds : List D) : Prop := ∃ k : Int, ds = [.int k] ∧ 0 ≤ k
/-- _law_next(draws, at, many) -/
def M_next : WM := fun as Q => ∃ (ms : List Int) (n : Int), as = [.v (.list (dints ms)), .hnd, .v (.int n)] ∧ 0 < n ∧ ∀ r : Int, 0 ≤ r → r < n → Q (.v (.int r))
abbrev tnBody (K : PySem.W.Frag) : TS := tSeq (tAsg (tOp (rIx K) (tVar 1) (tC (.int 0))) (gName 3)) (tSeq (tAsg (tPlus (tVar 3) (tC (.int 1))) (gSub (tVar 1) (tC (.int 0)) rSetL))
  (tSeq (tIfS (tTest (tOp (rI0 fun i j => .bl (decide (i < j))) (tVar 3) (tCB (rLen1 K) (tCons (tVar 0) tNil)))) (tRet (tModu (tIn (tOp (rIx K) (tVar 0) (tVar 3))) (tVar 2))) tNext) (tRet (tC (.int 0)))))
theorem list_inv {K : PySem.W.Frag} {H : Hp} {v : V} {ns : List Int} (h : Rp K H v (.list (dints ns))) : ∃ a, v = .ref a ∧ SqL K H a (ns.map V.int) := by
  generalize hd : PyData.list (dints ns) = d at h
  cases h with
  | lst h r =>
    cases hd
    rw [r.ints_inv] at h
    exact ⟨_, rfl, SqL.of h⟩
  | _ => cases hd
section
variable {P : Program} {w : World} {K : PySem.W.Frag} {mg : Str → Option Value} {base : Heap}
theorem next_ok {st : Stmt} {f : Addr} {fd : FuncData} {k : Nat} (F : Fun K "_law_next" "_law_next" st f fd) (S : FnScope ["draws", "at", "many", "index"] ["draws", "at", "many"] (defScope st))
    (hder : ∀ (cdv : Value) (A : Around) (outer : List Env) (s : Shared) (H : Hp) (E : XK), PSs (cxOf CX0 P w K mg base ["draws", "at", "many", "index"] "_law_next" (defScope st) f cdv A outer s H E).nox (defBody st) (tnBody K)) :
    FnOk P w K mg base CX0 (k + 1) f fd ["draws", "at", "many"] (SpD K okF3 3 M_next) := by
  refine F.ok S (fun vs H Q E h => ?_) (fun cdv A outer s H vs Q E hr h => ⟨_, hder cdv A outer s H E, ?_⟩)
  · obtain ⟨H0, ha, as, Q', h1, h2, _⟩ := h
    rw [h2]
    rfl
  obtain ⟨H0, ha, as, Q', h1, h2, one, s0, hargs, hv, ⟨ms, n, rfl, n0, hq⟩, k0⟩ := h
  obtain ⟨a, dv, rfl, rfl, rd⟩ : ∃ a dv, ha = some a ∧ vs = [dv, .ref a, .int n] ∧ Rp K H0 dv (.list (dints ms)) := by
    cases hargs with
    | cons rd t =>
      cases t with
      | hnd e t =>
        cases t with
        | cons r t =>
          cases t
          cases r
          exact ⟨_, _, e, rfl, rd⟩
  obtain ⟨da, rfl, hda⟩ := list_inv rd
  obtain ⟨ds, ⟨na, vs0, hp0, hr0⟩, kk, rfl, hk⟩ := hv a rfl
  obtain ⟨v0, ws, rfl, x0, hr1⟩ := hr0.cons_inv
  rw [hr1.nil_inv] at hp0
  cases x0
  let D0 : Ends := { nx := fun _ H' => Q .non H', rt := Q }
  let H1 : Hp := upd H a (.lst [.int (kk + 1)])
  have fin : ∀ r : Int, 0 ≤ r → r < n → Q (.int r) H1 := fun r r0 r1 => by
    refine k0 _ _ (.v (.int r)) H0 (hq r r0 r1) ?_
    refine ⟨Same.refl _, fun b o e => ?_, fun b o e => .inl e, fun b o e ne => ?_, fun b e => ?_, .int _⟩
    · show (upd H a _) b = some o
      rw [upd_ne (ne_of_none e na)]
      exact s0 b o e
    · have hb : b ≠ a := fun z => ne (by rw [z])
      show (upd H a _) b = some o
      rw [upd_ne hb]
      exact e
    · cases e
      exact ⟨[.int (kk + 1)], ⟨na, _, upd_same, .cons (.int _) .nil⟩, kk + 1, rfl, by omega⟩
  have hda1 : SqL K H1 da (ms.map V.int) := Same.seq (fun b o e => by
    show (upd H a _) b = some o
    rw [upd_ne (ne_of_none e na)]
    exact s0 b o e) hda
  refine ⟨_, rfl, .inl ⟨a, _, 0, .int kk, rfl, rfl, SqL.of hp0, rfl, ?_⟩⟩
  refine ⟨_, rfl, _, _, rfl, rfl, _, rfl, a, _, 0, 0, rfl, rfl, hp0, rfl, ?_⟩
  refine ⟨_, rfl, _, rfl, da, _, rfl, .inl hda1, _, _, rfl, rfl, _, rfl, ite2 (fun h => ?_) (fun _ => fin 0 (Int.le_refl 0) n0)⟩
  have hlt : kk.toNat < ms.length := by
    have := of_decide_eq_true h
    rw [List.length_map] at this
    omega
  have hat : atI (ms.map V.int) kk = some (.int (ms[kk.toNat])) := by
    have e : kk = ((kk.toNat : Nat) : Int) := by omega
    have z := atI_nat (xs := ms.map V.int) (j := kk.toNat) (v := .int (ms[kk.toNat])) (by rw [List.getElem?_map, List.getElem?_eq_getElem hlt]; rfl)
    rw [← e] at z
    exact z
  refine ⟨_, rfl, _, rfl, .inl ⟨da, _, kk, _, rfl, rfl, hda1, hat, .inl ⟨_, rfl, _, rfl, _, _, rfl, rfl, n0, ?_⟩⟩⟩
  exact fin _ (Int.emod_nonneg _ (by omega)) (Int.emod_lt_of_pos _ n0)
end
end DL
/-! DL, part f2: draws of the second family (a pool). -/
namespace DL
open PySem L2
def okF2 (ds : List D) : Prop := ∃ (a : Int) (ns : List Int) (c : Int), ds = [.int a, .list (dints ns), .int c] ∧ -1 ≤ c
/-- _law_wide(script, k) -/
def M_wide : WM := fun as Q => ∃ (ns : List Int) (k : Int), as = [.v (.list (dints ns)), .v (.int k)] ∧ 0 ≤ k ∧ ∀ r : Int, Q (.v (.int r))
/-- _law_take(pool, most) -/
def M_take : WM := fun as Q => ∃ n : Int, as = [.hnd, .v (.int n)] ∧ 0 < n ∧ n < 2 ^ 200 ∧ ∀ r : Int, 0 ≤ r → r < n → Q (.v (.int r))
/-- _law_pool(script) -/
def M_pool : WM := fun as Q => ∃ ns : List Int, as = [.v (scr ns)] ∧ Q (.own [.int 0, .list (dints ns), .int (-1)])
abbrev ttEnd (K : PySem.W.Frag) : TS := tSeq (tAsg (tModu (tIn (tAt K 0)) (tVar 1)) (gName 2)) (tSeq (tAsg (tDivi (tAt K 0) (tVar 1)) (gAt 0)) (tRet (tVar 2)))
abbrev ttNew (K : PySem.W.Frag) : TS := tSeq (tAsg (tPlus (tAt K 2) (tC (.int 1))) (gAt 2)) (tAsg (tCall (SpD K okF2 2 M_wide) [] E0 (tCons (tAt K 1) (tCons (tAt K 2) tNil))) (gAt 0))
abbrev ttBody (K : PySem.W.Frag) : TS := tSeq (tIfS (tTest (tOp (rI0 fun i j => .bl (decide (i < j))) (tAt K 0) (tC (.int 1000)))) (ttNew K) tNext) (ttEnd K)
section
variable {P : Program} {w : World} {K : PySem.W.Frag} {mg : Str → Option Value} {base : Heap}
theorem take_ok {st : Stmt} {f : Addr} {fd : FuncData} {k : Nat} (F : Fun K "_law_take" "_law_take" st f fd) (S : FnScope ["pool", "most", "taken"] ["pool", "most"] (defScope st))
    (hder : ∀ (cdv : Value) (A : Around) (outer : List Env) (s : Shared) (H : Hp) (E : XK) (hr : Room k (A.deeper (PyProof.Rows.envOfC "_law_take" (defScope st) s.heap.objs.size f cdv))), PSs (cxOf CX0 P w K mg base ["pool", "most", "taken"] "_law_take" (defScope st) f cdv A outer s H E).nox (defBody st) (ttBody K)) :
    FnOk P w K mg base CX0 (k + 1) f fd ["pool", "most"] (SpD K okF2 2 M_take) := by
  refine F.ok S (fun vs H Q E h => ?_) (fun cdv A outer s H vs Q E hr h => ⟨_, hder cdv A outer s H E hr, ?_⟩)
  · obtain ⟨H0, ha, as, Q', h1, h2, _⟩ := h
    rw [h2]
    rfl
  obtain ⟨H0, ha, as, Q', h1, h2, one, s0, hargs, hv, ⟨n, rfl, n0, n1, hq⟩, k0⟩ := h
  obtain ⟨a, rfl, rfl⟩ : ∃ a, ha = some a ∧ vs = [.ref a, .int n] := by
    cases hargs with
    | hnd e t =>
      cases t with
      | cons r t =>
        cases t
        cases r
        exact ⟨_, e, rfl⟩
  obtain ⟨ds, ⟨na, vs0, hp0, hr0⟩, rest, ns, c, rfl, hc⟩ := hv a rfl
  obtain ⟨v0, ws, rfl, x0, hr1⟩ := hr0.cons_inv
  obtain ⟨v1, ws, rfl, x1, hr2⟩ := hr1.cons_inv
  obtain ⟨v2, ws, rfl, x2, hr3⟩ := hr2.cons_inv
  rw [hr3.nil_inv] at hp0
  cases x0; cases x2
  let D0 : Ends := { nx := fun _ H' => Q .non H', rt := Q }
  -- the end, from any state that has kept the frame
  have fin : ∀ (H1 H01 : Hp) (i0 i2 : Int), Same H0 H01 → Same H01 H1 → (∀ b o, H01 b = some o → H0 b = some o ∨ H b = none) → (∀ b o, H b = some o → b ≠ a → H1 b = some o) → H01 a = none → H1 a = some (.lst [.int i0, v1, .int i2]) → -1 ≤ i2 →
      ttEnd K D0 [some (.ref a), some (.int n), none] H1 := by
    intro H1 H01 i0 i2 g1 g2 g3 fr1 na1 hp1 hi
    refine ⟨_, rfl, .inl ⟨a, _, 0, .int i0, rfl, rfl, SqL.of hp1, rfl, .inl ⟨i0, rfl, _, rfl, i0, n, rfl, rfl, n0, ?_⟩⟩⟩
    refine ⟨_, rfl, .inl ⟨a, _, 0, .int i0, rfl, rfl, SqL.of hp1, rfl, _, rfl, i0, n, rfl, rfl, div200 n0 n1 i0, ?_⟩⟩
    refine ⟨_, rfl, a, _, 0, 0, rfl, rfl, hp1, rfl, ?_⟩
    refine ⟨_, rfl, k0 _ _ (.v (.int (i0 % n))) H01 (hq _ (Int.emod_nonneg _ (by omega)) (Int.emod_lt_of_pos _ n0)) ?_⟩
    refine ⟨g1, fun b o e => ?_, g3, fun b o e ne => ?_, fun b e => ?_, .int _⟩
    · rw [upd_ne (ne_of_none e na1)]
      exact g2 b o e
    · have hb : b ≠ a := fun z => ne (by rw [z])
      rw [upd_ne hb]
      exact fr1 b o e hb
    · cases e
      exact ⟨[.int (i0 / n), .list (dints ns), .int i2], ⟨na1, _, upd_same, .cons (.int _) (.cons (x1.mono g1) (.cons (.int _) .nil))⟩, i0 / n, ns, i2, rfl, hi⟩
  refine ⟨_, rfl, .inl ⟨a, _, 0, .int rest, rfl, rfl, SqL.of hp0, rfl, _, _, rfl, rfl, _, rfl, ite2 (fun _ => ?_) (fun _ => fin H H0 rest c (Same.refl _) s0 (fun b o e => .inl e) (fun _ _ e _ => e) na hp0 hc)⟩⟩
  refine ⟨_, rfl, .inl ⟨a, _, 2, .int c, rfl, rfl, SqL.of hp0, rfl, _, _, rfl, rfl, ?_⟩⟩
  refine ⟨_, rfl, a, _, 2, 2, rfl, rfl, hp0, rfl, ?_⟩
  let H1 : Hp := upd H a (.lst [.int rest, v1, .int (c + 1)])
  have hp1 : H1 a = some (.lst [.int rest, v1, .int (c + 1)]) := upd_same
  have s1 : Same H0 H1 := fun b o e => by
    show (upd H a _) b = some o
    rw [upd_ne (ne_of_none e na)]
    exact s0 b o e
  refine ⟨_, rfl, .inl ⟨a, _, 1, v1, rfl, rfl, SqL.of hp1, rfl, _, rfl, .inl ⟨a, _, 2, .int (c + 1), rfl, rfl, SqL.of hp1, rfl, ?_⟩⟩⟩
  refine ⟨H0, none, [.v (.list (dints ns)), .v (.int (c + 1))], fun r => ∃ i, r = .v (.int i), rfl, rfl, rfl, s1, .cons x1 (.cons (.int _) .nil), fun _ e => (nomatch e), ⟨ns, c + 1, rfl, by omega, fun r => ⟨r, rfl⟩⟩, fun v H' r H01 q P => ?_⟩
  obtain ⟨i, rfl⟩ := q
  cases P.res
  have hpa : H' a = some (.lst [.int rest, v1, .int (c + 1)]) := P.fr a _ hp1 (by simp)
  refine ⟨_, rfl, a, _, 0, 0, rfl, rfl, hpa, rfl, ?_⟩
  have na1 : H01 a = none := by
    cases e : H01 a with
    | none => rfl
    | some o =>
      rcases P.new a o e with h | h
      · rw [na] at h; cases h
      · have z : H1 a = none := h
        rw [hp1] at z; cases z
  have nw : ∀ b, H1 b = none → H b = none := fun b e => by
    have hb : b ≠ a := fun z => by rw [z, hp1] at e; cases e
    have e' : (upd H a (.lst [.int rest, v1, .int (c + 1)])) b = none := e
    rw [upd_ne hb] at e'
    exact e'
  refine fin _ H01 i (c + 1) P.grow (fun b o e => ?_) (fun b o e => ?_) (fun b o e hb => ?_) na1 upd_same (by omega)
  · rw [upd_ne (ne_of_none e na1)]
    exact P.sub b o e
  · rcases P.new b o e with h | h
    · exact .inl h
    · exact .inr (nw b h)
  · rw [upd_ne hb]
    refine P.fr b o ?_ (by simp)
    show (upd H a _) b = some o
    rw [upd_ne hb]
    exact e
end
end DL
/-! DL, part h: walks of any sequence, backwards, by steps; membership; is True. -/
namespace DL
open PySem L2
/-- what a for walks: a list, a tuple, the script -/
def iSeq (K : PySem.W.Frag) (tl : TE) : TI := fun σ H R => tl σ H fun x H1 => (∃ a, x = .ref a ∧ (∃ xs, SqL K H1 a xs) ∧ R (Itl K a) H1) ∨ (∃ a, x = .ref a ∧ (∃ xs, SqT K H1 a xs) ∧ R (Itt K a) H1)
theorem pi_seq {X : Cx} {tg l : Expr} {tl : TE} (hl : PE X l tl) : PI X tg l (iSeq X.K tl) := by
  refine ⟨fun pins s σ H R I h => ?_⟩
  refine thn (hl.run pins s σ H _ I h) fun v s1 ⟨x, H1, I1, r1, q1⟩ => ?_
  rcases q1 with ⟨a, e, ⟨xs, hq⟩, q⟩ | ⟨a, e, ⟨xs, hq⟩, q⟩
  · subst e
    cases r1
    obtain ⟨its, rv, p, hz⟩ := I1.list hq
    refine wpAny_pyIter_list p.isList ?_
    refine ⟨s1.heap.objs.size, [s1.heap.objs.size], _, _, H1, rfl, I1.kept (t' := s1.toks) fun b o e => Heap.get?_push_of_some _ e, turn_list a _, ⟨_, Heap.get?_push_size _ rfl, rfl, rfl⟩, fun b hb => ?_, q⟩
    have e : b = s1.heap.objs.size := by simpa using hb
    subst e
    exact I1.fpOk (Nat.le_refl _) (I1.hok.fresh (Nat.le_refl _))
  · subst e
    cases r1
    obtain ⟨its, rv, p, hz⟩ := I1.tuple hq
    refine wpAny_pyIter_tuple (show s1.heap.IsTuple a its.toArray from p) ?_
    refine ⟨s1.heap.objs.size, [s1.heap.objs.size], _, _, H1, rfl, I1.kept (t' := s1.toks) fun b o e => Heap.get?_push_of_some _ e, turn_tuple a _, ⟨_, Heap.get?_push_size _ rfl, rfl, rfl⟩, fun b hb => ?_, q⟩
    have e : b = s1.heap.objs.size := by simpa using hb
    subst e
    exact I1.fpOk (Nat.le_refl _) (I1.hok.fresh (Nat.le_refl _))
def iS (a : WE) : WI := fun env Q => a env fun d => match d with
  | .list ds => Q ds
  | .tuple ds => Q ds
  | .dict [(.none, .list ds)] => Q ds
  | _ => False
def iRv (a : WE) : WI := fun env Q => a env fun d => match d with
  | .list ds => Q ds.reverse
  | .tuple ds => Q ds.reverse
  | _ => False
section
variable {K : PySem.W.Frag} {ok : List D → Prop} {ta tb te tf tg' : TE} {wa wb we wf wg : WE}
theorem si_seq (he : SndE K ok te we) : SndI K ok (iSeq K te) (iS we) := fun C H0 σ H env Q R rel hw k => he C H0 σ H env _ _ rel hw fun d v H1 H01 q r e x => by
  have onL : ∀ {a : Addr} {xs : List V} {ds : List D}, SqL K H1 a xs → (∀ H2, Same H01 H2 → SqL K H2 a xs) → Rps K H01 xs ds → Q ds → R (Itl K a) H1 := fun {a xs ds} h1 h hr q => by
    refine k _ _ _ H01 q r e ⟨fun i H2 hi s => ?_, fun H2 s => ⟨xs, h H2 s, by rw [hr.length]; exact Nat.le_refl _⟩, fun i H2 x H3 hi s y => ?_⟩
    · have hi' : i < xs.length := by rw [hr.length]; exact hi
      exact ⟨xs, xs[i], h H2 s, List.getElem?_eq_getElem hi'⟩
    · obtain ⟨rfl, y⟩ := y
      obtain ⟨d, hd, x'⟩ := hr.getV (y xs (h _ s))
      exact ⟨d, hd, .inl ⟨rfl, x'⟩⟩
  try dsimp only at q
  split at q
  · generalize hd : PyData.list _ = d at x
    cases x with
    | lst ha hr =>
      cases hd
      exact .inl ⟨_, rfl, ⟨_, SqL.of (r.sub _ _ ha)⟩, onL (SqL.of (r.sub _ _ ha)) (fun H2 s => SqL.of (s _ _ ha)) hr q⟩
    | _ => cases hd
  · generalize hd : PyData.tuple _ = d at x
    cases x with
    | tup ha hr =>
      cases hd
      rename_i a xs
      refine .inr ⟨a, rfl, ⟨xs, Same.tup r.sub ha⟩, k _ _ _ H01 q r e ⟨fun i H2 hi s => ?_, fun H2 s => ⟨xs, Same.tup s ha, by rw [hr.length]; exact Nat.le_refl _⟩, fun i H2 x H3 hi s y => ?_⟩⟩
      · have hi' : i < xs.length := by rw [hr.length]; exact hi
        exact ⟨xs, xs[i], Same.tup s ha, List.getElem?_eq_getElem hi'⟩
      · obtain ⟨rfl, y⟩ := y
        obtain ⟨d, hd, x'⟩ := hr.getV (y xs (Same.tup s ha))
        exact ⟨d, hd, .inl ⟨rfl, x'⟩⟩
    | _ => cases hd
  · generalize hd : PyData.dict _ = d at x
    cases x with
    | scr h =>
      cases hd
      exact .inl ⟨_, rfl, ⟨_, r.sub.seq h⟩, onL (r.sub.seq h) (fun H2 s => s.seq h) (Rps.of_ints _) q⟩
    | _ => cases hd
  · exact q.elim
theorem rev_get {α : Type} {xs : List α} {i : Nat} (h : i < xs.length) : xs[xs.length - 1 - i]? = xs.reverse[i]? := (List.getElem?_reverse h).symm
theorem si_rev (he : SndE K ok te we) : SndI K ok (RT.iRevA K te) (iRv we) := fun C H0 σ H env Q R rel hw k => he C H0 σ H env _ _ rel hw fun d v H1 H01 q r e x => by
  try dsimp only at q
  split at q
  · cases x with
    | lst ha hr =>
      rename_i a xs
      refine ⟨a, xs, rfl, .inl ⟨SqL.of (r.sub _ _ ha), k _ _ _ H01 q r e ⟨fun i H2 hi s => ?_, fun H2 s => (by show xs.length ≤ _; rw [hr.length, List.length_reverse]; exact Nat.le_refl _), fun i H2 x H3 hi s y => ?_⟩⟩⟩
      · rw [List.length_reverse] at hi
        have hi' : i < xs.length := by rw [hr.length]; exact hi
        exact ⟨hi', xs, xs[xs.length - 1 - i], SqL.of (s _ _ ha), List.getElem?_eq_getElem (by omega)⟩
      · obtain ⟨rfl, y⟩ := y
        rw [List.length_reverse] at hi
        obtain ⟨d, hd, x'⟩ := hr.getV (y xs (SqL.of (s _ _ ha)))
        rw [hr.length, rev_get hi] at hd
        exact ⟨d, hd, .inl ⟨rfl, x'⟩⟩
  · cases x with
    | tup ha hr =>
      rename_i a xs
      refine ⟨a, xs, rfl, .inr ⟨Same.tup r.sub ha, k _ _ _ H01 q r e ⟨fun i H2 hi s => ?_, fun H2 s => (by show xs.length ≤ _; rw [hr.length, List.length_reverse]; exact Nat.le_refl _), fun i H2 x H3 hi s y => ?_⟩⟩⟩
      · rw [List.length_reverse] at hi
        have hi' : i < xs.length := by rw [hr.length]; exact hi
        exact ⟨hi', xs, xs[xs.length - 1 - i], Same.tup s ha, List.getElem?_eq_getElem (by omega)⟩
      · obtain ⟨rfl, y⟩ := y
        rw [List.length_reverse] at hi
        obtain ⟨d, hd, x'⟩ := hr.getV (y xs (Same.tup s ha))
        rw [hr.length, rev_get hi] at hd
        exact ⟨d, hd, .inl ⟨rfl, x'⟩⟩
  · exact q.elim
theorem rngC_get {lo c : Int} {n i : Nat} (h : i < n) : (rngC lo c n)[i]? = some (.int (lo + (i : Nat) * c)) := by
  unfold rngC
  rw [List.getElem?_map, List.getElem?_range h]
  rfl
theorem rngC_len {lo c : Int} {n : Nat} : (rngC lo c n).length = n := by unfold rngC; rw [List.length_map, List.length_range]
theorem si_r3 (he : SndE K ok te we) (hf : SndE K ok tf wf) (hg : SndE K ok tg' wg) : SndI K ok (iRng3 (tCons te (tCons tf (tCons tg' tNil)))) (iR3 we wf wg) := fun C H0 σ H env Q R rel hw k => he C H0 σ H env _ _ rel hw fun d v H1 H01 q r e x =>
  hf C H01 σ H1 env _ _ r q fun d2 v2 H2 H02 q2 r2 e2 x2 => hg C H02 σ H2 env _ _ r2 q2 fun d3 v3 H3 H03 q3 r3 e3 x3 => by
    try dsimp only at q3
    split at q3
    · cases x; cases x2; cases x3
      obtain ⟨n, hn, q3⟩ := q3
      refine ⟨_, _, _, n, rfl, hn, k _ _ _ H03 q3 r3 ((e.trans e2).trans e3) ⟨fun i H hi s => by rw [rngC_len] at hi; exact hi, fun H s => by rw [rngC_len]; exact Nat.le_refl _, fun i H x H' hi s y => ?_⟩⟩
      obtain ⟨rfl, rfl⟩ := y
      rw [rngC_len] at hi
      exact ⟨_, rngC_get hi, .inl ⟨rfl, .int _⟩⟩
    · exact q3.elim
/-! membership -/
def rInA (K : PySem.W.Frag) : R2 := fun x y H Q => rInD K x y H Q ∨ rIn K false x y H Q
def rNinA (K : PySem.W.Frag) : R2 := fun x y H Q => rNotInD K x y H Q ∨ rIn K true x y H Q
theorem op_inA {X : Cx} (hu : X.A.units + 65 < cLine) : OpR X (compareOp .In) (rInA X.K) := by
  intro pins s σ H x y v u Q I rx ry h
  rcases h with h | h
  · exact op_inD hu pins s σ H x y v u Q I rx ry h
  · exact op_in_seq pins s σ H x y v u Q I rx ry h
theorem op_ninA {X : Cx} (hu : X.A.units + 65 < cLine) : OpR X (compareOp .NotIn) (rNinA X.K) := by
  intro pins s σ H x y v u Q I rx ry h
  rcases h with h | h
  · exact op_notInD hu pins s σ H x y v u Q I rx ry h
  · exact op_notIn_seq pins s σ H x y v u Q I rx ry h
def wIn (a b : WE) : WE := fun env Q => a env fun x => b env fun y => match y with
  | .list ds => SeqAt.shaped x = true ∧ SeqAt.shaped (.list ds) = true ∧ Q (.bool (ds.any fun z => PyData.eqv z x))
  | .tuple ds => ∃ i ns, x = .int i ∧ ds = dints ns ∧ Q (.bool (ns.any fun z => z == i))
  | _ => False
def wNin (a b : WE) : WE := fun env Q => a env fun x => b env fun y => match y with
  | .list ds => SeqAt.shaped x = true ∧ SeqAt.shaped (.list ds) = true ∧ Q (.bool (!ds.any fun z => PyData.eqv z x))
  | .tuple ds => ∃ i ns, x = .int i ∧ ds = dints ns ∧ Q (.bool (!ns.any fun z => z == i))
  | _ => False
theorem Bor.rp {H0 H : Hp} {v : V} {d : D} (s : Same H0 H) (h : Bor K H0 H v d) : Rp K H v d := by
  rcases h with h | ⟨p, ds, rfl, rfl, o⟩
  · exact h.mono s
  · obtain ⟨_, vs, hp, hr⟩ := o
    exact .lst hp (hr.mono s)
theorem any_ints (ns : List Int) (i : Int) : (ns.map V.int).any (fun y => eqV y (.int i)) = ns.any fun z => z == i := by
  induction ns with
  | nil => rfl
  | cons a r ih =>
    rw [List.map_cons, List.any_cons, List.any_cons, ih]
    rfl
theorem flat_ints (ns : List Int) : (ns.map V.int).all flatV = true := by
  rw [List.all_eq_true]
  intro x hx
  obtain ⟨i, _, rfl⟩ := List.mem_map.mp hx
  rfl
theorem snd_in (ha : SndE K ok ta wa) (hb : SndB K ok tb wb) : SndE K ok (tOp (rInA K) ta tb) (wIn wa wb) := fun C H0 σ H env Q R rel hw k =>
  ha C H0 σ H env _ _ rel hw fun d v H1 H01 q r1 e1 x1 => hb C H01 σ H1 env _ _ r1 q fun e u H2 H02 q2 r2 e2 x2 => by
    have b := (x2 H2 H02 r2 (Same.refl _)).rp r2.sub
    have a := (x1.mono e2).mono r2.sub
    try dsimp only at q2
    split at q2
    · obtain ⟨s1, s2, q3⟩ := q2
      exact .inl ⟨_, _, a.sh s1, b.sh s2, s1, s2, k _ _ _ _ q3 r2 (e1.trans e2) (.bl _)⟩
    · obtain ⟨i, ns, rfl, rfl, q3⟩ := q2
      cases a
      generalize hd : PyData.tuple (dints ns) = d at b
      cases b with
      | tup h r =>
        cases hd
        rw [r.ints_inv] at h
        refine .inr ⟨_, _, rfl, .inr h, rfl, flat_ints ns, ?_⟩
        show R (V.bl (if (false : Bool) = true then _ else (ns.map V.int).any fun y => eqV y (.int i))) H2
        rw [if_neg (by decide), any_ints]
        exact k _ _ _ _ q3 r2 (e1.trans e2) (.bl _)
      | _ => cases hd
    · exact q2.elim
theorem snd_nin (ha : SndE K ok ta wa) (hb : SndB K ok tb wb) : SndE K ok (tOp (rNinA K) ta tb) (wNin wa wb) := fun C H0 σ H env Q R rel hw k =>
  ha C H0 σ H env _ _ rel hw fun d v H1 H01 q r1 e1 x1 => hb C H01 σ H1 env _ _ r1 q fun e u H2 H02 q2 r2 e2 x2 => by
    have b := (x2 H2 H02 r2 (Same.refl _)).rp r2.sub
    have a := (x1.mono e2).mono r2.sub
    try dsimp only at q2
    split at q2
    · obtain ⟨s1, s2, q3⟩ := q2
      exact .inl ⟨_, _, a.sh s1, b.sh s2, s1, s2, k _ _ _ _ q3 r2 (e1.trans e2) (.bl _)⟩
    · obtain ⟨i, ns, rfl, rfl, q3⟩ := q2
      cases a
      generalize hd : PyData.tuple (dints ns) = d at b
      cases b with
      | tup h r =>
        cases hd
        rw [r.ints_inv] at h
        refine .inr ⟨_, _, rfl, .inr h, rfl, flat_ints ns, ?_⟩
        show R (V.bl (if (true : Bool) = true then !((ns.map V.int).any fun y => eqV y (.int i)) else _)) H2
        rw [if_pos rfl, any_ints]
        exact k _ _ _ _ q3 r2 (e1.trans e2) (.bl _)
      | _ => cases hd
    · exact q2.elim
/-! is True -/
def fIsB : D → D → (D → Prop) → Prop := fun d e Q => match d, e with
  | .bool a, .bool b => Q (.bool (decide (a = b)))
  | _, _ => False
def fIsNotB : D → D → (D → Prop) → Prop := fun d e Q => match d, e with
  | .bool a, .bool b => Q (.bool (!decide (a = b)))
  | _, _ => False
theorem opd_isB : OpD K rIsB fIsB := fun H0 H x y d e Q R s hx hy h k => by
  unfold fIsB at h
  split at h
  · cases hx; cases hy
    exact ⟨_, _, rfl, rfl, k _ _ h (.bl _)⟩
  · exact h.elim
theorem opd_isnotB : OpD K rNotB fIsNotB := fun H0 H x y d e Q R s hx hy h k => by
  unfold fIsNotB at h
  split at h
  · cases hx; cases hy
    exact ⟨_, _, rfl, rfl, k _ _ h (.bl _)⟩
  · exact h.elim
end
section
variable {X : Cx} {ok : List D → Prop} {a b c e : Expr} {es : List Expr} {wa wb wc we : WE} {wr : WA} {wl : WL} {wt wu : WT} {pos p p2 apos : Pos} {x : Str}
theorem i_seq {tg : Expr} (h : PDE X ok e we) : PDI X ok tg e (iS we) := let ⟨_, a, b⟩ := h; ⟨_, pi_seq a, si_seq b⟩
theorem i_rev {tg : Expr} (hm : X.mg "reversed" = none) (h : PDE X ok e we) (hg : Gl X "reversed" := by rfl) (hs : starEach [e] X.env = (false, eval e X.env) :: starEach [] X.env := by rfl) : PDI X ok tg (.Call (.Name "reversed" p) [e] [] pos) (iRv we) := let ⟨_, a, b⟩ := h; ⟨_, RT.pi_revA hg hm a hs, si_rev b⟩
theorem i_r3 {tg : Expr} (hm : X.mg "range" = none) (h : PDE X ok a wa) (h2 : PDE X ok b wb) (h3 : PDE X ok c wc) (hg : Gl X "range" := by rfl)
    (hs : starEach [a, b, c] X.env = (false, eval a X.env) :: starEach [b, c] X.env := by rfl) (hs2 : starEach [b, c] X.env = (false, eval b X.env) :: starEach [c] X.env := by rfl) (hs3 : starEach [c] X.env = (false, eval c X.env) :: starEach [] X.env := by rfl) (hpl : (backTo pos (starEach [b, c] X.env)).any (·.1) = false := by rfl) :
    PDI X ok tg (.Call (.Name "range" p) [a, b, c] [] pos) (iR3 wa wb wc) := let ⟨_, a1, a2⟩ := h; let ⟨_, b1, b2⟩ := h2; let ⟨_, c1, c2⟩ := h3; ⟨_, pi_range3 hg hm (pa_cons a1 (pa_cons b1 (pa_cons c1 pa_nil hs3) hs2) hs) hs hpl, si_r3 a2 b2 c2⟩
theorem units65 {k : Nat} {A : Around} (h : Room k A) : A.units + 65 < cLine := by have := h.un; omega
theorem d_in {k : Nat} (hr : Room k X.A) (ha : PDE X ok a wa) (hb : PDB X ok b wb) (hm : lastMarks [.In] [b] = false := by with_unfolding_all rfl) : PDE X ok (.Compare a [.In] [b] pos) (wIn wa wb) := let ⟨_, a1, a2⟩ := ha; let ⟨_, b1, b2⟩ := hb; ⟨_, pe_cmpR (op_inA (units65 hr)) a1 b1 hm, snd_in a2 b2⟩
theorem d_nin {k : Nat} (hr : Room k X.A) (ha : PDE X ok a wa) (hb : PDB X ok b wb) (hm : lastMarks [.NotIn] [b] = false := by with_unfolding_all rfl) : PDE X ok (.Compare a [.NotIn] [b] pos) (wNin wa wb) := let ⟨_, a1, a2⟩ := ha; let ⟨_, b1, b2⟩ := hb; ⟨_, pe_cmpR (op_ninA (units65 hr)) a1 b1 hm, snd_nin a2 b2⟩
theorem t_in {k : Nat} (hr : Room k X.A) (ha : PDE X ok a wa) (hb : PDB X ok b wb) (hm : lastMarks [.In] [b] = false := by with_unfolding_all rfl) : PDT X ok (.Compare a [.In] [b] pos) (wTest (wIn wa wb)) := let ⟨_, a1, a2⟩ := ha; let ⟨_, b1, b2⟩ := hb; ⟨_, pt_cmpR (op_inA (units65 hr)) a1 b1 hm, snd_test (snd_in a2 b2)⟩
theorem t_nin {k : Nat} (hr : Room k X.A) (ha : PDE X ok a wa) (hb : PDB X ok b wb) (hm : lastMarks [.NotIn] [b] = false := by with_unfolding_all rfl) : PDT X ok (.Compare a [.NotIn] [b] pos) (wTest (wNin wa wb)) := let ⟨_, a1, a2⟩ := ha; let ⟨_, b1, b2⟩ := hb; ⟨_, pt_cmpR (op_ninA (units65 hr)) a1 b1 hm, snd_test (snd_nin a2 b2)⟩
theorem d_isB (ha : PDE X ok a wa) (hb : PDE X ok b wb) : PDE X ok (.Compare a [.Is] [b] pos) (wBin fIsB wa wb) := let ⟨_, a1, a2⟩ := ha; let ⟨_, b1, b2⟩ := hb; ⟨_, pe_cmpR op_isBl a1 b1 (nomark _), snd_bin opd_isB a2 b2⟩
theorem d_isnotB (ha : PDE X ok a wa) (hb : PDE X ok b wb) : PDE X ok (.Compare a [.IsNot] [b] pos) (wBin fIsNotB wa wb) := let ⟨_, a1, a2⟩ := ha; let ⟨_, b1, b2⟩ := hb; ⟨_, pe_cmpR op_notBl a1 b1 (nomark _), snd_bin opd_isnotB a2 b2⟩
theorem t_isB (ha : PDE X ok a wa) (hb : PDE X ok b wb) : PDT X ok (.Compare a [.Is] [b] pos) (wTest (wBin fIsB wa wb)) := let ⟨_, a1, a2⟩ := ha; let ⟨_, b1, b2⟩ := hb; ⟨_, pt_cmpR op_isBl a1 b1 (nomark _), snd_test (snd_bin opd_isB a2 b2)⟩
theorem t_isnotB (ha : PDE X ok a wa) (hb : PDE X ok b wb) : PDT X ok (.Compare a [.IsNot] [b] pos) (wTest (wBin fIsNotB wa wb)) := let ⟨_, a1, a2⟩ := ha; let ⟨_, b1, b2⟩ := hb; ⟨_, pt_cmpR op_notBl a1 b1 (nomark _), snd_test (snd_bin opd_isnotB a2 b2)⟩
end
end DL
/-! DL, part i: a tuple times a number, of any sign. -/
namespace DL
open PySem L2
section
open PySem.Spec PyProof.Rows
/-- t * 1 is t -/
theorem tupTimes_one (a : Addr) (its : Array Value) (m : Nat) (e : Option Addr) (sl : Array (Option Value)) (u : Tok) (k0 : (decide ((1 : Int) < -(2 ^ 63)) || decide ((1 : Int) ≥ 2 ^ 63)) = false) (k1 : (its.isEmpty || (1 : Int) == 1) = true) :
    Meets (Builtin.«tuple.__mul__» ⟨[.ref a, .int 1 u], []⟩) (fun _ R s => s.heap.get? a = some { cls := .type "tuple", dict := e, data := .seq its m, slots := sl } ∧ R (.ok (.ret (Value.ref a))) s) :=
  .of_wp fun _ _ _ _ s h => by
    obtain ⟨h1, h2, h3, h4, h5⟩ := s
    obtain ⟨look, done⟩ := h
    have ix := AutoSeq1.idx_int
    wp_walk using wpAny_loadPart' look
    repeat (first
      | (refine wpAny_ite_false (decide_eq_false (fun z => by rw [k0] at z; cases z)) ?_; wp_walk using wpAny_loadPart' look)
      | (refine wpAny_ite_true (decide_eq_true k1) ?_; wp_walk using wpAny_loadPart' look)
      | (refine wpAny_ite_true (by rfl) ?_; wp_walk using wpAny_loadPart' look))
    exact ⟨_, rfl, done⟩
/-- t * n, n at most 0: a new empty one -/
theorem tupTimes_none (a : Addr) (its : Array Value) (m : Nat) (e : Option Addr) (sl : Array (Option Value)) (x : Int) (u : Tok) (k0 : (decide (x < -(2 ^ 63)) || decide (x ≥ 2 ^ 63)) = false) (k1 : (its.isEmpty || x == 1) = false) (k2 : (decide (x ≤ 0) || its.isEmpty) = true) :
    Meets (Builtin.«tuple.__mul__» ⟨[.ref a, .int x u], []⟩) (fun _ R s => s.heap.get? a = some { cls := .type "tuple", dict := e, data := .seq its m, slots := sl } ∧
      R (.ok (.ret (Value.ref s.heap.objs.size))) { s with heap := s.heap.push { cls := Value.type "tuple", data := Data.seq #[] }, toks := s.toks }) :=
  .of_wp fun _ _ _ _ s h => by
    obtain ⟨h1, h2, h3, h4, h5⟩ := s
    obtain ⟨look, done⟩ := h
    have ix := AutoSeq1.idx_int
    wp_walk using wpAny_loadPart' look
    repeat (first
      | (refine wpAny_ite_false (decide_eq_false (fun z => by rw [k0] at z; cases z)) ?_; wp_walk using wpAny_loadPart' look)
      | (refine wpAny_ite_false (decide_eq_false (fun z => by rw [k1] at z; cases z)) ?_; wp_walk using wpAny_loadPart' look)
      | (refine wpAny_ite_true (decide_eq_true k2) ?_; wp_walk using wpAny_loadPart' look))
    exact ⟨_, rfl, done⟩
/-- t * k -/
def rRepA (K : PySem.W.Frag) : R2 := fun x y H Q => ∃ l k xs, x = .ref l ∧ y = .int k ∧ SqT K H l xs ∧ xs ≠ [] ∧ -1000 ≤ k ∧ k ≤ 1000 ∧ xs.length ≤ 1000 ∧
  (k ≤ 0 → ∀ p, H p = none → Q (.ref p) (upd H p (.tup []))) ∧ (k = 1 → Q (.ref l) H) ∧ (2 ≤ k → ∀ p, H p = none → Q (.ref p) (upd H p (.tup (List.replicate k.toNat xs).flatten)))
theorem op_repA {X : Cx} : OpR X (binaryOp .Mult) (rRepA X.K) := by
  intro pins s σ H x y v u Q I rx ry ⟨a, k, xs, e1, e2, isT, full, lo, hi, short, q0, q1, q2⟩
  subst e1
  subst e2
  by_cases h2 : 2 ≤ k
  · exact op_repT pins s σ H _ _ v u Q I rx ry ⟨a, k, xs, rfl, rfl, isT, full, h2, hi, short, q2 h2⟩
  cases rx
  obtain ⟨tk, rfl⟩ := ry
  obtain ⟨its, vr, isAt, _⟩ := I.tuple isT
  obtain ⟨⟨oc, od, odat, osl⟩, look, hcls, m, hdat⟩ := isAt
  simp only at hcls hdat
  subst hcls
  subst hdat
  have some_ : its.toArray.isEmpty = false := by
    have hlen := vr.length
    cases its with
    | nil => exact absurd (List.eq_nil_of_length_eq_zero hlen) full
    | cons b bs => rfl
  have k0 : (decide (k < -(2 ^ 63)) || decide (k ≥ 2 ^ 63)) = false := by
    have n1 : ¬ k < -(2 ^ 63) := by omega
    have n2 : ¬ k ≥ 2 ^ 63 := by omega
    rw [decide_eq_false n1, decide_eq_false n2]
    rfl
  refine wpAny_binaryOp_repeat_ref (T := "tuple") (U := "int") (by decide) ⟨_, look, rfl⟩ (fun _ => typeIs_int _ k tk) noFill_tuple_mul F.fills_int_mul F.slot_int_rmul repeat_tuple F.slot_int_index.lookup ?_
  refine call_meets F.slot_int_rmul (typeIs_int s k tk) F.entry_int_rmul (F.args_int_rmul_2 _ _) (int_rmul_tuple k tk a its.toArray m od osl) ⟨look, rfl, ⟨_, look, rfl⟩, ?_⟩
  by_cases h1 : k = 1
  · subst h1
    refine call_meets F.slot_tuple_mul ⟨_, look, rfl⟩ F.entry_tuple_mul (F.args_tuple_mul_2 _ _) (tupTimes_one a its.toArray m od osl tk k0 (by rw [some_]; rfl)) ⟨look, ?_⟩
    exact ⟨.ref a, H, I, rfl, q1 rfl⟩
  · refine call_meets F.slot_tuple_mul ⟨_, look, rfl⟩ F.entry_tuple_mul (F.args_tuple_mul_2 _ _) (tupTimes_none a its.toArray m od osl k tk k0 (by rw [some_, Bool.false_or]; exact beq_eq_false_iff_ne.mpr h1) (by rw [decide_eq_true (show k ≤ 0 by omega)]; rfl)) ⟨look, ?_⟩
    refine ⟨.ref s.heap.objs.size, _, I.laid (t' := s.toks) (o := .tup []) (fun _ _ z => Heap.get?_push_of_some _ z) (Nat.le_refl _) ?_, rfl, q0 (by omega) _ (I.hok.fresh (Nat.le_refl _))⟩
    exact ⟨Nat.zero_le _, [], .nil, IsTup.new _ _⟩
end
/-- what a tuple times a number asks -/
def wRepT (a b : WE) : WE := fun env Q => a env fun x => b env fun y => match x, y with
  | .tuple ds, .int k => ds ≠ [] ∧ (-1000 ≤ k ∧ k ≤ 1000) ∧ ds.length ≤ 1000 ∧ Q (.tuple (List.replicate k.toNat ds).flatten)
  | _, _ => False
theorem Rps.reps {K : PySem.W.Frag} {H : Hp} {vs : List V} {ds : List D} (r : Rps K H vs ds) : ∀ n : Nat, Rps K H (List.replicate n vs).flatten (List.replicate n ds).flatten
  | 0 => .nil
  | n + 1 => by
    rw [List.replicate_succ, List.flatten_cons, List.replicate_succ, List.flatten_cons]
    exact r.append (Rps.reps r n)
theorem se_repT {K : PySem.W.Frag} {ok : List D → Prop} {ta tb : TE} {wa wb : WE} (ha : SndE K ok ta wa) (hb : SndE K ok tb wb) : SndE K ok (tOp (rRepA K) ta tb) (wRepT wa wb) := fun C H0 σ H env Q R rel hw k =>
  ha C H0 σ H env _ _ rel hw fun d v H1 H01 q r1 e1 x1 => hb C H01 σ H1 env _ _ r1 q fun e u H2 H02 q2 r2 e2 x2 => by
    try dsimp only at q2
    split at q2
    · rename_i ds j
      obtain ⟨n0, ⟨lo, hi⟩, sh, q3⟩ := q2
      cases x2
      generalize hd : PyData.tuple ds = dd at x1
      cases x1 with
      | tup h r =>
        cases hd
        have h2 := Same.tup e2 h
        have rr := r.mono e2
        have l := r.length
        refine ⟨_, _, _, rfl, rfl, Same.tup r2.sub h2, fun z => n0 (List.eq_nil_of_length_eq_zero (by rw [← l, z]; rfl)), lo, hi, by rw [l]; exact sh, fun z p np => ?_, fun z => ?_, fun z p np => ?_⟩
        · obtain ⟨r4, e4⟩ := r2.laid (o := .tup []) np
          refine k _ _ _ _ q3 r4 ((e1.trans e2).trans e4) (.tup (SqT.of upd_same) ?_)
          rw [show j.toNat = 0 by omega]
          exact .nil
        · subst z
          refine k _ _ _ _ q3 r2 (e1.trans e2) (.tup h2 ?_)
          have := rr.reps 1
          rw [show (List.replicate 1 _).flatten = _ ++ [] from rfl, List.append_nil] at this
          exact this
        · obtain ⟨r4, e4⟩ := r2.laid (o := .tup (_ : List V)) np
          exact k _ _ _ _ q3 r4 ((e1.trans e2).trans e4) (.tup (SqT.of upd_same) ((rr.reps j.toNat).mono e4))
      | _ => cases hd
    · exact q2.elim
theorem d_repT {X : Cx} {ok : List D → Prop} {a b : Expr} {wa wb : WE} {pos : Pos} (ha : PDE X ok a wa) (hb : PDE X ok b wb) : PDE X ok (.BinOp a .Mult b pos) (wRepT wa wb) := let ⟨_, a1, a2⟩ := ha; let ⟨_, b1, b2⟩ := hb; ⟨_, pe_op op_repA a1 b1, se_repT a2 b2⟩
end DL
/-! DL, part j: isinstance of built-in kinds; a list unpacked. -/
namespace DL
open PySem L2
def tyN : D → String
  | .none => "NoneType"
  | .bool _ => "bool"
  | .int _ => "int"
  | .str _ => "str"
  | .list _ => "list"
  | .tuple _ => "tuple"
  | .dict _ => "list"
def fIsI (T : String) : D → (D → Prop) → Prop := fun d Q => ∃ b, kitB (tyN d) T = some b ∧ Q (.bool b)
theorem Rp.ty {K : PySem.W.Frag} {H : Hp} {v : V} {d : D} (h : Rp K H v d) (nd : ∀ kv, d ≠ .dict kv) : TyX K H v (.type (tyN d)) := by
  cases h with
  | non => exact .base .non
  | bl b => exact .base (.bl b)
  | int i => exact .base (.int i)
  | str x => exact .base (.str x)
  | lst h _ => exact .base (.lst h)
  | tup h _ =>
    rcases h with (h | ⟨o, h⟩) | ⟨o, its, n, h, hc, _⟩
    · exact .base (.tup h)
    · exact .fTuple h
    · exact .kTuple h hc
  | scr h => exact absurd rfl (nd _)
  | dct _ _ _ _ => exact absurd rfl (nd _)
  | dci _ _ _ => exact absurd rfl (nd _)
  | fn _ => exact absurd rfl (nd _)
  | ob _ _ _ _ => exact absurd rfl (nd _)
def wIsI (T : String) (a : WE) : WE := fun env Q => a env fun d => match d with
  | .dict _ => False
  | d => fIsI T d Q
section
variable {K : PySem.W.Frag} {ok : List D → Prop} {ta te : TE} {wa we : WE}
theorem snd_isi {T : String} (ha : SndE K ok ta wa) : SndE K ok (tCB (rIsi K) (tCons ta (tCons (tC (.ty T)) tNil))) (wIsI T wa) := fun C H0 σ H env Q R rel hw k =>
  ha C H0 σ H env _ _ rel hw fun d v H1 H01 q r1 e1 x1 => by
    try dsimp only at q
    split at q
    · exact q.elim
    · rename_i nd
      obtain ⟨b, hb, q⟩ := q
      exact ⟨v, .ty T, _, _, b, rfl, .ty T, (x1.mono r1.sub).ty (fun kv z => nd kv z), kit_ty hb, k _ _ _ _ q r1 e1 (.bl b)⟩
theorem sg_unl {vs : List Nat} {n : Nat} {gs : TGs} {wgs : WGs} (h : SndGs K ok vs gs wgs) : SndG K ok vs (gUnl K n gs) (fun d env Q => match d with | .list ds => ds.length = n ∧ wgs ds env Q | _ => False) := fun C H0 σ H env x d Q R rel hx q k => by
  try dsimp only at q
  split at q
  · cases hx with
    | lst ha hr => exact ⟨_, _, rfl, SqL.of (rel.sub _ _ ha), by rw [hr.length]; exact q.1, h C H0 σ H env _ _ _ _ rel hr q.2 k⟩
  · exact q.elim
end
/-- a, b, .. = a list -/
def gL (n : Nat) (r : WGs) : WG := fun d env Q => match d with
  | .list ds => ds.length = n ∧ r ds env Q
  | _ => False
section
variable {X : Cx} {ok : List D → Prop} {a b c e : Expr} {es : List Expr} {wa wb wc we : WE} {pos p p2 apos : Pos} {x : Str}
theorem g_lstN {vs : List Nat} {k n : Nat} {wg : WGs} (hc : X.calm = true) (h : PDGs X ok vs es wg) (hg : ∀ t, PGs X es t → PG X (.Tuple es k pos) (gUnl X.K n t) := by exact fun _ h => pg_unl rfl h) : PDG X ok vs (.Tuple es k pos) (gL n wg) := let ⟨_, a, b⟩ := h; ⟨_, hg _ a, sg_unl b⟩
theorem d_isi {T : String} (hm : X.mg "isinstance" = none) (hmT : X.mg (Str.ofString T) = none) (hv : bootBuiltins (Str.ofString T) = some (.type T)) (ha : PDE X ok a wa) (hg : Gl X "isinstance" := by rfl) (hgT : Gl X (Str.ofString T) := by rfl)
    (hn : (Str.ofString T) ≠ "__name__" := by decide) (hdT : ((Str.ofString T) == ("__debug__" : Str)) = false := by decide)
    (hs : starEach [a, .Name (Str.ofString T) p2] X.env = (false, eval a X.env) :: starEach [.Name (Str.ofString T) p2] X.env := by rfl) (hs2 : starEach [.Name (Str.ofString T) p2] X.env = (false, eval (.Name (Str.ofString T) p2) X.env) :: starEach [] X.env := by rfl)
    (hpl : (backTo pos (starEach [.Name (Str.ofString T) p2] X.env)).any (·.1) = false := by rfl) :
    PDE X ok (.Call (.Name "isinstance" p) [a, .Name (Str.ofString T) p2] [] pos) (wIsI T wa) := let ⟨_, a1, a2⟩ := ha; ⟨_, pe_callB call_isi hg hm (by decide +kernel) (pa_cons a1 (pa_cons (pe_bltn (v := .ty T) hgT hmT hv rfl hn hdT) pa_nil hs2) hs) (by decide) (by decide) hs hpl, snd_isi a2⟩
end
end DL
/-! DL, part k: a comparison of four terms. -/
namespace DL
open PySem PySem.Spec PyProof.Rows L2
section
variable {X : Cx} {ok : List D → Prop} {a b c e : Expr} {wa wb wc we : WE} {pos : Pos}
def tChain4 (r r' r2 : R2) (ta tb tc td : TE) : TE := fun σ H Q => ta σ H fun x H1 => tb σ H1 fun y H2 => r x y H2 fun z H3 => ∃ k, z = .bl k ∧
  (if k = true then tc σ H3 fun u H4 => r' y u H4 fun z' H5 => ∃ k', z' = .bl k' ∧ (if k' = true then td σ H5 fun v H6 => r2 u v H6 Q else Q (.bl false) H5) else Q (.bl false) H3)
theorem pe_chain4 {o1 o2 o3 : CmpOp} {r r' r2 : R2} {ta tb tc td : TE} (h1 : OpR X (compareOp o1) r) (h2 : OpR X (compareOp o2) r') (h3 : OpR X (compareOp o3) r2) (ha : PE X a ta) (hb : PE X b tb) (hc : PE X c tc) (he : PE X e td)
    (hm : lastMarks [o1, o2, o3] [b, c, e] = false := by with_unfolding_all rfl) : PE X (.Compare a [o1, o2, o3] [b, c, e] pos) (tChain4 r r' r2 ta tb tc td) := by
  refine ⟨fun pins s σ H Q I h => ?_⟩
  refine Compare_chain (thn (ha.run pins s σ H _ I h) fun va s1 ⟨x, H1, I1, rx, q1⟩ => chain_link (thn (hb.run pins s1 σ H1 _ I1 q1) fun vb s2 ⟨y, H2, I2, ry, q2⟩ =>
    thn (h1 pins s2 σ H2 x y va vb _ I2 rx ry q2) fun _ s3 ⟨z, H3, I3, rz, k, ez, q3⟩ => ?_)) hm
  subst ez
  cases rz
  refine wpAny_truthy_bool ?_
  cases k with
  | false => exact ite_ff ⟨.bl false, H3, I3, rfl, q3⟩
  | true =>
    refine ite_tt (chain_link (thn (hc.run pins s3 σ H3 _ I3 q3) fun vc s4 ⟨w, H4, I4, rw_, q4⟩ => thn (h2 pins s4 σ H4 y w vb vc _ I4 ry rw_ q4) fun _ s5 ⟨z2, H5, I5, rz2, k2, ez2, q5⟩ => ?_))
    subst ez2
    cases rz2
    refine wpAny_truthy_bool ?_
    cases k2 with
    | false => exact ite_ff ⟨.bl false, H5, I5, rfl, q5⟩
    | true => exact ite_tt (chain_last (thn (he.run pins s5 σ H5 _ I5 q5) fun vd s6 ⟨v, H6, I6, rv, q6⟩ => h3 pins s6 σ H6 w v vc vd Q I6 rw_ rv q6))
/-- both later answers told -/
def wChn4 (f f' f2 : D → D → (D → Prop) → Prop) (a b c e : WE) : WE := fun env Q => a env fun x => b env fun y => f x y fun z => match z with
  | .bool k => ∃ d : Bool, (k = true → c env fun w => f' y w fun z' => match z' with
      | .bool k' => ∃ d' : Bool, (k' = true → e env fun v => f2 w v fun z2 => z2 = .bool d') ∧ (k' && d') = d
      | _ => False) ∧ Q (.bool (k && d))
  | _ => False
theorem snd_chn4 {K : PySem.W.Frag} {ok : List D → Prop} {r r' r2 : R2} {f f' f2 : D → D → (D → Prop) → Prop} {ta tb tc td : TE} {wa wb wc we : WE} (hr : OpD K r f) (hr' : OpD K r' f') (hr2 : OpD K r2 f2) (ha : SndE K ok ta wa) (hb : SndE K ok tb wb) (hc : SndE K ok tc wc) (he : SndE K ok td we) : SndE K ok (tChain4 r r' r2 ta tb tc td) (wChn4 f f' f2 wa wb wc we) := fun C H0 σ H env Q R rel hw k =>
  ha C H0 σ H env _ _ rel hw fun d v H1 H01 q r1 e1 x1 => hb C H01 σ H1 env _ _ r1 q fun e u H2 H02 q2 rl2 e2 x2 =>
    hr H02 H2 v u d e _ _ rl2.sub (x1.mono e2) x2 q2 fun z w qz rz => by
      try dsimp only at qz
      split at qz
      · rename_i k1
        cases rz
        obtain ⟨d1, q3, q4⟩ := qz
        refine ⟨k1, rfl, ?_⟩
        cases k1 with
        | false => exact iteF (k _ _ _ _ q4 rl2 (e1.trans e2) (.bl _))
        | true =>
          refine iteT (hc C H02 σ H2 env _ _ rl2 (q3 rfl) fun g t H3 H03 q5 rl3 e3 x3 => hr' H03 H3 u t e g _ _ rl3.sub (x2.mono e3) x3 q5 fun z2 w2 qz2 rz2 => ?_)
          try dsimp only at qz2
          split at qz2
          · rename_i k2
            cases rz2
            obtain ⟨d2, q6, q7⟩ := qz2
            refine ⟨k2, rfl, ?_⟩
            cases k2 with
            | false =>
              refine iteF (k _ _ _ _ ?_ rl3 ((e1.trans e2).trans e3) (.bl _))
              rw [← q7] at q4
              exact q4
            | true =>
              refine iteT (he C H03 σ H3 env _ _ rl3 (q6 rfl) fun g2 t2 H4 H04 q8 rl4 e4 x4 => hr2 H04 H4 t t2 g g2 _ _ rl4.sub (x3.mono e4) x4 q8 fun z3 w3 qz3 rz3 => ?_)
              subst qz3
              cases rz3
              refine k _ _ _ _ ?_ rl4 (((e1.trans e2).trans e3).trans e4) (.bl _)
              rw [← q7] at q4
              exact q4
          · exact qz2.elim
      · exact qz.elim
theorem d_chn4 {o1 o2 o3 : CmpOp} {r r' r2 : R2} {f f' f2 : D → D → (D → Prop) → Prop} (h1 : OpR X (compareOp o1) r) (f1 : OpD X.K r f) (h2 : OpR X (compareOp o2) r') (g2 : OpD X.K r' f') (h3 : OpR X (compareOp o3) r2) (g3 : OpD X.K r2 f2) (ha : PDE X ok a wa) (hb : PDE X ok b wb) (hc : PDE X ok c wc) (he : PDE X ok e we)
    (hm : lastMarks [o1, o2, o3] [b, c, e] = false := by with_unfolding_all rfl) : PDE X ok (.Compare a [o1, o2, o3] [b, c, e] pos) (wChn4 f f' f2 wa wb wc we) :=
  let ⟨_, a1, a2⟩ := ha; let ⟨_, b1, b2⟩ := hb; let ⟨_, c1, c2⟩ := hc; let ⟨_, e1, e2⟩ := he; ⟨_, pe_chain4 h1 h2 h3 a1 b1 c1 e1 hm, snd_chn4 f1 g2 g3 a2 b2 c2 e2⟩
end
end DL
/-! DL, part l: a dict of one's own, keyed by ints and texts. -/
namespace DL
open PySem PySem.Spec PyProof.Rows L2
def dKey : D → Option Key
  | .int i => some (.inl i)
  | .str s => some (.inr s)
  | _ => none
/-- what a dict holds at a key -/
def dAt : List (Key × D) → Key → Option D
  | [], _ => none
  | p :: r, k => if p.1 = k then some p.2 else dAt r k
def dRep : List (Key × D) → Key → D → List (Key × D)
  | [], _, _ => []
  | p :: r, k, d => (if p.1 = k then (p.1, d) else p) :: dRep r k d
def dSet (kvs : List (Key × D)) (k : Key) (d : D) : List (Key × D) := if (dAt kvs k).isSome = true then dRep kvs k d else kvs ++ [(k, d)]
theorem dAt_snoc (k j : Key) (d : D) : ∀ kvs : List (Key × D), dAt kvs k = none → dAt (kvs ++ [(k, d)]) j = if j = k then some d else dAt kvs j
  | [], _ => by
    show (if k = j then some d else none) = _
    by_cases h : k = j
    · rw [if_pos h, if_pos h.symm]
    · rw [if_neg h, if_neg fun z => h z.symm]; rfl
  | p :: r, hn => by
    have hp : ¬ p.1 = k := fun z => by
      have : dAt (p :: r) k = some p.2 := if_pos z
      rw [this] at hn; cases hn
    have hr : dAt r k = none := by
      have : dAt (p :: r) k = dAt r k := if_neg hp
      rw [← this]; exact hn
    show (if p.1 = j then some p.2 else dAt (r ++ [(k, d)]) j) = if j = k then some d else (if p.1 = j then some p.2 else dAt r j)
    rw [dAt_snoc k j d r hr]
    by_cases h : p.1 = j
    · rw [if_pos h, if_pos h, if_neg fun z => hp (h.trans z)]
    · rw [if_neg h, if_neg h]
theorem dAt_rep (k j : Key) (d : D) : ∀ kvs : List (Key × D), dAt (dRep kvs k d) j = if j = k then (dAt kvs k).map (fun _ => d) else dAt kvs j
  | [] => by
    show none = _
    by_cases h : j = k
    · rw [if_pos h]; rfl
    · rw [if_neg h]; rfl
  | p :: r => by
    have ih := dAt_rep k j d r
    show (if (if p.1 = k then (p.1, d) else p).1 = j then some (if p.1 = k then (p.1, d) else p).2 else dAt (dRep r k d) j) = if j = k then (if p.1 = k then some p.2 else dAt r k).map (fun _ => d) else (if p.1 = j then some p.2 else dAt r j)
    by_cases hk : p.1 = k
    · rw [if_pos hk, if_pos hk]
      show (if p.1 = j then some d else dAt (dRep r k d) j) = _
      by_cases hj : j = k
      · rw [if_pos (hk.trans hj.symm), if_pos hj]; rfl
      · rw [if_neg fun z => hj (z.symm.trans hk), if_neg hj, if_neg fun z => hj (z.symm.trans hk), ih, if_neg hj]
    · rw [if_neg hk, if_neg hk]
      by_cases hj : j = k
      · rw [if_pos hj, if_neg fun z => hk (z.trans hj), ih, if_pos hj]
      · rw [if_neg hj, ih, if_neg hj]
theorem dAt_set (kvs : List (Key × D)) (k j : Key) (d : D) : dAt (dSet kvs k d) j = if j = k then some d else dAt kvs j := by
  unfold dSet
  cases h : dAt kvs k with
  | none => rw [if_neg (show ¬ (none : Option D).isSome = true by decide)]; exact dAt_snoc k j d kvs h
  | some x =>
    rw [if_pos (show (some x).isSome = true from rfl), dAt_rep, h]
    rfl
theorem dRep_len (k : Key) (d : D) : ∀ kvs : List (Key × D), (dRep kvs k d).length = kvs.length
  | [] => rfl
  | p :: r => by
    show (dRep r k d).length + 1 = r.length + 1
    rw [dRep_len k d r]
theorem dSet_len (kvs : List (Key × D)) (k : Key) (d : D) : (dSet kvs k d).length ≤ kvs.length + 1 := by
  unfold dSet
  split
  · rw [dRep_len]; omega
  · rw [List.length_append]; exact Nat.le_refl _
/-! ### what is asked -/
def wSetD (i : Nat) : WS := fun W env => W.nx (env.set i (some (.dct [])))
def wDGet1 (i : Nat) (k : WE) : WE := fun env Q => match get env i with
  | some (.dct kvs) => k env fun y => ∃ z v, dKey y = some z ∧ (dAt kvs z).getD .none = v ∧ Q v
  | _ => False
def wDGet2 (i : Nat) (k a : WE) : WE := fun env Q => match get env i with
  | some (.dct kvs) => k env fun y => a env fun d => ∃ z v, dKey y = some z ∧ (dAt kvs z).getD d = v ∧ Q v
  | _ => False
def wDIx (i : Nat) (k : WE) : WE := fun env Q => match get env i with
  | some (.dct kvs) => k env fun y => ∃ z d, dKey y = some z ∧ dAt kvs z = some d ∧ Q d
  | _ => False
def wDIn (i : Nat) (k : WE) : WE := fun env Q => match get env i with
  | some (.dct kvs) => k env fun y => ∃ z b, dKey y = some z ∧ (dAt kvs z).isSome = b ∧ Q (.bool b)
  | _ => False
def wDNin (i : Nat) (k : WE) : WE := fun env Q => match get env i with
  | some (.dct kvs) => k env fun y => ∃ z b, dKey y = some z ∧ (dAt kvs z).isSome = b ∧ Q (.bool (!b))
  | _ => False
def wDPut (i : Nat) (k a : WE) : WS := fun W env => match get env i with
  | some (.dct kvs) => a env fun d => k env fun y => ∃ z, dKey y = some z ∧ kvs.length < 1000000 ∧ W.nx (env.set i (some (.dct (dSet kvs z d))))
  | _ => False
/-! ### soundness -/
section
variable {K : PySem.W.Frag} {ok : List D → Prop} {C : Ctx} {H0 H : Hp}
theorem dKey_V {v : V} {y : D} {z : Key} (h : Rp K H v y) (e : dKey y = some z) : v = kV z := by
  cases y with
  | int i => cases e; cases h; rfl
  | str s => cases e; cases h; rfl
  | none => cases e
  | bool b => cases e
  | list ds => cases e
  | tuple ds => cases e
  | dict ds => cases e
theorem krps_at : ∀ {ks : List (Key × V)} {es : List (Key × D)}, KRps K H ks es → ∀ z : Key, (valV ks z = none ∧ dAt es z = none) ∨ ∃ v d, valV ks z = some v ∧ dAt es z = some d ∧ Rp K H v d
  | [], [], _, z => .inl ⟨rfl, rfl⟩
  | [], _ :: _, h, _ => by have := h.1; simp at this
  | _ :: _, [], h, _ => by have := h.1; simp at this
  | p :: ks, q :: es, h, z => by
    obtain ⟨h1, h2⟩ := h
    rw [List.map_cons, List.map_cons] at h1 h2
    injection h1 with h3 h4
    obtain ⟨v, ws, e, r1, r2⟩ := h2.cons_inv
    injection e with e1 e2
    by_cases hz : q.1 = z
    · refine .inr ⟨p.2, q.2, valV_pos (h3.trans hz), if_pos hz, ?_⟩
      rw [e1]; exact r1
    · have := krps_at (ks := ks) (es := es) ⟨h4, by rw [e2]; exact r2⟩ z
      rw [valV_neg fun y => hz (h3.symm.trans y)]
      show (_ ∧ (if q.1 = z then some q.2 else dAt es z) = none) ∨ ∃ v d, _ ∧ (if q.1 = z then some q.2 else dAt es z) = some d ∧ _
      rw [if_neg hz]
      exact this
theorem krps_rep : ∀ {ks : List (Key × V)} {es : List (Key × D)}, KRps K H ks es → ∀ (z : Key) {v : V} {d : D}, Rp K H v d → KRps K H (ks.map fun kv => if kv.1 = z then (kv.1, v) else kv) (dRep es z d)
  | [], [], _, z, v, d, _ => ⟨rfl, .nil⟩
  | [], _ :: _, h, _, _, _, _ => by have := h.1; simp at this
  | _ :: _, [], h, _, _, _, _ => by have := h.1; simp at this
  | p :: ks, q :: es, h, z, v, d, hr => by
    obtain ⟨h1, h2⟩ := h
    rw [List.map_cons, List.map_cons] at h1 h2
    injection h1 with h3 h4
    obtain ⟨v', ws, e, r1, r2⟩ := h2.cons_inv
    injection e with e1 e2
    have ih := krps_rep (ks := ks) (es := es) ⟨h4, by rw [e2]; exact r2⟩ z hr
    by_cases hz : q.1 = z
    · rw [List.map_cons, if_pos (h3.trans hz)]
      show KRps K H ((p.1, v) :: _) ((if q.1 = z then (q.1, d) else q) :: _)
      rw [if_pos hz]
      exact ⟨by rw [List.map_cons, List.map_cons, ih.1, h3], .cons hr ih.2⟩
    · rw [List.map_cons, if_neg fun y => hz (h3.symm.trans y)]
      show KRps K H (p :: _) ((if q.1 = z then (q.1, d) else q) :: _)
      rw [if_neg hz]
      exact ⟨by rw [List.map_cons, List.map_cons, ih.1, h3], .cons (by rw [e1]; exact r1) ih.2⟩
theorem krps_set {ks : List (Key × V)} {es : List (Key × D)} (h : KRps K H ks es) (z : Key) {v : V} {d : D} (hr : Rp K H v d) : KRps K H (putK ks z v) (dSet es z d) := by
  unfold putK dSet
  rw [valV_any]
  rcases krps_at h z with ⟨e1, e2⟩ | ⟨w, x, e1, e2, _⟩
  · rw [e1, e2]
    refine ⟨?_, ?_⟩
    · show (ks ++ [(z, v)]).map Prod.fst = (es ++ [(z, d)]).map Prod.fst
      rw [List.map_append, List.map_append, h.1]; rfl
    · show Rps K H ((ks ++ [(z, v)]).map Prod.snd) ((es ++ [(z, d)]).map Prod.snd)
      rw [List.map_append, List.map_append]
      exact h.2.append (.one hr)
  · rw [e1, e2]
    exact krps_rep h z hr
theorem krps_len {ks : List (Key × V)} {es : List (Key × D)} (h : KRps K H ks es) : ks.length = es.length := by
  have := congrArg List.length h.1
  rwa [List.length_map, List.length_map] at this
variable {tk ta : TE} {wk wa : WE} {i : Nat}
theorem ss_setD : SndS K ok (tAsg tDNewK (gName i)) (wSetD i) := fun C H0 σ H env E W rel hw h => by
  show ∀ p, H p = none → _
  intro p hp
  exact h.nx _ _ _ H0 (Same.refl _) ((rel.laid0 hp).setO (s := .dct []) ⟨p, [], rfl, rel.fresh hp, rel.sub.free hp, upd_same, rfl, .nil⟩ rfl (rel.kp.free hp) fun j t _ ht ot => rel.noslot hp j t ht ot) hw
theorem snd_dget1 (hk : SndE K ok tk wk) : SndE K ok (tDGet1 (tVar i) tk) (wDGet1 i wk) := fun C H0 σ H env Q R rel hw k => by
  unfold wDGet1 at hw
  split at hw
  · rename_i kvs hd
    obtain ⟨p, ks, e, n, n0, hp, kr⟩ := rel.slot i _ (get_eq hd)
    refine ⟨.ref p, e, p, rfl, .inl ⟨ks, .inl hp⟩, hk C H0 σ H env _ _ rel hw fun y v H1 H01 q r1 e1 x1 => ?_⟩
    obtain ⟨p', ks1, e', n, n0, hp1, kr1⟩ := r1.slot i _ (get_eq hd)
    rw [e] at e'
    cases e'
    obtain ⟨z, w0, hz, hw0, q⟩ := q
    subst hw0
    have ev := dKey_V x1 hz
    subst ev
    refine ⟨_, DGet.k hp1, ?_⟩
    rcases krps_at kr1 z with ⟨a1, a2⟩ | ⟨w, d, a1, a2, r⟩
    · rw [a1]
      rw [a2] at q
      exact k _ _ H1 H01 q r1 e1 .non
    · rw [a1]
      rw [a2] at q
      exact k _ _ H1 H01 q r1 e1 r
  · exact hw.elim
theorem snd_dget2 (hk : SndE K ok tk wk) (ha : SndE K ok ta wa) : SndE K ok (tDGet2 (tVar i) tk ta) (wDGet2 i wk wa) := fun C H0 σ H env Q R rel hw k => by
  unfold wDGet2 at hw
  split at hw
  · rename_i kvs hd
    obtain ⟨p, ks, e, n, n0, hp, kr⟩ := rel.slot i _ (get_eq hd)
    refine ⟨.ref p, e, p, rfl, .inl ⟨ks, .inl hp⟩, hk C H0 σ H env _ _ rel hw fun y v H1 H01 q r1 e1 x1 => ha C H01 σ H1 env _ _ r1 q fun d u H2 H02 q r2 e2 x2 => ?_⟩
    obtain ⟨p', ks1, e', n, n0, hp1, kr1⟩ := r2.slot i _ (get_eq hd)
    rw [e] at e'
    cases e'
    obtain ⟨z, w0, hz, hw0, q⟩ := q
    subst hw0
    have ev := dKey_V x1 hz
    subst ev
    refine ⟨_, DGet.k hp1, ?_⟩
    rcases krps_at kr1 z with ⟨a1, a2⟩ | ⟨w, d', a1, a2, r⟩
    · rw [a1]
      rw [a2] at q
      exact k _ _ H2 H02 q r2 (e1.trans e2) x2
    · rw [a1]
      rw [a2] at q
      exact k _ _ H2 H02 q r2 (e1.trans e2) r
  · exact hw.elim
theorem snd_dix (hk : SndE K ok tk wk) : SndE K ok (tDGet (tVar i) tk) (wDIx i wk) := fun C H0 σ H env Q R rel hw k => by
  unfold wDIx at hw
  split at hw
  · rename_i kvs hd
    obtain ⟨p, ks, e, n, n0, hp, kr⟩ := rel.slot i _ (get_eq hd)
    refine ⟨.ref p, e, hk C H0 σ H env _ _ rel hw fun y v H1 H01 q r1 e1 x1 => ?_⟩
    obtain ⟨p', ks1, e', n, n0, hp1, kr1⟩ := r1.slot i _ (get_eq hd)
    rw [e] at e'
    cases e'
    obtain ⟨z, d, hz, hd', q⟩ := q
    have ev := dKey_V x1 hz
    subst ev
    rcases krps_at kr1 z with ⟨a1, a2⟩ | ⟨w, d', a1, a2, r⟩
    · rw [hd'] at a2; cases a2
    · rw [hd'] at a2
      cases a2
      exact ⟨p, w, rfl, by rw [← a1]; exact DGet.k hp1, k _ _ H1 H01 q r1 e1 r⟩
  · exact hw.elim
theorem snd_din (hk : SndE K ok tk wk) : SndE K ok (tDIn tk (tVar i)) (wDIn i wk) := fun C H0 σ H env Q R rel hw k => by
  unfold wDIn at hw
  split at hw
  · rename_i kvs hd
    refine hk C H0 σ H env _ _ rel hw fun y v H1 H01 q r1 e1 x1 => ?_
    obtain ⟨p, ks1, e, n, n0, hp1, kr1⟩ := r1.slot i _ (get_eq hd)
    obtain ⟨z, w0, hz, hw0, q⟩ := q
    subst hw0
    have ev := dKey_V x1 hz
    subst ev
    refine ⟨.ref p, e, p, _, rfl, DGet.k hp1, ?_⟩
    have : (valV ks1 z).isSome = (dAt kvs z).isSome := by
      rcases krps_at kr1 z with ⟨a1, a2⟩ | ⟨w, d', a1, a2, r⟩ <;> rw [a1, a2] <;> rfl
    rw [this]
    exact k _ _ H1 H01 q r1 e1 (.bl _)
  · exact hw.elim
theorem snd_dnin (hk : SndE K ok tk wk) : SndE K ok (tDNotIn tk (tVar i)) (wDNin i wk) := fun C H0 σ H env Q R rel hw k => by
  unfold wDNin at hw
  split at hw
  · rename_i kvs hd
    refine hk C H0 σ H env _ _ rel hw fun y v H1 H01 q r1 e1 x1 => ?_
    obtain ⟨p, ks1, e, n, n0, hp1, kr1⟩ := r1.slot i _ (get_eq hd)
    obtain ⟨z, w0, hz, hw0, q⟩ := q
    subst hw0
    have ev := dKey_V x1 hz
    subst ev
    refine ⟨.ref p, e, p, _, rfl, DGet.k hp1, ?_⟩
    have : (valV ks1 z).isSome = (dAt kvs z).isSome := by
      rcases krps_at kr1 z with ⟨a1, a2⟩ | ⟨w, d', a1, a2, r⟩ <;> rw [a1, a2] <;> rfl
    rw [this]
    exact k _ _ H1 H01 q r1 e1 (.bl _)
  · exact hw.elim
theorem ss_dput (ha : SndE K ok ta wa) (hk : SndE K ok tk wk) : SndS K ok (sDPut (tVar i) tk ta) (wDPut i wk wa) := fun C H0 σ H env E W rel hw h => by
  unfold wDPut at hw
  split at hw
  · rename_i kvs hd
    refine ha C H0 σ H env _ _ rel hw fun d v H1 H01 q r1 e1 x1 => ?_
    obtain ⟨p, ks, e, n, n0, hp, kr⟩ := r1.slot i _ (get_eq hd)
    refine ⟨.ref p, e, hk C H01 σ H1 env _ _ r1 q fun y u H2 H02 q r2 e2 x2 => ?_⟩
    obtain ⟨p', ks1, e', n, n0, hp1, kr1⟩ := r2.slot i _ (get_eq hd)
    rw [e] at e'
    cases e'
    obtain ⟨z, hz, hl, q⟩ := q
    have ev := dKey_V x2 hz
    subst ev
    refine ⟨p, _, rfl, DPut.k hp1 (by rw [krps_len kr1]; exact lt_size hl), ?_⟩
    exact h.nx _ _ _ H02 (e1.trans e2) (r2.put (s := .dct kvs) (t := .dct (dSet kvs z d)) (get_eq hd) rfl e (fun y => by obtain ⟨⟨o, w⟩, _⟩ := r2.hv p y; rw [n] at w; cases w) rfl ⟨p, _, rfl, n, n0, upd_same, krps_set kr1 z (x1.mono e2)⟩) q
  · exact hw.elim
end
section
variable {X : Cx} {ok : List D → Prop} {a b e : Expr} {wa wb we : WE} {pos : Pos} {x : Str}
theorem s_setD (i : Nat) {pos' dpos : Pos} (hN : X.N.Nodup) (hi : X.N[i]? = some x := by rfl) (hx : Loc X.env.scope x := by first | exact Or.inl rfl | exact Or.inr rfl) (hs : swapsWith (.Dict [] [] dpos) (some (.Name x pos')) pos.line X.env = pure false := by rfl) (hf : X.fn x = true ∨ X.env.scope.names.lookup x = some .local := by first | exact .inl rfl | exact .inr rfl) :
    PDS X ok (.Assign [.Name x pos'] (.Dict [] [] dpos) pos) (wSetD i) := ⟨_, ps_set hN hi hx pe_dnewK hs hf, ss_setD⟩
theorem d_dget1 {k : Nat} (i : Nat) {apos mp : Pos} (hr : Room k X.A) (ha : PDE X ok a wa) (hN : X.N[i]? = some x := by rfl) (hv : Vis X.env.scope x := by first | exact Or.inl rfl | exact Or.inr (Or.inl rfl) | exact Or.inr (Or.inr rfl)) (hd : (x == ("__debug__" : Str)) = false := by decide) (hcd : (x == ("__classdict__" : Str)) = false := by decide)
    (m1 : attributeBase (.Name x mp) "get" X.env (eval (.Name x mp) X.env) = eval (.Name x mp) X.env := by rfl)
    (m2 : ((backTo pos (starEach [a] X.env)).all (fun x => !x.1) && (backToKw pos (keywordEach [] X.env)).all (fun x => x.1.isSome) && decide (([a] : List Expr).length + ([] : List Keyword).length + (if ([] : List Keyword).isEmpty then 0 else 1) < 30)) = true := by rfl)
    (m3 : (apos.endLine == pos.line) = true := by rfl) (m4 : backTo pos (starEach [a] X.env) = [(false, eval a X.env)] := by rfl) :
    PDE X ok (.Call (.Attribute (.Name x mp) "get" apos) [a] [] pos) (wDGet1 i wa) := let ⟨_, a1, a2⟩ := ha; ⟨_, pe_dget1 (by have := units65 hr; omega) (pe_var hN hv hd hcd) a1 ⟨m1, m2, m3, m4⟩, snd_dget1 a2⟩
theorem d_dget2 {k : Nat} (i : Nat) {apos mp : Pos} (hr : Room k X.A) (ha : PDE X ok a wa) (hb : PDE X ok b wb) (hN : X.N[i]? = some x := by rfl) (hv : Vis X.env.scope x := by first | exact Or.inl rfl | exact Or.inr (Or.inl rfl) | exact Or.inr (Or.inr rfl)) (hd : (x == ("__debug__" : Str)) = false := by decide) (hcd : (x == ("__classdict__" : Str)) = false := by decide)
    (m1 : attributeBase (.Name x mp) "get" X.env (eval (.Name x mp) X.env) = eval (.Name x mp) X.env := by rfl)
    (m2 : ((backTo pos (starEach [a, b] X.env)).all (fun x => !x.1) && (backToKw pos (keywordEach [] X.env)).all (fun x => x.1.isSome) && decide (([a, b] : List Expr).length + ([] : List Keyword).length + (if ([] : List Keyword).isEmpty then 0 else 1) < 30)) = true := by rfl)
    (m3 : (apos.endLine == pos.line) = true := by rfl) (m4 : backTo pos (starEach [a, b] X.env) = [(false, eval a X.env), (false, eval b X.env)] := by rfl) :
    PDE X ok (.Call (.Attribute (.Name x mp) "get" apos) [a, b] [] pos) (wDGet2 i wa wb) := let ⟨_, a1, a2⟩ := ha; let ⟨_, b1, b2⟩ := hb; ⟨_, pe_dget2 (by have := units65 hr; omega) (pe_var hN hv hd hcd) a1 b1 ⟨m1, m2, m3, m4⟩, snd_dget2 a2 b2⟩
theorem d_dix {k : Nat} (i : Nat) {mp : Pos} (hr : Room k X.A) (ha : PDE X ok a wa) (hN : X.N[i]? = some x := by rfl) (hv : Vis X.env.scope x := by first | exact Or.inl rfl | exact Or.inr (Or.inl rfl) | exact Or.inr (Or.inr rfl)) (hd : (x == ("__debug__" : Str)) = false := by decide) (hcd : (x == ("__classdict__" : Str)) = false := by decide)
    (hs : NoSl a := by exact fun _ _ => rfl) : PDE X ok (.Subscript (.Name x mp) a pos) (wDIx i wa) := let ⟨_, a1, a2⟩ := ha; ⟨_, pe_dget (by have := units65 hr; omega) (pe_var hN hv hd hcd) a1 hs, snd_dix a2⟩
theorem d_din {k : Nat} (i : Nat) {mp : Pos} (hr : Room k X.A) (ha : PDE X ok a wa) (hN : X.N[i]? = some x := by rfl) (hv : Vis X.env.scope x := by first | exact Or.inl rfl | exact Or.inr (Or.inl rfl) | exact Or.inr (Or.inr rfl)) (hd : (x == ("__debug__" : Str)) = false := by decide) (hcd : (x == ("__classdict__" : Str)) = false := by decide)
    (hm : behindInMarks .In (.Name x mp) = false := by rfl) : PDE X ok (.Compare a [.In] [.Name x mp] pos) (wDIn i wa) := let ⟨_, a1, a2⟩ := ha; ⟨_, pe_cmp (pc_din (by have := units65 hr; omega) a1 (pe_var hN hv hd hcd)) hm, snd_din a2⟩
theorem d_dnin {k : Nat} (i : Nat) {mp : Pos} (hr : Room k X.A) (ha : PDE X ok a wa) (hN : X.N[i]? = some x := by rfl) (hv : Vis X.env.scope x := by first | exact Or.inl rfl | exact Or.inr (Or.inl rfl) | exact Or.inr (Or.inr rfl)) (hd : (x == ("__debug__" : Str)) = false := by decide) (hcd : (x == ("__classdict__" : Str)) = false := by decide)
    (hm : behindInMarks .NotIn (.Name x mp) = false := by rfl) : PDE X ok (.Compare a [.NotIn] [.Name x mp] pos) (wDNin i wa) := let ⟨_, a1, a2⟩ := ha; ⟨_, pe_cmp (pc_dnotin (by have := units65 hr; omega) a1 (pe_var hN hv hd hcd)) hm, snd_dnin a2⟩
theorem t_din {k : Nat} (i : Nat) {mp : Pos} (hr : Room k X.A) (ha : PDE X ok a wa) (hN : X.N[i]? = some x := by rfl) (hv : Vis X.env.scope x := by first | exact Or.inl rfl | exact Or.inr (Or.inl rfl) | exact Or.inr (Or.inr rfl)) (hd : (x == ("__debug__" : Str)) = false := by decide) (hcd : (x == ("__classdict__" : Str)) = false := by decide)
    (hm : behindInMarks .In (.Name x mp) = false := by rfl) : PDT X ok (.Compare a [.In] [.Name x mp] pos) (wTest (wDIn i wa)) := let ⟨_, a1, a2⟩ := ha; ⟨_, pt_cmp (pc_din (by have := units65 hr; omega) a1 (pe_var hN hv hd hcd)) hm, snd_tB (snd_din a2)⟩
theorem t_dnin {k : Nat} (i : Nat) {mp : Pos} (hr : Room k X.A) (ha : PDE X ok a wa) (hN : X.N[i]? = some x := by rfl) (hv : Vis X.env.scope x := by first | exact Or.inl rfl | exact Or.inr (Or.inl rfl) | exact Or.inr (Or.inr rfl)) (hd : (x == ("__debug__" : Str)) = false := by decide) (hcd : (x == ("__classdict__" : Str)) = false := by decide)
    (hm : behindInMarks .NotIn (.Name x mp) = false := by rfl) : PDT X ok (.Compare a [.NotIn] [.Name x mp] pos) (wTest (wDNin i wa)) := let ⟨_, a1, a2⟩ := ha; ⟨_, pt_cmp (pc_dnotin (by have := units65 hr; omega) a1 (pe_var hN hv hd hcd)) hm, snd_tB (snd_dnin a2)⟩
theorem s_dput {k : Nat} (i : Nat) {tp mp : Pos} {ix : Expr} (hr : Room k X.A) (he : PDE X ok e we) (hk : PDE X ok ix wa) (hN : X.N[i]? = some x := by rfl) (hv : Vis X.env.scope x := by first | exact Or.inl rfl | exact Or.inr (Or.inl rfl) | exact Or.inr (Or.inr rfl)) (hd : (x == ("__debug__" : Str)) = false := by decide) (hcd : (x == ("__classdict__" : Str)) = false := by decide)
    (hs : swapsWith e (some (.Subscript (.Name x mp) ix tp)) pos.line X.env = pure false := by rfl) :
    PDS X ok (.Assign [.Subscript (.Name x mp) ix tp] e pos) (wDPut i wa we) := let ⟨_, e1, e2⟩ := he; let ⟨_, k1, k2⟩ := hk; ⟨_, ps_dput (by have := units65 hr; omega) (pe_var hN hv hd hcd) k1 e1 hs, ss_dput e2 k2⟩
end
end DL
/-! DL, part m: a list of one's own, lent to a call that hands back no list. -/
namespace DL
open PySem PySem.Spec PyProof.Rows L2
/-- no list within -/
def noL : Nat → D → Bool
  | _, .none => true
  | _, .bool _ => true
  | _, .int _ => true
  | _, .str _ => true
  | k + 1, .tuple ds => ds.all (noL k)
  | _, _ => false
def delA (H : Hp) (p : Addr) : Hp := fun b => if b = p then none else H b
theorem delA_ne {H : Hp} {p b : Addr} (h : b ≠ p) : delA H p b = H b := if_neg h
theorem delA_self {H : Hp} {p : Addr} : delA H p p = none := if_pos rfl
section
variable {K : PySem.W.Frag} {ok : List D → Prop}
theorem sqT_del {H : Hp} {p a : Addr} {xs ws : List V} (hp : H p = some (.lst ws)) (h : SqT K H a xs) : SqT K (delA H p) a xs := by
  rcases h with (h | ⟨o, h⟩) | h
  · refine .inl (.inl ?_)
    rw [delA_ne fun z => by subst z; rw [hp] at h; cases h]
    exact h
  · refine .inl (.inr ⟨o, ?_⟩)
    rw [delA_ne fun z => by subst z; rw [hp] at h; cases h]
    exact h
  · exact .inr h
theorem rps_del {H : Hp} {p : Addr} {k : Nat} (ih : ∀ v d, Rp K H v d → noL k d = true → Rp K (delA H p) v d) : ∀ {vs : List V} {ds : List D}, Rps K H vs ds → ds.all (noL k) = true → Rps K (delA H p) vs ds
  | _, _, .nil, _ => .nil
  | _, _, .cons h t, e => by
    rw [List.all_cons, Bool.and_eq_true] at e
    exact .cons (ih _ _ h e.1) (rps_del ih t e.2)
theorem rp_del {H : Hp} {p : Addr} {ws : List V} (hp : H p = some (.lst ws)) : ∀ (k : Nat) (v : V) (d : D), Rp K H v d → noL k d = true → Rp K (delA H p) v d
  | k, _, _, .non, _ => .non
  | k, _, _, .bl b, _ => .bl b
  | k, _, _, .int i, _ => .int i
  | k, _, _, .str x, _ => .str x
  | 0, _, _, .lst _ _, e => by cases e
  | 0, _, _, .tup _ _, e => by cases e
  | 0, _, _, .scr _, e => by cases e
  | k + 1, _, _, .lst _ _, e => by cases e
  | k + 1, _, _, .scr _, e => by cases e
  | 0, _, _, .dct _ _ _ _, e => by cases e
  | 0, _, _, .dci _ _ _, e => by cases e
  | 0, _, _, .fn _, e => by cases e
  | 0, _, _, .ob _ _ _ _, e => by cases e
  | k + 1, _, _, .dct _ _ _ _, e => by cases e
  | k + 1, _, _, .dci _ _ _, e => by cases e
  | k + 1, _, _, .fn _, e => by cases e
  | k + 1, _, _, .ob _ _ _ _, e => by cases e
  | k + 1, _, _, .tup h r, e => .tup (sqT_del hp h) (rps_del (rp_del hp k) r e)
end
def wLend2 (M : WM) (a : WE) (i : Nat) : WE := fun env Q => match get env i with
  | some (.own ds) => a env fun x => M [.v x, .v (.list ds)] fun r => (∃ k, noL k r.val = true) ∧ Q r.val
  | _ => False
section
variable {K : PySem.W.Frag} {ok : List D → Prop}
theorem snd_lend2 {M : WM} {te : TE} {we : WE} {i : Nat} {E : XK} (he : SndE K ok te we) : SndE K ok (tCall (SpD K ok 2 M) [] E (tCons te (tCons (tVar i) tNil))) (wLend2 M we i) := fun C H0 σ H env Q R rel hw k => by
  unfold wLend2 at hw
  split at hw
  · rename_i ds hd
    refine he C H0 σ H env _ _ rel hw fun x u H1 H01 q r1 e1 x1 => ?_
    obtain ⟨p, e, n, n0, vs, hp, hr⟩ := r1.slot i _ (get_eq hd)
    refine ⟨.ref p, e, ?_⟩
    show SpD K ok 2 M ([u, .ref p] ++ []) H1 R E
    rw [List.append_nil]
    have g0 : Same H01 (upd H01 p (.lst vs)) := same_new n0
    refine ⟨upd H01 p (.lst vs), none, [.v x, .v (.list ds)], _, rfl, rfl, rfl, fun b o hb => ?_, .cons (x1.mono g0) (.cons (.lst upd_same (hr.mono g0)) .nil), fun a z => (by cases z), q, fun v H' r H02 hq P => ?_⟩
    · by_cases h : b = p
      · subst h; rw [upd_same] at hb; rw [hp]; exact hb
      · rw [upd_ne h] at hb; exact r1.sub _ _ hb
    have hp2 : H02 p = some (.lst vs) := P.grow _ _ upd_same
    have e0 : Same H01 (delA H02 p) := fun b o hb => by
      have hbp : b ≠ p := fun z => by subst z; rw [n0] at hb; cases hb
      rw [delA_ne hbp]
      exact P.grow _ _ (g0 _ _ hb)
    have kp : Same H1 H' := fun b o hb => P.fr b o hb (by simp)
    have r2 := r1.step e0 (H1 := H') (fun b o hb => by
      have hbp : b ≠ p := fun z => by subst z; rw [delA_self] at hb; cases hb
      rw [delA_ne hbp] at hb
      exact P.sub _ _ hb) (fun b o hb => by
      have hbp : b ≠ p := fun z => by subst z; rw [delA_self] at hb; cases hb
      rw [delA_ne hbp] at hb
      rcases P.new b o hb with z | z
      · rw [upd_ne hbp] at z; exact .inl z
      · exact .inr z) kp
    obtain ⟨⟨m, hm⟩, hq2⟩ := hq
    have z := P.res
    cases r with
    | v d => exact k _ _ H' _ hq2 r2 (e1.trans e0) (rp_del hp2 m _ _ z hm)
    | own ds' => cases m <;> cases hm
    | two d ds' => cases m <;> cases hm
  · exact hw.elim
end
section
variable {X : Cx} {ok : List D → Prop} {a : Expr} {wa : WE} {pos : Pos} {x : Str}
theorem d_lend2 {k j : Nat} {M : WM} {f : Str} {p mp : Pos} (i : Nat) (h : Has X.prog X.w X.K X.mg X.base ok k f 2 M) (hr : Room j X.A) (hk : k ≤ j) (ha : PDE X ok a wa) (hN : X.N[i]? = some x := by rfl) (hv : Vis X.env.scope x := by first | exact Or.inl rfl | exact Or.inr (Or.inl rfl) | exact Or.inr (Or.inr rfl)) (hd : (x == ("__debug__" : Str)) = false := by decide) (hcd : (x == ("__classdict__" : Str)) = false := by decide)
    (hg : Gl X f := by rfl) (hdb : (f == ("__debug__" : Str)) = false := by decide)
    (he : starEach [a, .Name x mp] X.env = (false, eval a X.env) :: starEach [.Name x mp] X.env := by rfl) (hpl : (backTo pos (starEach [.Name x mp] X.env)).any (·.1) = false := by rfl)
    (hs2 : starEach [.Name x mp] X.env = (false, eval (.Name x mp) X.env) :: starEach [] X.env := by rfl) :
    PDE X ok (.Call (.Name f p) [a, .Name x mp] [] pos) (wLend2 M wa i) :=
  let ⟨f, fd, ps, G, hm, kp, bs⟩ := h.ex; let ⟨_, a1, a2⟩ := ha; ⟨_, pe_call G (hr.mono hk) hg hm kp bs .nil pass0 (pa_cons a1 (pa_cons (pe_var hN hv hd hcd) pa_nil hs2) he) hdb he hpl, snd_lend2 a2⟩
end
end DL
/-! DL, part n: a, b, c = x, y, z. -/
namespace DL
open PySem PySem.Spec PyProof.Rows L2
def wPar3 (i j l : Nat) (a : WA) : WS := fun W env => a env fun as => match as with
  | [.v x, .v y, .v z] => W.nx (((env.set i (some (.v x))).set j (some (.v y))).set l (some (.v z)))
  | _ => False
theorem ss_par3 {K : PySem.W.Frag} {ok : List D → Prop} {i j l : Nat} {ta : TA} {wa : WA} (ha : SndA K ok ta wa) : SndS K ok (tPar3 i j l ta) (wPar3 i j l wa) := fun C H0 σ H env E W rel hw h =>
  ha C H0 σ H env _ _ rel hw fun as vs H1 H01 q r e x => by
    try dsimp only at q
    split at q
    · cases x with
      | cons x1 x =>
        cases x with
        | cons x2 x =>
          cases x with
          | cons x3 x =>
            cases x
            refine ⟨_, _, _, rfl, ?_⟩
            exact h.nx _ _ _ H01 e (((r.setV (show Rp K H01 _ _ from x1)).setV (show Rp K H01 _ _ from x2)).setV (show Rp K H01 _ _ from x3)) q
    · exact q.elim
section
variable {X : Cx} {ok : List D → Prop} {a b c : Expr} {wr : WA} {pos : Pos} {x : Str}
theorem s_par3 (i j l : Nat) {y z : Str} {px py pz pt : Pos} {kt k2 pt2} (hc : X.calm = true) (hN : X.N.Nodup) (hij : i ≠ j) (hil : i ≠ l) (hjl : j ≠ l) (ha : PDA X ok [a, b, c] wr) (hi : X.N[i]? = some x := by rfl) (hj : X.N[j]? = some y := by rfl) (hl : X.N[l]? = some z := by rfl)
    (hx : X.env.scope.names.lookup x = some .local := by rfl) (hy : X.env.scope.names.lookup y = some .local := by rfl) (hz : X.env.scope.names.lookup z = some .local := by rfl)
    (hw : swappedStores [.Tuple [.Name x px, .Name y py, .Name z pz] kt pt] (.Tuple [a, b, c] k2 pt2) X.env = pure (some [x, y, z]) := by rfl)
    (hs : swapsWithSole [.Tuple [.Name x px, .Name y py, .Name z pz] kt pt] (.Tuple [a, b, c] k2 pt2) pos.line X.env = pure false := by rfl) :
    PDS X ok (.Assign [.Tuple [.Name x px, .Name y py, .Name z pz] kt pt] (.Tuple [a, b, c] k2 pt2) pos) (wPar3 i j l wr) := let ⟨_, a1, a2⟩ := ha; ⟨_, ps_par3 hc hN hi hj hl hij hil hjl hx hy hz a1 hw hs, ss_par3 a2⟩
end
end DL
/-! DL, part o: str of an int. -/
namespace DL
open PySem PySem.Spec PyProof.Rows L2
def fStr : D → (D → Prop) → Prop := fun d Q => match d with
  | .int i => i.natAbs.log2 < 1920 ∧ Q (.str (toString i))
  | _ => False
theorem cd_str {K : PySem.W.Frag} : CallD1 K (fun xs H Q => ∃ i, xs = [.int i] ∧ i.natAbs.log2 < 1920 ∧ Q (.str (toString i)) H) fStr := fun H0 H x d Q R s hx q k => by
  unfold fStr at q
  split at q
  · cases hx
    exact ⟨_, rfl, q.1, k _ _ q.2 (.str _)⟩
  · exact q.elim
section
variable {X : Cx} {ok : List D → Prop} {a : Expr} {wa : WE} {pos p : Pos}
theorem d_strc (hm : X.mg "str" = none) (ha : PDE X ok a wa) (hg : Gl X "str" := by rfl) (hs : starEach [a] X.env = (false, eval a X.env) :: starEach [] X.env := by rfl) (hpl : (backTo pos (starEach [] X.env)).any (·.1) = false := by rfl) :
    PDE X ok (.Call (.Name "str" p) [a] [] pos) (wUn fStr wa) := d_T1 call_str_int cd_str (by decide +kernel) hm ha (by decide) (by decide) hg hs hpl
end
end DL
/-! DL, part p: xs[i] += e on a list of one's own. -/
namespace DL
open PySem PySem.Spec PyProof.Rows L2
def rGetL : V → V → Hp → VK → Prop := fun o i H Q => ∃ p xs k v, o = .ref p ∧ i = .int k ∧ H p = some (.lst xs) ∧ 0 ≤ k ∧ xs[k.toNat]? = some v ∧ Q v H
theorem get_listP {X : Cx} : PGet X rGetL := by
  intro pins s σ H o i ov iv Q I ro ri h
  obtain ⟨p, xs, k, v, rfl, rfl, hp, h0, hv, q⟩ := h
  cases ro
  obtain ⟨t, rfl⟩ := ri
  obtain ⟨its, r, pl, hz⟩ := I.list (SqL.of hp)
  obtain ⟨w, ew, rw'⟩ := r.get hv
  have hl := r.length
  have hn := line63
  have hk : k.toNat < xs.length := (List.getElem?_eq_some_iff.mp hv).1
  exact wpAny_getItem_list pl.isList h0 (by omega) (by simpa using ew) ⟨v, H, I, rw', q⟩
def wAugI (i : Nat) (k a : WE) : WS := fun W env => match get env i with
  | some (.own ds) => k env fun j => match j with
    | .int z => 0 ≤ z ∧ ∃ x, ds[z.toNat]? = some (.int x) ∧ a env fun y => match y with
      | .int w => W.nx (env.set i (some (.own (ds.set z.toNat (.int (x + w))))))
      | _ => False
    | _ => False
  | _ => False
theorem ss_augI {K : PySem.W.Frag} {ok : List D → Prop} {i : Nat} {tk te : TE} {wk we : WE} (hk : SndE K ok tk wk) (he : SndE K ok te we) : SndS K ok (tAugS (tVar i) tk te rGetL (ipI fun i j => i + j) rSetL) (wAugI i wk we) := fun C H0 σ H env E W rel hw h => by
  unfold wAugI at hw
  split at hw
  · rename_i ds hd
    obtain ⟨p, e, n, n0, vs0, hp0, hr0⟩ := rel.slot i _ (get_eq hd)
    refine ⟨.ref p, e, hk C H0 σ H env _ _ rel hw fun j u H1 H01 q r1 e1 x1 => ?_⟩
    try dsimp only at q
    split at q
    · rename_i z
      cases x1
      obtain ⟨hz, x, hx, q⟩ := q
      obtain ⟨p', e', n, n0, vs, hp, hr⟩ := r1.slot i _ (get_eq hd)
      rw [e] at e'
      cases e'
      have hlt : z.toNat < ds.length := (List.getElem?_eq_some_iff.mp hx).1
      have hv : vs[z.toNat]? = some (vs[z.toNat]'(by rw [hr.length]; exact hlt)) := List.getElem?_eq_getElem _
      have hat : atI ds z = some (.int x) := by
        have : z = ((z.toNat : Nat) : Int) := by omega
        rw [this]
        exact atI_nat hx
      obtain ⟨v, ev, rv⟩ := atI_rel hr hat
      have hv2 : vs[z.toNat]? = some v := by
        have hzz : z = ((z.toNat : Nat) : Int) := by omega
        rw [hzz] at ev
        rw [atI_nat hv] at ev
        rw [hv]
        exact ev
      cases rv
      refine ⟨p, vs, z, _, rfl, rfl, hp, hz, hv2, he C H01 σ H1 env _ _ r1 q fun y w H2 H02 q2 r2 e2 x2 => ?_⟩
      try dsimp only at q2
      split at q2
      · cases x2
        obtain ⟨p', e', n, n0, ws, hp2, hr2⟩ := r2.slot i _ (get_eq hd)
        rw [e] at e'
        cases e'
        refine ⟨_, _, rfl, rfl, p, ws, z, z.toNat, rfl, rfl, hp2, ?_, ?_⟩
        · unfold ixN
          rw [hr2.length, if_pos hz, if_pos (by omega)]
        · exact h.nx _ _ _ H02 (e1.trans e2) (r2.putL (get_eq hd) e n n0 (hr2.set (.int _) _)) q2
      · exact q2.elim
    · exact q.elim
  · exact hw.elim
section
variable {X : Cx} {ok : List D → Prop} {e : Expr} {wa we : WE} {pos : Pos} {x : Str}
theorem s_augI (i : Nat) {tp mp : Pos} {ix : Expr} (hk : PDE X ok ix wa) (he : PDE X ok e we) (hN : X.N[i]? = some x := by rfl) (hv : Vis X.env.scope x := by first | exact Or.inl rfl | exact Or.inr (Or.inl rfl) | exact Or.inr (Or.inr rfl)) (hd : (x == ("__debug__" : Str)) = false := by decide) (hcd : (x == ("__classdict__" : Str)) = false := by decide)
    (ha : ∀ ov iv new, augStore ix ov iv new = (do holding [new, ov, iv] (setItem ov iv new); release [new, ov, iv] []; pure .next) := by intros; rfl) :
    PDS X ok (.AugAssign (.Subscript (.Name x mp) ix tp) .Add e pos) (wAugI i wa we) := let ⟨_, e1, e2⟩ := he; let ⟨_, k1, k2⟩ := hk; ⟨_, ps_augS (pe_var hN hv hd hcd) k1 get_listP e1 ip_add set_list ha, ss_augI k2 e2⟩
end
theorem d_call0 {X : Cx} {ok : List D → Prop} {x : Str} {p pos : Pos} {k j : Nat} {M : WM} (h : Has X.prog X.w X.K X.mg X.base ok k x 0 M) (hr : Room j X.A) (hk : k ≤ j) (hg : Gl X x := by rfl) (hdb : (x == ("__debug__" : Str)) = false := by decide) :
    PDE X ok (.Call (.Name x p) [] [] pos) (wCallP 0 M wNil) :=
  let ⟨f, fd, ps, G, hm, kp, bs⟩ := h.ex; ⟨_, pe_call0 G (hr.mono hk) hg hm kp bs .nil pass0 hdb, snd_call snd_nil⟩
end DL
/-! DL, part v: a dict written out, keys and values whole numbers. -/
namespace DL
open PySem L2
/-- expressions that leave the heap as it is -/
def SndP (K : PySem.W.Frag) (ok : List D → Prop) (te : TE) (we : WE) : Prop := ∀ (C : Ctx) (H0 : Hp) (σ : L2.St) (H : Hp) (env : EnvD) (Q : D → Prop) (R : VK), Rel K ok C H0 σ H env → we env Q → (∀ d v, Q d → Rp K H0 v d → R v H) → te σ H R
def PDP (X : Cx) (ok : List D → Prop) (e : Expr) (we : WE) : Prop := ∃ te, PE X e te ∧ SndP X.K ok te we
section
variable {X : Cx} {ok : List D → Prop} {a b e : Expr} {wa wb we wk : WE} {pos p : Pos} {x : Str}
theorem v_int {i j} : PDP X ok (.Constant (.int i) j pos) (wC (.int i)) := ⟨_, pe_int, fun C H0 σ H env Q R rel hw k => k _ _ hw (.int i)⟩
theorem v_var (i : Nat) (hN : X.N[i]? = some x := by rfl) (hv : Vis X.env.scope x := by first | exact Or.inl rfl | exact Or.inr (Or.inl rfl) | exact Or.inr (Or.inr rfl)) (hd : (x == ("__debug__" : Str)) = false := by decide)
    (hcd : (x == ("__classdict__" : Str)) = false := by decide) : PDP X ok (.Name x pos) (wVar i) := ⟨_, pe_var hN hv hd hcd, fun C H0 σ H env Q R rel hw k => by
  unfold wVar at hw
  split at hw
  · rename_i d hd
    obtain ⟨v, e, r⟩ := rel.slot i _ (get_eq hd)
    exact ⟨v, e, k d v hw r⟩
  · exact hw.elim⟩
theorem v_op {op : Operator} {r : R2} {f : D → D → (D → Prop) → Prop} (ho : OpR X (binaryOp op) r) (hf : OpD X.K r f) (ha : PDP X ok a wa) (hb : PDP X ok b wb) : PDP X ok (.BinOp a op b pos) (wBin f wa wb) :=
  let ⟨_, a1, a2⟩ := ha; let ⟨_, b1, b2⟩ := hb; ⟨_, pe_op ho a1 b1, fun C H0 σ H env Q R rel hw k =>
    a2 C H0 σ H env _ _ rel hw fun d v q rv => b2 C H0 σ H env _ _ rel q fun e u q2 ru => hf H0 H v u d e Q R rel.sub rv ru q2 fun z w qz rz => k z w qz rz⟩
theorem v_add (ha : PDP X ok a wa) (hb : PDP X ok b wb) : PDP X ok (.BinOp a .Add b pos) (wBin fAdd wa wb) := v_op op_add opd_add ha hb
theorem v_sub (ha : PDP X ok a wa) (hb : PDP X ok b wb) : PDP X ok (.BinOp a .Sub b pos) (wBin fSub wa wb) := v_op op_sub opd_sub ha hb
theorem v_mul (ha : PDP X ok a wa) (hb : PDP X ok b wb) : PDP X ok (.BinOp a .Mult b pos) (wBin fMul wa wb) := v_op op_mul opd_mul ha hb
theorem v_neg (ha : PDP X ok a wa) : PDP X ok (.UnaryOp .USub a pos) (wUn fNeg wa) := let ⟨_, a1, a2⟩ := ha; ⟨_, pe_un un_neg a1, fun C H0 σ H env Q R rel hw k => a2 C H0 σ H env _ _ rel hw fun d v q r1 => by
  unfold fNeg at q
  split at q
  · cases r1
    exact ⟨_, rfl, k _ _ q (.int _)⟩
  · exact q.elim⟩
end
def wPairs : List (WE × WE) → EnvD → (List (Int × Int) → Prop) → Prop
  | [], _, Q => Q []
  | p :: r, env, Q => p.1 env fun x => p.2 env fun y => ∃ i j : Int, x = .int i ∧ y = .int j ∧ wPairs r env fun l => Q ((i, j) :: l)
def dMk (l : List (Int × Int)) : List (Key × D) := l.foldl (fun acc kv => dSet acc (.inl kv.1) (.int kv.2)) []
def wSetDisp (i : Nat) (ws : List (WE × WE)) : WS := fun W env => wPairs ws env fun l => l.length ≤ 15 ∧ W.nx (env.set i (some (.dct (dMk l))))
def wDispIx (ws : List (WE × WE)) (wk : WE) : WE := fun env Q => wPairs ws env fun l => l.length ≤ 15 ∧ wk env fun y => ∃ z d, dKey y = some z ∧ dAt (dMk l) z = some d ∧ Q d
def SndPs (K : PySem.W.Frag) (ok : List D → Prop) (trs : List (TE × TE)) (ws : List (WE × WE)) : Prop := ∀ (C : Ctx) (H0 : Hp) (σ : L2.St) (H : Hp) (env : EnvD) (Q : List (Int × Int) → Prop) (R : List (V × V) → Hp → Prop), Rel K ok C H0 σ H env → wPairs ws env Q →
  (∀ l, Q l → R (l.map fun kv => (V.int kv.1, V.int kv.2)) H) → tPairs trs σ H R
def PDPs (X : Cx) (ok : List D → Prop) (pos : Pos) (keys : List (Option Expr)) (values : List Expr) (ws : List (WE × WE)) : Prop := ∃ trs, PPs X pos keys values trs ∧ SndPs X.K ok trs ws
section
variable {X : Cx} {ok : List D → Prop} {k v e : Expr} {ks : List (Option Expr)} {vs : List Expr} {wk wv : WE} {ws : List (WE × WE)} {pos pos' dpos : Pos} {x : Str}
theorem dp_nil : PDPs X ok pos [] [] [] := ⟨_, pps_nil, fun C H0 σ H env Q R rel hw k => k [] hw⟩
theorem dp_cons (hk : PDP X ok k wk) (hv : PDP X ok v wv) (hr : PDPs X ok pos ks vs ws) : PDPs X ok pos (some k :: ks) (v :: vs) ((wk, wv) :: ws) :=
  let ⟨_, k1, k2⟩ := hk; let ⟨_, v1, v2⟩ := hv; let ⟨_, r1, r2⟩ := hr; ⟨_, pps_cons k1 v1 r1, fun C H0 σ H env Q R rel hw kk =>
    k2 C H0 σ H env _ _ rel hw fun d u q ru => v2 C H0 σ H env _ _ rel q fun e w q2 rw => by
      obtain ⟨i, j, rfl, rfl, q3⟩ := q2
      cases ru
      cases rw
      exact r2 C H0 σ H env _ _ rel q3 fun l ql => kk _ ql⟩
theorem krps_merge {K : PySem.W.Frag} {H : Hp} : ∀ (l : List (Int × Int)) {kvs : List (Key × V)} {es : List (Key × D)}, KRps K H kvs es → KRps K H ((l.map fun kv => ((Sum.inl kv.1 : Key), V.int kv.2)).foldl (fun acc kv => putK acc kv.1 kv.2) kvs) (l.foldl (fun acc kv => dSet acc (.inl kv.1) (.int kv.2)) es)
  | [], _, _, h => h
  | p :: l, _, _, h => krps_merge l (krps_set h (.inl p.1) (.int p.2))
theorem disp_rel {K : PySem.W.Frag} {C : Ctx} {H0 H : Hp} {σ : L2.St} {env : EnvD} {trs : List (TE × TE)} {Q : List (Int × Int) → Prop} {R : VK} (h : SndPs K ok trs ws) (rel : Rel K ok C H0 σ H env) (hw : wPairs ws env Q)
    (k : ∀ l p, H p = none → Q l → l.length ≤ 15 ∧ R (.ref p) (upd H p (.dK (mergeK [] (l.map fun kv => ((Sum.inl kv.1 : Key), V.int kv.2)))))) : tDisp trs σ H R := by
  intro p hp
  refine h C H0 σ (upd H p (.dK [])) env Q _ (rel.laid0 hp) hw fun l ql => ⟨upd_same, l.map fun kv => ((Sum.inl kv.1 : Key), V.int kv.2), ?_, ?_, ?_⟩
  · rw [List.map_map]
    rfl
  · rw [List.length_map]
    exact (k l p hp ql).1
  · rw [L2.upd_upd]
    exact (k l p hp ql).2
theorem s_setDisp (i : Nat) (hp : PDPs X ok dpos ks vs ws) (hN : X.N.Nodup) (hall : ks.all (·.isSome) = true := by rfl) (hl : ks.length = vs.length := by rfl) (h0 : ks ≠ [] := by decide) (h15 : ks.length ≤ 15 := by decide) (hi : X.N[i]? = some x := by rfl) (hx : Loc X.env.scope x := by first | exact Or.inl rfl | exact Or.inr rfl)
    (hs : swapsWith (.Dict ks vs dpos) (some (.Name x pos')) pos.line X.env = pure false := by rfl) (hf : X.fn x = true ∨ X.env.scope.names.lookup x = some .local := by first | exact .inl rfl | exact .inr rfl) :
    PDS X ok (.Assign [.Name x pos'] (.Dict ks vs dpos) pos) (wSetDisp i ws) := by
  obtain ⟨trs, p1, p2⟩ := hp
  refine ⟨_, ps_set hN hi hx (pe_disp p1 hall hl h0 h15) hs hf, fun C H0 σ H env E W rel hw h => ?_⟩
  refine disp_rel p2 rel hw fun l p hp ql => ⟨ql.1, ?_⟩
  have kr := krps_merge (K := X.K) (H := H0) l (kvs := []) (es := []) ⟨rfl, .nil⟩
  exact h.nx _ _ _ H0 (Same.refl _) ((rel.laid0 hp).setO (s := .dct (dMk l)) ⟨p, _, rfl, rel.fresh hp, rel.sub.free hp, upd_same, kr⟩ rfl (rel.kp.free hp) fun j t _ ht ot => rel.noslot hp j t ht ot) ql.2
theorem d_dispIx {k : Nat} (hr : Room k X.A) (hp : PDPs X ok dpos ks vs ws) (hk : PDP X ok e wk) (hall : ks.all (·.isSome) = true := by rfl) (hl : ks.length = vs.length := by rfl) (h0 : ks ≠ [] := by decide) (h15 : ks.length ≤ 15 := by decide) (hs : NoSl e := by exact fun _ _ => rfl) :
    PDE X ok (.Subscript (.Dict ks vs dpos) e pos) (wDispIx ws wk) := by
  obtain ⟨trs, p1, p2⟩ := hp
  obtain ⟨tk, k1, k2⟩ := hk
  refine ⟨_, pe_dget (by have := units65 hr; omega) (pe_disp p1 hall hl h0 h15) k1 hs, fun C H0 σ H env Q R rel hw kk => ?_⟩
  refine disp_rel p2 rel hw fun l p hp ql => ⟨ql.1, ?_⟩
  have kr := krps_merge (K := X.K) (H := H0) l (kvs := []) (es := []) ⟨rfl, .nil⟩
  have rel1 : Rel X.K ok C H0 σ (upd H p (.dK (mergeK [] (l.map fun kv => ((Sum.inl kv.1 : Key), V.int kv.2))))) env := rel.laid0 hp
  refine k2 C H0 σ _ env _ _ rel1 ql.2 fun y v q rv => ?_
  obtain ⟨z, d, hz, hd', q⟩ := q
  have ev := dKey_V rv hz
  subst ev
  rcases krps_at kr z with ⟨a1, a2⟩ | ⟨w, d', a1, a2, r⟩
  · have : dAt (dMk l) z = none := a2
    rw [hd'] at this; cases this
  · have a2 : dAt (dMk l) z = some d' := a2
    rw [hd'] at a2
    cases a2
    exact ⟨p, w, rfl, by rw [← a1]; exact DGet.k upd_same, kk _ _ _ H0 q rel1 (Same.refl _) r⟩
end
end DL
/-! DL, part w: list(reversed(x)), x a list. -/
namespace RT
open PySem PySem.Spec PyProof.Rows L2
section
variable {prog : Program} {w : World} {A : Around} {E : Value → Shared → Prop} {s : Shared}
theorem extend_rev {R : Result → Shared → Prop} {it l : Addr} {items : Array Value} (hh : A.handled = none) (hit : s.heap.IsRevIter it l ((items.size : Int) - 1)) (hl : s.heap.IsList l items) (hne : l ≠ it) (hn : items.size ≤ sizeLine) (S : Addr) (c₀ : Nat) (hS : s.heap.get? S = some { cls := .type "list", data := .seq #[] c₀ }) (hSi : S ≠ it) (hSl : S ≠ l)
    (hR : ∀ h' tk acc' c', (∀ b o, b ≠ S → b ≠ it → s.heap.get? b = some o → h'.get? b = some o) → h'.get? S = some { cls := .type "list", dict := none, data := .seq acc' c', slots := #[] } →
      ItemsOf (fun i v => items[items.size - 1 - i]? = some v) acc' items.size → R (.ok (.ret .none)) { s with heap := h', toks := tk }) :
    wpAny (model prog w) A.in1 (Builtin.List.listExtendWith (.ref S) (.ref it) .none)
      (fun fin s' => match fin with | .done f => R (.ok f) s' | .again c' => c'.quiet = true ∧ codeAny (model prog w) A c' R s') (fun e s' => R (.error e) s') s := by
  have W := (Walks.listRev (prog := prog) (w := w) (A := A.in1) hh it l hne items).toS
  have hSf : S ∉ [it, l] := by simp only [List.mem_cons, List.not_mem_nil, or_false, not_or]; exact ⟨hSi, hSl⟩
  have hT : s.TypeIs (.ref it) "list_reverseiterator" := hit.typeIs
  have h1 : Builtin.List.listSameRef (.ref S) (.ref it) = false := by simp [Builtin.List.listSameRef, hSi]
  unfold Builtin.List.listExtendWith
  refine wpAny_bind (wpAny_typeOf hT ?_)
  rw [if_neg (by rw [h1]; decide)]
  refine wpAny_bind (wpAny_pyIter_revIter hit ?_)
  refine wpAny_bind (wpAny_holding ?_)
  unfold Builtin.List.listLengthHint
  refine wpAny_bind (wpAny_specialOf hT nolen_lri ?_)
  show wpAny _ A.in1 (specialOf (Value.ref it) (Str.ofString "__length_hint__") >>= _) _ _ _
  refine wpAny_bind (wpAny_specialOf hT hint_lri ?_)
  generalize hid : ("list_reverseiterator.__length_hint__" : String) = id0
  wp_delta
  rw [show splitId id0 = some ("list_reverseiterator", "__length_hint__") from by subst hid; decide +kernel]
  subst hid
  refine wpAny_bind (wpAny_isInstance (b := true) hT (by rw [isSubtype_type]; kernel_rfl) ?_)
  refine wpAny_pure ?_
  rw [if_neg (by decide)]
  have e0 : ((items.size : Nat) : Int) - 1 - ((0 : Nat) : Int) = (items.size : Int) - 1 := by omega
  refine wpAny_pure ⟨plainId_quiet F.plain_extend_loop _, codeAny_extend_loopS W hn _ hSf _ items.size 0 _ _ _ rfl (Nat.zero_le _) ⟨Nat.zero_le _, by rw [e0]; exact hit, hl⟩ hS (ItemsOf.nil _) fun s' acc' c' hm hS' hacc => ?_⟩
  rw [Moved.eq_with hm]
  refine hR s'.heap s'.toks acc' c' (fun b o hb hbi e => hm.heap b o (fun hmem => ?_) e) hS' hacc
  rcases List.mem_cons.mp hmem with e' | hmem
  · exact hb e'
  · exact hbi (List.mem_singleton.mp hmem)
theorem list_init_rev {R : Result → Shared → Prop} {it l : Addr} {items : Array Value} (hh : A.handled = none) (hit : s.heap.IsRevIter it l ((items.size : Int) - 1)) (hl : s.heap.IsList l items) (hne : l ≠ it) (hn : items.size ≤ sizeLine) (S : Addr) (hS : s.heap.get? S = some { cls := .type "list", data := .seq #[] }) (hSi : S ≠ it) (hSl : S ≠ l)
    (hR : ∀ h' tk acc' c', (∀ b o, b ≠ S → b ≠ it → s.heap.get? b = some o → h'.get? b = some o) → h'.get? S = some { cls := .type "list", dict := none, data := .seq acc' c', slots := #[] } →
      ItemsOf (fun i v => items[items.size - 1 - i]? = some v) acc' items.size → R (.ok (.ret .none)) { s with heap := h', toks := tk }) :
    wpAny (model prog w) A.in1 (Builtin.«list.__init__» ⟨[.ref S, .ref it], []⟩)
      (fun fin s' => match fin with | .done f => R (.ok f) s' | .again c' => c'.quiet = true ∧ codeAny (model prog w) A c' R s') (fun e s' => R (.error e) s') s := by
  show wpAny _ _ (do let old ← Builtin.List.listItems (.ref S); Builtin.List.listUpdate (.ref S) (fun _ => #[]); letGo old.toList.reverse; Builtin.List.listExtendWith (.ref S) (.ref it) .none) _ _ s
  refine wpAny_bind ?_
  unfold Builtin.List.listItems
  refine wpAny_bind (wpAny_seqItems hS rfl (wpAny_pure ?_))
  show wpAny _ _ (updateSeq S (fun _ => #[]) >>= fun _ => letGo (#[] : Array Value).toList.reverse >>= fun _ => Builtin.List.listExtendWith (.ref S) (.ref it) .none) _ _ s
  refine wpAny_bind (wpAny_updateSeq hS rfl ?_)
  have hS₂ := Heap.get?_update_self (Obj.mapSeq (fun _ => (#[] : Array Value))) hS rfl
  have oth : ∀ b o, b ≠ S → s.heap.get? b = some o → (s.heap.update S (Obj.mapSeq (fun _ => (#[] : Array Value)))).get? b = some o :=
    fun b o hb e => (Heap.get?_update_other _ _ (Ne.symm hb)).trans e
  refine wpAny_bind (wpAny_letGo ?_)
  have hit' : (s.heap.update S (Obj.mapSeq (fun _ => (#[] : Array Value)))).IsRevIter it l ((items.size : Int) - 1) := hit.at fun o e => oth it o (Ne.symm hSi) e
  have hl' : (s.heap.update S (Obj.mapSeq (fun _ => (#[] : Array Value)))).IsList l items := by
    obtain ⟨o, ho, h2⟩ := hl
    exact ⟨o, oth l o (Ne.symm hSl) ho, h2⟩
  refine extend_rev hh hit' hl' hne hn S _ hS₂ hSi hSl (fun h' tk acc' c' hk hS' hacc => ?_)
  exact hR h' tk acc' c' (fun b o hb hbi e => hk b o hb hbi (oth b o hb e)) hS' hacc
theorem call_list_rev {it l : Addr} {items : Array Value} {Q : Value → Shared → Prop} (hh : A.handled = none) (hit : s.heap.IsRevIter it l ((items.size : Int) - 1)) (hl : s.heap.IsList l items) (hne : l ≠ it) (hn : items.size ≤ sizeLine)
    (hQ : ∀ h' tk acc' c', (∀ b o, b ≠ it → s.heap.get? b = some o → h'.get? b = some o) → h'.get? s.heap.objs.size = some { cls := .type "list", dict := none, data := .seq acc' c', slots := #[] } →
      ItemsOf (fun i v => items[items.size - 1 - i]? = some v) acc' items.size → Q (.ref s.heap.objs.size) { s with heap := h', toks := tk }) :
    wpAny (model prog w) A (call (.type "list") [.ref it]) Q E s := by
  obtain ⟨oi, hoi, _⟩ := id hit
  obtain ⟨ol, hol, _⟩ := id hl
  have hSi : s.heap.objs.size ≠ it := Nat.ne_of_gt (Heap.lt_size hoi)
  have hSl : s.heap.objs.size ≠ l := Nat.ne_of_gt (Heap.lt_size hol)
  refine callType_codes (Q₁ := fun obj s₁ => obj = .ref s.heap.objs.size ∧ s₁ = { s with heap := s.heap.push { cls := .type "list", data := .seq #[] } }) PySem.F.called_list (PySem.F.typeCall_list_1 _) PySem.F.entry_list_init
    (code_list_new _ ⟨rfl, rfl⟩) fun obj s₁ h₁ => ?_
  obtain ⟨rfl, rfl⟩ := h₁
  have hS : (s.heap.push { cls := .type "list", data := .seq #[] }).get? s.heap.objs.size = some { cls := .type "list", data := .seq #[] } := Heap.get?_push_size _ rfl
  refine ⟨⟨_, hS, rfl⟩, PySem.F.args_list_init_2 _ _, list_init_rev (A := A.in1) (s := { s with heap := s.heap.push { cls := .type "list", data := .seq #[] } }) hh (hit.at fun o e => Heap.get?_push_of_some _ e) (hl.push _) hne hn _ hS hSi hSl (fun h' tk acc' c' hk hS' hacc => ?_)⟩
  exact ⟨rfl, hQ h' tk acc' c' (fun b o hb e => hk b o (Nat.ne_of_lt (Heap.lt_size e)) hb (Heap.get?_push_of_some _ e)) hS' hacc⟩
end
def tLstRev (K : PySem.W.Frag) (te : TE) : TE := fun σ H Q => te σ H fun v H1 => ∃ (a : Addr) (xs : List V), v = .ref a ∧ SqL K H1 a xs ∧ ∀ q, H1 q = none → Q (.ref q) (upd H1 q (.lst xs.reverse))
theorem pe_lstRev {X : Cx} {e : Expr} {te : TE} {p p2 pos pos2 : Pos} (hc : X.calm = true) (hg : Gl X "list") (hm : X.mg "list" = none) (hg2 : Gl X "reversed") (hm2 : X.mg "reversed" = none) (he : PE X e te)
    (hs : starEach [e] X.env = (false, eval e X.env) :: starEach [] X.env := by rfl)
    (hs2 : starEach [.Call (.Name "reversed" p2) [e] [] pos2] X.env = (false, eval (.Call (.Name "reversed" p2) [e] [] pos2) X.env) :: starEach [] X.env := by rfl) :
    PE X (.Call (.Name "list" p) [.Call (.Name "reversed" p2) [e] [] pos2] [] pos) (tLstRev X.K te) := by
  refine ⟨fun pins s σ H Q I h => ?_⟩
  refine Call_ (ld_blt I hg hm boot_list (PyProof.Rows.callWith_type1 (args_cons (Call_ (ld_blt I hg2 hm2 PyProof.Rows.boot_reversed (PyProof.Rows.callWith_type1 (args_cons (thn (he.run pins s σ H _ I h) fun u s1 ⟨v, H1, I1, r1, q1⟩ => args_nil ?_) hs) hs rfl))) hs2) hs2 rfl))
  obtain ⟨a, xs, ev, hq, q⟩ := q1
  subst ev
  obtain rfl : u = Value.ref a := r1
  obtain ⟨its, rv, p', hz⟩ := I1.list hq
  refine call_reversed_list p'.isList (args_nil ?_)
  have hl := p'.isList
  obtain ⟨ol, hol, _⟩ := id hl
  have hne : a ≠ s1.heap.objs.size := Nat.ne_of_lt (Heap.lt_size hol)
  have hn : its.toArray.size ≤ sizeLine := by rw [List.size_toArray, ← rv.length]; exact hz
  refine call_list_rev (s := { s1 with heap := s1.heap.push (revObj a ((its.toArray.size : Int) - 1)) }) (I1.ok.hd hc) ⟨_, Heap.get?_push_size _ rfl, rfl, rfl⟩ (hl.push _) hne hn fun h' tk acc c' hk e' hi => ?_
  have hle : s1.heap.objs.size ≤ (s1.heap.push (revObj a ((its.toArray.size : Int) - 1))).objs.size := by
    show _ ≤ (Array.push _ _).size
    rw [Array.size_push]
    exact Nat.le_succ _
  have k : ∀ b o, s1.heap.get? b = some o → h'.get? b = some o := fun b o e => hk b o (Nat.ne_of_lt (Heap.lt_size e)) (Heap.get?_push_of_some _ e)
  refine ⟨.ref (s1.heap.push (revObj a ((its.toArray.size : Int) - 1))).objs.size, upd H1 (s1.heap.push (revObj a ((its.toArray.size : Int) - 1))).objs.size (.lst xs.reverse), I1.laid (t' := tk) k hle (show ObjOk X.prog X.w _ _ _ (.lst xs.reverse) from ⟨by rw [List.length_reverse]; exact hz, acc.toList, c', vals_rev rv hi, ?_⟩), rfl, q _ (I1.hok.fresh hle)⟩
  rw [Array.toArray_toList]
  exact e'
end RT
namespace DL
open PySem L2
def wLstRev (a : WE) : WL := fun env Q => a env fun x => match x with
  | .list ds => Q ds.reverse
  | _ => False
theorem Rps.reverse {K : PySem.W.Frag} {H : Hp} : ∀ {vs : List V} {ds : List D}, Rps K H vs ds → Rps K H vs.reverse ds.reverse
  | _, _, .nil => .nil
  | _, _, .cons h t => by
    rw [List.reverse_cons, List.reverse_cons]
    exact (Rps.reverse t).append (.one h)
section
variable {K : PySem.W.Frag} {ok : List D → Prop} {ta : TE} {wa : WE}
theorem sl_lstRev (ha : SndB K ok ta wa) : SndL K ok (RT.tLstRev K ta) (wLstRev wa) := fun C H0 σ H env Q R rel hw k =>
  ha C H0 σ H env _ _ rel hw fun d v H1 H01 q r1 e1 x1 => by
    have b := x1 H1 H01 r1 (Same.refl _)
    try dsimp only at q
    split at q
    · obtain ⟨p, vs, rfl, r, h⟩ := b.lst r1.sub
      exact ⟨p, vs, rfl, SqL.of h, fun l nl => k _ _ _ _ q (r1.laid0 nl) e1 ⟨r1.fresh nl, ⟨r1.sub.free nl, _, upd_same, r.reverse⟩, r1.noslot nl, r1.kp.free nl⟩⟩
    · exact q.elim
end
section
variable {X : Cx} {ok : List D → Prop} {a : Expr} {wa : WE} {pos p p2 pos2 : Pos}
theorem l_lstRev (hc : X.calm = true) (hm : X.mg "list" = none) (hm2 : X.mg "reversed" = none) (ha : PDB X ok a wa) (hg : Gl X "list" := by rfl) (hg2 : Gl X "reversed" := by rfl) (hs : starEach [a] X.env = (false, eval a X.env) :: starEach [] X.env := by rfl)
    (hs2 : starEach [.Call (.Name "reversed" p2) [a] [] pos2] X.env = (false, eval (.Call (.Name "reversed" p2) [a] [] pos2) X.env) :: starEach [] X.env := by rfl) :
    PDL X ok (.Call (.Name "list" p) [.Call (.Name "reversed" p2) [a] [] pos2] [] pos) (wLstRev wa) := let ⟨_, a1, a2⟩ := ha; ⟨_, RT.pe_lstRev hc hg hm hg2 hm2 a1 hs hs2, sl_lstRev a2⟩
end
end DL
/-! DL, part y: a def that returns [e, [..]], and a, b = f(..) where b is changed in place afterwards. -/
namespace DL
open PySem L2
def wRet2 (a : WE) (l : WL) : WS := fun W env => a env fun d => l env fun ds => W.rt (.two d ds)
def wUnp2 (i j : Nat) (n : Nat) (M : WM) (a : WA) : WS := fun W env => a env fun as => oneH as = true ∧ as.length = n ∧ M as fun r => match r with
  | .two d ds => W.nx ((env.set i (some (.v d))).set j (some (.own ds)))
  | _ => False
section
variable {K : PySem.W.Frag} {ok : List D → Prop} {te tl : TE} {we : WE} {wl : WL} {tr : TA} {wr : WA}
theorem ss_ret2 (ha : SndE K ok te we) (hl : SndL K ok tl wl) : SndS K ok (tRet (tLst (tCons te (tCons tl tNil)))) (wRet2 we wl) := fun C H0 σ H env E W rel hw h =>
  ha C H0 σ H env _ _ rel hw fun d x H1 H01 q r1 e1 x1 => hl C H01 σ H1 env _ _ r1 q fun ds p H2 H02 q2 r2 e2 f => by
    refine ⟨by rw [sizeLine_eq]; exact Nat.le_of_ble_eq_true rfl, fun q hq => ?_⟩
    have hp2 : H2 p ≠ none := by
      obtain ⟨_, ws, hp, _⟩ := f.own
      rw [hp]
      exact fun z => by cases z
    have hne : p ≠ q := fun z => hp2 (z ▸ hq)
    refine h.rt (.two d ds) _ σ (upd H2 q (.lst [x, .ref p])) H02 env (e1.trans e2) (r2.laid0 hq) q2 ⟨q, p, x, rfl, hne, r2.fresh hq, r2.sub.free hq, upd_same, x1.mono e2, f.he, f.own.n0, ?_⟩
    obtain ⟨ws, hp, hr⟩ := f.own.ex
    exact ⟨ws, by rw [upd_ne hne]; exact hp, hr⟩
theorem ss_unp2 {n i j : Nat} {M : WM} {E0 : XK} (hij : i ≠ j) (hr : SndA K ok tr wr) : SndS K ok (tAsg (tCall (SpD K ok n M) [] E0 tr) (gUnl K 2 (gCons (gName i) (gCons (gName j) gNil)))) (wUnp2 i j n M wr) := fun C H0 σ H env E W rel hw h =>
  hr C H0 σ H env _ _ rel hw fun as vs H1 H01 q r1 e1 x1 => by
    obtain ⟨q1, q2, q3⟩ := q
    show SpD K ok n M (vs ++ []) H1 _ E0
    rw [List.append_nil]
    refine SpD.exc (call_core r1 x1 q1 q2 q3 fun v r H2 H02 hq r2 e2 z => ?_)
    cases r with
    | v d => exact hq.elim
    | own ds => exact hq.elim
    | two d ds =>
      obtain ⟨q, p, x, rfl, hne, heq, kq, nsq, q0, hqq, hx, f⟩ := z
      refine ⟨q, [x, .ref p], rfl, SqL.of hqq, rfl, ?_⟩
      have r3 := r2.setV (i := i) hx
      refine ⟨x, [.ref p], rfl, .ref p, [], rfl, rfl, ?_⟩
      refine h.nx _ _ _ H02 (e1.trans e2) (r3.setO (i := j) (s := .own ds) ⟨p, rfl, f.he, f.own⟩ rfl f.kq fun k t hk ht ot => ?_) hq
      by_cases hki : i = k
      · subst hki
        have := (List.getElem?_eq_some_iff.mp ht).1
        rw [List.getElem?_set_self (by rwa [List.length_set] at this)] at ht
        cases ht
        cases ot
      · rw [List.getElem?_set_ne hki] at ht ⊢
        exact f.ns k t ht ot
end
section
variable {X : Cx} {ok : List D → Prop} {a l : Expr} {we : WE} {wl : WL} {wr : WA} {e : Expr} {es : List Expr} {pos pos' p1 p p2 p3 : Pos} {x y f : Str}
theorem s_ret2 (ha : PDE X ok a we) (hl : PDL X ok l wl) (hs : starEach [a, l] X.env = (false, eval a X.env) :: starEach [l] X.env := by rfl) (hs2 : starEach [l] X.env = (false, eval l X.env) :: starEach [] X.env := by rfl) :
    PDS X ok (.Return (some (.List [a, l] p1)) pos) (wRet2 we wl) := let ⟨_, a1, a2⟩ := ha; let ⟨_, b1, b2⟩ := hl; ⟨_, ps_ret (pe_lst (pa_cons a1 (pa_cons b1 pa_nil hs2) hs)), ss_ret2 a2 b2⟩
theorem s_unp2 {k0 k j n : Nat} {M : WM} (i1 i2 : Nat) (hij : i1 ≠ i2) (h : Has X.prog X.w X.K X.mg X.base ok k f n M) (hr : Room j X.A) (hk : k ≤ j) (ha : PDA X ok (e :: es) wr) (hN : X.N.Nodup) (hc : X.calm = true := by rfl)
    (hi1 : X.N[i1]? = some x := by rfl) (hi2 : X.N[i2]? = some y := by rfl) (hx1 : Loc X.env.scope x := by first | exact Or.inl rfl | exact Or.inr rfl) (hx2 : Loc X.env.scope y := by first | exact Or.inl rfl | exact Or.inr rfl)
    (hf1 : X.fn x = true ∨ X.env.scope.names.lookup x = some .local := by first | exact .inl rfl | exact .inr rfl) (hf2 : X.fn y = true ∨ X.env.scope.names.lookup y = some .local := by first | exact .inl rfl | exact .inr rfl)
    (hg : Gl X f := by rfl) (hdb : (f == ("__debug__" : Str)) = false := by decide)
    (he : starEach (e :: es) X.env = (false, eval e X.env) :: starEach es X.env := by rfl) (hpl : (backTo pos (starEach es X.env)).any (·.1) = false := by rfl)
    (hpg : ∀ t, PGs X [.Name x p, .Name y p2] t → PG X (.Tuple [.Name x p, .Name y p2] k0 p3) (gUnl X.K 2 t) := by exact fun _ h => pg_unl rfl h)
    (hs : swapsWithSole [.Tuple [.Name x p, .Name y p2] k0 p3] (.Call (.Name f p1) (e :: es) [] pos) pos'.line X.env = pure false := by rfl) (hw : swappedStores [.Tuple [.Name x p, .Name y p2] k0 p3] (.Call (.Name f p1) (e :: es) [] pos) X.env = pure none := by rfl)
    (h1 : (assignEach [.Tuple [.Name x p, .Name y p2] k0 p3] X.env).map (·.2) = [assign (.Tuple [.Name x p, .Name y p2] k0 p3) X.env] := by rfl) :
    PDS X ok (.Assign [.Tuple [.Name x p, .Name y p2] k0 p3] (.Call (.Name f p1) (e :: es) [] pos) pos') (wUnp2 i1 i2 n M wr) :=
  let ⟨f, fd, ps, G, hm, kp, bs⟩ := h.ex; let ⟨_, a1, a2⟩ := ha
  ⟨_, ps_asg (pe_call G (hr.mono hk) hg hm kp bs .nil pass0 a1 hdb he hpl) (hpg _ (pgs_cons (pg_name hN hi1 hx1 hf1) (pgs_cons (pg_name hN hi2 hx2 hf2) pgs_nil))) hs hw h1, ss_unp2 hij a2⟩
end
end DL
/-! DL, part z: a def that calls itself, level by level. -/
namespace DL
open PySem PySem.Spec PyProof.Rows L2
/-- the ground: nothing is promised -/
theorem def_no {P : Program} {w : World} {K : PySem.W.Frag} {mg : Str → Option Value} {base : Heap} {ok : List D → Prop} {x qual : Str} {st : Stmt} {f : Addr} {fd : FuncData} {N ps : List Str} {k n : Nat} {M : WM} (F : Fun K x qual st f fd) (S : FnScope N ps (defScope st)) (hn : ps.length = n)
    (hM : ∀ as Q, M as Q → False) : FnOk P w K mg base CX0 (k + 1) f fd ps (SpD K ok n M) := by
  refine F.ok S (fun vs H Q E h => ?_) (fun cdv A outer s H vs Q E hr h => ?_)
  · obtain ⟨H0, ha, as, Q', h1, h2, one, s0, hargs, hv, hMQ, k0⟩ := h
    exact (hM _ _ hMQ).elim
  · obtain ⟨H0, ha, as, Q', h1, h2, one, s0, hargs, hv, hMQ, k0⟩ := h
    exact (hM _ _ hMQ).elim
end DL
/-! DM, part a: a dict slot of one's own whose keys are None, whole numbers and tuples of these. -/
namespace DL
open PySem PySem.Spec PyProof.Rows L2 DN
/-- data as a key, at most n deep -/
def nKey : Nat → D → Option NestedKey
  | _, .none => some .none
  | _, .int i => some (.num i)
  | n + 1, .tuple ds => (ds.mapM (nKey n)).map .tup
  | _, _ => none
def mAt : List (NestedKey × D) → NestedKey → Option D
  | [], _ => none
  | p :: r, k => if p.1 = k then some p.2 else mAt r k
def mRep : List (NestedKey × D) → NestedKey → D → List (NestedKey × D)
  | [], _, _ => []
  | p :: r, k, d => (if p.1 = k then (p.1, d) else p) :: mRep r k d
def mSet (kvs : List (NestedKey × D)) (k : NestedKey) (d : D) : List (NestedKey × D) := if (mAt kvs k).isSome = true then mRep kvs k d else kvs ++ [(k, d)]
theorem mAt_snoc (k j : NestedKey) (d : D) : ∀ kvs : List (NestedKey × D), mAt kvs k = none → mAt (kvs ++ [(k, d)]) j = if j = k then some d else mAt kvs j
  | [], _ => by
    show (if k = j then some d else none) = _
    by_cases h : k = j
    · rw [if_pos h, if_pos h.symm]
    · rw [if_neg h, if_neg fun z => h z.symm]; rfl
  | p :: r, hn => by
    have hp : ¬ p.1 = k := fun z => by rw [show mAt (p :: r) k = some p.2 from if_pos z] at hn; cases hn
    have hr : mAt r k = none := by rw [← show mAt (p :: r) k = mAt r k from if_neg hp]; exact hn
    show (if p.1 = j then some p.2 else mAt (r ++ [(k, d)]) j) = if j = k then some d else (if p.1 = j then some p.2 else mAt r j)
    rw [mAt_snoc k j d r hr]
    by_cases h : p.1 = j
    · rw [if_pos h, if_pos h, if_neg fun z => hp (h.trans z)]
    · rw [if_neg h, if_neg h]
theorem mAt_rep (k j : NestedKey) (d : D) : ∀ kvs : List (NestedKey × D), mAt (mRep kvs k d) j = if j = k then (mAt kvs k).map (fun _ => d) else mAt kvs j
  | [] => by
    show none = _
    by_cases h : j = k
    · rw [if_pos h]; rfl
    · rw [if_neg h]; rfl
  | p :: r => by
    have ih := mAt_rep k j d r
    show (if (if p.1 = k then (p.1, d) else p).1 = j then some (if p.1 = k then (p.1, d) else p).2 else mAt (mRep r k d) j) = if j = k then (if p.1 = k then some p.2 else mAt r k).map (fun _ => d) else (if p.1 = j then some p.2 else mAt r j)
    by_cases hk : p.1 = k
    · rw [if_pos hk, if_pos hk]
      show (if p.1 = j then some d else mAt (mRep r k d) j) = _
      by_cases hj : j = k
      · rw [if_pos (hk.trans hj.symm), if_pos hj]; rfl
      · rw [if_neg fun z => hj (z.symm.trans hk), if_neg hj, if_neg fun z => hj (z.symm.trans hk), ih, if_neg hj]
    · rw [if_neg hk, if_neg hk]
      by_cases hj : j = k
      · rw [if_pos hj, if_neg fun z => hk (z.trans hj), ih, if_pos hj]
      · rw [if_neg hj, ih, if_neg hj]
theorem mAt_set (kvs : List (NestedKey × D)) (k j : NestedKey) (d : D) : mAt (mSet kvs k d) j = if j = k then some d else mAt kvs j := by
  unfold mSet
  cases h : mAt kvs k with
  | none => rw [if_neg (show ¬ (none : Option D).isSome = true by decide)]; exact mAt_snoc k j d kvs h
  | some x =>
    rw [if_pos (show (some x).isSome = true from rfl), mAt_rep, h]
    rfl
theorem mRep_len (k : NestedKey) (d : D) : ∀ kvs : List (NestedKey × D), (mRep kvs k d).length = kvs.length
  | [] => rfl
  | p :: r => by
    show (mRep r k d).length + 1 = r.length + 1
    rw [mRep_len k d r]
theorem mSet_len (kvs : List (NestedKey × D)) (k : NestedKey) (d : D) : (mSet kvs k d).length ≤ kvs.length + 1 := by
  unfold mSet
  split
  · rw [mRep_len]; omega
  · rw [List.length_append]; exact Nat.le_refl _
/-! ### what is asked -/
def wSetM (i : Nat) : WS := fun W env => W.nx (env.set i (some (.dcm [])))
def wMGet1 (i : Nat) (k : WE) : WE := fun env Q => match get env i with
  | some (.dcm kvs) => k env fun y => ∃ z v, nKey 8 y = some z ∧ (mAt kvs z).getD .none = v ∧ Q v
  | _ => False
def wMGet2 (i : Nat) (k a : WE) : WE := fun env Q => match get env i with
  | some (.dcm kvs) => k env fun y => a env fun d => ∃ z v, nKey 8 y = some z ∧ (mAt kvs z).getD d = v ∧ Q v
  | _ => False
def wMIx (i : Nat) (k : WE) : WE := fun env Q => match get env i with
  | some (.dcm kvs) => k env fun y => ∃ z d, nKey 8 y = some z ∧ mAt kvs z = some d ∧ Q d
  | _ => False
def wMIn (i : Nat) (k : WE) : WE := fun env Q => match get env i with
  | some (.dcm kvs) => k env fun y => ∃ z b, nKey 8 y = some z ∧ (mAt kvs z).isSome = b ∧ Q (.bool b)
  | _ => False
def wMNin (i : Nat) (k : WE) : WE := fun env Q => match get env i with
  | some (.dcm kvs) => k env fun y => ∃ z b, nKey 8 y = some z ∧ (mAt kvs z).isSome = b ∧ Q (.bool (!b))
  | _ => False
def wMPut (i : Nat) (k a : WE) : WS := fun W env => match get env i with
  | some (.dcm kvs) => a env fun d => k env fun y => ∃ z, nKey 8 y = some z ∧ kvs.length < 1000000 ∧ W.nx (env.set i (some (.dcm (mSet kvs z d))))
  | _ => False
/-! ### soundness -/
section
variable {K : PySem.W.Frag} {ok : List D → Prop} {C : Ctx} {H0 H : Hp}
theorem mapM_some {n : Nat} : ∀ {ds : List D} {ks : List NestedKey}, ds.mapM (nKey n) = some ks → (ds = [] ∧ ks = []) ∨ ∃ d r k q, ds = d :: r ∧ ks = k :: q ∧ nKey n d = some k ∧ r.mapM (nKey n) = some q
  | [], ks, h => by
    rw [List.mapM_nil] at h
    cases h
    exact .inl ⟨rfl, rfl⟩
  | d :: r, ks, h => by
    rw [List.mapM_cons] at h
    cases e : nKey n d with
    | none => rw [e] at h; cases h
    | some k =>
      rw [e] at h
      cases e2 : r.mapM (nKey n) with
      | none => rw [e2] at h; cases h
      | some q =>
        rw [e2] at h
        cases h
        exact .inr ⟨d, r, k, q, rfl, rfl, e, e2⟩
theorem nvs_of {n : Nat} (ih : ∀ {d : D} {v : V} {k : NestedKey}, Rp K H v d → nKey n d = some k → NV K H n k v) : ∀ {ds : List D} {vs : List V} {ks : List NestedKey}, Rps K H vs ds → ds.mapM (nKey n) = some ks → NVs K H n ks vs
  | [], vs, ks, r, h => by
    rcases mapM_some h with ⟨_, rfl⟩ | ⟨d, r', k, q, e, _⟩
    · rw [r.nil_inv]; exact .nil n
    · cases e
  | d :: ds, vs, ks, r, h => by
    obtain ⟨v, ws, rfl, r1, r2⟩ := r.cons_inv
    rcases mapM_some h with ⟨e, _⟩ | ⟨d', r', k, q, e, rfl, h1, h2⟩
    · cases e
    · cases e
      exact .cons (ih r1 h1) (nvs_of ih r2 h2)
theorem nv_of : ∀ {n : Nat} {d : D} {v : V} {k : NestedKey}, Rp K H v d → nKey n d = some k → NV K H n k v
  | n, .none, v, k, r, h => by
    have : k = .none := by cases n <;> exact (Option.some.inj h).symm
    subst this
    cases r; exact .none n
  | n, .int i, v, k, r, h => by
    have : k = .num i := by cases n <;> exact (Option.some.inj h).symm
    subst this
    cases r; exact .int n i
  | n + 1, .tuple ds, v, k, r, h => by
    have h : (ds.mapM (nKey n)).map NestedKey.tup = some k := h
    cases e : ds.mapM (nKey n) with
    | none => rw [e] at h; cases h
    | some ks =>
      rw [e] at h
      cases h
      cases r with
      | tup h1 h2 => exact .tup (h1.elim (fun z => .inl z) .inr) (nvs_of (fun r h => nv_of r h) h2 e)
  | 0, .tuple ds, v, k, r, h => by cases h
  | n, .bool b, v, k, r, h => by cases n <;> cases h
  | n, .str b, v, k, r, h => by cases n <;> cases h
  | n, .list b, v, k, r, h => by cases n <;> cases h
  | n, .dict b, v, k, r, h => by cases n <;> cases h
theorem mrps_at : ∀ {ks : List MRow} {es : List (NestedKey × D)}, MRps K H ks es → ∀ z : NestedKey, (valM ks z = none ∧ mAt es z = none) ∨ ∃ v d, valM ks z = some v ∧ mAt es z = some d ∧ Rp K H v d
  | [], [], _, z => .inl ⟨rfl, rfl⟩
  | [], _ :: _, h, _ => by have := h.1; simp at this
  | _ :: _, [], h, _ => by have := h.1; simp at this
  | p :: ks, q :: es, h, z => by
    obtain ⟨h1, h2, hk⟩ := h
    rw [List.map_cons, List.map_cons] at h1 h2
    injection h1 with h3 h4
    obtain ⟨v, ws, e, r1, r2⟩ := h2.cons_inv
    injection e with e1 e2
    unfold valM
    show (Option.map _ (List.find? _ (p :: ks)) = none ∧ (if q.1 = z then some q.2 else mAt es z) = none) ∨ ∃ v d, Option.map _ (List.find? _ (p :: ks)) = some v ∧ (if q.1 = z then some q.2 else mAt es z) = some d ∧ _
    by_cases hz : q.1 = z
    · rw [List.find?_cons_of_pos (by exact decide_eq_true (h3.trans hz)), if_pos hz]
      exact .inr ⟨p.2.2, q.2, rfl, rfl, by rw [e1]; exact r1⟩
    · rw [List.find?_cons_of_neg (by simpa using fun y => hz (h3.symm.trans y)), if_neg hz]
      exact mrps_at (ks := ks) (es := es) ⟨h4, by rw [e2]; exact r2, fun x hx => hk x (.tail _ hx)⟩ z
theorem mrps_rep : ∀ {ks : List MRow} {es : List (NestedKey × D)}, MRps K H ks es → ∀ (z : NestedKey) {v : V} {d : D}, Rp K H v d → MRps K H (ks.map (putR z v)) (mRep es z d)
  | [], [], _, z, v, d, _ => ⟨rfl, .nil, fun x hx => by cases hx⟩
  | [], _ :: _, h, _, _, _, _ => by have := h.1; simp at this
  | _ :: _, [], h, _, _, _, _ => by have := h.1; simp at this
  | p :: ks, q :: es, h, z, v, d, hr => by
    obtain ⟨h1, h2, hk⟩ := h
    rw [List.map_cons, List.map_cons] at h1 h2
    injection h1 with h3 h4
    obtain ⟨v', ws, e, r1, r2⟩ := h2.cons_inv
    injection e with e1 e2
    have ih := mrps_rep (ks := ks) (es := es) ⟨h4, by rw [e2]; exact r2, fun x hx => hk x (.tail _ hx)⟩ z hr
    have kp : NV K H 8 (putR z v p).1 (putR z v p).2.1 := by
      have := hk p (.head _)
      unfold putR
      split <;> exact this
    have kall : ∀ x ∈ putR z v p :: ks.map (putR z v), NV K H 8 x.1 x.2.1 := fun x hx => by
      rcases List.mem_cons.mp hx with rfl | hx
      · exact kp
      · exact ih.2.2 x hx
    show MRps K H (putR z v p :: ks.map (putR z v)) ((if q.1 = z then (q.1, d) else q) :: mRep es z d)
    by_cases hz : q.1 = z
    · have e : putR z v p = (p.1, p.2.1, v) := by unfold putR; rw [if_pos (h3.trans hz)]
      rw [if_pos hz]
      rw [e] at kall ⊢
      exact ⟨by rw [List.map_cons, List.map_cons, ih.1, h3], .cons hr ih.2.1, kall⟩
    · have e : putR z v p = p := by unfold putR; rw [if_neg fun y => hz (h3.symm.trans y)]
      rw [if_neg hz]
      rw [e] at kall ⊢
      exact ⟨by rw [List.map_cons, List.map_cons, ih.1, h3], .cons (by show Rp K H p.2.2 q.2; rw [e1]; exact r1) ih.2.1, kall⟩
theorem mrps_set {ks : List MRow} {es : List (NestedKey × D)} (h : MRps K H ks es) {z : NestedKey} {kv v : V} {d : D} (hk : NV K H 8 z kv) (hr : Rp K H v d) : MRps K H (putM ks z kv v) (mSet es z d) := by
  unfold putM mSet
  rcases mrps_at h z with ⟨e1, e2⟩ | ⟨w, x, e1, e2, _⟩
  · rw [e1, e2]
    refine ⟨?_, ?_, fun x hx => ?_⟩
    · show (ks ++ [(z, kv, v)]).map (·.1) = (es ++ [(z, d)]).map (·.1)
      rw [List.map_append, List.map_append, h.1]; rfl
    · show Rps K H ((ks ++ [(z, kv, v)]).map (·.2.2)) ((es ++ [(z, d)]).map (·.2))
      rw [List.map_append, List.map_append]
      exact h.2.1.append (.one hr)
    · have hx : x ∈ ks ++ [(z, kv, v)] := hx
      rcases List.mem_append.mp hx with hx | hx
      · exact h.2.2 x hx
      · rw [List.mem_singleton.mp hx]; exact hk
  · rw [e1, e2]
    exact mrps_rep h z hr
theorem mrps_len {ks : List MRow} {es : List (NestedKey × D)} (h : MRps K H ks es) : ks.length = es.length := by
  have := congrArg List.length h.1
  rwa [List.length_map, List.length_map] at this
theorem MRps.keys {ks : List MRow} {es : List (NestedKey × D)} (s : Same H0 H) (h : MRps K H0 ks es) : ∀ x ∈ ks, NV K H 8 x.1 x.2.1 := (h.mono s).2.2
variable {tk ta : TE} {wk wa : WE} {i : Nat}
theorem ss_setM : SndS K ok (tAsg tMNew (gName i)) (wSetM i) := fun C H0 σ H env E W rel hw h => by
  show ∀ p, H p = none → _
  intro p hp
  exact h.nx _ _ _ H0 (Same.refl _) ((rel.laid0 hp).setO (s := .dcm []) ⟨p, [], rfl, rel.fresh hp, rel.sub.free hp, upd_same, rfl, .nil, fun x hx => by cases hx⟩ rfl (rel.kp.free hp) fun j t _ ht ot => rel.noslot hp j t ht ot) hw
theorem snd_mget1 (hk : SndE K ok tk wk) : SndE K ok (tMGet1 K (tVar i) tk) (wMGet1 i wk) := fun C H0 σ H env Q R rel hw k => by
  unfold wMGet1 at hw
  split at hw
  · rename_i kvs hd
    obtain ⟨p, ks, e, n, n0, hp, kr⟩ := rel.slot i _ (get_eq hd)
    refine ⟨.ref p, e, p, rfl, ⟨ks, hp, kr.keys rel.sub⟩, hk C H0 σ H env _ _ rel hw fun y v H1 H01 q r1 e1 x1 => ?_⟩
    obtain ⟨p', ks1, e', n, n0, hp1, kr1⟩ := r1.slot i _ (get_eq hd)
    rw [e] at e'
    cases e'
    obtain ⟨z, w0, hz, hw0, q⟩ := q
    subst hw0
    refine ⟨_, ⟨ks1, z, hp1, kr1.keys r1.sub, nv_of (x1.mono r1.sub) hz, rfl⟩, ?_⟩
    rcases mrps_at kr1 z with ⟨a1, a2⟩ | ⟨w, d, a1, a2, r⟩
    · rw [a1]
      rw [a2] at q
      exact k _ _ H1 H01 q r1 e1 .non
    · rw [a1]
      rw [a2] at q
      exact k _ _ H1 H01 q r1 e1 r
  · exact hw.elim
theorem snd_mget2 (hk : SndE K ok tk wk) (ha : SndE K ok ta wa) : SndE K ok (tMGet2 K (tVar i) tk ta) (wMGet2 i wk wa) := fun C H0 σ H env Q R rel hw k => by
  unfold wMGet2 at hw
  split at hw
  · rename_i kvs hd
    obtain ⟨p, ks, e, n, n0, hp, kr⟩ := rel.slot i _ (get_eq hd)
    refine ⟨.ref p, e, p, rfl, ⟨ks, hp, kr.keys rel.sub⟩, hk C H0 σ H env _ _ rel hw fun y v H1 H01 q r1 e1 x1 => ha C H01 σ H1 env _ _ r1 q fun d u H2 H02 q r2 e2 x2 => ?_⟩
    obtain ⟨p', ks1, e', n, n0, hp1, kr1⟩ := r2.slot i _ (get_eq hd)
    rw [e] at e'
    cases e'
    obtain ⟨z, w0, hz, hw0, q⟩ := q
    subst hw0
    refine ⟨_, ⟨ks1, z, hp1, kr1.keys r2.sub, nv_of ((x1.mono e2).mono r2.sub) hz, rfl⟩, ?_⟩
    rcases mrps_at kr1 z with ⟨a1, a2⟩ | ⟨w, d', a1, a2, r⟩
    · rw [a1]
      rw [a2] at q
      exact k _ _ H2 H02 q r2 (e1.trans e2) x2
    · rw [a1]
      rw [a2] at q
      exact k _ _ H2 H02 q r2 (e1.trans e2) r
  · exact hw.elim
theorem snd_mix (hk : SndE K ok tk wk) : SndE K ok (tMGet K (tVar i) tk) (wMIx i wk) := fun C H0 σ H env Q R rel hw k => by
  unfold wMIx at hw
  split at hw
  · rename_i kvs hd
    obtain ⟨p, ks, e, n, n0, hp, kr⟩ := rel.slot i _ (get_eq hd)
    refine ⟨.ref p, e, hk C H0 σ H env _ _ rel hw fun y v H1 H01 q r1 e1 x1 => ?_⟩
    obtain ⟨p', ks1, e', n, n0, hp1, kr1⟩ := r1.slot i _ (get_eq hd)
    rw [e] at e'
    cases e'
    obtain ⟨z, d, hz, hd', q⟩ := q
    rcases mrps_at kr1 z with ⟨a1, a2⟩ | ⟨w, d', a1, a2, r⟩
    · rw [hd'] at a2; cases a2
    · rw [hd'] at a2
      cases a2
      exact ⟨p, w, rfl, ⟨ks1, z, hp1, kr1.keys r1.sub, nv_of (x1.mono r1.sub) hz, a1.symm⟩, k _ _ H1 H01 q r1 e1 r⟩
  · exact hw.elim
theorem snd_min (hk : SndE K ok tk wk) : SndE K ok (tMIn K tk (tVar i)) (wMIn i wk) := fun C H0 σ H env Q R rel hw k => by
  unfold wMIn at hw
  split at hw
  · rename_i kvs hd
    refine hk C H0 σ H env _ _ rel hw fun y v H1 H01 q r1 e1 x1 => ?_
    obtain ⟨p, ks1, e, n, n0, hp1, kr1⟩ := r1.slot i _ (get_eq hd)
    obtain ⟨z, w0, hz, hw0, q⟩ := q
    subst hw0
    refine ⟨.ref p, e, p, _, rfl, ⟨ks1, z, hp1, kr1.keys r1.sub, nv_of (x1.mono r1.sub) hz, rfl⟩, ?_⟩
    have : (valM ks1 z).isSome = (mAt kvs z).isSome := by
      rcases mrps_at kr1 z with ⟨a1, a2⟩ | ⟨w, d', a1, a2, r⟩ <;> rw [a1, a2] <;> rfl
    rw [this]
    exact k _ _ H1 H01 q r1 e1 (.bl _)
  · exact hw.elim
theorem snd_mnin (hk : SndE K ok tk wk) : SndE K ok (tMNotIn K tk (tVar i)) (wMNin i wk) := fun C H0 σ H env Q R rel hw k => by
  unfold wMNin at hw
  split at hw
  · rename_i kvs hd
    refine hk C H0 σ H env _ _ rel hw fun y v H1 H01 q r1 e1 x1 => ?_
    obtain ⟨p, ks1, e, n, n0, hp1, kr1⟩ := r1.slot i _ (get_eq hd)
    obtain ⟨z, w0, hz, hw0, q⟩ := q
    subst hw0
    refine ⟨.ref p, e, p, _, rfl, ⟨ks1, z, hp1, kr1.keys r1.sub, nv_of (x1.mono r1.sub) hz, rfl⟩, ?_⟩
    have : (valM ks1 z).isSome = (mAt kvs z).isSome := by
      rcases mrps_at kr1 z with ⟨a1, a2⟩ | ⟨w, d', a1, a2, r⟩ <;> rw [a1, a2] <;> rfl
    rw [this]
    exact k _ _ H1 H01 q r1 e1 (.bl _)
  · exact hw.elim
theorem ss_mput (ha : SndE K ok ta wa) (hk : SndE K ok tk wk) : SndS K ok (sMPut K (tVar i) tk ta) (wMPut i wk wa) := fun C H0 σ H env E W rel hw h => by
  unfold wMPut at hw
  split at hw
  · rename_i kvs hd
    refine ha C H0 σ H env _ _ rel hw fun d v H1 H01 q r1 e1 x1 => ?_
    obtain ⟨p, ks, e, n, n0, hp, kr⟩ := r1.slot i _ (get_eq hd)
    refine ⟨.ref p, e, hk C H01 σ H1 env _ _ r1 q fun y u H2 H02 q r2 e2 x2 => ?_⟩
    obtain ⟨p', ks1, e', n, n0, hp1, kr1⟩ := r2.slot i _ (get_eq hd)
    rw [e] at e'
    cases e'
    obtain ⟨z, hz, hl, q⟩ := q
    have nv := nv_of x2 hz
    refine ⟨p, _, rfl, ⟨ks1, z, hp1, kr1.keys r2.sub, nv_of (x2.mono r2.sub) hz, by rw [mrps_len kr1]; exact lt_size hl, rfl⟩, ?_⟩
    exact h.nx _ _ _ H02 (e1.trans e2) (r2.put (s := .dcm kvs) (t := .dcm (mSet kvs z d)) (get_eq hd) rfl e (fun y => by obtain ⟨⟨o, w⟩, _⟩ := r2.hv p y; rw [n] at w; cases w) rfl ⟨p, _, rfl, n, n0, upd_same, mrps_set kr1 nv (x1.mono e2)⟩) q
  · exact hw.elim
end
section
variable {X : Cx} {ok : List D → Prop} {a b e : Expr} {wa wb we : WE} {pos : Pos} {x : Str}
theorem s_setM (i : Nat) {pos' dpos : Pos} (hN : X.N.Nodup) (hi : X.N[i]? = some x := by rfl) (hx : Loc X.env.scope x := by first | exact Or.inl rfl | exact Or.inr rfl) (hs : swapsWith (.Dict [] [] dpos) (some (.Name x pos')) pos.line X.env = pure false := by rfl) (hf : X.fn x = true ∨ X.env.scope.names.lookup x = some .local := by first | exact .inl rfl | exact .inr rfl) :
    PDS X ok (.Assign [.Name x pos'] (.Dict [] [] dpos) pos) (wSetM i) := ⟨_, ps_set hN hi hx pe_mnew hs hf, ss_setM⟩
theorem d_mget1 {k : Nat} (i : Nat) {apos mp : Pos} (hr : Room k X.A) (ha : PDE X ok a wa) (hN : X.N[i]? = some x := by rfl) (hv : Vis X.env.scope x := by first | exact Or.inl rfl | exact Or.inr (Or.inl rfl) | exact Or.inr (Or.inr rfl)) (hd : (x == ("__debug__" : Str)) = false := by decide) (hcd : (x == ("__classdict__" : Str)) = false := by decide)
    (m1 : attributeBase (.Name x mp) "get" X.env (eval (.Name x mp) X.env) = eval (.Name x mp) X.env := by rfl)
    (m2 : ((backTo pos (starEach [a] X.env)).all (fun x => !x.1) && (backToKw pos (keywordEach [] X.env)).all (fun x => x.1.isSome) && decide (([a] : List Expr).length + ([] : List Keyword).length + (if ([] : List Keyword).isEmpty then 0 else 1) < 30)) = true := by rfl)
    (m3 : (apos.endLine == pos.line) = true := by rfl) (m4 : backTo pos (starEach [a] X.env) = [(false, eval a X.env)] := by rfl) :
    PDE X ok (.Call (.Attribute (.Name x mp) "get" apos) [a] [] pos) (wMGet1 i wa) := let ⟨_, a1, a2⟩ := ha; ⟨_, pe_mget1 (by have := units65 hr; omega) (pe_var hN hv hd hcd) a1 ⟨m1, m2, m3, m4⟩, snd_mget1 a2⟩
theorem d_mget2 {k : Nat} (i : Nat) {apos mp : Pos} (hr : Room k X.A) (ha : PDE X ok a wa) (hb : PDE X ok b wb) (hN : X.N[i]? = some x := by rfl) (hv : Vis X.env.scope x := by first | exact Or.inl rfl | exact Or.inr (Or.inl rfl) | exact Or.inr (Or.inr rfl)) (hd : (x == ("__debug__" : Str)) = false := by decide) (hcd : (x == ("__classdict__" : Str)) = false := by decide)
    (m1 : attributeBase (.Name x mp) "get" X.env (eval (.Name x mp) X.env) = eval (.Name x mp) X.env := by rfl)
    (m2 : ((backTo pos (starEach [a, b] X.env)).all (fun x => !x.1) && (backToKw pos (keywordEach [] X.env)).all (fun x => x.1.isSome) && decide (([a, b] : List Expr).length + ([] : List Keyword).length + (if ([] : List Keyword).isEmpty then 0 else 1) < 30)) = true := by rfl)
    (m3 : (apos.endLine == pos.line) = true := by rfl) (m4 : backTo pos (starEach [a, b] X.env) = [(false, eval a X.env), (false, eval b X.env)] := by rfl) :
    PDE X ok (.Call (.Attribute (.Name x mp) "get" apos) [a, b] [] pos) (wMGet2 i wa wb) := let ⟨_, a1, a2⟩ := ha; let ⟨_, b1, b2⟩ := hb; ⟨_, pe_mget2 (by have := units65 hr; omega) (pe_var hN hv hd hcd) a1 b1 ⟨m1, m2, m3, m4⟩, snd_mget2 a2 b2⟩
theorem d_mix {k : Nat} (i : Nat) {mp : Pos} (hr : Room k X.A) (ha : PDE X ok a wa) (hN : X.N[i]? = some x := by rfl) (hv : Vis X.env.scope x := by first | exact Or.inl rfl | exact Or.inr (Or.inl rfl) | exact Or.inr (Or.inr rfl)) (hd : (x == ("__debug__" : Str)) = false := by decide) (hcd : (x == ("__classdict__" : Str)) = false := by decide)
    (hs : NoSl a := by exact fun _ _ => rfl) : PDE X ok (.Subscript (.Name x mp) a pos) (wMIx i wa) := let ⟨_, a1, a2⟩ := ha; ⟨_, pe_mget (by have := units65 hr; omega) (pe_var hN hv hd hcd) a1 hs, snd_mix a2⟩
theorem d_min {k : Nat} (i : Nat) {mp : Pos} (hr : Room k X.A) (ha : PDE X ok a wa) (hN : X.N[i]? = some x := by rfl) (hv : Vis X.env.scope x := by first | exact Or.inl rfl | exact Or.inr (Or.inl rfl) | exact Or.inr (Or.inr rfl)) (hd : (x == ("__debug__" : Str)) = false := by decide) (hcd : (x == ("__classdict__" : Str)) = false := by decide)
    (hm : behindInMarks .In (.Name x mp) = false := by rfl) : PDE X ok (.Compare a [.In] [.Name x mp] pos) (wMIn i wa) := let ⟨_, a1, a2⟩ := ha; ⟨_, pe_cmp (pc_min (by have := units65 hr; omega) a1 (pe_var hN hv hd hcd)) hm, snd_min a2⟩
theorem d_mnin {k : Nat} (i : Nat) {mp : Pos} (hr : Room k X.A) (ha : PDE X ok a wa) (hN : X.N[i]? = some x := by rfl) (hv : Vis X.env.scope x := by first | exact Or.inl rfl | exact Or.inr (Or.inl rfl) | exact Or.inr (Or.inr rfl)) (hd : (x == ("__debug__" : Str)) = false := by decide) (hcd : (x == ("__classdict__" : Str)) = false := by decide)
    (hm : behindInMarks .NotIn (.Name x mp) = false := by rfl) : PDE X ok (.Compare a [.NotIn] [.Name x mp] pos) (wMNin i wa) := let ⟨_, a1, a2⟩ := ha; ⟨_, pe_cmp (pc_mnotin (by have := units65 hr; omega) a1 (pe_var hN hv hd hcd)) hm, snd_mnin a2⟩
theorem t_min {k : Nat} (i : Nat) {mp : Pos} (hr : Room k X.A) (ha : PDE X ok a wa) (hN : X.N[i]? = some x := by rfl) (hv : Vis X.env.scope x := by first | exact Or.inl rfl | exact Or.inr (Or.inl rfl) | exact Or.inr (Or.inr rfl)) (hd : (x == ("__debug__" : Str)) = false := by decide) (hcd : (x == ("__classdict__" : Str)) = false := by decide)
    (hm : behindInMarks .In (.Name x mp) = false := by rfl) : PDT X ok (.Compare a [.In] [.Name x mp] pos) (wTest (wMIn i wa)) := let ⟨_, a1, a2⟩ := ha; ⟨_, pt_cmp (pc_min (by have := units65 hr; omega) a1 (pe_var hN hv hd hcd)) hm, snd_tB (snd_min a2)⟩
theorem t_mnin {k : Nat} (i : Nat) {mp : Pos} (hr : Room k X.A) (ha : PDE X ok a wa) (hN : X.N[i]? = some x := by rfl) (hv : Vis X.env.scope x := by first | exact Or.inl rfl | exact Or.inr (Or.inl rfl) | exact Or.inr (Or.inr rfl)) (hd : (x == ("__debug__" : Str)) = false := by decide) (hcd : (x == ("__classdict__" : Str)) = false := by decide)
    (hm : behindInMarks .NotIn (.Name x mp) = false := by rfl) : PDT X ok (.Compare a [.NotIn] [.Name x mp] pos) (wTest (wMNin i wa)) := let ⟨_, a1, a2⟩ := ha; ⟨_, pt_cmp (pc_mnotin (by have := units65 hr; omega) a1 (pe_var hN hv hd hcd)) hm, snd_tB (snd_mnin a2)⟩
theorem s_mput {k : Nat} (i : Nat) {tp mp : Pos} {ix : Expr} (hr : Room k X.A) (he : PDE X ok e we) (hk : PDE X ok ix wa) (hN : X.N[i]? = some x := by rfl) (hv : Vis X.env.scope x := by first | exact Or.inl rfl | exact Or.inr (Or.inl rfl) | exact Or.inr (Or.inr rfl)) (hd : (x == ("__debug__" : Str)) = false := by decide) (hcd : (x == ("__classdict__" : Str)) = false := by decide)
    (hs : swapsWith e (some (.Subscript (.Name x mp) ix tp)) pos.line X.env = pure false := by rfl) :
    PDS X ok (.Assign [.Subscript (.Name x mp) ix tp] e pos) (wMPut i wa we) := let ⟨_, e1, e2⟩ := he; let ⟨_, k1, k2⟩ := hk; ⟨_, ps_mput (by have := units65 hr; omega) (pe_var hN hv hd hcd) k1 e1 hs, ss_mput e2 k2⟩
end
end DL
/-! DM, part b: {k: v for ..} with whole numbers as keys, stored to a name. -/
namespace DL
open PySem PySem.Spec PyProof.Rows L2
def wDc (wi : WI) (wg : WG) (wt : WT) (wk wv : WE) (vs : List Nat) : EnvD → (List (Key × D) → Prop) → Prop := fun env Q => wi env fun ds => ds.length < 1000000 ∧ wpN env vs ∧ ∃ I : Nat → List (Key × D) → Prop, I 0 [] ∧
  (∀ i d acc, ds[i]? = some d → I i acc → wg d (wpE env vs) fun env2 => wt env2 fun b => (b = true → wk env2 fun y => wv env2 fun e => ∃ z, dKey y = some z ∧ I (i + 1) (dSet acc z e)) ∧ (b = false → I (i + 1) acc)) ∧ ∀ acc, I ds.length acc → Q acc
def wSetDc (i : Nat) (wd : EnvD → (List (Key × D) → Prop) → Prop) : WS := fun W env => wd env fun kvs => W.nx (env.set i (some (.dct kvs)))
section
variable {K : PySem.W.Frag} {ok : List D → Prop} {C : Ctx}
/-- a protected thing that no slot holds is changed -/
theorem Rel.chg {A : Addr} {o1 o2 : HO} {H02 H2 : Hp} {env2 : EnvD} {σ2 : L2.St} (r : Rel K ok { C with Kp := upd C.Kp A o1 } H02 σ2 H2 env2) (n0 : H02 A = none) (hCA : C.He A = none) (nha : C.ha ≠ some A) :
    Rel K ok { C with Kp := upd C.Kp A o2 } H02 σ2 (upd H2 A o2) env2 := by
  have up : ∀ {b : Addr} {x : HO}, b ≠ A → H2 b = some x → (upd H2 A o2) b = some x := fun {b x} hb z => by rw [upd_ne hb]; exact z
  have ns : ∀ (i : Nat) s, env2[i]? = some (some s) → s.isOwn = true → σ2[i]? ≠ some (some (.ref A)) := fun i s hs os z => by
    have y : upd C.Kp A o1 A = none := r.kn i s A hs os z
    rw [upd_same] at y; cases y
  refine ⟨fun b o z => up (ne_of_none z n0) (r.sub b o z), r.grow, r.new, fun b o z m => up (ne_of_none z hCA) (r.fr b o z m), fun a ha => ?_, r.len, fun i s hs => ?_, r.dis, fun b o z => ?_, fun i s p hs os e => ?_, fun a ha => ?_, fun b o z => ?_⟩
  · obtain ⟨h1, dd, h2, h3⟩ := r.hv a ha
    exact ⟨h1, dd, h2.keep (Same.refl _) h2.n0 (fun o z => up (fun y => by subst y; exact nha ha) z), h3⟩
  · have q := r.slot i s hs
    have other : ∀ {a : Addr}, s.isOwn = true → σ2[i]? = some (some (.ref a)) → a ≠ A := fun {a} o' z y => by subst y; exact ns i s hs o' z
    cases s with
    | v d => exact q
    | own dd => obtain ⟨p, e, m, h2⟩ := q; exact ⟨p, e, m, h2.keep (Same.refl _) h2.n0 (fun o z => up (other rfl e) z)⟩
    | hnd => obtain ⟨p, dd, e, m, h2, h3⟩ := q; exact ⟨p, dd, e, m, h2.keep (Same.refl _) h2.n0 (fun o z => up (other rfl e) z), h3⟩
    | dct kvs => obtain ⟨p, ks, e, m, m0, hp, r'⟩ := q; exact ⟨p, ks, e, m, m0, up (other rfl e) hp, r'⟩
    | dcm kvs => obtain ⟨p, ks, e, m, m0, hp, r'⟩ := q; exact ⟨p, ks, e, m, m0, up (other rfl e) hp, r'⟩
  · have z' : upd C.Kp A o2 b = some o := z
    by_cases hb : b = A
    · subst hb; rw [upd_same] at z' ⊢; exact z'
    · rw [upd_ne hb] at z'
      exact up hb (r.kp b o (by show upd C.Kp A o1 b = some o; rw [upd_ne hb]; exact z'))
  · have y : upd C.Kp A o1 p = none := r.kn i s p hs os e
    show upd C.Kp A o2 p = none
    by_cases hb : p = A
    · subst hb; rw [upd_same] at y; cases y
    · rw [upd_ne hb] at y ⊢; exact y
  · have y : upd C.Kp A o1 a = none := r.kh a ha
    show upd C.Kp A o2 a = none
    by_cases hb : a = A
    · subst hb; rw [upd_same] at y; cases y
    · rw [upd_ne hb] at y ⊢; exact y
  · have z' : upd C.Kp A o2 b = some o := z
    by_cases hb : b = A
    · subst hb; exact n0
    · rw [upd_ne hb] at z'
      exact r.kz b o (by show upd C.Kp A o1 b = some o; rw [upd_ne hb]; exact z')
theorem wipe_wipe {σ : L2.St} {vs : List Nat} : L2.wipe (L2.wipe σ vs) vs = L2.wipe σ vs := by
  apply List.ext_getElem?
  intro j
  rw [wipe_get, wipe_get, wipe_length]
  by_cases hj : j ∈ vs
  · rw [if_pos hj, if_pos hj]
  · rw [if_neg hj, if_neg hj]
variable {tt : TT} {wt : WT} {tk tv : TE} {wk wv : WE}
/-- the comprehension: at the end a new dict, known to nobody -/
theorem sd_dc {vs : List Nat} {ti : TI} {wi : WI} {g : TG} {wg : WG} (hi : SndI K ok ti wi) (hg : SndG K ok vs g wg) (ht : SndT K ok tt wt) (hk : SndE K ok tk wk) (hv : SndE K ok tv wv) {H0 : Hp} {σ : L2.St} {H : Hp} {env : EnvD} {Q : List (Key × D) → Prop} {R : VK}
    (rel : Rel K ok C H0 σ H env) (hw : wDc wi wg wt wk wv vs env Q)
    (k : ∀ kvs A H2 H02 ks, Q kvs → Rel K ok C H02 σ H2 env → Same H0 H02 → C.He A = none → C.Kp A = none → H02 A = none → H2 A = some (.dK ks) → KRps K H02 ks kvs → (∀ (i : Nat) s, env[i]? = some (some s) → s.isOwn = true → σ[i]? ≠ some (some (.ref A))) → R (.ref A) H2) :
    tDc ti g tt tk tv vs σ H R := hi C H0 σ H env _ _ rel hw fun ds J H1 H01 q r1 e1 w => by
    obtain ⟨hlen, hwp, I, i0, turn, fin⟩ := q
    intro A hA
    have hA0 : C.Kp A = none := r1.kp.free hA
    have hCA : C.He A = none := r1.fresh hA
    have nha : C.ha ≠ some A := fun z => by obtain ⟨⟨o, y⟩, _⟩ := r1.hv A z; rw [hCA] at y; cases y
    have out : ∀ {o : HO} {H2 H02 : Hp} {env2 : EnvD} {σ2 : L2.St}, Rel K ok { C with Kp := upd C.Kp A o } H02 σ2 H2 env2 → Rel K ok C H02 σ2 H2 env2 := fun {o H2 H02 env2 σ2} r =>
      (r.guard (Kq := C.Kp) (fun b o' z => r.kp b o' (by show upd C.Kp A o b = some o'; rw [upd_ne (ne_of_none z hA0)]; exact z)) fun p o' z => .inl (by
        show upd C.Kp A o p = some o'
        rw [upd_ne (ne_of_none z hA0)]; exact z))
    let Pv : Nat → Hp → Prop := fun i H => ∃ acc ks H02, Same H01 H02 ∧ Rel K ok { C with Kp := upd C.Kp A (.dK ks) } H02 σ H env ∧ H A = some (.dK ks) ∧ H02 A = none ∧ KRps K H02 ks acc ∧ acc.length ≤ i ∧ I i acc
    refine ⟨fun i m H => m = ds.length - i ∧ i ≤ ds.length ∧ Pv i H, ⟨ds.length, by simp, Nat.zero_le _, [], [], H01, Same.refl _, ?_, upd_same, r1.sub.free hA, ⟨rfl, .nil⟩, Nat.zero_le _, i0⟩, ?_⟩
    · refine (r1.laid0 (o := .dK []) hA).guard (fun b o z => ?_) fun p o z => ?_
      · by_cases hb : b = A
        · subst hb; rw [upd_same] at z ⊢; exact z
        · rw [upd_ne hb] at z ⊢; exact r1.kp b o z
      · by_cases hb : p = A
        · subst hb; exact .inr ⟨r1.noslot hA, nha, r1.sub.free hA⟩
        · rw [upd_ne hb] at z; exact .inl z
    rintro i m H2 ⟨rfl, hil, acc, ks, H02, e2, r2, hpA, nA, hr, hacc, i2⟩
    by_cases hlt : i < ds.length
    · refine .inr ⟨w.goes i H2 hlt (e2.trans r2.sub), Pv (i + 1), fun H' p' => ⟨ds.length - (i + 1), by omega, rfl, hlt, p'⟩, fun x H' y => ?_⟩
      obtain ⟨d, H03, hd, r3, e3, x3, kp3⟩ := w.item e2 r2 hlt y
      have r3' : Rel K ok { C with Kp := upd C.Kp A (.dK ks) } H03 (L2.wipe σ vs) H' (wpE env vs) := r3.wipe vs
      refine hg _ H03 _ H' _ x d _ _ r3' x3 (turn i d acc hd i2) fun env4 σ4 r4 q4 w4 => ⟨by rw [w4.1]; exact wipe_wipe, ?_⟩
      have outer : ∀ {o : HO} {Hn H0n : Hp}, Same H03 H0n → Rel K ok { C with Kp := upd C.Kp A o } H0n σ4 Hn env4 → Rel K ok { C with Kp := upd C.Kp A (.dK ks) } H0n σ Hn env ∨ Rel K ok { C with Kp := upd C.Kp A o } H0n σ Hn env := by
        intro o Hn H0n e30 rn
        have z := rn.wipe vs
        rw [w4.1, w4.2, wpE_wpE, wipe_wipe] at z
        exact .inr (r3.unwipe e30 z hwp)
      have outer : ∀ {Hn H0n : Hp}, Same H03 H0n → Rel K ok { C with Kp := upd C.Kp A (.dK ks) } H0n σ4 Hn env4 → Rel K ok { C with Kp := upd C.Kp A (.dK ks) } H0n σ Hn env := fun {Hn H0n} e30 rn => by
        rcases outer e30 rn with z | z <;> exact z
      have atA : ∀ {Hn H0n : Hp}, Rel K ok { C with Kp := upd C.Kp A (.dK ks) } H0n σ4 Hn env4 → Hn A = some (.dK ks) := fun {Hn H0n} rn => rn.kp A _ upd_same
      have noA : ∀ {Hn H0n : Hp}, Rel K ok { C with Kp := upd C.Kp A (.dK ks) } H0n σ4 Hn env4 → H0n A = none := fun {Hn H0n} rn => rn.kz A _ upd_same
      refine ht _ H03 σ4 H' env4 _ _ r4 q4 fun b H5 H05 q5 r5 e5 => ?_
      cases b with
      | true =>
        refine iteT (hk _ H05 σ4 H5 env4 _ _ r5 (q5.1 rfl) fun z v H6 H06 q6 r6 e6 x6 => hv _ H06 σ4 H6 env4 _ _ r6 q6 fun z2 v2 H7 H07 q7 r7 e7 x7 => ?_)
        have n7 := noA r7
        obtain ⟨kk, hkk, q7⟩ := q7
        have ev := dKey_V x6 hkk
        have kr : KRps K H07 ks acc := hr.mono (((e3.trans e5).trans e6).trans e7)
        refine ⟨ks, kk, ev, atA r7, by rw [krps_len hr]; exact Nat.lt_of_le_of_lt hacc (Nat.lt_trans hlt (lt_size hlen)), dSet acc kk z2, putK ks kk v2, H07, (((e2.trans e3).trans e5).trans e6).trans e7, (outer ((e5.trans e6).trans e7) r7).chg n7 hCA nha, upd_same, n7, krps_set kr kk x7, ?_, q7⟩
        exact Nat.le_trans (dSet_len acc kk z2) (Nat.succ_le_succ hacc)
      | false =>
        exact iteF ⟨acc, ks, H05, (e2.trans e3).trans e5, outer e5 r5, atA r5, noA r5, hr.mono (e3.trans e5), Nat.le_succ_of_le hacc, q5.2 rfl⟩
    · have hi' : i = ds.length := by omega
      subst hi'
      refine .inl ⟨w.stops H2 (e2.trans r2.sub), k acc A H2 H02 ks (fin acc i2) (out r2) (e1.trans e2) hCA hA0 nA hpA hr fun j s hs os z => ?_⟩
      have y : upd C.Kp A (.dK ks) A = none := r2.kn j s A hs os z
      rw [upd_same] at y; cases y
theorem ss_setDc {i : Nat} {vs : List Nat} {ti : TI} {wi : WI} {g : TG} {wg : WG} (hi : SndI K ok ti wi) (hg : SndG K ok vs g wg) (ht : SndT K ok tt wt) (hk : SndE K ok tk wk) (hv : SndE K ok tv wv) :
    SndS K ok (tAsg (tDc ti g tt tk tv vs) (gName i)) (wSetDc i (wDc wi wg wt wk wv vs)) := fun C H0 σ H env E W rel hw h =>
  sd_dc hi hg ht hk hv rel hw fun kvs A H2 H02 ks q r e a1 a2 a3 a4 a5 a6 => h.nx _ _ _ H02 e (r.setO (s := .dct kvs) ⟨A, ks, rfl, a1, a3, a4, a5⟩ rfl a2 fun j t _ ht ot => a6 j t ht ot) q
end
/-- name = {..} on one line, the name a local -/
theorem ps_setDc {X : Cx} {i : Nat} {y : Str} {py : Pos} {kx vx tg iter : Expr} {ifs : List Expr} {scope : Scope} {own : List (Str × Nat)} {pos spos : Pos} {wi : TI} {g : TG} {tt : TT} {tk tv : TE} (hc : X.calm = true) (hN : X.N.Nodup) (hy : X.N[i]? = some y) (hyl : X.env.scope.names.lookup y = some .local)
    (hsw : swapsWith (.DictComp kx vx [⟨tg, iter, ifs, 0⟩] scope pos) (some (.Name y py)) spos.line X.env = pure true) (hi : PI X tg iter wi) (ok : BlkOk X.N X.env.scope scope own)
    (hg : ∀ (s : Shared) (H : Hp) (C : Addr) (cl : List (Str × Addr)) (fp : List Addr), PG (X.blk s H scope (compEnvC scope cl C X.env) fp) tg g) (ht : ∀ (s : Shared) (H : Hp) (C : Addr) (cl : List (Str × Addr)) (fp : List Addr), PTs (X.blk s H scope (compEnvC scope cl C X.env) fp) ifs tt)
    (hk : ∀ (s : Shared) (H : Hp) (C : Addr) (cl : List (Str × Addr)) (fp : List Addr), PE (X.blk s H scope (compEnvC scope cl C X.env) fp) kx tk) (he : ∀ (s : Shared) (H : Hp) (C : Addr) (cl : List (Str × Addr)) (fp : List Addr), PE (X.blk s H scope (compEnvC scope cl C X.env) fp) vx tv)
    (hs : ∀ x, foldedSetIterable iter X.env x = pure x := by intro _; rfl) :
    PS X (.Assign [.Name y py] (.DictComp kx vx [⟨tg, iter, ifs, 0⟩] scope pos) spos) (tAsg (tDc wi g tt tk tv (own.map (·.2))) (gName i)) := by
  refine ⟨fun pins s σ H D I h => ?_⟩
  rw [exec_Assign_Name_used _ _ _ _ hsw]
  refine wpAny_bind (wpAny_standAt (wpAny_bind ?_))
  show wpAny _ X.A (do let _ ← comprehension (.DictComp kx vx [⟨tg, iter, ifs, 0⟩] scope pos) scope X.env (firstIterPos [⟨tg, iter, ifs, 0⟩] pos) newDict false (eval iter X.env) (some (assign (.Name y py) X.env))) _ _ s
  have h : tDc wi g tt tk tv (own.map (·.2)) σ H (fun x H1 => gName i x σ H1 D.nx) := h
  refine wpAny_bind (thn (dc_core (Qf := fun _ s' => SP X pins D .next s') hc hN I hi ok hg ht hk he hs h fun L C s' m H' I' q hn f => ?_) fun _ s' hq => wpAny_pure (wpAny_pure hq))
  show wpAny _ _ (assign (.Name y py) X.env (.ref L)) _ _ _
  refine wpAny_assign_Name (store_ok2 (v := V.ref L) I' hN hy (.inl hyl) rfl (fun s2 I2 ⟨a, sb, ha⟩ => ?_) (.inr hyl))
  obtain ⟨f0, f1, f2, f3, f4, f5⟩ := f
  have haC : C ≠ a := by
    rcases ha with z | z
    · rw [z]; exact f1
    · exact fun e => f4 y a z e.symm
  exact ⟨m, hn.sameBut sb haC, fun h3 sb3 => ⟨_, H', I2.turned (t' := s2.toks) (fun b o hb e => (sb3.2 b hb).trans e) f0 f1 f3 f4 f5, q⟩⟩
theorem swD_true {kx vx : Expr} {gs : List Comprehension} {scope : Scope} {pos py : Pos} {y : Str} {l : Nat} {env : Env} (hk : env.scope.kind = .function) (hy : env.scope.names.lookup y = some .local) (hl : (py.line == pos.line) = true)
    (ha : (scope.names.any fun (n, k) => n == y && (k == .local || k == .cell)) = false) : swapsWith (.DictComp kx vx gs scope pos) (some (.Name y py)) l env = pure true := by
  have ky : env.kindOf y = some .local := hy
  have hb : env.blockKind = .function := by unfold Env.blockKind; rw [hk]; rfl
  unfold swapsWith
  simp only [hb, ky, ha, Expr.pos, hl]
  rfl
section
variable {X : Cx} {ok : List D → Prop}
theorem s_setDc (i : Nat) {py spos : Pos} {y : Str} {tg iter kx vx : Expr} {ifs : List Expr} {scope : Scope} {pos : Pos} {own : List (Str × Nat)} {wi : WI} {wg : WG} {wt : WT} {wk wv : WE} (hc : X.calm = true) (hN : X.N.Nodup) (hi : PDI X ok tg iter wi) (ok' : BlkOk X.N X.env.scope scope own)
    (hg : ∃ g, (∀ (s : Shared) (H : Hp) (C : Addr) (cl : List (Str × Addr)) (fp : List Addr), PG (X.blk s H scope (compEnvC scope cl C X.env) fp) tg g) ∧ SndG X.K ok (own.map (·.2)) g wg)
    (ht : ∃ tt, (∀ (s : Shared) (H : Hp) (C : Addr) (cl : List (Str × Addr)) (fp : List Addr), PTs (X.blk s H scope (compEnvC scope cl C X.env) fp) ifs tt) ∧ SndT X.K ok tt wt)
    (hk : ∃ te, (∀ (s : Shared) (H : Hp) (C : Addr) (cl : List (Str × Addr)) (fp : List Addr), PE (X.blk s H scope (compEnvC scope cl C X.env) fp) kx te) ∧ SndE X.K ok te wk)
    (he : ∃ te, (∀ (s : Shared) (H : Hp) (C : Addr) (cl : List (Str × Addr)) (fp : List Addr), PE (X.blk s H scope (compEnvC scope cl C X.env) fp) vx te) ∧ SndE X.K ok te wv)
    (hsw : swapsWith (.DictComp kx vx [⟨tg, iter, ifs, 0⟩] scope pos) (some (.Name y py)) spos.line X.env = pure true) (hy : X.N[i]? = some y := by rfl) (hyl : X.env.scope.names.lookup y = some .local := by rfl)
    (hs : ∀ x, foldedSetIterable iter X.env x = pure x := by intro _; rfl) : PDS X ok (.Assign [.Name y py] (.DictComp kx vx [⟨tg, iter, ifs, 0⟩] scope pos) spos) (wSetDc i (wDc wi wg wt wk wv (own.map (·.2)))) :=
  let ⟨_, i1, i2⟩ := hi; let ⟨_, g1, g2⟩ := hg; let ⟨_, t1, t2⟩ := ht; let ⟨_, k1, k2⟩ := hk; let ⟨_, e1, e2⟩ := he; ⟨_, ps_setDc hc hN hy hyl hsw i1 ok' g1 t1 k1 e1 hs, ss_setDc i2 g2 t2 k2 e2⟩
end
end DL
/-! DM, part c: sorted(xs), xs a list of pairs of whole numbers. -/
namespace DL
open PySem PySem.Spec PyProof.Rows L2
abbrev d2 (P : Int × Int) : D := .tuple [.int P.1, .int P.2]
def leP (P R : Int × Int) : Prop := P.1 < R.1 ∨ (P.1 = R.1 ∧ P.2 ≤ R.2)
def wSortP (a : WE) : WL := fun env Q => a env fun x => ∃ L : List (Int × Int), x = .list (L.map d2) ∧ ∀ L' : List (Int × Int), L'.Perm L → L'.Pairwise leP → Q (L'.map d2)
/-- R tells the pair of each item -/
def rSortP2 (K : PySem.W.Frag) : List V → Hp → VK → Prop := fun vs H Q => ∃ (a : Addr) (xs : List V) (L : List (Int × Int)) (R : V → Int × Int → Prop), vs = [V.ref a] ∧ SqL K H a xs ∧ (∀ x P, R x P → ∃ t, x = V.ref t ∧ SqT K H t [.int P.1, .int P.2]) ∧ Paired R xs L ∧
  ∀ ys L' p, Paired R ys L' → L'.Perm L → L'.Pairwise leP → H p = none → Q (.ref p) (upd H p (.lst ys))
theorem pair_uniq {h : Heap} {v : Value} {x y x' y' : Int} (p : Srt.IsPair h v x y) (q : Srt.IsPair h v x' y') : (x, y) = (x', y') := by
  obtain ⟨a, o, t, u, n, rfl, ho, _, hd⟩ := p
  obtain ⟨a', o', t', u', n', e, ho', _, hd'⟩ := q
  cases e
  rw [ho] at ho'; cases ho'
  rw [hd] at hd'
  cases hd'
  rfl
open Classical in
noncomputable def pairOf (h : Heap) (v : Value) : Int × Int := if z : ∃ P : Int × Int, Srt.IsPair h v P.1 P.2 then z.choose else (0, 0)
theorem pairOf_eq {h : Heap} {v : Value} {P : Int × Int} (p : Srt.IsPair h v P.1 P.2) : pairOf h v = P := by
  have z : ∃ P : Int × Int, Srt.IsPair h v P.1 P.2 := ⟨P, p⟩
  unfold pairOf
  rw [dif_pos z]
  exact pair_uniq z.choose_spec p
section
variable {X : Cx}
theorem cr_sortP2 : CallR X (.builtin "sorted") (rSortP2 X.K) := by
  intro pins s σ H vs us Q I r h
  obtain ⟨a, xs, L, R, rfl, hs, hR, hp, q⟩ := h
  obtain ⟨its, rv, hl, hz⟩ := I.list hs
  obtain ⟨u, rfl, ru⟩ := vals1 r
  obtain rfl : u = Value.ref a := ru
  have isP : ∀ {x : V} {u : Value} {P : Int × Int}, R x P → RelV x u → u = (match x with | .ref t => Value.ref t | _ => .none) ∧ backV u = x ∧ Srt.IsPair s.heap u P.1 P.2 := fun {x u P} hx hu => by
    obtain ⟨t, rfl, ht⟩ := hR x P hx
    obtain rfl : u = Value.ref t := hu
    obtain ⟨its2, r2, ⟨o, ho, hc, n, hd⟩, _⟩ := I.tuple ht
    obtain ⟨u1, u2, rfl, ri, rj⟩ := vals2 r2
    obtain ⟨t1, rfl⟩ := ri
    obtain ⟨t2, rfl⟩ := rj
    exact ⟨rfl, rfl, t, o, t1, t2, n, rfl, ho, hc, hd⟩
  have all : ∀ {xs : List V} {its : List Value} {L : List (Int × Int)}, Vals xs its → Paired R xs L → L = its.map (pairOf s.heap) ∧ ∀ u ∈ its, Srt.IsPair s.heap u (pairOf s.heap u).1 (pairOf s.heap u).2 ∧ R (backV u) (pairOf s.heap u) ∧ ∃ t, u = Value.ref t := by
    intro xs its L rv
    induction rv generalizing L with
    | nil => intro hp; cases hp; exact ⟨rfl, fun u hu => by cases hu⟩
    | cons h t ih =>
      intro hp
      cases hp with
      | cons h1 h2 =>
        obtain ⟨e1, e2⟩ := ih h2
        obtain ⟨a1, a2, a3⟩ := isP h1 h
        have a4 := pairOf_eq a3
        refine ⟨by rw [List.map_cons, ← e1, a4], fun u hu => ?_⟩
        rcases List.mem_cons.mp hu with rfl | hu
        · rw [a4, a2]
          obtain ⟨t, rfl, _⟩ := hR _ _ h1
          exact ⟨a3, h1, t, a1⟩
        · exact e2 u hu
  obtain ⟨eL, hall⟩ := all rv hp
  refine SrtO.sorted_pairsO (k := pairOf s.heap) hl.isList (by rw [← rv.length]; exact hz) (fun v hv => (hall v hv).1) fun h' d out h1 h2 kp hd hn => ?_
  have h3 : ∀ u ∈ out, ∃ a, u = Value.ref a := fun u hu => (hall u (h2.perm.mem_iff.mp hu)).2.2
  obtain ⟨n, hn⟩ := hn
  have hpair : ∀ out : List Value, (∀ u ∈ out, R (backV u) (pairOf s.heap u)) → Paired R (out.map backV) (out.map (pairOf s.heap)) := by
    intro out
    induction out with
    | nil => intro _; exact .nil
    | cons u out ih => intro h; exact .cons (h u (.head _)) (ih fun v hv => h v (.tail _ hv))
  refine ⟨.ref d, upd H d (.lst (out.map backV)), I.laid (t' := s.toks) kp hd ⟨?_, out, n, vals_back h3, hn⟩, rfl, q _ (out.map (pairOf s.heap)) d (hpair out fun u hu => (hall u (h2.perm.mem_iff.mp hu)).2.1) ?_ ?_ (I.hok.fresh hd)⟩
  · rw [List.length_map, h2.perm.length_eq, ← rv.length]
    exact hz
  · rw [eL]; exact h2.perm.map _
  · refine List.pairwise_map.mpr (h1.imp fun {x y} h => ?_)
    have := SrtO.lexB_no.mp h
    unfold leP
    omega
end
section
variable {K : PySem.W.Frag} {ok : List D → Prop} {ta : TE} {wa : WE}
theorem rps_pairs {H : Hp} : ∀ {vs : List V} {L : List (Int × Int)}, Rps K H vs (L.map d2) → Paired (fun v P => Rp K H v (d2 P)) vs L
  | vs, [], h => by rw [h.nil_inv]; exact .nil
  | vs, P :: L, h => by
    obtain ⟨v, ws, rfl, h1, h2⟩ := h.cons_inv
    exact .cons h1 (rps_pairs h2)
theorem rps_unpair {H : Hp} : ∀ {vs : List V} {L : List (Int × Int)}, Paired (fun v P => Rp K H v (d2 P)) vs L → Rps K H vs (L.map d2)
  | _, _, .nil => .nil
  | _, _, .cons h t => .cons h (rps_unpair t)
theorem sl_sortP (ha : SndB K ok ta wa) : SndL K ok (tCB (rSortP2 K) (tCons ta tNil)) (wSortP wa) := fun C H0 σ H env Q R rel hw k =>
  ha C H0 σ H env _ _ rel hw fun d v H1 H01 q r1 e1 x1 => by
    obtain ⟨L, rfl, q⟩ := q
    obtain ⟨p, vs, rfl, r, h⟩ := (x1 H1 H01 r1 (Same.refl _)).lst r1.sub
    refine ⟨p, vs, L, fun v P => Rp K H01 v (d2 P), rfl, SqL.of h, fun x P hx => ?_, rps_pairs r, fun ys L' p' hp hperm hpw nl => k _ _ _ _ (q L' hperm hpw) (r1.laid0 nl) e1 ⟨r1.fresh nl, ⟨r1.sub.free nl, _, upd_same, rps_unpair hp⟩, r1.noslot nl, r1.kp.free nl⟩⟩
    have hx' := hx.mono r1.sub
    cases hx' with
    | tup h1 h2 =>
      have : Rps K H1 _ (dints [P.1, P.2]) := h2
      rw [this.ints_inv] at h1
      exact ⟨_, rfl, h1⟩
end
section
variable {X : Cx} {ok : List D → Prop} {a : Expr} {wa : WE} {pos p : Pos}
theorem l_sortP (hm : X.mg "sorted" = none) (ha : PDB X ok a wa) (hg : Gl X "sorted" := by rfl) (hs : starEach [a] X.env = (false, eval a X.env) :: starEach [] X.env := by rfl) (hpl : (backTo pos (starEach [] X.env)).any (·.1) = false := by rfl) :
    PDL X ok (.Call (.Name "sorted" p) [a] [] pos) (wSortP wa) := let ⟨_, a1, a2⟩ := ha; ⟨_, pe_callB cr_sortP2 hg hm (by decide +kernel) (pa_cons a1 pa_nil hs) (by decide) (by decide) hs hpl, sl_sortP a2⟩
end
end DL
/-! DM, part d: dicts whose keys are pairs of whole numbers: sorted, min, len, update; a dict returned. -/
namespace DN
open PySem PySem.Spec PyProof.Rows L2
abbrev pk (P : Int × Int) : NestedKey := .tup [.num P.1, .num P.2]
theorem NV.pair {K : PySem.W.Frag} {H : Hp} {n : Nat} {P : Int × Int} {v : V} (h : NV K H n (pk P) v) : ∃ t, v = .ref t ∧ SqT K H t [.int P.1, .int P.2] := by
  cases h with
  | tup h1 h2 =>
    cases h2 with
    | cons a b =>
      cases a
      cases b with
      | cons c d =>
        cases c
        cases d
        exact ⟨_, rfl, h1⟩
section
variable {X : Cx} {pins : List (Addr × Obj)} {σ : L2.St} {H : Hp} {s : Shared} {a : Addr} {ks : List MRow}
/-- the keys' own values, as they stand in the table -/
theorem dn_raw (I : Inv X pins σ H s) (e : H a = some (dN a ks)) (hk : ∀ x ∈ ks, NV X.K H 8 x.1 x.2.1) : (a == sysModules) = false ∧ ∃ es ep, s.heap.DictRaw a es ep ∧ es.size = ks.length ∧ es.size ≤ sizeLine ∧ Vals (ks.map (·.2.1)) (es.toList.map (·.key)) := by
  obtain ⟨⟨o, es, ep, ho, hx, hd, hr, hn, hz, hm⟩, _⟩ := (show ObjOk X.prog X.w H s.heap a (dN a ks) from I.hok a _ e)
  have hl : es.size = ks.length := by rw [← Array.length_toList, ← Paired.length hr]
  have hv : ∀ {ks : List MRow} {es : List DictEntry}, Paired RowR ks es → Vals (ks.map (·.2.1)) (es.map (·.key)) := by
    intro ks es r
    induction r with
    | nil => exact .nil
    | cons h t ih => exact .cons h.2.1 ih
  exact ⟨hm, es, ep, ⟨o, ho, hx, hd⟩, hl, by rw [hl]; exact hz, hv hr⟩
end
/-- what is told of a dict of pairs: R tells each key's own value -/
def IsM (K : PySem.W.Frag) (H : Hp) (a : Addr) (ks : List MRow) (L : List (Int × Int)) (R : V → Int × Int → Prop) : Prop :=
  H a = some (dN a ks) ∧ (∀ x ∈ ks, NV K H 8 x.1 x.2.1) ∧ (∀ x P, R x P → NV K H 8 (pk P) x) ∧ Paired R (ks.map (·.2.1)) L
def rSortM (K : PySem.W.Frag) : List V → Hp → VK → Prop := fun vs H Q => ∃ (a : Addr) (ks : List MRow) (L : List (Int × Int)) (R : V → Int × Int → Prop), vs = [V.ref a] ∧ IsM K H a ks L R ∧
  ∀ ys L' p, Paired R ys L' → L'.Perm L → L'.Pairwise DL.leP → H p = none → Q (.ref p) (upd H p (.lst ys))
theorem pair_vals {X : Cx} {pins : List (Addr × Obj)} {σ : L2.St} {H : Hp} {s : Shared} (I : Inv X pins σ H s) {R : V → Int × Int → Prop} (hR : ∀ x P, R x P → NV X.K H 8 (pk P) x) :
    ∀ {xs : List V} {its : List Value} {L : List (Int × Int)}, Vals xs its → Paired R xs L → L = its.map (DL.pairOf s.heap) ∧ ∀ u ∈ its, Srt.IsPair s.heap u (DL.pairOf s.heap u).1 (DL.pairOf s.heap u).2 ∧ R (backV u) (DL.pairOf s.heap u) ∧ ∃ t, u = Value.ref t := by
  have isP : ∀ {x : V} {u : Value} {P : Int × Int}, R x P → RelV x u → ∃ t, u = Value.ref t ∧ x = V.ref t ∧ Srt.IsPair s.heap u P.1 P.2 := fun {x u P} hx hu => by
    obtain ⟨t, rfl, ht⟩ := (hR x P hx).pair
    obtain rfl : u = Value.ref t := hu
    obtain ⟨its2, r2, ⟨o, ho, hc, n, hd⟩, _⟩ := I.tuple ht
    obtain ⟨u1, u2, rfl, ri, rj⟩ := vals2 r2
    obtain ⟨t1, rfl⟩ := ri
    obtain ⟨t2, rfl⟩ := rj
    exact ⟨t, rfl, rfl, t, o, t1, t2, n, rfl, ho, hc, hd⟩
  intro xs its L rv
  induction rv generalizing L with
  | nil => intro hp; cases hp; exact ⟨rfl, fun u hu => by cases hu⟩
  | cons h t ih =>
    intro hp
    cases hp with
    | cons h1 h2 =>
      obtain ⟨e1, e2⟩ := ih h2
      obtain ⟨t, a1, a2, a3⟩ := isP h1 h
      have a4 := DL.pairOf_eq a3
      refine ⟨by rw [List.map_cons, ← e1, a4], fun u hu => ?_⟩
      rcases List.mem_cons.mp hu with rfl | hu
      · rw [a4]
        refine ⟨a3, ?_, t, a1⟩
        rw [a1]
        rw [a2] at h1
        exact h1
      · exact e2 u hu
theorem items_list {es : Array DictEntry} {acc : Array Value} (h : ItemsOf (fun i v => ∃ hi : i < es.size, v = es[i].key) acc es.size) : acc.toList = es.toList.map (·.key) := by
  apply List.ext_getElem?
  intro j
  rw [List.getElem?_map, Array.getElem?_toList, Array.getElem?_toList]
  by_cases hj : j < acc.size
  · have e : acc[j]? = some acc[j] := Array.getElem?_eq_getElem hj
    obtain ⟨hi, ev⟩ := h.2 j _ e
    rw [e, Array.getElem?_eq_getElem hi, ev]
    rfl
  · rw [Array.getElem?_eq_none (by omega), Array.getElem?_eq_none (by rw [← h.1]; omega)]
    rfl
section
variable {X : Cx}
theorem cr_sortM (hcalm : X.calm = true) : CallR X (.builtin "sorted") (rSortM X.K) := by
  intro pins s σ H vs us Q I r h
  obtain ⟨a, ks, L, R, rfl, ⟨e, hk, hR, hp⟩, q⟩ := h
  obtain ⟨u, rfl, ru⟩ := vals1 r
  obtain rfl : u = Value.ref a := ru
  obtain ⟨lo, es, ep, raw, hsz, hz, rv⟩ := dn_raw I e hk
  refine Calls.call_function_entry PyProof.Rows.kind_sorted PyProof.Rows.plain_sorted PyProof.Rows.entry_sorted (PyProof.Rows.args_sorted1 _) ?_
  unfold Builtin.«sorted»
  refine wpAny_bind (m := checkCount "sorted" 1 1 _) (wpAny_pure ?_)
  refine wpAny_bind (PySem.W.kdu_collect (A := X.A.in1) (KdlSrc.rawDict (es := es) (ep := ep) lo) (I.ok.hd hcalm) raw hz fun h' tk acc hkeep hacc => ?_)
  have I1 : Inv X pins σ H { s with heap := h', toks := tk } := I.kept hkeep
  rw [items_list hacc]
  obtain ⟨eL, hall⟩ := pair_vals I1 hR rv hp
  generalize es.toList.map (·.key) = its at rv eL hall ⊢
  have hil : its.length ≤ sizeLine := by
    rw [← rv.length, List.length_map]; omega
  refine wpAny_bind (wpAny_newList ?_ hil)
  have hoL : (h'.push (seqObj "list" its.toArray 0)).get? h'.objs.size = some (seqObj "list" its.toArray 0) := Heap.get?_push_size _ rfl
  show wpAny _ _ _ _ _ { s with heap := h'.push (seqObj "list" its.toArray 0), toks := tk }
  refine wpAny_bind (wpAny_holding (wpAny_call_entry PyProof.Rows.slot_list_sort ⟨_, hoL, rfl⟩ PyProof.Rows.entry_list_sort
    (SrtO.list_sort_ord (s := { s with heap := h'.push (seqObj "list" its.toArray 0), toks := tk }) (SrtO.swo_lex (DL.pairOf h')) hoL hil
      (fun h2 => SrtO.pairs_sortableO (by omega) (fun v hv => (hall v hv).1.keeps fun b o e _ => Heap.get?_push_of_some _ e) fun o e => ?_) fun out h1 h2 => ⟨_, rfl, ?_⟩) (PyProof.Rows.args_list_sort _)))
  · have e' : some o = some (seqObj "list" its.toArray 0) := e.symm.trans hoL
    cases e'
    intro c
    exact absurd (Value.type.inj c) (by decide)
  · obtain ⟨e', he'⟩ := PyProof.Rows.sortedHeap_at (vs := its) (out := out.toArray) hoL
    have h3 : ∀ u ∈ out, ∃ a, u = Value.ref a := fun u hu => (hall u (h2.perm.mem_iff.mp hu)).2.2
    have hpair : ∀ out : List Value, (∀ u ∈ out, R (backV u) (DL.pairOf h' u)) → Paired R (out.map backV) (out.map (DL.pairOf h')) := by
      intro out
      induction out with
      | nil => intro _; exact .nil
      | cons u out ih => intro h; exact .cons (h u (.head _)) (ih fun v hv => h v (.tail _ hv))
    have hlen : (out.map backV).length ≤ sizeLine := by rw [List.length_map, h2.perm.length_eq]; exact hil
    refine wpAny_pure ⟨_, rfl, .ref h'.objs.size, upd H h'.objs.size (.lst (out.map backV)), I1.laid (t' := tk) (fun b u e => ?_) (Nat.le_refl _)
      (show ObjOk X.prog X.w _ _ _ (.lst (out.map backV)) from ⟨hlen, out, e', vals_back h3, he'⟩), rfl, q _ (out.map (DL.pairOf h')) _ (hpair out fun u hu => (hall u (h2.perm.mem_iff.mp hu)).2.1) ?_ ?_ (I1.hok.fresh (Nat.le_refl _))⟩
    · have hb : b < h'.objs.size := Heap.lt_size e
      rw [PyProof.Rows.sortedHeap_old (Nat.ne_of_lt hb) (by rw [size_push']; exact Nat.lt_succ_of_lt hb)]
      exact Heap.get?_push_of_some _ e
    · rw [eL]; exact h2.perm.map _
    · refine List.pairwise_map.mpr (h1.imp fun {x y} h => ?_)
      have := SrtO.lexB_no.mp h
      unfold DL.leP
      omega
end
end DN
namespace DN
open PySem PySem.Spec PyProof.Rows L2
/-! ### min -/
theorem bb1 (a b c d : Int) : (decide ((1:Int) < 1) || (!decide ((1:Int) < 1) && (decide (a < b) || (!decide (b < a) && (decide ((1:Int) < 1) || (!decide ((1:Int) < 1) && (decide (c < d) || (!decide (d < c) && (decide ((0:Int) < 0) || (!decide ((0:Int) < 0) && false)))))))))) = (if a = b then decide (c < d) else decide (a < b)) := by
  rw [show decide ((1:Int) < 1) = false from rfl, show decide ((0:Int) < 0) = false from rfl]
  by_cases h1 : a = b
  · subst h1
    rw [if_pos rfl, show decide (a < a) = false from decide_eq_false (Int.lt_irrefl a)]
    cases hh : decide (c < d) <;> simp
  · rw [if_neg h1]
    by_cases h2 : a < b
    · rw [decide_eq_true h2]; rfl
    · rw [decide_eq_false h2, decide_eq_true (show b < a by omega)]; rfl
theorem dataLt_pair (P R : Int × Int) : PySem.W.dataLt (DL.d2 P) (DL.d2 R) = SrtO.lexB P R := by
  have e1 : PySem.W.keyToks (DL.d2 P) = [.inl 1, .inl P.1, .inl 1, .inl P.2, .inl 0] := by simp [PySem.W.keyToks, PySem.W.keyToksAll]
  have e2 : PySem.W.keyToks (DL.d2 R) = [.inl 1, .inl R.1, .inl 1, .inl R.2, .inl 0] := by simp [PySem.W.keyToks, PySem.W.keyToksAll]
  unfold PySem.W.dataLt
  rw [e1, e2]
  have L : ∀ (x y : Int ⊕ List Nat) (r t : List (Int ⊕ List Nat)), lexLt itemOrd (x :: r) (y :: t) = (itemOrd.blt x y || (!itemOrd.blt y x && lexLt itemOrd r t)) := fun x y r t => lex_cons (O := itemOrd) x y r t
  rw [L, L, L, L, L]
  have it : ∀ a b : Int, itemOrd.blt (Sum.inl a : Int ⊕ List Nat) (Sum.inl b) = decide (a < b) := fun a b => rfl
  rw [it, it, it, it, it, it, show PyProof.Rows.lexLt itemOrd [] [] = false from rfl]
  exact bb1 P.1 R.1 P.2 R.2
def minP (x : Int × Int) (L : List (Int × Int)) : Int × Int := L.foldl (fun a y => if SrtO.lexB y a then y else a) x
theorem fold_d2 : ∀ (L : List (Int × Int)) (x : Int × Int), (L.map DL.d2).foldl (fun a y => if PySem.W.dataLt y a then y else a) (DL.d2 x) = DL.d2 (minP x L)
  | [], x => rfl
  | y :: L, x => by
    show (L.map DL.d2).foldl _ (if PySem.W.dataLt (DL.d2 y) (DL.d2 x) then DL.d2 y else DL.d2 x) = DL.d2 (minP (if SrtO.lexB y x then y else x) L)
    rw [dataLt_pair]
    split <;> exact fold_d2 L _
theorem minP_spec : ∀ (L : List (Int × Int)) (x : Int × Int), minP x L ∈ x :: L ∧ ∀ R ∈ x :: L, DL.leP (minP x L) R
  | [], x => ⟨.head _, fun R hR => by rw [List.mem_singleton.mp hR]; exact .inr ⟨rfl, Int.le_refl _⟩⟩
  | y :: L, x => by
    obtain ⟨h1, h2⟩ := minP_spec L (if SrtO.lexB y x then y else x)
    have e : minP x (y :: L) = minP (if SrtO.lexB y x then y else x) L := rfl
    rw [e]
    have tr : ∀ A B C : Int × Int, DL.leP A B → DL.leP B C → DL.leP A C := fun A B C h1 h2 => by unfold DL.leP at *; omega
    cases hb : SrtO.lexB y x with
    | true =>
      rw [hb] at h1 h2
      have hyx : DL.leP y x := by have := SrtO.lexB_iff.mp hb; unfold DL.leP; omega
      refine ⟨.tail _ h1, fun R hR => ?_⟩
      rcases List.mem_cons.mp hR with rfl | hR
      · exact tr _ _ _ (h2 y (.head _)) hyx
      · exact h2 R hR
    | false =>
      rw [hb] at h1 h2
      rw [show (if false = true then y else x) = x from rfl] at h1 h2 ⊢
      have hyx : DL.leP x y := by have := SrtO.lexB_no.mp hb; unfold DL.leP; omega
      refine ⟨?_, fun R hR => ?_⟩
      · rcases List.mem_cons.mp h1 with h | h
        · rw [h]; exact .head _
        · exact .tail _ (.tail _ h)
      · rcases List.mem_cons.mp hR with rfl | hR
        · exact h2 _ (.head _)
        · rcases List.mem_cons.mp hR with rfl | hR
          · exact tr _ _ _ (h2 x (.head _)) hyx
          · exact h2 R (.tail _ hR)
theorem reads_pairs {h : Heap} : ∀ {its : List Value}, (∀ u ∈ its, Srt.IsPair h u (DL.pairOf h u).1 (DL.pairOf h u).2) → ∃ as, ReadsAll h its ((its.map (DL.pairOf h)).map DL.d2) as
  | [], _ => ⟨_, .nil⟩
  | u :: its, hp => by
    obtain ⟨as, r⟩ := reads_pairs (its := its) fun v hv => hp v (.tail _ hv)
    obtain ⟨a, o, t, w, n, e, ho, hc, hd⟩ := hp u (.head _)
    have r1 : Reads h u (DL.d2 (DL.pairOf h u)) ([] ++ ([] ++ [])) := by
      rw [e] at hd ⊢
      exact .tuple ho hc hd (.cons (.int _ _) (.cons (.int _ _) .nil))
    exact ⟨_, .cons r1 r⟩
def rMinM (K : PySem.W.Frag) : List V → Hp → VK → Prop := fun vs H Q => ∃ (a : Addr) (ks : List MRow) (x : Int × Int) (L : List (Int × Int)) (R : V → Int × Int → Prop), vs = [V.ref a] ∧ IsM K H a ks (x :: L) R ∧ ∀ v, R v (minP x L) → Q v H
theorem cr_minM {X : Cx} (hcalm : X.calm = true) (hu : X.A.units + 65 < cLine) : CallR X (.builtin "min") (rMinM X.K) := by
  intro pins s σ H vs us Q I r h
  obtain ⟨a, ks, x, L, R, rfl, ⟨e, hk, hR, hp⟩, q⟩ := h
  obtain ⟨u, rfl, ru⟩ := vals1 r
  obtain rfl : u = Value.ref a := ru
  obtain ⟨lo, es, ep, raw, hsz, hz, rv⟩ := dn_raw I e hk
  obtain ⟨eL, hall⟩ := pair_vals I hR rv hp
  have hlt : a < s.heap.objs.size := by obtain ⟨_, ho, _⟩ := raw; exact Heap.lt_size ho
  obtain ⟨as, hr⟩ := reads_pairs fun u hu => (hall u hu).1
  rw [← eL] at hr
  have hn : es.size = L.length + 1 := by
    have := congrArg List.length eL
    rw [List.length_map, List.length_map, Array.length_toList] at this
    simpa using this.symm
  have alikeP : ∀ P R : Int × Int, PySem.W.alike (DL.d2 P) (DL.d2 R) = true := fun P R => by simp [PySem.W.alike, PySem.W.alikeAll]
  have ha : PySem.W.AlikeAll ((x :: L).map DL.d2) := ⟨fun p hp r hr => by
    obtain ⟨P, _, rfl⟩ := List.mem_map.mp hp
    obtain ⟨R, _, rfl⟩ := List.mem_map.mp hr
    exact alikeP P R, fun p hp z => by
    obtain ⟨P, _, rfl⟩ := List.mem_map.mp hp
    cases z⟩
  have dep : ∀ M : List (Int × Int), PyData.depthAll (M.map DL.d2) ≤ 1 := by
    intro M
    induction M with
    | nil => exact Nat.zero_le _
    | cons P M ih =>
      show max (DL.d2 P).depth (PyData.depthAll (M.map DL.d2)) ≤ 1
      exact Nat.max_le.mpr ⟨by simp [PyData.depth, PyData.depthAll], ih⟩
  have hd1 := dep (x :: L)
  refine PySem.call_min_walkH (wpAny_pyIter_dict_raw lo raw ?_)
  refine ⟨s.heap.objs.size, [s.heap.objs.size, a], [s.heap.objs.size], fun a b => b = a, es.size, _, _, s.heap, (fun i j => PySem.W.dataLt (((x :: L).map DL.d2).getD i .none) (((x :: L).map DL.d2).getD j .none)), rfl,
    (Walks.rawKeys (A := X.A.in1) (I.ok.hd hcalm) s.heap.objs.size a (Nat.ne_of_lt hlt) es ep).toS, ⟨⟨_, Heap.get?_push_size _ rfl, rfl, rfl⟩, raw.push _⟩, fun b hb => ?_, by omega, fun b o e hb => ?_, fun b o e => Heap.get?_push_of_some _ e, ?_, fun v s' hP m => ?_⟩
  · show b < (s.heap.push _).objs.size
    rw [Heap.size_push]
    rcases List.mem_cons.mp hb with rfl | hb
    · exact Nat.lt_succ_self _
    · rw [List.mem_singleton.mp hb]; exact Nat.lt_succ_of_lt hlt
  · exact absurd (Heap.lt_size e) ((List.mem_singleton.mp hb) ▸ Nat.lt_irrefl _)
  · have c := PySem.W.cmpIn_lt (prog := X.prog) (w := X.w) (A := X.A.in1) (s := s) (vs := (es.toList.map (·.key)).toArray) (xs := (x :: L).map DL.d2) (as := as) hr ha (by rw [Around.in1_units]; omega)
    intro i j vi vj s2 Q2 E2 hkeep hi hj hq
    refine c i j vi vj s2 Q2 E2 hkeep ?_ ?_ hq
    · obtain ⟨h, rfl⟩ := hi
      simp [h]
    · obtain ⟨h, rfl⟩ := hj
      simp [h]
  · obtain ⟨h', tk, rfl, hk'⟩ := PySem.W.moved_old rfl rfl m
    obtain ⟨hi, rfl⟩ := hP
    have hidx : es.size - 1 = L.length := by omega
    have e2 := PySem.W.argBest_fold PySem.W.dataLt PyData.none (DL.d2 x) (L.map DL.d2) (L.map DL.d2).length (Nat.le_refl _)
    rw [List.take_length, fold_d2, List.length_map] at e2
    obtain ⟨hle, e2⟩ := e2
    generalize hj : argBest (fun i j => PySem.W.dataLt (((x :: L).map DL.d2).getD i .none) (((x :: L).map DL.d2).getD j .none)) (es.size - 1) = i at hi ⊢
    rw [hidx] at hj
    have hj' : argBest (fun i j => PySem.W.dataLt ((DL.d2 x :: L.map DL.d2).getD i .none) ((DL.d2 x :: L.map DL.d2).getD j .none)) L.length = i := hj
    rw [hj'] at hle e2
    have hi' : i < es.size := by omega
    have hmem : es[i].key ∈ es.toList.map (·.key) := List.mem_map.mpr ⟨es[i], Array.getElem_mem_toList _, rfl⟩
    obtain ⟨_, h2, t, ht⟩ := hall _ hmem
    have hLi : (x :: L)[i]? = some (DL.pairOf s.heap es[i].key) := by
      rw [eL, List.getElem?_map, List.getElem?_map, Array.getElem?_toList, Array.getElem?_eq_getElem hi']
      rfl
    have ev : DL.pairOf s.heap es[i].key = minP x L := by
      have : ((x :: L).map DL.d2)[i]? = some (DL.d2 (DL.pairOf s.heap es[i].key)) := by rw [List.getElem?_map, hLi]; rfl
      have e3 : (DL.d2 x :: L.map DL.d2).getD i .none = DL.d2 (DL.pairOf s.heap es[i].key) := by
        rw [List.getD_eq_getElem?_getD]
        rw [show DL.d2 x :: L.map DL.d2 = (x :: L).map DL.d2 from rfl, this]
        rfl
      rw [e3] at e2
      have e4 := PyData.tuple.inj e2
      injection e4 with e5 e6
      injection e6 with e6 _
      injection e5 with e5
      injection e6 with e6
      exact Prod.ext e5 e6
    rw [ev] at h2
    exact ⟨backV es[i].key, H, I.kept hk', by rw [ht]; rfl, q _ h2⟩
/-! ### dicts whose keys are tuples -/
def tk : NestedKey → Bool
  | .tup _ => true
  | _ => false
def adr : Value → Addr
  | .ref a => a
  | _ => 0
abbrev toH (r : Row) : NestedKey × Addr × Value := (r.1, adr r.2.1, r.2.2)
abbrev ofH (x : NestedKey × Addr × Value) : Row := (x.1, .ref x.2.1, x.2.2)
theorem key_ref {h : Heap} {k : NestedKey} {v : Value} (x : IsKey h k v) (t : tk k = true) : v = .ref (adr v) := by
  obtain ⟨x, _, _⟩ := x
  cases x with
  | none => cases t
  | bool _ => cases t
  | int _ _ => cases t
  | text _ _ => cases t
  | tup => rfl
section
variable {P : Program} {w : World} {h : Heap} {d : Addr} {xs : List Row}
theorem dict_toH (m : Dict w h d xs) (ht : ∀ x ∈ xs, tk x.1 = true) : h.DictOfH (nestedKind P w) d (xs.map toH) := by
  obtain ⟨o, es, ep, ho, hc, hd, he, his, hn⟩ := m
  refine ⟨o, es, ep, ho, hc, hd, ?_, fun x hx => ?_, ?_⟩
  · rw [he, List.map_map]
    refine List.map_congr_left fun x hx => ?_
    show (⟨x.1.hash w, x.2.1, x.2.2⟩ : DictEntry) = ⟨x.1.hash w, .ref (adr x.2.1), x.2.2⟩
    rw [← key_ref (his x hx) (ht x hx)]
  · obtain ⟨y, hy, rfl⟩ := List.mem_map.mp hx
    have k := his y hy
    refine ⟨?_, k.dp⟩
    show NestedIs h y.1 (.ref (adr y.2.1))
    rw [← key_ref k (ht y hy)]
    exact k.is
  · rw [List.map_map]
    exact hn
theorem dict_ofH {ys : List (NestedKey × Addr × Value)} (m : h.DictOfH (nestedKind P w) d ys) : Dict w h d (ys.map ofH) := by
  obtain ⟨o, es, ep, ho, hc, hd, he, his, hn⟩ := m
  refine ⟨o, es, ep, ho, hc, hd, ?_, fun x hx => ?_, ?_⟩
  · rw [he, List.map_map]
    rfl
  · obtain ⟨y, hy, rfl⟩ := List.mem_map.mp hx
    obtain ⟨k1, k2⟩ := his y hy
    exact ⟨k1, k2, fun z e => by
      rw [show (ofH y).1 = y.1 from rfl] at e
      rw [e] at k1
      cases k1⟩
  · rw [List.map_map]
    exact hn
theorem at_ofH (k : NestedKey) : ∀ ys : List (NestedKey × Addr × Value), (atKey ys k).isSome = (rowAt (ys.map ofH) k).isSome
  | [] => rfl
  | y :: ys => by
    have ih := at_ofH k ys
    unfold atKey rowAt at ih ⊢
    by_cases e : y.1 = k
    · rw [List.map_cons, List.find?_cons_of_pos (by exact decide_eq_true e), List.find?_cons_of_pos (by exact decide_eq_true e)]
      rfl
    · rw [List.map_cons, List.find?_cons_of_neg (by simpa using e), List.find?_cons_of_neg (by simpa using e)]
      exact ih
theorem stored_ofH (ys : List (NestedKey × Addr × Value)) (k : NestedKey) (a : Addr) (v : Value) : (storedH ys k a v).map ofH = rowSet (ys.map ofH) k (.ref a) v := by
  unfold storedH rowSet
  rw [← at_ofH k ys]
  split
  · rw [List.map_map, List.map_map]
    refine List.map_congr_left fun y _ => ?_
    show ofH (putAt k v y) = rowPut k v (ofH y)
    unfold putAt rowPut
    split <;> rfl
  · rw [List.map_append]
    rfl
end
def mergeM (ks ms : List MRow) : List MRow := ms.foldl (fun acc m => putM acc m.1 m.2.1 m.2.2) ks
theorem MR.merge : ∀ {ms : List MRow} {ys : List (NestedKey × Addr × Value)}, MR ms (ys.map ofH) → ∀ {ks : List MRow} {xs : List (NestedKey × Addr × Value)}, MR ks (xs.map ofH) → MR (mergeM ks ms) ((storedAllH xs ys).map ofH)
  | [], ys, r, ks, xs, q => by
    cases ys with
    | nil => exact q
    | cons y ys => cases r
  | m :: ms, ys, r, ks, xs, q => by
    cases ys with
    | nil => cases r
    | cons y ys =>
      cases r with
      | cons h t =>
        show MR (mergeM (putM ks m.1 m.2.1 m.2.2) ms) ((storedAllH (storedH xs y.1 y.2.1 y.2.2) ys).map ofH)
        refine MR.merge t ?_
        rw [stored_ofH]
        have := q.put (k := m.1) h.2.1 h.2.2
        rw [show y.1 = m.1 from h.1.symm]
        exact this
theorem mergeM_len : ∀ (ms ks : List MRow), (mergeM ks ms).length ≤ ks.length + ms.length
  | [], ks => Nat.le_refl _
  | m :: ms, ks => by
    have h1 := mergeM_len ms (putM ks m.1 m.2.1 m.2.2)
    have h2 := putM_len ks m.1 m.2.1 m.2.2
    show (mergeM (putM ks m.1 m.2.1 m.2.2) ms).length ≤ _
    rw [List.length_cons]; omega
theorem mergeM_keys {K : PySem.W.Frag} {H : Hp} : ∀ (ms : List MRow) {ks : List MRow}, (∀ x ∈ ks, NV K H 8 x.1 x.2.1) → (∀ x ∈ ms, NV K H 8 x.1 x.2.1) → ∀ x ∈ mergeM ks ms, NV K H 8 x.1 x.2.1
  | [], ks, h, _ => h
  | m :: ms, ks, h, hm => mergeM_keys ms (putM_keys h (hm m (.head _))) fun x hx => hm x (.tail _ hx)
/-- the heap behind a.update(b) -/
def MUpd (K : PySem.W.Frag) (H : Hp) (a b : Addr) (H' : Hp) : Prop := ∃ ks ms, a ≠ b ∧ H a = some (dN a ks) ∧ H b = some (dN b ms) ∧ (∀ x ∈ ks, NV K H 8 x.1 x.2.1) ∧ (∀ x ∈ ms, NV K H 8 x.1 x.2.1) ∧ (∀ x ∈ ks, tk x.1 = true) ∧ (∀ x ∈ ms, tk x.1 = true) ∧
  (ks ≠ [] ∨ ∀ w, (ms.map fun x => x.1.hash w).Nodup) ∧ ks.length + ms.length ≤ sizeLine ∧ H' = upd H a (dN a (mergeM ks ms))
section
variable {X : Cx} {pins : List (Addr × Obj)} {σ : L2.St} {H H' : Hp} {s : Shared} {a b : Addr} {E : Value → Shared → Prop}
theorem m_upd {Q : Value → Shared → Prop} (hu : X.A.units + 9 < cLine) (I : Inv X pins σ H s) (g : MUpd X.K H a b H') (h : ∀ s', Inv X pins σ H' s' → Q .none s') : wpAny (model X.prog X.w) X.A (call (.builtin "dict.update") [.ref a, .ref b]) Q E s := by
  obtain ⟨ks, ms, hab, ea, eb, hk, hm, tka, tkb, hap, hl, rfl⟩ := g
  obtain ⟨hd, xs, rel, hz, dd⟩ := dn_rd I ea hk
  obtain ⟨hd2, ys, rel2, hz2, dd2⟩ := dn_rd I eb hm
  have tks : ∀ {ks : List MRow} {xs : List Row}, MR ks xs → (∀ x ∈ ks, tk x.1 = true) → ∀ x ∈ xs, tk x.1 = true := by
    intro ks xs r
    induction r with
    | nil => intro _ x hx; cases hx
    | cons h t ih =>
      intro hk x hx
      rcases List.mem_cons.mp hx with rfl | hx
      · rw [← h.1]; exact hk _ (.head _)
      · exact ih (fun y hy => hk y (.tail _ hy)) x hx
  have t1 := tks rel tka
  have t2 := tks rel2 tkb
  have H1 := dict_toH (P := X.prog) dd t1
  have H2 := dict_toH (P := X.prog) dd2 t2
  have back : ∀ {xs : List Row}, (∀ x ∈ xs, ∃ a, x.2.1 = Value.ref a) → (xs.map toH).map ofH = xs := fun {xs} h => by
    rw [List.map_map]
    conv => rhs; rw [← List.map_id xs]
    refine List.map_congr_left fun x hx => ?_
    obtain ⟨a, e⟩ := h x hx
    show (x.1, Value.ref (adr x.2.1), x.2.2) = x
    rw [e]
    show (x.1, Value.ref a, x.2.2) = x
    rw [← e]
  have r1 : ∀ x ∈ xs, ∃ a, x.2.1 = Value.ref a := fun x hx => by
    obtain ⟨_, _, _, _, _, _, _, his, _⟩ := dd
    exact ⟨_, key_ref (his x hx) (t1 x hx)⟩
  have r2 : ∀ x ∈ ys, ∃ a, x.2.1 = Value.ref a := fun x hx => by
    obtain ⟨_, _, _, _, _, _, _, his, _⟩ := dd2
    exact ⟨_, key_ref (his x hx) (t2 x hx)⟩
  have l1 := Paired.length rel
  have l2 := Paired.length rel2
  refine PySem.call_update_dictH (knd := nestedKind X.prog X.w) (by show X.A.in1.units + 8 < cLine; rw [Around.in1_units]; omega) hab hd2 H1 H2 ?_ (by rw [List.length_map, List.length_map]; omega) fun h' hd' ho' hs' => h _ ?_
  · rcases hap with z | z
    · refine .inl fun e => z ?_
      have := congrArg List.length e
      rw [List.length_map, ← l1] at this
      exact List.eq_nil_of_length_eq_zero (by simpa using this)
    · refine .inr ⟨fun x hx => ?_, ?_⟩
      · obtain ⟨y, hy, rfl⟩ := List.mem_map.mp hx
        obtain ⟨o, es, ep, ho, hc, hdd, he, his, hn⟩ := dd2
        have k := his y hy
        have e := key_ref k (t2 y hy)
        have ki := k.is
        have tt := t2 y hy
        show s.TypeIs (.ref (adr y.2.1)) "tuple"
        rw [← e]
        generalize y.1 = kk at ki tt
        generalize y.2.1 = vv at ki ⊢
        cases ki with
        | none => cases tt
        | bool _ => cases tt
        | int _ _ => cases tt
        | text _ _ => cases tt
        | tup h1 h2 _ _ => exact ⟨_, h1, h2⟩
      · rw [List.map_map]
        have := z X.w
        have e : ys.map ((fun x => (nestedKind X.prog X.w).hash x.1) ∘ toH) = ms.map fun x => x.1.hash X.w := by
          have e1 := rel2.keys
          have : ys.map ((fun x => (nestedKind X.prog X.w).hash x.1) ∘ toH) = (ys.map (·.1)).map fun k => k.hash X.w := by rw [List.map_map]; rfl
          rw [this, ← e1, List.map_map]
          rfl
        rw [e]
        exact this
  · have he : ∃ q, h'.get? a = some q := let ⟨q, _, _, hq, _⟩ := hd'; ⟨q, hq⟩
    have dd' := dict_ofH hd'
    have mr := MR.merge (by rw [back r2]; exact rel2) (by rw [back r1]; exact rel)
    exact d_write I (by rw [ea]; exact True.intro) hs' he (dn_ok mr (mergeM_keys ms hk hm) hd (by have := mergeM_len ms ks; omega) dd')
end
/-- a.update(b) as a value -/
def tMUpd (K : PySem.W.Frag) (td ty : TE) : TE := fun σ H Q => td σ H fun x H1 => ∃ a, x = .ref a ∧ MIs K H1 a ∧ ty σ H1 fun y H2 => ∃ b H3, y = .ref b ∧ MUpd K H2 a b H3 ∧ Q .non H3
theorem pe_mupd {X : Cx} {o e : Expr} {apos cpos : Pos} {td ty : TE} (hu : X.A.units + 9 < cLine) (ho : PE X o td) (he : PE X e ty) (m : M1 X o "update" apos e cpos) : PE X (.Call (.Attribute o "update" apos) [e] [] cpos) (tMUpd X.K td ty) := by
  refine ⟨fun pins s σ H Q I h => ?_⟩
  refine wpAny_Call_method m.base m.few m.line PySem.F.plainAttrs_dict PySem.F.slot_dict_update PySem.F.type_dict_update (thn (ho.run pins s σ H _ I h) fun u s1 ⟨x, H1, I1, rx, a, ex, d, q1⟩ => ?_)
  subst ex
  obtain rfl : u = Value.ref a := rx
  obtain ⟨t1, t2⟩ := m_at I1 d
  refine ⟨t1, t2, ?_⟩
  rw [m.trees]
  refine Calls.callWith_builtin rfl (Calls.evalArgs_plain (Calls.spliced_cons (thn (he.run pins s1 σ H1 _ I1 q1) fun iv s2 ⟨y, H2, I2, ry, b, H3, ey, g, q2⟩ => Calls.spliced_nil ?_)))
  subst ey
  obtain rfl : iv = Value.ref b := ry
  exact m_upd hu I2 g fun s3 I3 => ⟨.non, H3, I3, rfl, q2⟩
/-- len(d), its keys tuples -/
def rLenM (K : PySem.W.Frag) : List V → Hp → VK → Prop := fun vs H Q => ∃ a ks, vs = [V.ref a] ∧ H a = some (dN a ks) ∧ (∀ x ∈ ks, NV K H 8 x.1 x.2.1) ∧ (∀ x ∈ ks, tk x.1 = true) ∧ Q (.int ((ks.length : Nat) : Int)) H
theorem cr_lenM {X : Cx} : CallR X (.builtin "len") (rLenM X.K) := by
  intro pins s σ H vs us Q I r h
  obtain ⟨a, ks, rfl, e, hk, tka, q⟩ := h
  obtain ⟨u, rfl, ru⟩ := vals1 r
  obtain rfl : u = Value.ref a := ru
  obtain ⟨hd, xs, rel, hz, dd⟩ := dn_rd I e hk
  have tks : ∀ {ks : List MRow} {xs : List Row}, MR ks xs → (∀ x ∈ ks, tk x.1 = true) → ∀ x ∈ xs, tk x.1 = true := by
    intro ks xs r
    induction r with
    | nil => intro _ x hx; cases hx
    | cons h t ih =>
      intro hk x hx
      rcases List.mem_cons.mp hx with rfl | hx
      · rw [← h.1]; exact hk _ (.head _)
      · exact ih (fun y hy => hk y (.tail _ hy)) x hx
  have H1 := dict_toH (P := X.prog) dd (tks rel tka)
  refine PySem.call_len_dictH hd H1 (by rw [List.length_map]; rw [sizeLine_eq] at hz; omega) ?_
  rw [List.length_map, ← Paired.length rel]
  exact ⟨.int ((ks.length : Nat) : Int), H, I.tok _, ⟨_, rfl⟩, q⟩
end DN
/-! DM, part e: the same over slots and data. -/
namespace DL
open PySem PySem.Spec PyProof.Rows L2 DN
/-- a dict slot that is handed back: read alone from then on -/
def wRetM (i : Nat) : WS := fun W env => match get env i with
  | some (.dcm kvs) => W.rt (.v (dFrz kvs))
  | _ => False
def wLenM (i : Nat) : WE := fun env Q => match get env i with
  | some (.dcm kvs) => (∀ x ∈ kvs, tk x.1 = true) ∧ Q (.int ((kvs.length : Nat) : Int))
  | _ => False
def wSortM (i : Nat) : WL := fun env Q => match get env i with
  | some (.dcm kvs) => ∃ L : List (Int × Int), kvs.map (·.1) = L.map pk ∧ ∀ L' : List (Int × Int), L'.Perm L → L'.Pairwise leP → Q (L'.map d2)
  | _ => False
/-- min of a dict that is read alone -/
def wMinM (a : WE) : WE := fun env Q => a env fun d => ∃ (kvs : List (NestedKey × D)) (x : Int × Int) (L : List (Int × Int)), d = dFrz kvs ∧ kvs.map (·.1) = (x :: L).map pk ∧ ∀ P, P ∈ x :: L → (∀ R ∈ x :: L, leP P R) → Q (d2 P)
def mMerge (kvs more : List (NestedKey × D)) : List (NestedKey × D) := more.foldl (fun acc p => mSet acc p.1 p.2) kvs
def wUpd (i : Nat) (a : WE) : WS := fun W env => match get env i with
  | some (.dcm kvs) => a env fun d => ∃ more, d = dFrz more ∧ (∀ x ∈ kvs, tk x.1 = true) ∧ (∀ x ∈ more, tk x.1 = true) ∧ (kvs ≠ [] ∨ ∀ w, (more.map fun x => x.1.hash w).Nodup) ∧ kvs.length + more.length < 1000000 ∧ W.nx (env.set i (some (.dcm (mMerge kvs more))))
  | _ => False
section
variable {K : PySem.W.Frag} {ok : List D → Prop} {C : Ctx} {H0 H : Hp} {σ : L2.St} {env : EnvD} {ta : TE} {wa : WE} {i : Nat}
theorem data_inj : ∀ {k j : NestedKey}, k.data = j.data → k = j := by
  have all : ∀ n : Nat, (∀ k j : NestedKey, k.depth ≤ n → k.data = j.data → k = j) := by
    intro n
    induction n with
    | zero =>
      intro k j hk h
      cases k with
      | none => cases j <;> simp [NestedKey.data] at h ⊢
      | num a => cases j <;> simp [NestedKey.data] at h ⊢; exact h
      | text a => cases j <;> simp [NestedKey.data] at h ⊢; exact h
      | tup ks => simp [NestedKey.depth] at hk
    | succ n ih =>
      have lst : ∀ ks js : List NestedKey, NestedKey.depthAll ks ≤ n → NestedKey.datas ks = NestedKey.datas js → ks = js := by
        intro ks
        induction ks with
        | nil => intro js _ h; cases js with
          | nil => rfl
          | cons _ _ => simp [NestedKey.datas] at h
        | cons k ks ih2 =>
          intro js hd h
          cases js with
          | nil => simp [NestedKey.datas] at h
          | cons j js =>
            simp only [NestedKey.datas, List.cons.injEq] at h
            simp only [NestedKey.depthAll] at hd
            rw [ih k j (by omega) h.1, ih2 js (by omega) h.2]
      intro k j hk h
      cases k with
      | none => cases j <;> simp [NestedKey.data] at h ⊢
      | num a => cases j <;> simp [NestedKey.data] at h ⊢; exact h
      | text a => cases j <;> simp [NestedKey.data] at h ⊢; exact h
      | tup ks =>
        cases j with
        | tup js =>
          simp only [NestedKey.data, PyData.tuple.injEq] at h
          simp only [NestedKey.depth] at hk
          rw [lst ks js (by omega) h]
        | none => simp [NestedKey.data] at h
        | num _ => simp [NestedKey.data] at h
        | text _ => simp [NestedKey.data] at h
  intro k j h
  exact all k.depth k j (Nat.le_refl _) h
theorem frz_inj {a b : List (NestedKey × D)} (h : dFrz a = dFrz b) : a = b := by
  injection h with h
  injection h with _ h
  have : ∀ a b : List (NestedKey × D), (a.map fun kv => (kv.1.data, kv.2)) = (b.map fun kv => (kv.1.data, kv.2)) → a = b := by
    intro a
    induction a with
    | nil => intro b h; cases b with
      | nil => rfl
      | cons _ _ => simp at h
    | cons p a ih =>
      intro b h
      cases b with
      | nil => simp at h
      | cons q b =>
        simp only [List.map_cons, List.cons.injEq, Prod.mk.injEq] at h
        rw [ih b h.2]
        have := data_inj h.1.1
        obtain ⟨p1, p2⟩ := p
        obtain ⟨q1, q2⟩ := q
        simp only at this h
        rw [this, h.1.2]
  exact this a b h
/-- what is known of a dict that is read alone -/
theorem Rp.frz {v : V} {kvs : List (NestedKey × D)} (h : Rp K H v (dFrz kvs)) : ∃ a ks, v = .ref a ∧ H a = some (dN a ks) ∧ MRps K H ks kvs := by
  generalize e : dFrz kvs = d at h
  cases h with
  | non => cases e
  | bl b => cases e
  | int j => cases e
  | str x => cases e
  | lst _ _ => cases e
  | tup _ _ => cases e
  | scr _ =>
    injection e with e
    injection e with e _
    injection e with e _
    cases e
  | dci _ _ _ =>
    injection e with e
    injection e with e _
    injection e with e _
    injection e with e
    cases e
  | fn _ =>
    injection e with e
    injection e with e _
    injection e with _ e
    cases e
  | ob _ _ _ _ =>
    injection e with e
    injection e with e _
    injection e with _ e
    cases e
  | dct h1 h2 h3 h4 =>
    have := frz_inj e
    subst this
    exact ⟨_, _, rfl, h1, h3, h4, h2⟩
theorem ss_retM : SndS K ok (tRet (tVar i)) (wRetM i) := fun C H0 σ H env E W rel hw h => by
  unfold wRetM at hw
  split at hw
  · rename_i kvs hd
    obtain ⟨p, ks, e, n, n0, hp, kr⟩ := rel.slot i _ (get_eq hd)
    have kq := rel.kn i _ p (get_eq hd) rfl e
    -- the slot is forgotten, then the dict is known
    have rel' := rel.setV (i := i) (x := .non) (d := .none) .non
    have ns : ∀ (j : Nat) s, (env.set i (some (.v .none)))[j]? = some (some s) → s.isOwn = true → (σ.set i (some .non))[j]? ≠ some (some (.ref p)) := fun j s hs os z => by
      by_cases hj : i = j
      · subst hj
        by_cases hi : i < env.length
        · rw [List.getElem?_set_self hi] at hs
          cases hs
          cases os
        · rw [List.getElem?_eq_none (by rw [List.length_set]; omega)] at hs; cases hs
      · rw [List.getElem?_set_ne hj] at hs z
        exact rel.dis i j _ s p hj (get_eq hd) hs rfl os e z
    obtain ⟨r2, e2⟩ := rel'.know hp n0 n kq ns
    refine ⟨.ref p, e, ?_⟩
    exact h.rt (.v (dFrz kvs)) (.ref p) _ H _ _ e2 r2 hw (.dct upd_same (fun x hx => ((kr.mono e2).2.2 x hx)) kr.1 (kr.2.1.mono e2))
  · exact hw.elim
theorem paired_R' : ∀ {ks : List MRow} {L : List (Int × Int)}, ks.map (·.1) = L.map pk → (∀ x ∈ ks, NV K H 8 x.1 x.2.1) → Paired (fun v P => NV K H 8 (pk P) v) (ks.map (·.2.1)) L
  | [], [], _, _ => .nil
  | [], _ :: _, h, _ => by simp at h
  | _ :: _, [], h, _ => by simp at h
  | k :: ks, P :: L, h, h3 => by
    simp only [List.map_cons, List.cons.injEq] at h
    have hk := h3 k (.head _)
    rw [h.1] at hk
    exact .cons hk (paired_R' h.2 fun x hx => h3 x (.tail _ hx))
theorem paired_R {ks : List MRow} {kvs : List (NestedKey × D)} {L : List (Int × Int)} (kr : MRps K H ks kvs) (hL : kvs.map (·.1) = L.map pk) : Paired (fun v P => NV K H 8 (pk P) v) (ks.map (·.2.1)) L := paired_R' (kr.1.trans hL) kr.2.2
theorem rp_pair {v : V} {P : Int × Int} (h : NV K H 8 (pk P) v) : Rp K H v (d2 P) := by
  obtain ⟨t, rfl, ht⟩ := h.pair
  exact .tup ht (Rps.of_ints [P.1, P.2])
theorem tks_of {ks : List MRow} {kvs : List (NestedKey × D)} (kr : MRps K H ks kvs) (h : ∀ x ∈ kvs, tk x.1 = true) : ∀ x ∈ ks, tk x.1 = true := fun x hx => by
  have : x.1 ∈ kvs.map (·.1) := by rw [← kr.1]; exact List.mem_map.mpr ⟨x, hx, rfl⟩
  obtain ⟨y, hy, e⟩ := List.mem_map.mp this
  rw [← e]; exact h y hy
theorem snd_lenM : SndE K ok (tCB (rLenM K) (tCons (tVar i) tNil)) (wLenM i) := fun C H0 σ H env Q R rel hw k => by
  unfold wLenM at hw
  split at hw
  · rename_i kvs hd
    obtain ⟨p, ks, e, n, n0, hp, kr⟩ := rel.slot i _ (get_eq hd)
    refine ⟨.ref p, e, p, ks, rfl, hp, kr.keys rel.sub, tks_of kr hw.1, k _ _ H H0 ?_ rel (Same.refl _) (.int _)⟩
    rw [mrps_len kr]
    exact hw.2
  · exact hw.elim
theorem sl_sortM : SndL K ok (tCB (rSortM K) (tCons (tVar i) tNil)) (wSortM i) := fun C H0 σ H env Q R rel hw k => by
  unfold wSortM at hw
  split at hw
  · rename_i kvs hd
    obtain ⟨L, hL, q⟩ := hw
    obtain ⟨p, ks, e, n, n0, hp, kr⟩ := rel.slot i _ (get_eq hd)
    refine ⟨.ref p, e, p, ks, L, fun v P => NV K H0 8 (pk P) v, rfl, ⟨hp, kr.keys rel.sub, fun x P hx => hx.same fun b o z => .inr (rel.sub b o z), paired_R kr hL⟩, fun ys L' p' hpy hperm hpw nl => ?_⟩
    have hy : Rps K H0 ys (L'.map d2) := rps_unpair (Paired.mapP hpy fun v P h => rp_pair h)
    exact k _ _ _ _ (q L' hperm hpw) (rel.laid0 nl) (Same.refl _) ⟨rel.fresh nl, ⟨rel.sub.free nl, _, upd_same, hy⟩, rel.noslot nl, rel.kp.free nl⟩
  · exact hw.elim
theorem snd_minM (ha : SndE K ok ta wa) : SndE K ok (tCB (rMinM K) (tCons ta tNil)) (wMinM wa) := fun C H0 σ H env Q R rel hw k =>
  ha C H0 σ H env _ _ rel hw fun d v H1 H01 q r1 e1 x1 => by
    obtain ⟨kvs, x, L, rfl, hL, q⟩ := q
    obtain ⟨a, ks, rfl, hp, kr⟩ := x1.frz
    refine ⟨a, ks, x, L, fun v P => NV K H01 8 (pk P) v, rfl, ⟨r1.sub _ _ hp, kr.keys r1.sub, fun x P hx => hx.same fun b o z => .inr (r1.sub b o z), paired_R kr hL⟩, fun v hv => ?_⟩
    obtain ⟨m1, m2⟩ := minP_spec L x
    exact k _ _ H1 H01 (q _ m1 m2) r1 e1 (rp_pair hv)
theorem mrps_merge : ∀ (ms : List MRow) {more : List (NestedKey × D)} {ks : List MRow} {kvs : List (NestedKey × D)}, MRps K H ms more → MRps K H ks kvs → MRps K H (mergeM ks ms) (mMerge kvs more)
  | [], [], _, _, _, h => h
  | [], _ :: _, _, _, r, _ => by have := r.1; simp at this
  | _ :: _, [], _, _, r, _ => by have := r.1; simp at this
  | m :: ms, q :: more, ks, kvs, r, h => by
    obtain ⟨r1, r2, r3⟩ := r
    rw [List.map_cons, List.map_cons] at r1 r2
    injection r1 with a1 a2
    obtain ⟨v, ws, e, b1, b2⟩ := r2.cons_inv
    injection e with e1 e2
    show MRps K H (mergeM (putM ks m.1 m.2.1 m.2.2) ms) (mMerge (mSet kvs q.1 q.2) more)
    refine mrps_merge ms ⟨a2, by rw [e2]; exact b2, fun x hx => r3 x (.tail _ hx)⟩ ?_
    rw [← show m.1 = q.1 from a1]
    exact mrps_set h (r3 m (.head _)) (by rw [e1]; exact b1)
theorem ss_upd (ha : SndE K ok ta wa) : SndS K ok (tDrop (tMUpd K (tVar i) ta)) (wUpd i wa) := fun C H0 σ H env E W rel hw h => by
  unfold wUpd at hw
  split at hw
  · rename_i kvs hd
    obtain ⟨p, ks, e, n, n0, hp, kr⟩ := rel.slot i _ (get_eq hd)
    refine ⟨.ref p, e, p, rfl, ⟨ks, hp, kr.keys rel.sub⟩, ha C H0 σ H env _ _ rel hw fun d v H1 H01 q r1 e1 x1 => ?_⟩
    obtain ⟨more, rfl, t1, t2, hap, hl, q⟩ := q
    obtain ⟨b, ms, rfl, hb, kr2⟩ := x1.frz
    obtain ⟨p', ks1, e', n, n0, hp1, kr1⟩ := r1.slot i _ (get_eq hd)
    rw [e] at e'
    cases e'
    have hne : p ≠ b := fun z => by subst z; rw [n0] at hb; cases hb
    have hash : kvs ≠ [] ∨ ∀ w, (more.map fun x => x.1.hash w).Nodup := hap
    refine ⟨b, _, rfl, ⟨ks1, ms, hne, hp1, r1.sub _ _ hb, kr1.keys r1.sub, kr2.keys r1.sub, tks_of kr1 t1, tks_of kr2 t2, ?_, ?_, rfl⟩, ?_⟩
    · rcases hash with z | z
      · refine .inl fun y => z ?_
        have := mrps_len kr1
        rw [y] at this
        exact List.eq_nil_of_length_eq_zero this.symm
      · refine .inr fun w => ?_
        have e : (ms.map fun x => x.1.hash w) = more.map fun x => x.1.hash w := by
          have : (ms.map fun x => x.1.hash w) = (ms.map (·.1)).map fun k => k.hash w := by rw [List.map_map]; rfl
          rw [this, kr2.1, List.map_map]
          rfl
        rw [e]
        exact z w
    · rw [mrps_len kr1, mrps_len kr2]
      exact Nat.le_of_lt (lt_size hl)
    · exact h.nx _ _ _ H01 e1 (r1.put (s := .dcm kvs) (t := .dcm (mMerge kvs more)) (get_eq hd) rfl e (fun y => by obtain ⟨⟨o, w⟩, _⟩ := r1.hv p y; rw [n] at w; cases w) rfl ⟨p, _, rfl, n, n0, upd_same, mrps_merge ms kr2 kr1⟩) q
  · exact hw.elim
end
section
variable {X : Cx} {ok : List D → Prop} {a : Expr} {wa : WE} {pos p : Pos} {x : Str}
theorem s_retM (i : Nat) {mp : Pos} (hN : X.N[i]? = some x := by rfl) (hv : Vis X.env.scope x := by first | exact Or.inl rfl | exact Or.inr (Or.inl rfl) | exact Or.inr (Or.inr rfl)) (hd : (x == ("__debug__" : Str)) = false := by decide) (hcd : (x == ("__classdict__" : Str)) = false := by decide) :
    PDS X ok (.Return (some (.Name x mp)) pos) (wRetM i) := ⟨_, ps_ret (pe_var hN hv hd hcd), ss_retM⟩
theorem d_lenM (i : Nat) {mp : Pos} (hm : X.mg "len" = none) (hN : X.N[i]? = some x := by rfl) (hv : Vis X.env.scope x := by first | exact Or.inl rfl | exact Or.inr (Or.inl rfl) | exact Or.inr (Or.inr rfl)) (hd : (x == ("__debug__" : Str)) = false := by decide) (hcd : (x == ("__classdict__" : Str)) = false := by decide)
    (hg : Gl X "len" := by rfl) (hs : starEach [.Name x mp] X.env = (false, eval (.Name x mp) X.env) :: starEach [] X.env := by rfl) (hpl : (backTo pos (starEach [] X.env)).any (·.1) = false := by rfl) :
    PDE X ok (.Call (.Name "len" p) [.Name x mp] [] pos) (wLenM i) := ⟨_, pe_callB cr_lenM hg hm PySem.boot_len (pa_cons (pe_var hN hv hd hcd) pa_nil hs) (by decide) (by decide) hs hpl, snd_lenM⟩
theorem l_sortM (i : Nat) {mp : Pos} (hc : X.calm = true) (hm : X.mg "sorted" = none) (hN : X.N[i]? = some x := by rfl) (hv : Vis X.env.scope x := by first | exact Or.inl rfl | exact Or.inr (Or.inl rfl) | exact Or.inr (Or.inr rfl)) (hd : (x == ("__debug__" : Str)) = false := by decide) (hcd : (x == ("__classdict__" : Str)) = false := by decide)
    (hg : Gl X "sorted" := by rfl) (hs : starEach [.Name x mp] X.env = (false, eval (.Name x mp) X.env) :: starEach [] X.env := by rfl) (hpl : (backTo pos (starEach [] X.env)).any (·.1) = false := by rfl) :
    PDL X ok (.Call (.Name "sorted" p) [.Name x mp] [] pos) (wSortM i) := ⟨_, pe_callB (cr_sortM hc) hg hm (by decide +kernel) (pa_cons (pe_var hN hv hd hcd) pa_nil hs) (by decide) (by decide) hs hpl, sl_sortM⟩
theorem d_minM {k : Nat} (hr : Room k X.A) (hc : X.calm = true) (hm : X.mg "min" = none) (ha : PDE X ok a wa) (hg : Gl X "min" := by rfl) (hs : starEach [a] X.env = (false, eval a X.env) :: starEach [] X.env := by rfl) (hpl : (backTo pos (starEach [] X.env)).any (·.1) = false := by rfl) :
    PDE X ok (.Call (.Name "min" p) [a] [] pos) (wMinM wa) := let ⟨_, a1, a2⟩ := ha; ⟨_, pe_callB (cr_minM hc (units65 hr)) hg hm (by decide +kernel) (pa_cons a1 pa_nil hs) (by decide) (by decide) hs hpl, snd_minM a2⟩
theorem s_upd {k : Nat} (i : Nat) {apos mp epos : Pos} (hr : Room k X.A) (ha : PDE X ok a wa) (hN : X.N[i]? = some x := by rfl) (hv : Vis X.env.scope x := by first | exact Or.inl rfl | exact Or.inr (Or.inl rfl) | exact Or.inr (Or.inr rfl)) (hd : (x == ("__debug__" : Str)) = false := by decide) (hcd : (x == ("__classdict__" : Str)) = false := by decide)
    (m1 : attributeBase (.Name x mp) "update" X.env (eval (.Name x mp) X.env) = eval (.Name x mp) X.env := by rfl)
    (m2 : ((backTo pos (starEach [a] X.env)).all (fun x => !x.1) && (backToKw pos (keywordEach [] X.env)).all (fun x => x.1.isSome) && decide (([a] : List Expr).length + ([] : List Keyword).length + (if ([] : List Keyword).isEmpty then 0 else 1) < 30)) = true := by rfl)
    (m3 : (apos.endLine == pos.line) = true := by rfl) (m4 : backTo pos (starEach [a] X.env) = [(false, eval a X.env)] := by rfl) :
    PDS X ok (.Expr (.Call (.Attribute (.Name x mp) "update" apos) [a] [] pos) epos) (wUpd i wa) := let ⟨_, a1, a2⟩ := ha; ⟨_, ps_expr (pe_mupd (by have := units65 hr; omega) (pe_var hN hv hd hcd) a1 ⟨m1, m2, m3, m4⟩), ss_upd a2⟩
end
end DL
/-! DM, part f: sorted(dict of whole numbers); a dict slot that is only read from then on, and .get of it. -/
namespace DL
open PySem PySem.Spec PyProof.Rows L2 DN
/-- sorted(d), fewer than 64 keys, all whole numbers -/
def wSortD (i : Nat) : WL := fun env Q => match get env i with
  | some (.dct kvs) => ∃ ks : List Int, kvs.map (·.1) = ks.map Sum.inl ∧ ks.length < 64 ∧ ∀ ys : List Int, ys.Perm ks → ys.Pairwise (· ≤ ·) → Q (dints ys)
  | _ => False
def frzM (i : Nat) (env : EnvD) : EnvD := match get env i with
  | some (.dcm kvs) => env.set i (some (.v (dFrz kvs)))
  | _ => env
def wFrzM (i : Nat) (s : WS) : WS := fun W env => s W (frzM i env)
/-- d.get(k, z) of a dict that is only read -/
def wVGet2 (o k a : WE) : WE := fun env Q => o env fun x => ∃ kvs, x = dFrz kvs ∧ k env fun y => a env fun d => ∃ z v, nKey 8 y = some z ∧ (mAt kvs z).getD d = v ∧ Q v
def rSortD : List V → Hp → VK → Prop := fun xs H Q => ∃ (a : Addr) (kvs : List (Key × V)) (ks : List Int), xs = [.ref a] ∧ Rd H a (.dK kvs) ∧ kvs.map (·.1) = ks.map Sum.inl ∧ ks.length < 64 ∧
    ∀ (ys : List Int) (p : Addr), ys.Perm ks → ys.Pairwise (· ≤ ·) → H p = none → Q (.ref p) (upd H p (.lst (ys.map V.int)))
section
variable {K : PySem.W.Frag} {ok : List D → Prop} {C : Ctx} {H0 H : Hp} {σ : L2.St} {env : EnvD} {ta to tk : TE} {wa wo wk : WE} {i : Nat} {t : TS} {a : WS}
theorem sl_sortD : SndL K ok (tCB rSortD (tCons (tVar i) tNil)) (wSortD i) := fun C H0 σ H env Q R rel hw k => by
  unfold wSortD at hw
  split at hw
  · rename_i kvs hd
    obtain ⟨L, hL, hl, q⟩ := hw
    obtain ⟨p, ks, e, n, n0, hp, kr⟩ := rel.slot i _ (get_eq hd)
    refine ⟨.ref p, e, p, ks, L, rfl, .inl hp, kr.1.trans hL, hl, fun ys p' hperm hpw nl => ?_⟩
    exact k _ _ _ _ (q ys hperm hpw) (rel.laid0 nl) (Same.refl _) ⟨rel.fresh nl, ⟨rel.sub.free nl, _, upd_same, Rps.of_ints ys⟩, rel.noslot nl, rel.kp.free nl⟩
  · exact hw.elim
theorem ss_frzM (ha : SndS K ok t a) : SndS K ok t (wFrzM i a) := fun C H0 σ H env E W rel hw h => by
  unfold wFrzM frzM at hw
  split at hw
  · rename_i kvs hd
    have he := get_eq hd
    obtain ⟨p, ks, e, n, n0, hp, kr⟩ := rel.slot i _ he
    have es : σ.set i (some (.ref p)) = σ := by
      apply List.ext_getElem?
      intro j
      by_cases hj : i = j
      · subst hj
        rw [e]
        have lt : i < σ.length := by rw [rel.len]; exact (List.getElem?_eq_some_iff.mp he).1
        rw [List.getElem?_set_self lt]
      · rw [List.getElem?_set_ne hj]
    have r1 : Rel K ok C H0 σ H (env.set i none) := by
      have q := rel.drop (i := i) (y := some (.ref p))
      rw [es] at q
      exact q
    obtain ⟨r2, e2⟩ := r1.know hp n0 n (rel.kn i _ p he rfl e) (fun j s hs os z => by
      have hj : i ≠ j := fun y => by
        subst y
        rw [List.getElem?_set_self (List.getElem?_eq_some_iff.mp he).1] at hs; cases hs
      rw [List.getElem?_set_ne hj] at hs
      exact rel.dis i j _ s p hj he hs rfl os e z)
    have r3 := r2.setV (i := i) (x := .ref p) (d := dFrz kvs) (.dct upd_same (fun x hx => ((kr.mono e2).2.2 x hx)) kr.1 (kr.2.1.mono e2))
    rw [es, List.set_set] at r3
    exact ha C _ σ H _ E W r3 hw (h.mono e2)
  · exact ha C H0 σ H env E W rel hw h
theorem snd_vget2 (ho : SndE K ok to wo) (hk : SndE K ok tk wk) (ha : SndE K ok ta wa) : SndE K ok (tMGet2 K to tk ta) (wVGet2 wo wk wa) := fun C H0 σ H env Q R rel hw k =>
  ho C H0 σ H env _ _ rel hw fun x u H1 H01 q r1 e1 x1 => by
    obtain ⟨kvs, rfl, q⟩ := q
    obtain ⟨p, ks, rfl, hp, kr⟩ := x1.frz
    refine ⟨p, rfl, ⟨ks, r1.sub _ _ hp, kr.keys r1.sub⟩, hk C H01 σ H1 env _ _ r1 q fun y v H2 H02 q r2 e2 x2 => ha C H02 σ H2 env _ _ r2 q fun d u H3 H03 q r3 e3 x3 => ?_⟩
    obtain ⟨z, w0, hz, hw0, q⟩ := q
    subst hw0
    have kr3 := (kr.mono e2).mono e3
    refine ⟨_, ⟨ks, z, r3.sub _ _ (e3 _ _ (e2 _ _ hp)), kr3.keys r3.sub, nv_of ((x2.mono e3).mono r3.sub) hz, rfl⟩, ?_⟩
    rcases mrps_at kr3 z with ⟨a1, a2⟩ | ⟨w, d', a1, a2, r⟩
    · rw [a1]
      rw [a2] at q
      exact k _ _ H3 H03 q r3 (e1.trans (e2.trans e3)) x3
    · rw [a1]
      rw [a2] at q
      exact k _ _ H3 H03 q r3 (e1.trans (e2.trans e3)) r
end
section
variable {X : Cx} {ok : List D → Prop} {a b : Expr} {wa wb : WE} {pos p : Pos} {x : Str}
theorem s_frzM (i : Nat) {st : Stmt} {ws : WS} (h : PDS X ok st ws) : PDS X ok st (wFrzM i ws) := let ⟨_, a, b⟩ := h; ⟨_, a, ss_frzM b⟩
theorem l_sortD (i : Nat) {mp : Pos} (hc : X.calm = true) (hm : X.mg "sorted" = none) (hN : X.N[i]? = some x := by rfl) (hv : Vis X.env.scope x := by first | exact Or.inl rfl | exact Or.inr (Or.inl rfl) | exact Or.inr (Or.inr rfl)) (hd : (x == ("__debug__" : Str)) = false := by decide) (hcd : (x == ("__classdict__" : Str)) = false := by decide)
    (hg : Gl X "sorted" := by rfl) (hs : starEach [.Name x mp] X.env = (false, eval (.Name x mp) X.env) :: starEach [] X.env := by rfl) (hpl : (backTo pos (starEach [] X.env)).any (·.1) = false := by rfl) :
    PDL X ok (.Call (.Name "sorted" p) [.Name x mp] [] pos) (wSortD i) := ⟨_, pe_callB (call_sortedDI hc) hg hm (by decide +kernel) (pa_cons (pe_var hN hv hd hcd) pa_nil hs) (by decide) (by decide) hs hpl, sl_sortD⟩
theorem d_vget2 {k : Nat} (i : Nat) {apos mp : Pos} (hr : Room k X.A) (ha : PDE X ok a wa) (hb : PDE X ok b wb) (hN : X.N[i]? = some x := by rfl) (hv : Vis X.env.scope x := by first | exact Or.inl rfl | exact Or.inr (Or.inl rfl) | exact Or.inr (Or.inr rfl)) (hd : (x == ("__debug__" : Str)) = false := by decide) (hcd : (x == ("__classdict__" : Str)) = false := by decide)
    (m1 : attributeBase (.Name x mp) "get" X.env (eval (.Name x mp) X.env) = eval (.Name x mp) X.env := by rfl)
    (m2 : ((backTo pos (starEach [a, b] X.env)).all (fun x => !x.1) && (backToKw pos (keywordEach [] X.env)).all (fun x => x.1.isSome) && decide (([a, b] : List Expr).length + ([] : List Keyword).length + (if ([] : List Keyword).isEmpty then 0 else 1) < 30)) = true := by rfl)
    (m3 : (apos.endLine == pos.line) = true := by rfl) (m4 : backTo pos (starEach [a, b] X.env) = [(false, eval a X.env), (false, eval b X.env)] := by rfl) :
    PDE X ok (.Call (.Attribute (.Name x mp) "get" apos) [a, b] [] pos) (wVGet2 (wVar i) wa wb) := let ⟨_, a1, a2⟩ := ha; let ⟨_, b1, b2⟩ := hb; ⟨_, pe_mget2 (by have := units65 hr; omega) (pe_var hN hv hd hcd) a1 b1 ⟨m1, m2, m3, m4⟩, snd_vget2 snd_var a2 b2⟩
end
end DL
/-! DM, part g: min of two pairs of whole numbers. -/
namespace DN
open PySem PySem.Spec PyProof.Rows L2
/-- min(a, b), the two compared where H stands -/
theorem call_min_twoH {prog : Program} {w : World} {A : Around} {E : Value → Shared → Prop} {s : Shared} {a b : Value} {Q : Value → Shared → Prop}
    (h : wpAny (model prog w) A.in1 (pyIter (.ref s.heap.objs.size)) (fun it s₂ => ∃ I fp wr G n P St H bt, it = .ref I ∧ PySem.WalksS prog w A.in1 I fp wr G n P St ∧ St 0 s₂ ∧ (∀ b ∈ fp, b < s₂.heap.objs.size) ∧ 0 < n ∧
      (∀ b o, H.get? b = some o → b ∉ wr) ∧ (∀ b o, H.get? b = some o → s₂.heap.get? b = some o) ∧ PySem.CmpIn prog w A.in1 .Lt H P bt ∧ ∀ v s', P (argBest bt (n - 1)) v → PySem.Moved wr G s₂ s' → Q v s') E { s with heap := s.heap.push { cls := .type "tuple", data := .seq #[a, b] } }) :
    wpAny (model prog w) A (call (.builtin "min") [a, b]) Q E s := by
  have hname : (toString "min" ++ toString ".loop" : String) = "min.loop" := by decide
  refine call_function_tree F.kind_min F.plain_min F.entry_min (F.args_min2 _ _) ?_
  show wpAny _ A.in1 (Builtin.Builtins.bindParams "min" ["key", "default"] 0 ⟨[], []⟩ >>= _) _ _ s
  refine wpAny_bind (wpAny_of_eq (show Builtin.Builtins.bindParams "min" ["key", "default"] 0 ⟨[], []⟩ = pure [none, none] from rfl) ?_)
  show wpAny _ A.in1 (newTuple [a, b] >>= _) _ _ s
  refine wpAny_bind (wpAny_newObj_type ?_)
  refine wpAny_bind (wpAny_mono h (fun it s₂ h₂ => ?_) fun _ _ e => e)
  obtain ⟨I, fp, wr, G, n, P, St, H, bt, rfl, W, hst, hfp, hn, hw, hkeep, hcmp, hQ⟩ := h₂
  refine wpAny_bind (wpAny_newObj_type ?_)
  have hSf : s₂.heap.objs.size ∉ fp := fun hm => Nat.lt_irrefl _ (hfp _ hm)
  rw [hname]
  refine wpAny_pure ⟨plainId_quiet F.plain_min_loop _, PySem.codeAny_min_loop_firstH W H hw bt hcmp s₂.heap.objs.size hSf (PySem.fresh_in hkeep) _ hn (fun b o e => Heap.get?_push_of_some _ (hkeep b o e)) (W.frame 0 s₂ _ s₂.toks hst (Nat.le_refl _) fun b _ o e => Heap.get?_push_of_some _ e) (Heap.get?_push_size _ rfl) fun v s' hP hm => ?_⟩
  exact hQ v s' hP (PySem.Moved.drop_new (tk := s₂.toks) hm (Nat.le_refl _))
def rMinP2 (K : PySem.W.Frag) : List V → Hp → VK → Prop := fun vs H Q => ∃ (a b : Addr) (P R : Int × Int), vs = [V.ref a, V.ref b] ∧ SqT K H a [.int P.1, .int P.2] ∧ SqT K H b [.int R.1, .int R.2] ∧ Q (if SrtO.lexB R P = true then .ref b else .ref a) H
theorem pair_read {X : Cx} {pins : List (Addr × Obj)} {σ : L2.St} {H : Hp} {s : Shared} (I : Inv X pins σ H s) {a : Addr} {P : Int × Int} (h : SqT X.K H a [.int P.1, .int P.2]) : Reads s.heap (.ref a) (DL.d2 P) ([] ++ ([] ++ [])) := by
  obtain ⟨its2, r2, ⟨o, ho, hc, n, hd⟩, _⟩ := I.tuple h
  obtain ⟨u1, u2, rfl, ri, rj⟩ := vals2 r2
  obtain ⟨t1, rfl⟩ := ri
  obtain ⟨t2, rfl⟩ := rj
  exact .tuple ho hc hd (.cons (.int _ _) (.cons (.int _ _) .nil))
theorem cr_minP2 {X : Cx} (hcalm : X.calm = true) (hu : X.A.units + 65 < cLine) : CallR X (.builtin "min") (rMinP2 X.K) := by
  intro pins s σ H vs us Q I r h
  obtain ⟨a, b, P, R, rfl, ha, hb, q⟩ := h
  obtain ⟨u, v, rfl, ru, rv⟩ := vals2 r
  obtain rfl : u = Value.ref a := ru
  obtain rfl : v = Value.ref b := rv
  have keep : ∀ (c : Addr) o, s.heap.get? c = some o → (s.heap.push { cls := .type "tuple", data := .seq #[.ref a, .ref b] }).get? c = some o := fun c o e => Heap.get?_push_of_some _ e
  have r1 := PySem.W.reads_keeps keep (pair_read I ha)
  have r2 := PySem.W.reads_keeps keep (pair_read I hb)
  have hr : ReadsAll (s.heap.push { cls := .type "tuple", data := .seq #[.ref a, .ref b] }) (#[Value.ref a, Value.ref b]).toList [DL.d2 P, DL.d2 R] _ := .cons r1 (.cons r2 .nil)
  have hT : (s.heap.push { cls := .type "tuple", data := .seq #[.ref a, .ref b] }).IsTuple s.heap.objs.size #[.ref a, .ref b] := ⟨_, Heap.get?_push_size _ rfl, rfl, 0, rfl⟩
  have alikeP : ∀ P R : Int × Int, PySem.W.alike (DL.d2 P) (DL.d2 R) = true := fun P R => by simp [PySem.W.alike, PySem.W.alikeAll]
  have hal : PySem.W.AlikeAll [DL.d2 P, DL.d2 R] := ⟨fun p hp r hr => by
    simp only [List.mem_cons, List.not_mem_nil, or_false] at hp hr
    rcases hp with rfl | rfl <;> rcases hr with rfl | rfl <;> exact alikeP _ _, fun p hp z => by
    simp only [List.mem_cons, List.not_mem_nil, or_false] at hp
    rcases hp with rfl | rfl <;> cases z⟩
  have hd1 : PyData.depthAll [DL.d2 P, DL.d2 R] ≤ 1 := by simp [PyData.depth, PyData.depthAll]
  refine call_min_twoH (PySem.W.iter_tupleW (A := X.A.in1) (s := { s with heap := s.heap.push { cls := .type "tuple", data := .seq #[.ref a, .ref b] } }) (I.ok.hd hcalm) hT fun s₂ e W st hfp hw hk => ?_)
  refine ⟨_, _, _, _, _, _, _, _, _, rfl, W, st, hfp, by show 0 < 2; decide, hw, hk, PySem.W.cmpIn_lt (s := { s with heap := s.heap.push { cls := .type "tuple", data := .seq #[.ref a, .ref b] } }) (A := X.A.in1) hr hal (by rw [Around.in1_units]; omega), fun v s' hP m => ?_⟩
  obtain ⟨h', tk, rfl, hk'⟩ := PySem.W.moved_old e rfl m
  have hbest : argBest (fun i j => PySem.W.dataLt (([DL.d2 P, DL.d2 R] : List PyData).getD i .none) (([DL.d2 P, DL.d2 R] : List PyData).getD j .none)) ((#[Value.ref a, Value.ref b] : Array Value).size - 1) = if SrtO.lexB R P = true then 1 else 0 := by
    show argBest _ 1 = _
    have : PySem.W.dataLt (DL.d2 R) (DL.d2 P) = SrtO.lexB R P := dataLt_pair R P
    cases hb : SrtO.lexB R P <;> rw [hb] at this <;> simp [argBest, this]
  rw [hbest] at hP
  refine ⟨if SrtO.lexB R P = true then .ref b else .ref a, H, I.kept (t' := tk) (fun c o e => hk' c o (keep c o e)), ?_, q⟩
  by_cases hb : SrtO.lexB R P = true
  · rw [if_pos hb] at hP ⊢
    have : v = Value.ref b := by simpa using hP.symm
    exact this
  · rw [if_neg hb] at hP ⊢
    have : v = Value.ref a := by simpa using hP.symm
    exact this
end DN
namespace DL
open PySem PySem.Spec PyProof.Rows L2 DN
def wMin2P (a b : WE) : WE := fun env Q => a env fun x => b env fun y => ∃ P R : Int × Int, x = d2 P ∧ y = d2 R ∧ Q (d2 (if SrtO.lexB R P = true then R else P))
section
variable {K : PySem.W.Frag} {ok : List D → Prop} {ta tb : TE} {wa wb : WE}
theorem rp_d2 {H : Hp} {v : V} {P : Int × Int} (h : Rp K H v (d2 P)) : ∃ a, v = .ref a ∧ SqT K H a [.int P.1, .int P.2] := by
  generalize e : d2 P = d at h
  cases h with
  | tup h1 h2 =>
    injection e with e
    subst e
    have := Rps.ints_inv (ns := [P.1, P.2]) h2
    subst this
    exact ⟨_, rfl, h1⟩
  | non => cases e
  | bl b => cases e
  | int j => cases e
  | str x => cases e
  | lst _ _ => cases e
  | scr _ => cases e
  | dct _ _ _ _ => cases e
  | dci _ _ _ => cases e
  | fn _ => cases e
  | ob _ _ _ _ => cases e
theorem snd_minP2 (ha : SndE K ok ta wa) (hb : SndE K ok tb wb) : SndE K ok (tCB (rMinP2 K) (tCons ta (tCons tb tNil))) (wMin2P wa wb) := fun C H0 σ H env Q R rel hw k =>
  ha C H0 σ H env _ _ rel hw fun d v H1 H01 q r1 e1 x1 => hb C H01 σ H1 env _ _ r1 q fun e u H2 H02 q r2 e2 x2 => by
    obtain ⟨P, S, rfl, rfl, q⟩ := q
    have y1 := x1.mono e2
    obtain ⟨a, rfl, h1⟩ := rp_d2 y1
    obtain ⟨b, rfl, h2⟩ := rp_d2 x2
    refine ⟨a, b, P, S, rfl, Same.tup r2.sub h1, Same.tup r2.sub h2, ?_⟩
    refine k _ _ H2 H02 q r2 (e1.trans e2) ?_
    split
    · exact x2
    · exact y1
end
section
variable {X : Cx} {ok : List D → Prop} {a b : Expr} {wa wb : WE} {pos p : Pos}
theorem d_minP2 {k : Nat} (hr : Room k X.A) (hc : X.calm = true) (hm : X.mg "min" = none) (ha : PDE X ok a wa) (hb : PDE X ok b wb) (hg : Gl X "min" := by rfl) (hs : starEach [a, b] X.env = (false, eval a X.env) :: starEach [b] X.env := by rfl) (hs2 : starEach [b] X.env = (false, eval b X.env) :: starEach [] X.env := by rfl) (hpl : (backTo pos (starEach [b] X.env)).any (·.1) = false := by rfl) :
    PDE X ok (.Call (.Name "min" p) [a, b] [] pos) (wMin2P wa wb) := let ⟨_, a1, a2⟩ := ha; let ⟨_, b1, b2⟩ := hb; ⟨_, pe_callB (cr_minP2 hc (units65 hr)) hg hm (by decide +kernel) (pa_cons a1 (pa_cons b1 pa_nil hs2) hs) (by decide) (by decide) hs hpl, snd_minP2 a2 b2⟩
end
end DL
/-! DM, part h: a dict with whole numbers for keys that is only read from then on (locked): get, [], not in, for k in d. -/
namespace DL
open PySem PySem.Spec PyProof.Rows L2 DN
/-- the thing at d is locked, and stays so -/
def tLockK (t : TS) : TS := fun D σ H => ∃ d u, H d = some u ∧ Mut (some u) ∧ ∀ od, t D σ (upd H d (.frz od u))
theorem ps_lockK {X : Cx} {st : Stmt} {t : TS} (h : PS X st t) : PS X st (tLockK t) := by
  refine ⟨fun pins s σ H D I hw => ?_⟩
  obtain ⟨d, u, hd, mu, hw⟩ := hw
  obtain ⟨od, I1⟩ := I.lock hd mu
  exact h.run pins s σ _ _ I1 (hw od)
def wFrzI (i : Nat) (s : WS) : WS := fun W env => match get env i with
  | some (.dct kvs) => s W (env.set i (some (.v (dFri kvs))))
  | _ => False
def wIGet1 (o k : WE) : WE := fun env Q => o env fun x => ∃ kvs, x = dFri kvs ∧ k env fun y => ∃ z v, dKey y = some z ∧ (dAt kvs z).getD .none = v ∧ Q v
def wIIx (o k : WE) : WE := fun env Q => o env fun x => ∃ kvs, x = dFri kvs ∧ k env fun y => ∃ z d, dKey y = some z ∧ dAt kvs z = some d ∧ Q d
def wINin (k o : WE) : WE := fun env Q => k env fun y => o env fun x => ∃ kvs z b, x = dFri kvs ∧ dKey y = some z ∧ (dAt kvs z).isSome = b ∧ Q (.bool (!b))
def iKD (a : WE) : WI := fun env Q => a env fun x => ∃ kvs, x = dFri kvs ∧ Q (kvs.map fun kv => keyD kv.1)
theorem keyD_inj {a b : Key} (h : keyD a = keyD b) : a = b := by
  cases a with
  | inl i => cases b with
    | inl j => injection h with h; rw [h]
    | inr y => cases h
  | inr x => cases b with
    | inl j => cases h
    | inr y => injection h with h; rw [h]
theorem fri_inj {a b : List (Key × D)} (h : dFri a = dFri b) : a = b := by
  injection h with h
  injection h with _ h
  induction a generalizing b with
  | nil => cases b with
    | nil => rfl
    | cons _ _ => simp at h
  | cons p a ih =>
    cases b with
    | nil => simp at h
    | cons q b =>
      simp only [List.map_cons, List.cons.injEq, Prod.mk.injEq] at h
      rw [ih h.2]
      have := keyD_inj h.1.1
      obtain ⟨p1, p2⟩ := p
      obtain ⟨q1, q2⟩ := q
      simp only at this h
      rw [this, h.1.2]
section
variable {K : PySem.W.Frag} {ok : List D → Prop} {C : Ctx} {H0 H : Hp} {σ : L2.St} {env : EnvD} {ta to tk : TE} {wa wo wk : WE} {i : Nat} {t : TS} {a : WS}
theorem Rp.fri {v : V} {kvs : List (Key × D)} (h : Rp K H v (dFri kvs)) : ∃ a o ks, v = .ref a ∧ H a = some (.frz o (.dK ks)) ∧ KRps K H ks kvs := by
  generalize e : dFri kvs = d at h
  cases h with
  | non => cases e
  | bl b => cases e
  | int j => cases e
  | str x => cases e
  | lst _ _ => cases e
  | tup _ _ => cases e
  | scr _ =>
    injection e with e
    injection e with e _
    injection e with e _
    cases e
  | dct _ _ _ _ =>
    injection e with e
    injection e with e _
    injection e with e _
    injection e with e
    cases e
  | fn _ =>
    injection e with e
    injection e with e _
    injection e with _ e
    cases e
  | ob _ _ _ _ =>
    injection e with e
    injection e with e _
    injection e with e _
    injection e with e
    cases e
  | dci h1 h2 h3 =>
    have := fri_inj e
    subst this
    exact ⟨_, _, _, rfl, h1, h2, h3⟩
theorem ss_frzI (ha : SndS K ok t a) : SndS K ok (tLockK t) (wFrzI i a) := fun C H0 σ H env E W rel hw h => by
  unfold wFrzI at hw
  split at hw
  · rename_i kvs hd
    have he := get_eq hd
    obtain ⟨p, ks, e, n, n0, hp, kr⟩ := rel.slot i _ he
    have kn := rel.kn i _ p he rfl e
    have es : σ.set i (some (.ref p)) = σ := by
      apply List.ext_getElem?
      intro j
      by_cases hj : i = j
      · subst hj
        rw [e]
        have lt : i < σ.length := by rw [rel.len]; exact (List.getElem?_eq_some_iff.mp he).1
        rw [List.getElem?_set_self lt]
      · rw [List.getElem?_set_ne hj]
    have r1 : Rel K ok C H0 σ H (env.set i none) := by
      have q := rel.drop (i := i) (y := some (.ref p))
      rw [es] at q
      exact q
    have ns : ∀ (j : Nat) s, (env.set i none)[j]? = some (some s) → s.isOwn = true → σ[j]? ≠ some (some (.ref p)) := fun j s hs os z => by
      have hj : i ≠ j := fun y => by
        subst y
        rw [List.getElem?_set_self (List.getElem?_eq_some_iff.mp he).1] at hs; cases hs
      rw [List.getElem?_set_ne hj] at hs
      exact rel.dis i j _ s p hj he hs rfl os e z
    have nha : C.ha ≠ some p := fun z => by
      obtain ⟨⟨o, y⟩, _⟩ := rel.hv p z
      rw [n] at y; cases y
    refine ⟨p, .dK ks, hp, trivial, fun od => ?_⟩
    have r2 : Rel K ok { C with Kp := upd C.Kp p (.dK ks) } H0 σ H (env.set i none) := r1.guard (fun b o z => by
      by_cases hb : b = p
      · subst hb; rw [upd_same] at z; cases z; exact hp
      · rw [upd_ne hb] at z; exact rel.kp b o z) (fun b o z => by
      by_cases hb : b = p
      · subst hb; exact .inr ⟨ns, nha, n0⟩
      · rw [upd_ne hb] at z; exact .inl z)
    have r3 := r2.chg (o2 := .frz od (.dK ks)) n0 n nha
    have r4 : Rel K ok C H0 σ (upd H p (.frz od (.dK ks))) (env.set i none) := r3.guard (Kq := C.Kp) (fun b o z => by
      have hb : b ≠ p := fun y => by subst y; rw [kn] at z; cases z
      rw [upd_ne hb]
      exact rel.kp b o z) (fun b o z => by
      have hb : b ≠ p := fun y => by subst y; rw [kn] at z; cases z
      exact .inl (by show upd C.Kp p _ b = some o; rw [upd_ne hb]; exact z))
    obtain ⟨r5, e2⟩ := r4.know upd_same n0 n kn ns
    have r6 := r5.setV (i := i) (x := .ref p) (d := dFri kvs) (.dci upd_same kr.1 (kr.2.mono e2))
    rw [es, List.set_set] at r6
    exact ha C _ σ _ _ E W r6 hw (h.mono e2)
  · exact hw.elim
theorem snd_iget1 (ho : SndE K ok to wo) (hk : SndE K ok tk wk) : SndE K ok (tDGet1 to tk) (wIGet1 wo wk) := fun C H0 σ H env Q R rel hw k =>
  ho C H0 σ H env _ _ rel hw fun x u H1 H01 q r1 e1 x1 => by
    obtain ⟨kvs, rfl, q⟩ := q
    obtain ⟨p, o, ks, rfl, hp, kr⟩ := x1.fri
    refine ⟨p, rfl, .inl ⟨ks, .inr ⟨o, r1.sub _ _ hp⟩⟩, hk C H01 σ H1 env _ _ r1 q fun y v H2 H02 q r2 e2 x2 => ?_⟩
    obtain ⟨z, w0, hz, hw0, q⟩ := q
    subst hw0
    have ev := dKey_V x2 hz
    subst ev
    have kr2 := kr.mono e2
    refine ⟨_, .inl ⟨ks, z, .inr ⟨o, r2.sub _ _ (e2 _ _ hp)⟩, rfl, rfl⟩, ?_⟩
    rcases krps_at kr2 z with ⟨a1, a2⟩ | ⟨w, d, a1, a2, r⟩
    · rw [a1]
      rw [a2] at q
      exact k _ _ H2 H02 q r2 (e1.trans e2) .non
    · rw [a1]
      rw [a2] at q
      exact k _ _ H2 H02 q r2 (e1.trans e2) r
theorem snd_iix (ho : SndE K ok to wo) (hk : SndE K ok tk wk) : SndE K ok (tDGet to tk) (wIIx wo wk) := fun C H0 σ H env Q R rel hw k =>
  ho C H0 σ H env _ _ rel hw fun x u H1 H01 q r1 e1 x1 => by
    obtain ⟨kvs, rfl, q⟩ := q
    obtain ⟨p, o, ks, rfl, hp, kr⟩ := x1.fri
    refine hk C H01 σ H1 env _ _ r1 q fun y v H2 H02 q r2 e2 x2 => ?_
    obtain ⟨z, w0, hz, hw0, q⟩ := q
    have ev := dKey_V x2 hz
    subst ev
    have kr2 := kr.mono e2
    rcases krps_at kr2 z with ⟨a1, a2⟩ | ⟨w, d, a1, a2, r⟩
    · rw [a2] at hw0; cases hw0
    · rw [a2] at hw0
      cases hw0
      exact ⟨p, w, rfl, .inl ⟨ks, z, .inr ⟨o, r2.sub _ _ (e2 _ _ hp)⟩, rfl, a1.symm⟩, k _ _ H2 H02 q r2 (e1.trans e2) r⟩
theorem snd_inin (hk : SndE K ok tk wk) (ho : SndE K ok to wo) : SndE K ok (tDNotIn tk to) (wINin wk wo) := fun C H0 σ H env Q R rel hw k =>
  hk C H0 σ H env _ _ rel hw fun y v H1 H01 q r1 e1 x1 => ho C H01 σ H1 env _ _ r1 q fun x u H2 H02 q r2 e2 x2 => by
    obtain ⟨kvs, z, b, rfl, hz, hb, q⟩ := q
    obtain ⟨p, o, ks, rfl, hp, kr⟩ := x2.fri
    have ev := dKey_V x1 hz
    subst ev
    refine ⟨p, valV ks z, rfl, .inl ⟨ks, z, .inr ⟨o, r2.sub _ _ hp⟩, rfl, rfl⟩, ?_⟩
    have e : (valV ks z).isSome = b := by
      rw [← hb]
      rcases krps_at kr z with ⟨a1, a2⟩ | ⟨w, d, a1, a2, r⟩
      · rw [a1, a2]; rfl
      · rw [a1, a2]; rfl
    rw [e]
    exact k _ _ H2 H02 q r2 (e1.trans e2) (.bl _)
theorem si_keys (ho : SndE K ok to wo) : SndI K ok (iKeys to) (iKD wo) := fun C H0 σ H env Q R rel hw k =>
  ho C H0 σ H env _ _ rel hw fun x u H1 H01 q r e x1 => by
    obtain ⟨kvs, rfl, q⟩ := q
    obtain ⟨p, o, ks, rfl, hp, kr⟩ := x1.fri
    have ll : ks.length = (kvs.map fun kv => keyD kv.1).length := by
      rw [List.length_map, krps_len kr]
    refine ⟨p, o, rfl, .inl ⟨ks, r.sub _ _ hp, k _ _ H1 H01 q r e ⟨fun i H2 hi s => ⟨s _ _ hp, by omega⟩, fun H2 s => ⟨s _ _ hp, by omega⟩, fun i H2 x H3 hi s y => ?_⟩⟩⟩
    obtain ⟨rfl, kk, v, hk, rfl⟩ := y
    refine ⟨keyD kk, ?_, .inl ⟨rfl, ?_⟩⟩
    · have h1 : (ks.map (·.1))[i]? = some kk := by rw [List.getElem?_map, hk]; rfl
      rw [kr.1, List.getElem?_map] at h1
      obtain ⟨q2, hq2, e2⟩ := Option.map_eq_some_iff.mp h1
      rw [List.getElem?_map, hq2, ← e2]
      rfl
    · cases kk with
      | inl j => exact .int j
      | inr y => exact .str y
end
section
variable {X : Cx} {ok : List D → Prop} {a e tg : Expr} {wa : WE} {pos p : Pos} {x : Str}
theorem s_frzI (i : Nat) {st : Stmt} {ws : WS} (h : PDS X ok st ws) : PDS X ok st (wFrzI i ws) := let ⟨_, a, b⟩ := h; ⟨_, ps_lockK a, ss_frzI b⟩
theorem d_iget1 {k : Nat} (i : Nat) {apos mp : Pos} (hr : Room k X.A) (ha : PDE X ok a wa) (hN : X.N[i]? = some x := by rfl) (hv : Vis X.env.scope x := by first | exact Or.inl rfl | exact Or.inr (Or.inl rfl) | exact Or.inr (Or.inr rfl)) (hd : (x == ("__debug__" : Str)) = false := by decide) (hcd : (x == ("__classdict__" : Str)) = false := by decide)
    (m1 : attributeBase (.Name x mp) "get" X.env (eval (.Name x mp) X.env) = eval (.Name x mp) X.env := by rfl)
    (m2 : ((backTo pos (starEach [a] X.env)).all (fun x => !x.1) && (backToKw pos (keywordEach [] X.env)).all (fun x => x.1.isSome) && decide (([a] : List Expr).length + ([] : List Keyword).length + (if ([] : List Keyword).isEmpty then 0 else 1) < 30)) = true := by rfl)
    (m3 : (apos.endLine == pos.line) = true := by rfl) (m4 : backTo pos (starEach [a] X.env) = [(false, eval a X.env)] := by rfl) :
    PDE X ok (.Call (.Attribute (.Name x mp) "get" apos) [a] [] pos) (wIGet1 (wVar i) wa) := let ⟨_, a1, a2⟩ := ha; ⟨_, pe_dget1 (by have := units65 hr; omega) (pe_var hN hv hd hcd) a1 ⟨m1, m2, m3, m4⟩, snd_iget1 snd_var a2⟩
theorem d_iix {k : Nat} (i : Nat) {mp : Pos} (hr : Room k X.A) (ha : PDE X ok a wa) (hN : X.N[i]? = some x := by rfl) (hv : Vis X.env.scope x := by first | exact Or.inl rfl | exact Or.inr (Or.inl rfl) | exact Or.inr (Or.inr rfl)) (hd : (x == ("__debug__" : Str)) = false := by decide) (hcd : (x == ("__classdict__" : Str)) = false := by decide) (hs : NoSl a := by exact fun _ _ => rfl) :
    PDE X ok (.Subscript (.Name x mp) a pos) (wIIx (wVar i) wa) := let ⟨_, a1, a2⟩ := ha; ⟨_, pe_dget (by have := units65 hr; omega) (pe_var hN hv hd hcd) a1 hs, snd_iix snd_var a2⟩
theorem t_inin {k : Nat} (i : Nat) {mp : Pos} (hr : Room k X.A) (ha : PDE X ok a wa) (hN : X.N[i]? = some x := by rfl) (hv : Vis X.env.scope x := by first | exact Or.inl rfl | exact Or.inr (Or.inl rfl) | exact Or.inr (Or.inr rfl)) (hd : (x == ("__debug__" : Str)) = false := by decide) (hcd : (x == ("__classdict__" : Str)) = false := by decide) :
    PDT X ok (.Compare a [.NotIn] [.Name x mp] pos) (wTest (wINin wa (wVar i))) := let ⟨_, a1, a2⟩ := ha; ⟨_, pt_cmp (pc_dnotin (by have := units65 hr; omega) a1 (pe_var hN hv hd hcd)) (by with_unfolding_all rfl), snd_tB (snd_inin a2 snd_var)⟩
theorem i_keys (i : Nat) {mp : Pos} (hN : X.N[i]? = some x := by rfl) (hv : Vis X.env.scope x := by first | exact Or.inl rfl | exact Or.inr (Or.inl rfl) | exact Or.inr (Or.inr rfl)) (hd : (x == ("__debug__" : Str)) = false := by decide) (hcd : (x == ("__classdict__" : Str)) = false := by decide) :
    PDI X ok tg (.Name x mp) (iKD (wVar i)) := ⟨_, pi_keys (pe_var hN hv hd hcd), si_keys snd_var⟩
end
end DL
/-! DL: xs[::-1] of a list; xs.count(y) of a list of data -/
namespace RT
open PySem PySem.Spec PyProof.Rows L2
section
variable {X : Cx}
def rCntD (K : PySem.W.Frag) : V → List V → Hp → VK → Prop := fun x xs H Q => ∃ (a : Addr) (y : V) (d : PyData) (ds : List PyData), x = V.ref a ∧ xs = [y] ∧ Dp K H (V.ref a) (.list ds) ∧ Dp K H y d ∧
  SeqAt.shaped (.list ds) = true ∧ SeqAt.shaped d = true ∧ Q (.int ((ds.countP fun z => PyData.eqv z d : Nat) : Int)) H
theorem mt_countD (hu : X.A.units + 65 < cLine) : MtR X "list.count" (rCntD X.K) := by
  intro pins s σ H x xs v us Q I rx rxs h
  obtain ⟨a, y, d, ds, rfl, rfl, hl, hy, sl, sd, q⟩ := h
  cases rx
  cases rxs with
  | cons ry rt =>
    rename_i uy ut
    cases rt
    obtain ⟨bs, r1⟩ := Dp.reads I d y uy hy ry
    have hxs : PyData.canLayAll0 ds = true := SeqAt.canLay_of_shaped sl
    have hroom : X.A.units + 1 + min (PyData.depthAll ds) d.depth < cLine := room_in_shaped sd hu
    cases hl with
    | lst hs ha =>
      obtain ⟨its, rv, ⟨⟨cls, dd, data, sls⟩, n, ho, hc, hdn, hdt⟩, hlen⟩ := I.list hs
      simp only at hc hdt
      subst hc hdt
      obtain ⟨as, h4⟩ := Dp.readsAll I ds _ its ha rv
      have hmap : its.map (SeqAt.readOf s.heap) = ds := SeqAt.readsAll_map ds its as hxs h4
      have ec : its.toArray.toList.countP (fun u => PyData.eqv (SeqAt.readOf s.heap u) d) = ds.countP fun z => PyData.eqv z d := by
        rw [← hmap, List.countP_map]
        rfl
      refine call_meets PySem.F.slot_list_count ⟨_, ho, rfl⟩ PySem.F.entry_list_count (PySem.F.args_list_count_2 _ _)
        (SeqAt.list_countAt a its.toArray n dd sls uy (fun u => PyData.eqv (SeqAt.readOf s.heap u) d)) ⟨ho, SeqAt.items_eqAt (vs := its.toArray) (show ReadsAll s.heap its.toArray.toList ds as from h4) r1 hxs (SeqAt.canLay_of_shaped sd) hroom, ?_⟩
      refine ⟨.int ((ds.countP fun z => PyData.eqv z d : Nat) : Int), H, I.tok _, ⟨s.toks, ?_⟩, q⟩
      show Value.int ((its.toArray.toList.countP (fun u => PyData.eqv (SeqAt.readOf s.heap u) d) : Nat) : Int) s.toks = _
      rw [ec]
end
end RT
namespace DL
open PySem L2
def wCount (a b : WE) : WE := fun env Q => a env fun x => match x with
  | .list ds => b env fun y => SeqAt.shaped (.list ds) = true ∧ SeqAt.shaped y = true ∧ Q (.int ((ds.countP fun z => PyData.eqv z y : Nat) : Int))
  | _ => False
section
variable {K : PySem.W.Frag} {ok : List D → Prop} {ta tb : TE} {wa wb : WE}
theorem snd_count (ha : SndB K ok ta wa) (hb : SndE K ok tb wb) : SndE K ok (tBM K "list" (RT.rCntD K) ta (tCons tb tNil)) (wCount wa wb) := fun C H0 σ H env Q R rel hw k =>
  ha C H0 σ H env _ _ rel hw fun d v H1 H01 q r1 e1 x1 => by
    try dsimp only at q
    split at q
    · rename_i ds
      obtain ⟨p, vs, rfl, r, h⟩ := (x1 H1 H01 r1 (Same.refl _)).lst r1.sub
      refine ⟨.inl ⟨rfl, vs, SqL.of h⟩, hb C H01 σ H1 env _ _ r1 q fun e u H2 H02 ⟨s1, s2, q2⟩ r2 e2 x2 => ?_⟩
      have b := (x1 H2 H02 r2 e2).rp r2.sub
      exact ⟨p, u, e, ds, rfl, rfl, b.sh s1, (x2.mono r2.sub).sh s2, s1, s2, k _ _ H2 H02 q2 r2 (e1.trans e2) (.int _)⟩
    · exact q.elim
end
section
variable {X : Cx} {ok : List D → Prop} {a b : Expr} {wa wb : WE} {apos cpos pos p1 p2 p3 : Pos} {kk : Nat}
theorem d_count {j : Nat} (hr : Room j X.A) (ha : PDB X ok a wa) (hb : PDE X ok b wb)
    (hbase : attributeBase a "count" X.env (eval a X.env) = eval a X.env := by rfl)
    (hfew : ((backTo cpos (starEach [b] X.env)).all (fun x => !x.1) && (backToKw cpos (keywordEach [] X.env)).all (fun x => x.1.isSome)
      && decide ([b].length + ([] : List Keyword).length + (if ([] : List Keyword).isEmpty then 0 else 1) < 30)) = true := by rfl)
    (hline : (apos.endLine == cpos.line) = true := by rfl) (hs : starEach [b] X.env = (false, eval b X.env) :: starEach [] X.env := by rfl) (hplain : (backTo cpos (starEach [] X.env)).any (·.1) = false := by rfl) :
    PDE X ok (.Call (.Attribute a "count" apos) [b] [] cpos) (wCount wa wb) := let ⟨_, a1, a2⟩ := ha; let ⟨_, b1, b2⟩ := hb
  ⟨_, pe_bm PySem.F.plainAttrs_list PySem.F.slot_list_count PySem.F.type_list_count (RT.mt_countD (units65 hr)) a1 (pa_cons b1 pa_nil hs) hbase hfew hline hs hplain, snd_count a2 b2⟩
theorem l_rev1 (ha : PDB X ok a wa) : PDL X ok (.Subscript a (.Slice none none (some (.UnaryOp .USub (.Constant (.int 1) kk p1) p2)) p3) pos) (wLstRev wa) := let ⟨_, a1, a2⟩ := ha; ⟨_, pe_revL a1, sl_lstRev a2⟩
end
end DL
/-! DL: sorted(xs), xs a list of tuples of any make that are alike -/
namespace DL
open PySem PySem.Spec PyProof.Rows L2
/-- not behind -/
def dle (x y : D) : Prop := PySem.W.dataLt y x = false
def tupD (d : D) : Prop := ∃ x r, d = PyData.tuple (x :: r)
def rSortA (K : PySem.W.Frag) : List V → Hp → VK → Prop := fun vs H Q => ∃ (a : Addr) (xs : List V) (ds : List D) (R : V → D → Prop), vs = [V.ref a] ∧ SqL K H a xs ∧ Paired R xs ds ∧ (∀ x d, R x d → ∃ t, x = V.ref t ∧ Dp K H x d) ∧ PySem.W.AllAlike ds ∧ (∀ d ∈ ds, tupD d) ∧ (∀ d ∈ ds, d.depth ≤ 60) ∧
  ∀ ys ds' p, Paired R ys ds' → ds'.Perm ds → ds'.Pairwise dle → H p = none → Q (.ref p) (upd H p (.lst ys))
theorem le_trans' (a b c : D) : PySem.W.dataLe false id a b = true → PySem.W.dataLe false id b c = true → PySem.W.dataLe false id a c = true := by
  rw [PySem.W.dataLe_eq]
  intro h1 h2
  have h1 : PySem.W.dataLt b a = false := by simpa using h1
  have h2 : PySem.W.dataLt c b = false := by simpa using h2
  show (!PySem.W.dataLt c a) = true
  rw [Bool.not_eq_true']
  cases h3 : PySem.W.dataLt c a with
  | false => rfl
  | true =>
    cases h4 : PySem.W.dataLt b c with
    | true => 
      have := PyProof.Rows.lex_trans _ _ _ h4 h3
      unfold PySem.W.dataLt at h1
      rw [this] at h1
      cases h1
    | false =>
      have := PyProof.Rows.lex_total _ _ h2 h4
      unfold PySem.W.dataLt at h1 h3
      rw [this] at h3
      rw [h3] at h1
      cases h1
theorem le_total' (a b : D) : (PySem.W.dataLe false id a b || PySem.W.dataLe false id b a) = true := by
  rw [PySem.W.dataLe_eq]
  show (!PySem.W.dataLt b a || !PySem.W.dataLt a b) = true
  cases h1 : PySem.W.dataLt b a with
  | false => rfl
  | true =>
    cases h2 : PySem.W.dataLt a b with
    | false => rfl
    | true =>
      have := PyProof.Rows.lex_trans _ _ _ h1 h2
      rw [PyProof.Rows.lex_irrefl] at this
      cases this
section
variable {X : Cx}
theorem cr_sortA (hu : X.A.units + 65 < cLine) : CallR X (.builtin "sorted") (rSortA X.K) := by
  intro pins s σ H vs us Q I r h
  obtain ⟨a, xs, ds, R, rfl, hs, hp, hR, hal, htp, hdp, q⟩ := h
  obtain ⟨its, rv, hl, hz⟩ := I.list hs
  obtain ⟨u, rfl, ru⟩ := vals1 r
  obtain rfl : u = Value.ref a := ru
  have all : ∀ {xs : List V} {its : List Value} {ds : List D}, Vals xs its → Paired R xs ds → PySem.W.EachIs (fun u d => (R (backV u) d ∧ ∃ t, u = Value.ref t) ∧ ∃ as, Reads s.heap u d as) its ds := by
    intro xs its ds rv
    induction rv generalizing ds with
    | nil => intro hp; cases hp; exact .nil
    | cons h t ih =>
      intro hp
      cases hp with
      | cons h1 h2 =>
        obtain ⟨t, rfl, hd⟩ := hR _ _ h1
        have hr := Dp.reads I _ _ _ hd h
        have h' := h
        obtain rfl := h
        exact .cons ⟨⟨h1, _, rfl⟩, hr⟩ (ih h2)
  have ea := all rv hp
  have e1 : PySem.W.EachIs (fun u d => R (backV u) d ∧ ∃ t, u = Value.ref t) its ds := ea.mono fun _ _ h => h.1
  have e2 : PySem.W.EachIs (fun u d => ∃ as, Reads s.heap u (id d) as) its ds := ea.mono fun _ _ h => h.2
  have hn : its.length = ds.length := e1.length
  refine PySem.W.sorted_data (enc := id) hl.isList e1 e2 (by rw [List.map_id]; exact hal) (by rw [List.map_id]; exact .inl htp) (by rw [← hn, ← rv.length]; exact hz) (fun b hb => by have := hdp b hb; show X.A.units + 2 + b.depth < cLine; omega) fun out ho eo => ?_
  obtain ⟨c, hc⟩ := PyProof.Rows.sortedAll_at s.heap its out.toArray
  have kp : ∀ b o, s.heap.get? b = some o → (PyProof.Rows.sortedAll s.heap its out.toArray).get? b = some o := fun _ _ => PyProof.Rows.sortedAll_old
  have hd : s.heap.objs.size ≤ s.heap.objs.size + 1 := Nat.le_succ _
  have pr : ∀ {out : List Value} {ds : List D}, PySem.W.EachIs (fun u d => R (backV u) d ∧ ∃ t, u = Value.ref t) out ds → Paired R (out.map backV) ds ∧ ∀ u ∈ out, ∃ a, u = Value.ref a := by
    intro out ds e
    induction e with
    | nil => exact ⟨.nil, fun u hu => (nomatch hu)⟩
    | cons h _ ih => exact ⟨.cons h.1 ih.1, fun u hu => (List.mem_cons.mp hu).elim (fun e => e ▸ h.2) (ih.2 u)⟩
  obtain ⟨p1, p2⟩ := pr eo
  refine ⟨.ref (s.heap.objs.size + 1), upd H (s.heap.objs.size + 1) (.lst (out.map backV)), I.laid (t' := s.toks) kp hd ⟨?_, out, c, vals_back p2, hc⟩, rfl, q _ _ _ p1 (List.mergeSort_perm _ _) ?_ (I.hok.fresh hd)⟩
  · rw [List.length_map, ho, ← hn, ← rv.length]
    exact hz
  · have := List.pairwise_mergeSort (le := PySem.W.dataLe false id) le_trans' le_total' ds
    refine this.imp fun {x y} h => ?_
    rw [PySem.W.dataLe_eq] at h
    have h : (!PySem.W.dataLt y x) = true := h
    rwa [Bool.not_eq_true'] at h
end
def wSortA (a : WE) : WL := fun env Q => a env fun x => ∃ ds : List D, x = .list ds ∧ PySem.W.AllAlike ds ∧ (∀ d ∈ ds, tupD d) ∧ (∀ d ∈ ds, SeqAt.shaped d = true) ∧ (∀ d ∈ ds, d.depth ≤ 60) ∧ ∀ ds' : List D, ds'.Perm ds → ds'.Pairwise dle → Q ds'
section
variable {K : PySem.W.Frag} {ok : List D → Prop} {ta : TE} {wa : WE}
theorem rps_paired {H : Hp} : ∀ {vs : List V} {ds : List D}, Rps K H vs ds → Paired (fun v d => Rp K H v d ∧ d ∈ ds) vs ds
  | _, _, .nil => .nil
  | _, _, .cons h t => .cons ⟨h, .head _⟩ ((rps_paired t).mono fun _ _ h => ⟨h.1, .tail _ h.2⟩)
theorem rps_back {H : Hp} {P : D → Prop} : ∀ {vs : List V} {ds : List D}, Paired (fun v d => Rp K H v d ∧ P d) vs ds → Rps K H vs ds
  | _, _, .nil => .nil
  | _, _, .cons h t => .cons h.1 (rps_back t)
theorem sl_sortA (ha : SndB K ok ta wa) : SndL K ok (tCB (rSortA K) (tCons ta tNil)) (wSortA wa) := fun C H0 σ H env Q R rel hw k =>
  ha C H0 σ H env _ _ rel hw fun d v H1 H01 q r1 e1 x1 => by
    obtain ⟨ds, rfl, hal, htp, hsh, hdp, q⟩ := q
    obtain ⟨p, vs, rfl, r, h⟩ := (x1 H1 H01 r1 (Same.refl _)).lst r1.sub
    refine ⟨p, vs, ds, fun v d => Rp K H01 v d ∧ d ∈ ds, rfl, SqL.of h, rps_paired r, fun x d hx => ?_, hal, htp, hdp, fun ys ds' p' hp hperm hpw nl => k _ _ _ _ (q ds' hperm hpw) (r1.laid0 nl) e1 ⟨r1.fresh nl, ⟨r1.sub.free nl, _, upd_same, rps_back hp⟩, r1.noslot nl, r1.kp.free nl⟩⟩
    have hs := hsh d hx.2
    have ht := htp d hx.2
    have hx' := (hx.1.mono r1.sub)
    have hd := hx'.sh hs
    obtain ⟨y, rr, rfl⟩ := ht
    generalize hdd : PyData.tuple (y :: rr) = d at hx' hd
    cases hx' with
    | tup h1 h2 => exact ⟨_, rfl, hd⟩
    | _ => cases hdd
end
section
variable {X : Cx} {ok : List D → Prop} {a : Expr} {wa : WE} {pos p : Pos}
theorem l_sortA {j : Nat} (hr : Room j X.A) (hm : X.mg "sorted" = none) (ha : PDB X ok a wa) (hg : Gl X "sorted" := by rfl) (hs : starEach [a] X.env = (false, eval a X.env) :: starEach [] X.env := by rfl) (hpl : (backTo pos (starEach [] X.env)).any (·.1) = false := by rfl) :
    PDL X ok (.Call (.Name "sorted" p) [a] [] pos) (wSortA wa) := let ⟨_, a1, a2⟩ := ha; ⟨_, pe_callB (cr_sortA (units65 hr)) hg hm (by decide +kernel) (pa_cons a1 pa_nil hs) (by decide) (by decide) hs hpl, sl_sortA a2⟩
end
end DL
/-! DL: instances of an own class: made, their fields read, their methods called -/
namespace DL
open PySem L2
/-- an instance whose fields are ns, in this order -/
abbrev dObj (x : Str) (ns : List Str) (ds : List D) : D := dOb x (ns.zip ds)
structure ClsD (K : PySem.W.Frag) (mg : Str → Option Value) (x : Str) (C : Addr) : Prop where
  cl : Cls K C
  ns : PySem.W.nsIn K mainGlobals x = some (some (.ref C))
  mgC : mg x = some (.ref C)
structure HasM (P : Program) (w : World) (K : PySem.W.Frag) (mg : Str → Option Value) (base : Heap) (ok : List D → Prop) (k : Nat) (C : Addr) (m : Str) (n : Nat) (M : WM) : Prop where
  ex : ∃ f fd ps, FnOk P w K mg base CX0 k f fd ps (SpD K ok n M) ∧ Meth K C m f ∧ Binds K fd ps []
def wFld (x : Str) (ns : List Str) (i : Nat) (a : WE) : WE := fun env Q => a env fun d => ∃ ds v, d = dObj x ns ds ∧ ds.length = ns.length ∧ ds[i]? = some v ∧ Q v
def wMeth (x : Str) (ns : List Str) (n : Nat) (M : WM) (o : WE) (a : WA) : WE := fun env Q => o env fun d => ∃ ds, d = dObj x ns ds ∧ a env fun as => oneH as = true ∧ as.length + 1 = n ∧ M (.v d :: as) fun r => Q r.val
theorem ob_inj {x y : Str} {a b : List (Str × D)} (h : dOb x a = dOb y b) : x = y ∧ a = b := by
  injection h with h
  injection h with h1 h2
  injection h1 with _ h1
  injection h1 with h1
  refine ⟨h1, ?_⟩
  induction a generalizing b with
  | nil => cases b with
    | nil => rfl
    | cons _ _ => simp at h2
  | cons p a ih =>
    cases b with
    | nil => simp at h2
    | cons q b =>
      simp only [List.map_cons, List.cons.injEq, Prod.mk.injEq] at h2
      obtain ⟨⟨h3, h4⟩, h5⟩ := h2
      injection h3 with h3
      rw [ih h5]
      obtain ⟨p1, p2⟩ := p
      obtain ⟨q1, q2⟩ := q
      simp only at h3 h4
      rw [h3, h4]
theorem rp_ob {K : PySem.W.Frag} {H : Hp} {v : V} {x : Str} {kvs : List (Str × D)} (h : Rp K H v (dOb x kvs)) : ∃ a dx C fs, v = .ref a ∧ H a = some (.ins C dx fs) ∧ PySem.W.nsIn K mainGlobals x = some (some (.ref C)) ∧ fs.map (·.1) = kvs.map (·.1) ∧ Rps K H (fs.map (·.2)) (kvs.map (·.2)) := by
  generalize e : dOb x kvs = d at h
  cases h with
  | non => cases e
  | bl b => cases e
  | int j => cases e
  | str x => cases e
  | lst _ _ => cases e
  | tup _ _ => cases e
  | scr _ =>
    injection e with e
    injection e with e _
    injection e with e _
    cases e
  | dct _ _ _ _ =>
    injection e with e
    injection e with e _
    injection e with _ e
    cases e
  | dci _ _ _ =>
    injection e with e
    injection e with e _
    injection e with e _
    injection e with e
    cases e
  | fn _ =>
    injection e with e
    injection e with e _
    injection e with _ e
    cases e
  | ob h1 h2 h3 h4 =>
    obtain ⟨rfl, rfl⟩ := ob_inj e
    exact ⟨_, _, _, _, rfl, h1, h2, h3, h4⟩
theorem zip_fst {ns : List Str} {ds : List D} (h : ds.length = ns.length) : (ns.zip ds).map (·.1) = ns := by
  rw [List.map_fst_zip]
  omega
theorem zip_snd {ns : List Str} {ds : List D} (h : ds.length = ns.length) : (ns.zip ds).map (·.2) = ds := by
  rw [List.map_snd_zip]
  omega
theorem zip_take : ∀ (ns : List Str) (ds : List D), (ns.zip ds).map (·.1) = ns.take ds.length
  | [], ds => by simp
  | n :: ns, [] => rfl
  | n :: ns, d :: ds => by
    show n :: (ns.zip ds).map (·.1) = n :: ns.take ds.length
    rw [zip_take ns ds]
/-- the first place of a name -/
def fldIx (f : Str) : List Str → Option Nat
  | [] => none
  | n :: ns => if f = n then some 0 else (fldIx f ns).map (· + 1)
theorem lookup_ix {f : Str} : ∀ {fs : List (Str × V)} {i : Nat} {v : V}, fldIx f (fs.map (·.1)) = some i → (fs.map (·.2))[i]? = some v → fs.lookup f = some v
  | [], _, _, h, _ => by cases h
  | (n, u) :: fs, i, v, h, hv => by
    unfold fldIx at h
    rw [List.map_cons] at h
    dsimp only at h
    rw [List.lookup_cons]
    by_cases e : f = n
    · rw [if_pos e] at h
      cases h
      rw [show (f == n) = true from beq_iff_eq.mpr e]
      exact hv
    · rw [if_neg e] at h
      rw [show (f == n) = false from beq_eq_false_iff_ne.mpr e]
      obtain ⟨j, hj, rfl⟩ := Option.map_eq_some_iff.mp h
      exact lookup_ix hj hv
theorem lookup_no {f : Str} : ∀ {fs : List (Str × V)}, fldIx f (fs.map (·.1)) = none → fs.lookup f = none
  | [], _ => rfl
  | (n, u) :: fs, h => by
    unfold fldIx at h
    rw [List.map_cons] at h
    dsimp only at h
    rw [List.lookup_cons]
    by_cases e : f = n
    · rw [if_pos e] at h
      cases h
    · rw [if_neg e] at h
      rw [show (f == n) = false from beq_eq_false_iff_ne.mpr e]
      exact lookup_no (Option.map_eq_none_iff.mp h)
theorem fldIx_take {f : Str} : ∀ {ns ms : List Str} {i : Nat}, fldIx f ns = none → (∃ k, ms = ns.take k) → fldIx f ms = none
  | [], ms, _, h, ⟨k, e⟩ => by rw [e]; cases k <;> rfl
  | n :: ns, ms, i, h, ⟨k, e⟩ => by
    unfold fldIx at h
    by_cases z : f = n
    · rw [if_pos z] at h; cases h
    · rw [if_neg z] at h
      cases k with
      | zero => rw [e]; rfl
      | succ k =>
        rw [e, List.take_succ_cons]
        unfold fldIx
        rw [if_neg z, fldIx_take (i := i) (Option.map_eq_none_iff.mp h) ⟨k, rfl⟩]
        rfl
section
variable {K : PySem.W.Frag} {ok : List D → Prop} {ta : TE} {wa : WE} {tr : TA} {wr : WA} {mg : Str → Option Value} {x : Str} {ns : List Str} {C : Addr}
theorem snd_fld {f : Str} {i : Nat} (c : ClsD K mg x C) (na : NoAttr K C f) (hi : fldIx f ns = some i) (ha : SndE K ok ta wa) : SndE K ok (tFld K ta f) (wFld x ns i wa) := fun Ct H0 σ H env Q R rel hw k =>
  ha Ct H0 σ H env _ _ rel hw fun d v H1 H01 q r1 e1 x1 => by
    obtain ⟨ds, u, rfl, hl, hu, q⟩ := q
    obtain ⟨a, dx, C', fs, rfl, hp, hn, h1, h2⟩ := rp_ob x1
    rw [c.ns] at hn
    cases hn
    rw [zip_fst hl] at h1
    rw [zip_snd hl] at h2
    obtain ⟨y, hy, ry⟩ : ∃ y, (fs.map (·.2))[i]? = some y ∧ Rp K H01 y u := h2.get hu
    exact ⟨a, _, dx, fs, y, rfl, r1.sub _ _ hp, c.cl, na, lookup_ix (by rw [h1]; exact hi) hy, k _ _ _ _ q r1 e1 ry⟩
theorem snd_meth {m : Str} {n : Nat} {M : WM} {E : XK} (c : ClsD K mg x C) (nm : fldIx m ns = none) (ha : SndE K ok ta wa) (hr : SndA K ok tr wr) : SndE K ok (tMeth C m (SpD K ok n M) [] E ta tr) (wMeth x ns n M wa wr) := fun Ct H0 σ H env Q R rel hw k =>
  ha Ct H0 σ H env _ _ rel hw fun d v H1 H01 q r1 e1 x1 => by
    obtain ⟨ds, rfl, q⟩ := q
    obtain ⟨a, dx, C', fs, rfl, hp, hn, h1, h2⟩ := rp_ob x1
    rw [c.ns] at hn
    cases hn
    refine ⟨a, dx, fs, rfl, r1.sub _ _ hp, lookup_no (by
      rw [h1]
      refine fldIx_take (i := 0) nm ⟨ds.length, ?_⟩
      exact zip_take ns ds), hr Ct H01 σ H1 env _ _ r1 q fun as vs H2 H02 q2 r2 e2 x2 => ?_⟩
    obtain ⟨q1, q3, q4⟩ := q2
    rw [List.append_nil]
    refine SpD.exc (call_core (as := .v (dObj x ns ds) :: as) r2 (.cons (x1.mono e2) x2) q1 q3 q4 fun v r H3 H03 hq r3 e3 z => ?_)
    have e12 := (e1.trans e2).trans e3
    cases r with
    | v d => exact k _ _ H3 H03 hq r3 e12 z
    | own ds =>
      obtain ⟨p, rfl, f⟩ := z
      obtain ⟨n0, ws, hp, hr'⟩ := f.own
      obtain ⟨r4, e4⟩ := r3.know hp n0 f.he f.kq f.ns
      exact k _ _ H3 _ hq r4 (e12.trans e4) (.lst upd_same (hr'.mono e4))
    | two d ds =>
      obtain ⟨q, p, x, rfl, hne, heq, kq, nsq, q0, hqq, hx, f⟩ := z
      obtain ⟨n0, ws, hp, hr'⟩ := f.own
      obtain ⟨r4, e4⟩ := r3.know hp n0 f.he f.kq f.ns
      obtain ⟨r5, e5⟩ := r4.know hqq (by rw [upd_ne (Ne.symm hne)]; exact q0) heq kq nsq
      exact k _ _ H3 _ hq r5 ((e12.trans e4).trans e5) (.lst upd_same (.cons (hx.mono (e4.trans e5)) (.cons (.lst (e5 _ _ upd_same) ((hr'.mono e4).mono e5)) .nil)))
/-- at __init__: the new instance, what is known ahead; behind: its fields -/
def SpI (K : PySem.W.Frag) (C : Addr) (x : Str) (ns : List Str) (n : Nat) (M : WM) : Sp := fun us H Q _ => ∃ (p dx : Addr) (vs : List V) (H0 : Hp) (as : List Ar) (Q' : List D → Prop), us = .ref p :: vs ∧ as.length = n ∧ vs.length = n ∧ Same H0 H ∧ H0 p = none ∧ H p = some (.ins C dx []) ∧ ArgsOk K H0 none vs as ∧
  M as (fun r => ∃ ds, r = .v (dObj x ns ds) ∧ ds.length = ns.length ∧ Q' ds) ∧
  ∀ H' fs ds H01, Q' ds → ds.length = ns.length → H' p = some (.ins C dx fs) → fs.map (·.1) = ns → Rps K H01 (fs.map (·.2)) ds → H01 p = none → Same H0 H01 → Same H01 H' → (∀ b o, H01 b = some o → H0 b = some o ∨ H b = none) → (∀ b o, H b = some o → b ≠ p → H' b = some o) → Q .non H'
structure HasMk (P : Program) (w : World) (K : PySem.W.Frag) (mg : Str → Option Value) (base : Heap) (k : Nat) (x : Str) (ns : List Str) (C : Addr) (n : Nat) (M : WM) : Prop where
  ex : ∃ f fd ps, FnOk P w K mg base CX0 k f fd ps (SpI K C x ns n M) ∧ Mk K C f ∧ Binds K fd ps []
def wMake (x : Str) (ns : List Str) (n : Nat) (M : WM) (a : WA) : WE := fun env Q => a env fun as => plainA as = true ∧ as.length = n ∧ M as fun r => ∃ ds, r = .v (dObj x ns ds) ∧ ds.length = ns.length ∧ Q (dObj x ns ds)
theorem snd_make {n : Nat} {M : WM} {E : XK} (c : ClsD K mg x C) (hr : SndA K ok tr wr) : SndE K ok (tMake C (SpI K C x ns n M) [] E tr) (wMake x ns n M wr) := fun Ct H0 σ H env Q R rel hw k =>
  hr Ct H0 σ H env _ _ rel hw fun as vs H1 H01 q r1 e1 x1 => by
    obtain ⟨q1, q2, q3⟩ := q
    intro p dx np ndx ne
    rw [List.append_nil]
    have g : Same H1 (upd (upd H1 dx (.own p)) p (.ins C dx [])) := fun b o hb => by
      rw [upd_ne (ne_of_none hb np), upd_ne (ne_of_none hb ndx)]
      exact hb
    refine ⟨p, dx, vs, H01, as, fun ds => Q (dObj x ns ds), rfl, q2, by rw [← x1.length]; exact q2, fun b o hb => g _ _ (r1.sub _ _ hb), r1.sub.free np, upd_same, argsOk_plain x1 q1, q3, fun H' fs ds H02 hq hl hp hf hs n0 e2 s2 nw fr => ⟨rfl, ?_⟩⟩
    have r2 : Rel K ok Ct H02 σ H' env := r1.step e2 s2 (fun b o hb => (nw b o hb).imp id fun z => by
      by_cases h1 : b = p
      · rw [h1]; exact np
      · by_cases h2 : b = dx
        · rw [h2]; exact ndx
        · rw [upd_ne h1, upd_ne h2] at z
          exact z) fun b o hb => fr b o (g _ _ hb) (ne_of_none hb np)
    obtain ⟨r3, e3⟩ := r2.know hp n0 (r1.fresh np) (r1.kp.free np) (r1.noslot np)
    refine k _ _ H' _ hq r3 ((e1.trans e2).trans e3) (.ob upd_same c.ns (by rw [hf, zip_fst hl]) ?_)
    rw [zip_snd hl]
    exact hs.mono e3
end
section
variable {X : Cx} {ok : List D → Prop} {e o : Expr} {es : List Expr} {wa : WE} {wr : WA} {pos p apos : Pos} {x f m : Str} {ns : List Str} {C : Addr}
theorem d_fld (i : Nat) (c : ClsD X.K X.mg x C) (na : NoAttr X.K C f) (ha : PDE X ok e wa) (hi : fldIx f ns = some i := by decide +kernel) (hb : attributeBase e f X.env (eval e X.env) = eval e X.env := by rfl) : PDE X ok (.Attribute e f pos) (wFld x ns i wa) := let ⟨_, a1, a2⟩ := ha; ⟨_, pe_fld a1 hb, snd_fld c na hi a2⟩
theorem d_meth {k j n : Nat} {M : WM} {pl : Sem Bool} (c : ClsD X.K X.mg x C) (h : HasM X.prog X.w X.K X.mg X.base ok k C m n M) (hr : Room j X.A) (hk : k ≤ j) (ha : PDE X ok o wa) (hes : PDA X ok (e :: es) wr) (nm : fldIx m ns = none := by decide +kernel)
    (hst : starEach (e :: es) X.env = (false, eval e X.env) :: starEach es X.env := by rfl) (hpl : (backTo pos (starEach es X.env)).any (·.1) = false := by rfl)
    (ht : eval (.Call (.Attribute o m apos) (e :: es) [] pos) X.env = (do
      let ov ← eval o X.env
      standAt apos.atName
      let (f, first) ← holding [ov] (getMethod ov m pl)
      callWith pos f first (backTo pos (starEach (e :: es) X.env)) (backToKw pos (keywordEach [] X.env))) := by rfl) : PDE X ok (.Call (.Attribute o m apos) (e :: es) [] pos) (wMeth x ns n M wa wr) :=
  let ⟨f, fd, ps, G, hm, bs⟩ := h.ex; let ⟨_, a1, a2⟩ := ha; let ⟨_, b1, b2⟩ := hes; ⟨_, pe_meth a1 c.cl hm G (hr.mono hk) bs .nil pass0 b1 hst hpl ht, snd_meth c nm a2 b2⟩
theorem d_meth0 {k j n : Nat} {M : WM} {pl : Sem Bool} (c : ClsD X.K X.mg x C) (h : HasM X.prog X.w X.K X.mg X.base ok k C m n M) (hr : Room j X.A) (hk : k ≤ j) (ha : PDE X ok o wa) (nm : fldIx m ns = none := by decide +kernel)
    (ht : eval (.Call (.Attribute o m apos) [] [] pos) X.env = (do
      let ov ← eval o X.env
      standAt apos.atName
      let (f, first) ← holding [ov] (getMethod ov m pl)
      callWith pos f first (backTo pos (starEach [] X.env)) (backToKw pos (keywordEach [] X.env))) := by rfl) : PDE X ok (.Call (.Attribute o m apos) [] [] pos) (wMeth x ns n M wa wNil) :=
  let ⟨f, fd, ps, G, hm, bs⟩ := h.ex; let ⟨_, a1, a2⟩ := ha; ⟨_, pe_meth0 a1 c.cl hm G (hr.mono hk) bs .nil pass0 ht, snd_meth c nm a2 snd_nil⟩
theorem d_make {k j n : Nat} {M : WM} (c : ClsD X.K X.mg x C) (h : HasMk X.prog X.w X.K X.mg X.base k x ns C n M) (hr : Room j X.A) (hk : k + 1 ≤ j) (hes : PDA X ok (e :: es) wr) (hg : Gl X x := by rfl) (hdb : (x == ("__debug__" : Str)) = false := by decide)
    (he : starEach (e :: es) X.env = (false, eval e X.env) :: starEach es X.env := by rfl) (hpl : (backTo pos (starEach es X.env)).any (·.1) = false := by rfl) : PDE X ok (.Call (.Name x p) (e :: es) [] pos) (wMake x ns n M wr) :=
  let ⟨f, fd, ps, G, hm, bs⟩ := h.ex; let ⟨_, b1, b2⟩ := hes; ⟨_, pe_make hm G (hr.mono hk) hg c.mgC bs .nil pass0 b1 hdb he hpl, snd_make c b2⟩
end
end DL
namespace DL
open PySem L2
section
variable {X : Cx} {ok : List D → Prop} {e o : Expr} {es : List Expr} {ta : TE} {t : TA} {pos p apos : Pos} {x f m : Str} {ns : List Str} {C : Addr}
theorem pe_hasM {k j n : Nat} {M : WM} {pl : Sem Bool} (c : ClsD X.K X.mg x C) (h : HasM X.prog X.w X.K X.mg X.base ok k C m n M) (hr : Room j X.A) (hk : k ≤ j) (ha : PE X o ta) (hes : PA X (e :: es) t)
    (hst : starEach (e :: es) X.env = (false, eval e X.env) :: starEach es X.env := by rfl) (hpl : (backTo pos (starEach es X.env)).any (·.1) = false := by rfl)
    (ht : eval (.Call (.Attribute o m apos) (e :: es) [] pos) X.env = (do
      let ov ← eval o X.env
      standAt apos.atName
      let (f, first) ← holding [ov] (getMethod ov m pl)
      callWith pos f first (backTo pos (starEach (e :: es) X.env)) (backToKw pos (keywordEach [] X.env))) := by rfl) : PE X (.Call (.Attribute o m apos) (e :: es) [] pos) (tMeth C m (SpD X.K ok n M) [] E0 ta t) :=
  let ⟨_, _, _, G, hm, bs⟩ := h.ex; pe_meth ha c.cl hm G (hr.mono hk) bs .nil pass0 hes hst hpl ht
theorem pe_hasM0 {k j n : Nat} {M : WM} {pl : Sem Bool} (c : ClsD X.K X.mg x C) (h : HasM X.prog X.w X.K X.mg X.base ok k C m n M) (hr : Room j X.A) (hk : k ≤ j) (ha : PE X o ta)
    (ht : eval (.Call (.Attribute o m apos) [] [] pos) X.env = (do
      let ov ← eval o X.env
      standAt apos.atName
      let (f, first) ← holding [ov] (getMethod ov m pl)
      callWith pos f first (backTo pos (starEach [] X.env)) (backToKw pos (keywordEach [] X.env))) := by rfl) : PE X (.Call (.Attribute o m apos) [] [] pos) (tMeth C m (SpD X.K ok n M) [] E0 ta tNil) :=
  let ⟨_, _, _, G, hm, bs⟩ := h.ex; pe_meth0 ha c.cl hm G (hr.mono hk) bs .nil pass0 ht
end
end DL
/-! DM, part l: sorted(d.items()), d a dict of one's own with whole numbers for keys and values. -/
namespace DL
open PySem PySem.Spec PyProof.Rows L2 L2.DX
abbrev itE (P : Int × Int) : Key × V := (.inl P.1, .int P.2)
def rItemsK : V → List V → Hp → VK → Prop := fun x xs H Q => ∃ (a : Addr) (kvs : List (Key × V)), x = .ref a ∧ xs = [] ∧ H a = some (.dK kvs) ∧ ∀ p, H p = none → Q (.ref p) (upd H p (itemsO p a))
def rSortItK : List V → Hp → VK → Prop := fun vs H Q => ∃ (p a : Addr) (L : List (Int × Int)), vs = [.ref p] ∧ H p = some (itemsO p a) ∧ H a = some (.dK (L.map itE)) ∧
  ∀ (H' : Hp) (l : Addr) (ts : List Addr) (L' : List (Int × Int)), (∀ b o, H b = some o → H' b = some o) → H l = none → (∀ t ∈ ts, H t = none) → l ∉ ts → L'.Perm L → L'.Pairwise leP → H' l = some (.lst (ts.map V.ref)) →
    Paired (fun (t : Addr) (P : Int × Int) => H' t = some (.tup [.int P.1, .int P.2])) ts L' → Q (.ref l) H'
theorem vals_refsL : ∀ as : List Addr, Vals (as.map V.ref) (as.map Value.ref)
  | [] => .nil
  | _ :: as => .cons rfl (vals_refsL as)
section
variable {X : Cx}
theorem mt_itemsK : MtR X "dict.items" rItemsK := by
  intro pins s σ H x xs v us Q I rx rxs h
  obtain ⟨a, kvs, rfl, rfl, ha, q⟩ := h
  cases rx
  cases rxs
  obtain ⟨hz, hs0, vs, kv, hdo⟩ := I.hok a _ ha
  obtain ⟨es, ep, hraw, _⟩ := hdo.raw
  refine DT.callItems (es := es) (ep := ep) hs0 hraw ?_
  have hf : H s.heap.objs.size = none := I.hok.fresh (Nat.le_refl _)
  exact ⟨.ref s.heap.objs.size, upd H s.heap.objs.size (itemsO s.heap.objs.size a), I.laid (t' := s.toks) (fun b u e => Heap.get?_push_of_some _ e) (Nat.le_refl _) (itemsO_ok (Heap.get?_push_size _ rfl)), rfl, q _ hf⟩
theorem cr_sortItK (hc : X.calm = true) : CallR X (.builtin "sorted") rSortItK := by
  intro pins s σ H xs us Q I r h
  obtain ⟨p, a, L, rfl, hp, ha, q⟩ := h
  obtain rfl := Vals.ref1 r
  have view : s.heap.IsItemsView p a := (show ObjOk X.prog X.w H s.heap p (itemsO p a) from I.hok p _ hp).1
  obtain ⟨hz, hs0, vs, kv, hdo⟩ := I.hok a _ ha
  obtain ⟨es, ep, hraw, hsz, hes⟩ := hdo.raw
  have lk : (L.map itE).length = vs.length := Paired.length kv
  rw [List.length_map] at lk hz
  have hh : X.A.handled = none := I.ok.hd hc
  refine DT.sortedI (es := es) (ep := ep) hh view hraw (by omega) fun h' tk as hk hlt hl hG => ?_
  have lak : as.length = L.length := by omega
  have nd : as.Nodup := List.Pairwise.imp (fun h => Nat.ne_of_lt h) hG.rise
  -- the pairs that were made
  have pr : ∀ (j : Nat) (b : Addr), as[j]? = some b → ∃ (P : Int × Int) (t1 t2 : Tok), L[j]? = some P ∧ h'.get? b = some { cls := .type "tuple", data := .seq #[Value.int P.1 t1, Value.int P.2 t2] } := by
    intro j b hj
    obtain ⟨en, he, hg⟩ := hG.pairs j b hj
    have hj' : j < es.size := (Array.getElem?_eq_some_iff.mp he).1
    obtain ⟨k, v, hkv⟩ : ∃ k v, vs[j]? = some (k, v) := ⟨_, _, List.getElem?_eq_getElem (by omega)⟩
    obtain ⟨e1, e2⟩ := hes j hj' k v hkv
    have e0 : es[j] = en := (Array.getElem?_eq_some_iff.mp he).2
    obtain ⟨pk, f1, f2, f3⟩ := pget kv hkv
    rw [List.getElem?_map] at f1
    obtain ⟨P, hP, rfl⟩ := Option.map_eq_some_iff.mp f1
    have f2 : Sum.inl P.1 = k := f2
    subst f2
    obtain ⟨t2, ev⟩ : ∃ t, v = Value.int P.2 t := f3
    have e1 : keyIs (Sum.inl P.1) es[j].key = true := e1
    rcases keyIs_shape e1 with ⟨i, t1, z1, z2⟩ | ⟨x, t1, z1, _⟩
    · cases z1
      refine ⟨P, t1, t2, hP, ?_⟩
      rw [hg, ← e0, z2, e2, ev]
    · cases z1
  -- the heap of the sort
  have hob : (h'.push { cls := .type "list", data := .seq (as.map Value.ref).toArray }).get? h'.objs.size = some (seqObj "list" (as.map Value.ref).toArray 0) := Heap.get?_push_size _ rfl
  have kb : ∀ b o, s.heap.get? b = some o → (h'.push { cls := .type "list", data := .seq (as.map Value.ref).toArray }).get? b = some o := fun b o e => Heap.get?_push_of_some _ (hk b o e)
  have ne0 : ∀ b o, h'.get? b = some o → b ≠ h'.objs.size := fun b o e => Nat.ne_of_lt (Heap.lt_size e)
  generalize hh2 : h'.push { cls := .type "list", data := .seq (as.map Value.ref).toArray } = h2 at hob kb ⊢
  have ka : ∀ b o, h'.get? b = some o → h2.get? b = some o := fun b o e => by rw [← hh2]; exact Heap.get?_push_of_some _ e
  -- what each address stands for
  have isP : ∀ (j : Nat) (b : Addr) (P : Int × Int), as[j]? = some b → L[j]? = some P → Srt.IsPair h2 (.ref b) P.1 P.2 := fun j b P hj hP => by
    obtain ⟨P', t1, t2, hP', hg⟩ := pr j b hj
    cases hP.symm.trans hP'
    exact ⟨b, _, t1, t2, _, rfl, ka _ _ hg, rfl, rfl⟩
  have at_ : ∀ v ∈ as.map Value.ref, ∃ (j : Nat) (b : Addr) (P : Int × Int), v = .ref b ∧ as[j]? = some b ∧ L[j]? = some P := by
    intro v hv'
    obtain ⟨b, hb, rfl⟩ := List.mem_map.mp hv'
    obtain ⟨j, hj⟩ := List.mem_iff_getElem?.mp hb
    obtain ⟨P, _, _, hP, _⟩ := pr j b hj
    exact ⟨j, b, P, rfl, hj, hP⟩
  have tx : ∀ (j : Nat) (b : Addr) (P : Int × Int), as[j]? = some b → L[j]? = some P → pairOf h2 (.ref b) = P := fun j b P hj hP => pairOf_eq (isP j b P hj hP)
  refine wpAny_call_entry PyProof.Rows.slot_list_sort ⟨_, hob, rfl⟩ PyProof.Rows.entry_list_sort
    (SrtO.list_sort_ord (s := { s with heap := h2, toks := tk }) (SrtO.swo_lex (pairOf h2)) hob (by rw [List.length_map]; omega) (fun h2' => ?_) fun out o1 o2 => ⟨.none, rfl, ?_⟩) (PyProof.Rows.args_list_sort _)
  · refine SrtO.pairs_sortableO (s := { s with heap := h2, toks := tk }) (by omega) (fun v hv' => ?_) fun o e => ?_
    · obtain ⟨j, b, P, rfl, hj, hP⟩ := at_ v hv'
      have := isP j b P hj hP
      rwa [← tx j b P hj hP] at this
    · have e : h2.get? h'.objs.size = some o := e
      rw [hob] at e
      cases e
      intro c
      exact absurd (Value.type.inj c) (by decide)
  · show EP X pins σ Q (.ref h'.objs.size) { s with heap := sortedHeap h2 h'.objs.size (as.map Value.ref) out.toArray, toks := tk }
    -- the addresses in their new order
    have hall : ∀ v ∈ out, ∃ (j : Nat) (b : Addr) (P : Int × Int), v = .ref b ∧ as[j]? = some b ∧ L[j]? = some P := fun v hv => at_ v (o2.perm.mem_iff.mp hv)
    obtain ⟨ts, hts⟩ : ∃ ts : List Addr, out = ts.map Value.ref := by
      clear o1 o2
      induction out with
      | nil => exact ⟨[], rfl⟩
      | cons v out ih =>
        obtain ⟨ts, e⟩ := ih fun u hu => hall u (List.mem_cons_of_mem _ hu)
        obtain ⟨_, b, _, e2, _⟩ := hall v (List.mem_cons_self ..)
        exact ⟨b :: ts, by rw [e, e2]; rfl⟩
    have hpt : ts.Perm as := by
      have := o2.perm
      rw [hts] at this
      have h3 := this.map (fun v : Value => match v with | .ref b => b | _ => 0)
      rw [List.map_map, List.map_map] at h3
      have e : ∀ l : List Addr, l.map ((fun v : Value => match v with | .ref b => b | _ => 0) ∘ Value.ref) = l := fun l => by
        induction l with
        | nil => rfl
        | cons b l ih => rw [List.map_cons, ih]; rfl
      rwa [e, e] at h3
    have hL : as.map (fun b => pairOf h2 (.ref b)) = L := by
      refine List.ext_getElem? fun j => ?_
      rw [List.getElem?_map]
      cases hj : as[j]? with
      | none =>
        rw [List.getElem?_eq_none (by rw [← lak]; exact List.getElem?_eq_none_iff.mp hj)]
        rfl
      | some b =>
        obtain ⟨P, _, _, hP, _⟩ := pr j b hj
        rw [hP, Option.map_some, tx j b P hj hP]
    have hsort : (ts.map fun b => pairOf h2 (.ref b)).Pairwise leP := by
      rw [hts] at o1
      have o1 := List.pairwise_map.mp o1
      refine List.pairwise_map.mpr (o1.imp fun {x y} h => ?_)
      have := SrtO.lexB_no.mp h
      unfold leP
      omega
    have kF : ∀ b o, b ≠ h'.objs.size → h2.get? b = some o → (sortedHeap h2 h'.objs.size (as.map Value.ref) out.toArray).get? b = some o := fun b o hb e => (PyProof.Rows.sortedHeap_old hb (Heap.lt_size e)).trans e
    have kS : ∀ b o, s.heap.get? b = some o → (sortedHeap h2 h'.objs.size (as.map Value.ref) out.toArray).get? b = some o := fun b o e => kF b o (ne0 _ _ (hk b o e)) (kb b o e)
    obtain ⟨eF, heF⟩ := PyProof.Rows.sortedHeap_at (vs := as.map Value.ref) (out := out.toArray) hob
    have I1 : Inv X pins σ H { s with heap := sortedHeap h2 h'.objs.size (as.map Value.ref) out.toArray, toks := tk } := I.kept (t' := tk) kS
    have hn0 : H h'.objs.size = none := I.hok.fresh (Nat.le_of_lt hlt)
    have hlen : (ts.map V.ref).length ≤ sizeLine := by
      rw [List.length_map, hpt.length_eq, lak]
      exact hz
    have I2 : Inv X pins σ (upd H h'.objs.size (.lst (ts.map V.ref))) { s with heap := sortedHeap h2 h'.objs.size (as.map Value.ref) out.toArray, toks := tk } :=
      I1.take (h' := sortedHeap h2 h'.objs.size (as.map Value.ref) out.toArray) (t' := tk) (fun b ob _ e => e) (I.fpOk (Nat.le_of_lt hlt) hn0) ⟨hlen, out, eF, by rw [hts]; exact vals_refsL ts, heF⟩
    have new : ∀ b ∈ as, H b = none := fun b hb => I.hok.fresh (Nat.le_of_lt (hG.above b hb))
    have nol : h'.objs.size ∉ as := fun z => by
      obtain ⟨j, hj⟩ := List.mem_iff_getElem?.mp z
      obtain ⟨_, _, _, _, hg⟩ := pr j _ hj
      exact ne0 _ _ hg rfl
    obtain ⟨H2, I3, g, qt⟩ := takeT (P := fun b vs => vs = [.int (pairOf h2 (.ref b)).1, .int (pairOf h2 (.ref b)).2]) I as _ I2 nd fun b hb => by
      obtain ⟨j, hj⟩ := List.mem_iff_getElem?.mp hb
      obtain ⟨P, t1, t2, hP, hg⟩ := pr j b hj
      have hbl : s.heap.objs.size ≤ b := Nat.le_of_lt (hG.above b hb)
      refine ⟨hbl, ?_, _, rfl, fun H3 => ⟨(by rw [sizeLine_eq]; show 2 ≤ 16777216; omega), [Value.int P.1 t1, Value.int P.2 t2], ?_, ⟨_, kF _ _ (ne0 _ _ hg) (ka _ _ hg), rfl, 0, rfl⟩⟩⟩
      · rw [upd_ne (ne0 _ _ hg)]
        exact I.hok.fresh hbl
      · rw [tx j b P hj hP]
        exact .cons ⟨t1, rfl⟩ (.cons ⟨t2, rfl⟩ .nil)
    have gr : ∀ b o, H b = some o → H2 b = some o := fun b o e => g b o (by rw [upd_ne (ne_of_none e hn0)]; exact e)
    refine ⟨.ref h'.objs.size, H2, I3, rfl, q H2 h'.objs.size ts (ts.map fun b => pairOf h2 (.ref b)) gr hn0 (fun t ht => new t (hpt.mem_iff.mp ht)) (fun z => nol (hpt.mem_iff.mp z)) ?_ hsort (g _ _ upd_same) ?_⟩
    · rw [← hL]
      exact hpt.map _
    · have : ∀ l : List Addr, (∀ b ∈ l, b ∈ as) → Paired (fun (t : Addr) (P : Int × Int) => H2 t = some (.tup [.int P.1, .int P.2])) l (l.map fun b => pairOf h2 (.ref b)) := fun l => by
        induction l with
        | nil => exact fun _ => .nil
        | cons b l ih =>
          intro hb
          refine .cons ?_ (ih fun c hc => hb c (List.mem_cons_of_mem _ hc))
          obtain ⟨vs, rfl, hv⟩ := qt b (hb b (List.mem_cons_self ..))
          exact hv
      exact this ts fun b hb => hpt.mem_iff.mp hb
end
/-- sorted(d.items()) -/
def wSortIt (i : Nat) : WL := fun env Q => match get env i with
  | some (.dct kvs) => ∃ L : List (Int × Int), kvs = L.map (fun P => (Sum.inl P.1, PyData.int P.2)) ∧ ∀ L' : List (Int × Int), L'.Perm L → L'.Pairwise leP → Q (L'.map d2)
  | _ => False
section
variable {K : PySem.W.Frag} {ok : List D → Prop} {i : Nat}
theorem krps_its {H : Hp} : ∀ {ks : List (Key × V)} {L : List (Int × Int)}, KRps K H ks (L.map fun P => (Sum.inl P.1, PyData.int P.2)) → ks = L.map itE
  | [], [], _ => rfl
  | [], P :: L, h => by have := h.1; cases this
  | k :: ks, [], h => by have := h.1; cases this
  | (k, v) :: ks, P :: L, ⟨h1, h2⟩ => by
    have h1 : k :: ks.map Prod.fst = Sum.inl P.1 :: _ := h1
    injection h1 with e1 e2
    have h2 : Rps K H (v :: ks.map Prod.snd) (PyData.int P.2 :: _) := h2
    cases h2 with
    | cons a b =>
      cases a
      subst e1
      rw [krps_its (ks := ks) (L := L) ⟨e2, b⟩]
      rfl
theorem sl_sortIt : SndL K ok (tCB rSortItK (tCons (tBM0 K "dict" rItemsK (tVar i)) tNil)) (wSortIt i) := fun C H0 σ H env Q R rel hw k => by
  unfold wSortIt at hw
  split at hw
  · rename_i kvs hd
    obtain ⟨L, hL, q⟩ := hw
    subst hL
    obtain ⟨a, ks, e, n, n0, hp, kr⟩ := rel.slot i _ (get_eq hd)
    have eks := krps_its kr
    subst eks
    refine ⟨.ref a, e, .inr (.inr (.inl ⟨rfl, .inl ⟨_, hp⟩⟩)), a, _, rfl, rfl, hp, fun p np => ?_⟩
    refine ⟨p, a, L, rfl, upd_same, by rw [upd_ne (ne_of_none hp np)]; exact hp, fun H' l ts L' gr nl nts nlt hperm hpw hl hts => ?_⟩
    have sub : Same (upd H p (itemsO p a)) H' := gr
    have r1 : Rel K ok C H0 σ (upd H p (itemsO p a)) env := rel.laid0 np
    obtain ⟨H01, hH01⟩ : ∃ H01 : Hp, H01 = fun b => if b ∈ ts then H' b else H0 b := ⟨_, rfl⟩
    have e0 : Same H0 H01 := fun b o z => by
      rw [hH01]
      show (if b ∈ ts then H' b else H0 b) = some o
      rw [if_neg fun y => by have := nts b y; rw [r1.sub b o z] at this; cases this]
      exact z
    have s1 : Same H01 H' := fun b o z => by
      rw [hH01] at z
      have z : (if b ∈ ts then H' b else H0 b) = some o := z
      split at z
      · exact z
      · exact sub b o (r1.sub b o z)
    have r2 : Rel K ok C H01 σ H' env := r1.step e0 s1 (fun b o z => by
      rw [hH01] at z
      have z : (if b ∈ ts then H' b else H0 b) = some o := z
      split at z
      · rename_i y
        exact .inr (nts b y)
      · exact .inl z) sub
    have hres : Rps K H01 (ts.map V.ref) (L'.map d2) := by
      have at1 : ∀ t ∈ ts, H01 t = H' t := fun t ht => by rw [hH01]; exact if_pos ht
      clear hl nlt nts hH01 e0 s1 r2 hperm hpw
      induction hts with
      | nil => exact .nil
      | cons h t ih =>
        refine .cons (.tup (.inl (.inl ?_)) (.cons (.int _) (.cons (.int _) .nil))) (ih fun c hc => at1 c (List.mem_cons_of_mem _ hc))
        rw [at1 _ (List.mem_cons_self ..)]
        exact h
    have nl0 : H01 l = none := by
      rw [hH01]
      show (if l ∈ ts then H' l else H0 l) = none
      rw [if_neg nlt]
      exact r1.sub.free nl
    have ns : ∀ (j : Nat) s, env[j]? = some (some s) → s.isOwn = true → σ[j]? ≠ some (some (.ref l)) := r1.noslot nl
    exact k _ _ H' H01 (q L' hperm hpw) r2 e0 ⟨r1.fresh nl, ⟨nl0, _, hl, hres⟩, ns, r1.kp.free nl⟩
  · exact hw.elim
end
section
variable {X : Cx} {ok : List D → Prop} {pos p apos cpos : Pos} {x : Str}
theorem l_sortIt (i : Nat) {mp : Pos} (hc : X.calm = true) (hm : X.mg "sorted" = none) (hN : X.N[i]? = some x := by rfl) (hv : Vis X.env.scope x := by first | exact Or.inl rfl | exact Or.inr (Or.inl rfl) | exact Or.inr (Or.inr rfl)) (hd : (x == ("__debug__" : Str)) = false := by decide) (hcd : (x == ("__classdict__" : Str)) = false := by decide)
    (hbase : attributeBase (.Name x mp) "items" X.env (eval (.Name x mp) X.env) = eval (.Name x mp) X.env := by rfl) (hline : (apos.endLine == cpos.line) = true := by rfl)
    (hg : Gl X "sorted" := by rfl) (hs : starEach [.Call (.Attribute (.Name x mp) "items" apos) [] [] cpos] X.env = (false, eval (.Call (.Attribute (.Name x mp) "items" apos) [] [] cpos) X.env) :: starEach [] X.env := by rfl) (hpl : (backTo pos (starEach [] X.env)).any (·.1) = false := by rfl) :
    PDL X ok (.Call (.Name "sorted" p) [.Call (.Attribute (.Name x mp) "items" apos) [] [] cpos] [] pos) (wSortIt i) :=
  ⟨_, pe_callB (cr_sortItK hc) hg hm (by decide +kernel) (pa_cons (pe_bm0 F.plainAttrs_dict F.slot_dict_items F.type_dict_items mt_itemsK (pe_var hN hv hd hcd) hbase hline) pa_nil hs) (by decide) (by decide) hs hpl, sl_sortIt⟩
end
end DL
/-! DM, part m: a def whose last parameter has the default None, called without it. -/
namespace DL
open PySem L2
/-- such a def as a caller sees it: n counts all parameters -/
structure HasD (P : Program) (w : World) (K : PySem.W.Frag) (mg : Str → Option Value) (base : Heap) (ok : List D → Prop) (k : Nat) (x : Str) (n : Nat) (M : WM) : Prop where
  ex : ∃ f fd ps ds, FnOk P w K mg base CX0 k f fd ps (SpD K ok n M) ∧ mg x = some (.ref f) ∧ PySem.W.keepIn K (.ref f) = true ∧ Binds K fd ps ds ∧ Vals [V.non] ds
def wCallD (n : Nat) (M : WM) (a : WA) : WE := fun env Q => a env fun as => oneH (as ++ [Ar.v .none]) = true ∧ (as ++ [Ar.v .none]).length = n ∧ M (as ++ [Ar.v .none]) fun r => Q r.val
section
variable {K : PySem.W.Frag} {ok : List D → Prop}
theorem ArgsR.snoc {H0 : Hp} {σ : L2.St} {env : EnvD} {a : Ar} {x : V} (h : ArgR K H0 σ env a x) : ∀ {as : List Ar} {xs : List V}, ArgsR K H0 σ env as xs → ArgsR K H0 σ env (as ++ [a]) (xs ++ [x])
  | _, _, .nil => .cons h .nil
  | _, _, .cons q t => .cons q (ArgsR.snoc h t)
theorem snd_callD {n : Nat} {M : WM} {tr : TA} {wr : WA} {E : XK} (hr : SndA K ok tr wr) : SndE K ok (tCall (SpD K ok n M) [V.non] E tr) (wCallD n M wr) := fun C H0 σ H env Q R rel hw k =>
  hr C H0 σ H env _ _ rel hw fun as vs H1 H01 q r1 e1 x1 => by
    obtain ⟨q1, q2, q3⟩ := q
    show SpD K ok n M (vs ++ [V.non]) H1 R E
    have x2 : ArgsR K H01 σ env (as ++ [.v .none]) (vs ++ [V.non]) := ArgsR.snoc (a := .v .none) (x := V.non) Rp.non x1
    refine SpD.exc (call_core r1 x2 q1 q2 q3 fun v r H2 H02 hq r2 e2 z => ?_)
    cases r with
    | v d => exact k _ _ H2 H02 hq r2 (e1.trans e2) z
    | own ds =>
      obtain ⟨p, rfl, f⟩ := z
      obtain ⟨n0, ws, hp, hr'⟩ := f.own
      obtain ⟨r3, e3⟩ := r2.know hp n0 f.he f.kq f.ns
      exact k _ _ H2 _ hq r3 ((e1.trans e2).trans e3) (.lst upd_same (hr'.mono e3))
    | two d ds =>
      obtain ⟨q, p, x, rfl, hne, heq, kq, nsq, q0, hqq, hx, f⟩ := z
      obtain ⟨n0, ws, hp, hr'⟩ := f.own
      obtain ⟨r3, e3⟩ := r2.know hp n0 f.he f.kq f.ns
      obtain ⟨r4, e4⟩ := r3.know hqq (by rw [upd_ne (Ne.symm hne)]; exact q0) heq kq nsq
      exact k _ _ H2 _ hq r4 (((e1.trans e2).trans e3).trans e4) (.lst upd_same (.cons (hx.mono (e3.trans e4)) (.cons (.lst (e4 _ _ upd_same) ((hr'.mono e3).mono e4)) .nil)))
end
section
variable {X : Cx} {ok : List D → Prop} {e : Expr} {es : List Expr} {wr : WA} {pos p : Pos} {x : Str}
theorem d_callD {k j n : Nat} {M : WM} (h : HasD X.prog X.w X.K X.mg X.base ok k x n M) (hr : Room j X.A) (hk : k ≤ j) (ha : PDA X ok (e :: es) wr) (hg : Gl X x := by rfl) (hdb : (x == ("__debug__" : Str)) = false := by decide)
    (he : starEach (e :: es) X.env = (false, eval e X.env) :: starEach es X.env := by rfl) (hpl : (backTo pos (starEach es X.env)).any (·.1) = false := by rfl) : PDE X ok (.Call (.Name x p) (e :: es) [] pos) (wCallD n M wr) :=
  let ⟨f, fd, ps, ds, G, hm, kp, bs, hd⟩ := h.ex; let ⟨_, a1, a2⟩ := ha; ⟨_, pe_call G (hr.mono hk) hg hm kp bs hd pass0 a1 hdb he hpl, snd_callD a2⟩
end
section
variable {P : Program} {w : World} {K : PySem.W.Frag} {mg : Str → Option Value} {base : Heap} {ok : List D → Prop}
theorem def_okD {x qual : Str} {st : Stmt} {f : Addr} {fd : FuncData} {N ps : List Str} {k n : Nat} {M : WM} {ws : WS} {dvs : List V} (F : FunD K x qual (defArgs st) (defBody st) (defScope st) dvs [] f fd) (S : FnScope N ps (defScope st)) (hn : ps.length = n)
    (hb : ∀ (cdv : Value) (A : Around) (outer : List Env) (s : Shared) (H : Hp) (E : XK), Room k (A.deeper (PyProof.Rows.envOfC qual (defScope st) s.heap.objs.size f cdv)) → PDSs (cxOf CX0 P w K mg base N qual (defScope st) f cdv A outer s H E).nox ok (defBody st) ws)
    (hM : ∀ as Q, as.length = n → M as Q → ws { nx := fun _ => Q (.v .none), rt := Q } (stE as (N.length - n))) : FnOk P w K mg base CX0 (k + 1) f fd ps (SpD K ok n M) := by
  refine F.ok S (fun vs H Q E h => ?_) (fun cdv A outer s H vs Q E hr h => ?_)
  · obtain ⟨H0, ha, as, Q', h1, h2, _⟩ := h
    rw [h2, hn]
  · obtain ⟨H0, ha, as, Q', h1, h2, one, s0, hargs, hv, hMQ, k0⟩ := h
    obtain ⟨ts, p, snd⟩ := hb cdv A outer s H E hr
    refine ⟨ts, p.nox, ?_⟩
    have rel : Rel K ok ⟨H, H0, ha, fun _ => none⟩ H0 (L2.start N vs) H (stE as (N.length - n)) := by
      have z := rel_start (ok := ok) (m := N.length - n) s0 hargs (by rw [h2, h1]) one hv
      unfold L2.start
      rw [h2]
      exact z
    have post : ∀ {r : Rt} {v : V} {σ' : L2.St} {H' H01 : Hp} {env' : EnvD}, Rel K ok ⟨H, H0, ha, fun _ => none⟩ H01 σ' H' env' → Q' r → RetOk K H H01 H' v r → Q v H' := fun {r v σ' H' H01 env'} R q rr =>
      k0 v H' r H01 q ⟨R.grow, R.sub, R.new, R.fr, fun a z => (R.hv a z).2, rr⟩
    exact snd _ H0 _ H _ _ _ rel (hM as Q' h1 hMQ) ⟨fun env' σ' H' H01 e R q => post (r := .v .none) R q .non, fun r v σ' H' H01 env' e R q rr => post R q rr, fun _ _ _ _ _ _ q => q.elim, fun _ _ _ _ _ _ q => q.elim⟩
/-- a def with one default, None -/
theorem funD_mk {x qual : Str} {st : Stmt} {f T : Addr} {oc : Value} {od an : Option Addr} {osl : Array (Option Value)} {kV doc pm cdv ct : Value} {o : Obj} {m : Nat} (l : K.lookup f = some ⟨oc, od, .func (PySem.W.fnOf x qual (defArgs st) (defBody st) (defScope st) (.ref T) kV doc pm an cdv ct), osl⟩)
    (c : PySem.W.codeIn K cdv qual = true) (k : PySem.W.keepIn K (.ref f) = true) (lT : K.lookup T = some o) (oT : o.data = .seq #[.none] m) : FunD K x qual (defArgs st) (defBody st) (defScope st) [V.non] [] f (PySem.W.fnOf x qual (defArgs st) (defBody st) (defScope st) (.ref T) kV doc pm an cdv ct) :=
  ⟨⟨oc, od, .ref T, kV, doc, pm, an, cdv, ct, osl, rfl, l, c, .inr ⟨fun z => (by cases z), T, o, [.none], m, rfl, lT, oT, .cons rfl .nil⟩, .inl rfl⟩, k⟩
end
end DL
/-! DM, part n: d[k] and k in d of a dict with any keys that is only read. -/
namespace DL
open PySem PySem.Spec PyProof.Rows L2 DN
def wVIx (o k : WE) : WE := fun env Q => o env fun x => ∃ kvs, x = dFrz kvs ∧ k env fun y => ∃ z d, nKey 8 y = some z ∧ mAt kvs z = some d ∧ Q d
section
variable {K : PySem.W.Frag} {ok : List D → Prop} {to tk : TE} {wo wk : WE}
theorem snd_vix (ho : SndE K ok to wo) (hk : SndE K ok tk wk) : SndE K ok (tMGet K to tk) (wVIx wo wk) := fun C H0 σ H env Q R rel hw k =>
  ho C H0 σ H env _ _ rel hw fun x u H1 H01 q r1 e1 x1 => by
    obtain ⟨kvs, rfl, q⟩ := q
    obtain ⟨p, ks, rfl, hp, kr⟩ := x1.frz
    refine hk C H01 σ H1 env _ _ r1 q fun y v H2 H02 q r2 e2 x2 => ?_
    obtain ⟨z, d, hz, hd', q⟩ := q
    have kr2 := kr.mono e2
    rcases mrps_at kr2 z with ⟨a1, a2⟩ | ⟨w, d', a1, a2, r⟩
    · rw [hd'] at a2; cases a2
    · rw [hd'] at a2
      cases a2
      exact ⟨p, w, rfl, ⟨ks, z, r2.sub _ _ (e2 _ _ hp), kr2.keys r2.sub, nv_of (x2.mono r2.sub) hz, a1.symm⟩, k _ _ H2 H02 q r2 (e1.trans e2) r⟩
end
section
variable {X : Cx} {ok : List D → Prop} {a : Expr} {wa : WE} {pos : Pos} {x : Str}
theorem d_vix {k : Nat} (i : Nat) {mp : Pos} (hr : Room k X.A) (ha : PDE X ok a wa) (hN : X.N[i]? = some x := by rfl) (hv : Vis X.env.scope x := by first | exact Or.inl rfl | exact Or.inr (Or.inl rfl) | exact Or.inr (Or.inr rfl)) (hd : (x == ("__debug__" : Str)) = false := by decide) (hcd : (x == ("__classdict__" : Str)) = false := by decide)
    (hs : NoSl a := by exact fun _ _ => rfl) : PDE X ok (.Subscript (.Name x mp) a pos) (wVIx (wVar i) wa) := let ⟨_, a1, a2⟩ := ha; ⟨_, pe_mget (by have := units65 hr; omega) (pe_var hN hv hd hcd) a1 hs, snd_vix snd_var a2⟩
end
end DL
/-! DL: xs.index(y) of a list of data -/
namespace DL
open PySem L2
def wIndex (a b : WE) : WE := fun env Q => a env fun x => match x with
  | .list ds => b env fun y => SeqAt.shaped (.list ds) = true ∧ SeqAt.shaped y = true ∧ ∃ (j : Nat) (z : D), ds[j]? = some z ∧ PyData.eqv z y = true ∧ (∀ (m : Nat) (z' : D), m < j → ds[m]? = some z' → PyData.eqv z' y = false) ∧ Q (.int (j : Int))
  | _ => False
section
variable {K : PySem.W.Frag} {ok : List D → Prop} {ta tb : TE} {wa wb : WE}
theorem snd_index (ha : SndB K ok ta wa) (hb : SndE K ok tb wb) : SndE K ok (tBM K "list" (rIndexD K) ta (tCons tb tNil)) (wIndex wa wb) := fun C H0 σ H env Q R rel hw k =>
  ha C H0 σ H env _ _ rel hw fun d v H1 H01 q r1 e1 x1 => by
    try dsimp only at q
    split at q
    · rename_i ds
      obtain ⟨p, vs, rfl, r, h⟩ := (x1 H1 H01 r1 (Same.refl _)).lst r1.sub
      refine ⟨.inl ⟨rfl, vs, SqL.of h⟩, hb C H01 σ H1 env _ _ r1 q fun e u H2 H02 ⟨s1, s2, j, z, z1, z2, z3, q2⟩ r2 e2 x2 => ?_⟩
      have b := (x1 H2 H02 r2 e2).rp r2.sub
      exact ⟨p, u, e, ds, j, z, rfl, rfl, b.sh s1, (x2.mono r2.sub).sh s2, s1, s2, z1, z2, z3, k _ _ H2 H02 q2 r2 (e1.trans e2) (.int _)⟩
    · exact q.elim
end
section
variable {X : Cx} {ok : List D → Prop} {a b : Expr} {wa wb : WE} {apos cpos pos p1 p2 p3 : Pos} {kk : Nat}
theorem d_index {j : Nat} (hr : Room j X.A) (ha : PDB X ok a wa) (hb : PDE X ok b wb)
    (hbase : attributeBase a "index" X.env (eval a X.env) = eval a X.env := by rfl)
    (hfew : ((backTo cpos (starEach [b] X.env)).all (fun x => !x.1) && (backToKw cpos (keywordEach [] X.env)).all (fun x => x.1.isSome)
      && decide ([b].length + ([] : List Keyword).length + (if ([] : List Keyword).isEmpty then 0 else 1) < 30)) = true := by rfl)
    (hline : (apos.endLine == cpos.line) = true := by rfl) (hs : starEach [b] X.env = (false, eval b X.env) :: starEach [] X.env := by rfl) (hplain : (backTo cpos (starEach [] X.env)).any (·.1) = false := by rfl) :
    PDE X ok (.Call (.Attribute a "index" apos) [b] [] cpos) (wIndex wa wb) := let ⟨_, a1, a2⟩ := ha; let ⟨_, b1, b2⟩ := hb
  ⟨_, pe_bm PySem.F.plainAttrs_list PySem.F.slot_list_index PySem.F.type_list_index (mt_indexD (units65 hr)) a1 (pa_cons b1 pa_nil hs) hbase hfew hline hs hplain, snd_index a2 b2⟩
end
end DL
/-! mathematics: remainders and powers. -/
namespace MB
theorem emod_mul_l (a b m : Int) : (a % m) * b % m = a * b % m := by
  rw [Int.mul_emod, Int.emod_emod_of_dvd _ (Int.dvd_refl m), ← Int.mul_emod]
theorem emod_mul_r (a b m : Int) : a * (b % m) % m = a * b % m := by
  rw [Int.mul_emod, Int.emod_emod_of_dvd _ (Int.dvd_refl m), ← Int.mul_emod]
theorem emod_pow (a m : Int) (k : Nat) : (a % m) ^ k % m = a ^ k % m := by
  induction k with
  | zero => rw [Int.pow_zero, Int.pow_zero]
  | succ k ih =>
    rw [Int.pow_succ, Int.pow_succ, emod_mul_r, Int.mul_emod, ih, ← Int.mul_emod]
theorem cong_mul {a b c d m : Int} (h : a % m = b % m) (k : c % m = d % m) : a * c % m = b * d % m := by
  rw [Int.mul_emod, h, k, ← Int.mul_emod]
theorem cong_add {a b c d m : Int} (h : a % m = b % m) (k : c % m = d % m) : (a + c) % m = (b + d) % m := by
  rw [Int.add_emod, h, k, ← Int.add_emod]
theorem cong_pow {a b m : Int} (h : a % m = b % m) (k : Nat) : a ^ k % m = b ^ k % m := by
  rw [← emod_pow, h, emod_pow]
/-- one turn of the ladder -/
theorem ladder_odd (r b m : Int) {j : Int} (h0 : 0 ≤ j) (h : j % 2 = 1) : (r * b % m) * (b * b % m) ^ (j / 2).toNat % m = r * b ^ j.toNat % m := by
  have e : j.toNat = (j / 2).toNat + (j / 2).toNat + 1 := by omega
  rw [emod_mul_l, ← emod_mul_r, emod_pow, emod_mul_r, e, Int.pow_succ, Int.pow_add, Int.mul_pow]
  congr 1
  grind
theorem ladder_even (r b m : Int) {j : Int} (h0 : 0 ≤ j) (h : ¬ j % 2 = 1) : r * (b * b % m) ^ (j / 2).toNat % m = r * b ^ j.toNat % m := by
  have e : j.toNat = (j / 2).toNat + (j / 2).toNat := by omega
  rw [← emod_mul_r, emod_pow, emod_mul_r, e, Int.pow_add, Int.mul_pow]
theorem two_pow_cast (k : Nat) : ((2 ^ k : Nat) : Int) = 2 ^ k := by rw [Int.natCast_pow]; rfl
theorem mul_bd {u v A B : Int} (u0 : -A ≤ u) (u1 : u ≤ A) (v0 : 0 ≤ v) (v1 : v ≤ B) (A0 : 0 ≤ A) : -(A * B) ≤ u * v ∧ u * v ≤ A * B := by
  have h1 := Int.mul_le_mul_of_nonneg_right u1 v0
  have h2 := Int.mul_le_mul_of_nonneg_left v1 A0
  have h3 := Int.mul_le_mul_of_nonneg_right u0 v0
  rw [Int.neg_mul] at h3
  omega
theorem sq_nonneg (a : Int) : 0 ≤ a * a := by
  rcases Int.le_total 0 a with h | h
  · exact Int.mul_nonneg h h
  · have := Int.mul_nonneg (a := -a) (b := -a) (by omega) (by omega)
    rwa [Int.neg_mul_neg] at this
theorem gcd_dvd_iff {a b c d : Int} (h1 : ∀ k : Int, k ∣ a ∧ k ∣ b ↔ k ∣ c ∧ k ∣ d) : Int.gcd a b = Int.gcd c d := by
  apply Nat.dvd_antisymm
  · have := (h1 (Int.gcd a b)).mp ⟨Int.gcd_dvd_left _ _, Int.gcd_dvd_right _ _⟩
    exact Int.natCast_dvd_natCast.mp (Int.dvd_coe_gcd this.1 this.2)
  · have := (h1 (Int.gcd c d)).mpr ⟨Int.gcd_dvd_left _ _, Int.gcd_dvd_right _ _⟩
    exact Int.natCast_dvd_natCast.mp (Int.dvd_coe_gcd this.1 this.2)
theorem gcd_mod (n v : Int) : Int.gcd n (v % n) = Int.gcd n v := gcd_dvd_iff fun k => by
  constructor
  · rintro ⟨h1, h2⟩
    refine ⟨h1, ?_⟩
    have := Int.dvd_add h2 (Int.dvd_trans h1 (Int.dvd_mul_right n (v / n)))
    rwa [Int.emod_add_mul_ediv] at this
  · rintro ⟨h1, h2⟩
    refine ⟨h1, ?_⟩
    rw [Int.emod_def]
    exact Int.dvd_sub h2 (Int.dvd_trans h1 (Int.dvd_mul_right n (v / n)))
theorem gcd_mod_r (a b : Int) : Int.gcd b (a % b) = Int.gcd a b := by rw [gcd_mod, Int.gcd_comm]
theorem dvd_of_gcd_one {k m n : Int} (h : Int.gcd k m = 1) (hd : k ∣ m * n) : k ∣ n := by
  rw [← Int.natAbs_dvd_natAbs, Int.natAbs_mul] at hd
  rw [← Int.natAbs_dvd_natAbs]
  exact Nat.Coprime.dvd_of_dvd_mul_left h hd
end MB
namespace DL
open PySem L2
theorem rng_at {lo : Int} {n i : Nat} {d : D} (h : (rng lo n)[i]? = some d) : i < n ∧ d = .int (lo + i) := by
  by_cases hi : i < n
  · rw [rng_get hi] at h
    exact ⟨hi, (Option.some.inj h).symm⟩
  · rw [List.getElem?_eq_none (by rw [rng_len]; omega)] at h
    cases h
theorem dr {n : Int} {Q : Rt → Prop} (h0 : 0 < n) (h : n < 2 ^ 200) (hq : ∀ r : Int, 0 ≤ r → r < n → Q (.v (.int r))) : oneH [.hnd, .v (.int n)] = true ∧ [Ar.hnd, Ar.v (.int n)].length = 2 ∧ M_draw [.hnd, .v (.int n)] Q := ⟨rfl, rfl, n, rfl, h0, h, hq⟩
theorem lk {n : Nat} (h : Nat.ble n 1000 = true) : n ≤ 1000 := Nat.le_of_ble_eq_true h
theorem no_ne {i j : Int} (e : i = j) : (!decide (i = j)) = false := by rw [decide_eq_true e]; rfl
theorem pass {i j : Int} {P Q : Prop} (e : i = j) (q : Q) : ((!decide (i = j)) = true → P) ∧ ((!decide (i = j)) = false → Q) := ⟨fun h => (by rw [no_ne e] at h; cases h), fun _ => q⟩
/-- a break, a fall through: told by what stands behind (the kernel must not unfold a named tail first) -/
theorem onBk {W : WEnds} {env : EnvD} (h : W.bk env) : wBk W env := h
theorem onNx {W : WEnds} {env : EnvD} (h : W.nx env) : wNx W env := h
end DL
/-! plain data: no dict, no truth value, at most k deep. Equality of such data is being alike. -/
namespace DL
open PySem L2
def pl : Nat → D → Bool
  | _, .none => true
  | _, .int _ => true
  | 0, _ => false
  | k + 1, .list ds => ds.all (pl k)
  | k + 1, .tuple ds => ds.all (pl k)
  | _, _ => false
theorem pl_none (k : Nat) : pl k .none = true := by cases k <;> rfl
theorem pl_int (k : Nat) (i : Int) : pl k (.int i) = true := by cases k <;> rfl
theorem pl_ints (k : Nat) (ns : List Int) : (dints ns).all (pl k) = true := by
  rw [List.all_eq_true]
  intro x hx
  obtain ⟨i, _, rfl⟩ := List.mem_map.mp hx
  exact pl_int k i
theorem pl_dlist (k : Nat) (ns : List Int) : pl (k + 1) (.list (dints ns)) = true := pl_ints k ns
theorem pl_dtup (k : Nat) (ns : List Int) : pl (k + 1) (.tuple (dints ns)) = true := pl_ints k ns
theorem canAll {k : Nat} (ih : ∀ d : D, pl k d = true → d.canLay0 = true ∧ d.depth ≤ k) : ∀ ds : List D, ds.all (pl k) = true → PyData.canLayAll0 ds = true ∧ PyData.depthAll ds ≤ k
  | [], _ => ⟨rfl, Nat.zero_le _⟩
  | d :: ds, h => by
    rw [List.all_cons, Bool.and_eq_true] at h
    have h1 := ih d h.1
    have h2 := canAll ih ds h.2
    refine ⟨?_, ?_⟩
    · show (_ && _) = true
      rw [h1.1, h2.1]
      rfl
    · show max _ _ ≤ k
      omega
theorem pl_can : ∀ (k : Nat) (d : D), pl k d = true → d.canLay0 = true ∧ d.depth ≤ k
  | k, .none, _ => ⟨rfl, Nat.zero_le _⟩
  | k, .int _, _ => ⟨rfl, Nat.zero_le _⟩
  | 0, .bool _, h => by cases h
  | 0, .str _, h => by cases h
  | 0, .list _, h => by cases h
  | 0, .tuple _, h => by cases h
  | 0, .dict _, h => by cases h
  | k + 1, .bool _, h => by cases h
  | k + 1, .str _, h => by cases h
  | k + 1, .dict _, h => by cases h
  | k + 1, .list ds, h => by
    have := canAll (pl_can k) ds h
    exact ⟨this.1, Nat.succ_le_succ this.2⟩
  | k + 1, .tuple ds, h => by
    have := canAll (pl_can k) ds h
    exact ⟨this.1, Nat.succ_le_succ this.2⟩
theorem shp {k : Nat} {d : D} (h : pl k d = true) (hk : k ≤ 64 := by decide) : SeqAt.shaped d = true := by
  have := pl_can k d h
  unfold SeqAt.shaped
  rw [this.1, Bool.true_and, decide_eq_true_iff]
  omega
theorem eqvAll_iff {k : Nat} (ih : ∀ d e : D, pl k d = true → pl k e = true → (PyData.eqv d e = true ↔ d = e)) : ∀ ds es : List D, ds.all (pl k) = true → es.all (pl k) = true → (PyData.eqvAll ds es = true ↔ ds = es)
  | [], [], _, _ => ⟨fun _ => rfl, fun _ => rfl⟩
  | [], _ :: _, _, _ => ⟨(nomatch ·), (nomatch ·)⟩
  | _ :: _, [], _, _ => ⟨(nomatch ·), (nomatch ·)⟩
  | d :: ds, e :: es, h1, h2 => by
    rw [List.all_cons, Bool.and_eq_true] at h1 h2
    show (_ && _) = true ↔ _
    rw [Bool.and_eq_true, ih d e h1.1 h2.1, eqvAll_iff ih ds es h1.2 h2.2, List.cons.injEq]
theorem eqv_iff : ∀ (k : Nat) (d e : D), pl k d = true → pl k e = true → (PyData.eqv d e = true ↔ d = e)
  | k, .none, .none, _, _ => ⟨fun _ => rfl, fun _ => rfl⟩
  | k, .int i, .int j, _, _ => by
    show (i == j) = true ↔ _
    rw [beq_iff_eq, PyData.int.injEq]
  | k, .none, .int _, _, _ => ⟨(nomatch ·), (nomatch ·)⟩
  | k, .int _, .none, _, _ => ⟨(nomatch ·), (nomatch ·)⟩
  | k + 1, .list ds, .list es, h1, h2 => by
    show PyData.eqvAll ds es = true ↔ _
    rw [eqvAll_iff (eqv_iff k) ds es h1 h2, PyData.list.injEq]
  | k + 1, .tuple ds, .tuple es, h1, h2 => by
    show PyData.eqvAll ds es = true ↔ _
    rw [eqvAll_iff (eqv_iff k) ds es h1 h2, PyData.tuple.injEq]
  | k + 1, .none, .list _, _, _ => ⟨(nomatch ·), (nomatch ·)⟩
  | k + 1, .none, .tuple _, _, _ => ⟨(nomatch ·), (nomatch ·)⟩
  | k + 1, .int _, .list _, _, _ => ⟨(nomatch ·), (nomatch ·)⟩
  | k + 1, .int _, .tuple _, _, _ => ⟨(nomatch ·), (nomatch ·)⟩
  | k + 1, .list _, .none, _, _ => ⟨(nomatch ·), (nomatch ·)⟩
  | k + 1, .tuple _, .none, _, _ => ⟨(nomatch ·), (nomatch ·)⟩
  | k + 1, .list _, .int _, _, _ => ⟨(nomatch ·), (nomatch ·)⟩
  | k + 1, .tuple _, .int _, _, _ => ⟨(nomatch ·), (nomatch ·)⟩
  | k + 1, .list _, .tuple _, _, _ => ⟨(nomatch ·), (nomatch ·)⟩
  | k + 1, .tuple _, .list _, _, _ => ⟨(nomatch ·), (nomatch ·)⟩
  | 0, .bool _, _, h, _ => by cases h
  | 0, .str _, _, h, _ => by cases h
  | 0, .list _, _, h, _ => by cases h
  | 0, .tuple _, _, h, _ => by cases h
  | 0, .dict _, _, h, _ => by cases h
  | k + 1, .bool _, _, h, _ => by cases h
  | k + 1, .str _, _, h, _ => by cases h
  | k + 1, .dict _, _, h, _ => by cases h
  | 0, _, .bool _, _, h => by cases h
  | 0, _, .str _, _, h => by cases h
  | 0, _, .list _, _, h => by cases h
  | 0, _, .tuple _, _, h => by cases h
  | 0, _, .dict _, _, h => by cases h
  | k + 1, _, .bool _, _, h => by cases h
  | k + 1, _, .str _, _, h => by cases h
  | k + 1, _, .dict _, _, h => by cases h
theorem eqv_self {k : Nat} {d : D} (h : pl k d = true) : PyData.eqv d d = true := (eqv_iff k d d h h).mpr rfl
theorem eqv_ne {k : Nat} {d e : D} (h : pl k d = true) (h2 : pl k e = true) (n : d ≠ e) : PyData.eqv d e = false := by
  cases hh : PyData.eqv d e with
  | false => rfl
  | true => exact absurd ((eqv_iff k d e h h2).mp hh) n
theorem eqv_dec {k : Nat} {d e : D} [Decidable (d = e)] (h : pl k d = true) (h2 : pl k e = true) : PyData.eqv d e = decide (d = e) := by
  by_cases n : d = e
  · rw [decide_eq_true n, (eqv_iff k d e h h2).mpr n]
  · rw [decide_eq_false n, eqv_ne h h2 n]
/-- a comparison that answers: alike -/
theorem same {k : Nat} {d e : D} {P Q : Prop} (h : pl k d = true) (he : d = e) (q : Q) : ((!PyData.eqv d e) = true → P) ∧ ((!PyData.eqv d e) = false → Q) := by
  subst he
  rw [eqv_self h]
  exact ⟨fun h => (by cases h), fun _ => q⟩
theorem tk {n : Int} {Q : Rt → Prop} (h0 : 0 < n) (h : n < 2 ^ 200) (hq : ∀ r : Int, 0 ≤ r → r < n → Q (.v (.int r))) : oneH [.hnd, .v (.int n)] = true ∧ [Ar.hnd, Ar.v (.int n)].length = 2 ∧ M_take [.hnd, .v (.int n)] Q := ⟨rfl, rfl, n, rfl, h0, h, hq⟩
theorem nxt {ms : List Int} {n : Int} {Q : Rt → Prop} (h0 : 0 < n) (hq : ∀ r : Int, 0 ≤ r → r < n → Q (.v (.int r))) : oneH [.v (.list (dints ms)), .hnd, .v (.int n)] = true ∧ [Ar.v (.list (dints ms)), Ar.hnd, Ar.v (.int n)].length = 3 ∧ M_next [.v (.list (dints ms)), .hnd, .v (.int n)] Q := ⟨rfl, rfl, ms, n, rfl, h0, hq⟩
end DL
namespace DL
open PySem L2
theorem cut_lo {α : Type} (xs : List α) (k : Nat) : cutD xs (some (k : Int)) none = xs.drop k := by
  unfold cutD
  rw [HT.sIx_nat, HT.sIx_none]
  by_cases h : k ≤ xs.length
  · rw [Nat.min_eq_left h, List.take_of_length_le (by rw [List.length_drop]; omega)]
  · rw [Nat.min_eq_right (by omega), List.drop_of_length_le (by omega), List.drop_of_length_le (by omega), List.take_nil]
theorem cut_hi {α : Type} (xs : List α) (k : Nat) : cutD xs none (some (k : Int)) = xs.take k := by
  unfold cutD
  rw [HT.sIx_nat, HT.sIx_none, List.drop_zero, Nat.sub_zero]
  by_cases h : k ≤ xs.length
  · rw [Nat.min_eq_left h]
  · rw [Nat.min_eq_right (by omega), List.take_of_length_le (by omega), List.take_of_length_le (by omega)]
theorem cut_no {α : Type} (xs : List α) : cutD xs none none = xs := by
  unfold cutD
  rw [HT.sIx_none, HT.sIx_none, List.drop_zero, Nat.sub_zero, List.take_length]
theorem cut_mid {α : Type} (xs : List α) (k m : Nat) (h : k ≤ m) (hm : m ≤ xs.length) : cutD xs (some (k : Int)) (some (m : Int)) = (xs.drop k).take (m - k) := by
  unfold cutD
  rw [HT.sIx_nat, HT.sIx_nat, Nat.min_eq_left (by omega), Nat.min_eq_left (by omega)]
/-- f 0, .. f (n - 1) -/
abbrev tab (n : Nat) (f : Nat → Int) : List Int := (List.range n).map f
theorem dints_app (a b : List Int) : dints (a ++ b) = dints a ++ dints b := List.map_append
theorem dints_snoc (a : List Int) (x : Int) : dints (a ++ [x]) = dints a ++ [.int x] := List.map_append
theorem tab_len (n : Nat) (f : Nat → Int) : (tab n f).length = n := by rw [List.length_map, List.length_range]
theorem dtab_len (n : Nat) (f : Nat → Int) : (dints (tab n f)).length = n := by rw [List.length_map, tab_len]
theorem tab_succ (n : Nat) (f : Nat → Int) : dints (tab (n + 1) f) = dints (tab n f) ++ [.int (f n)] := by
  unfold tab
  rw [List.range_succ, List.map_append]
  show ((List.range n).map f ++ [f n]).map PyData.int = _
  rw [List.map_append]
  rfl
theorem tab_get {n i : Nat} {f : Nat → Int} (h : i < n) : (dints (tab n f))[i]? = some (.int (f i)) := by
  rw [List.getElem?_map, List.getElem?_map, List.getElem?_range h]
  rfl
theorem tab_at {n i : Nat} {f : Nat → Int} {d : D} (h : (dints (tab n f))[i]? = some d) : i < n ∧ d = .int (f i) := by
  by_cases hi : i < n
  · rw [tab_get hi] at h
    exact ⟨hi, (Option.some.inj h).symm⟩
  · rw [List.getElem?_eq_none (by rw [dtab_len]; omega)] at h
    cases h
theorem tab_atI {n i : Nat} {f : Nat → Int} {j : Int} (e : j = i) (h : i < n) : atI (dints (tab n f)) j = some (.int (f i)) := by
  rw [e]
  exact atI_nat (tab_get h)
theorem tab_drop {n k : Nat} {f : Nat → Int} (h : k ≤ n) : (dints (tab n f)).drop k = dints (tab (n - k) fun i => f (k + i)) := by
  apply List.ext_getElem?
  intro i
  rw [List.getElem?_drop]
  by_cases hi : i < n - k
  · rw [tab_get hi, tab_get (by omega)]
  · rw [List.getElem?_eq_none (by rw [dtab_len]; omega), List.getElem?_eq_none (by rw [dtab_len]; omega)]
theorem tab_take {n k : Nat} {f : Nat → Int} (h : k ≤ n) : (dints (tab n f)).take k = dints (tab k f) := by
  apply List.ext_getElem?
  intro i
  by_cases hi : i < k
  · rw [List.getElem?_take_of_lt hi, tab_get hi, tab_get (by omega)]
  · rw [List.getElem?_eq_none (by rw [List.length_take, dtab_len]; omega), List.getElem?_eq_none (by rw [dtab_len]; omega)]
theorem atI_nats {α : Type} {xs : List α} {j : Int} {i : Nat} {v : α} (e : j = i) (h : xs[i]? = some v) : atI xs j = some v := by
  rw [e]
  exact atI_nat h
/-- an item of a list of ints, told by its bounds -/
theorem atI_ints {xs : List Int} {j : Int} (h0 : 0 ≤ j) (h : j < xs.length) : ∃ v, atI (dints xs) j = some (.int v) ∧ v ∈ xs := by
  obtain ⟨i, rfl⟩ : ∃ i : Nat, j = i := ⟨j.toNat, by omega⟩
  have hi : i < xs.length := by omega
  refine ⟨xs[i], atI_nat ?_, List.getElem_mem hi⟩
  rw [List.getElem?_map, List.getElem?_eq_getElem hi]
  rfl
theorem wtrue {P Q : Prop} (p : P) : ((true : Bool) = true → P) ∧ ((true : Bool) = false → Q) := ⟨fun _ => p, (nomatch ·)⟩
theorem wfalse {P Q : Prop} (q : Q) : ((false : Bool) = true → P) ∧ ((false : Bool) = false → Q) := ⟨(nomatch ·), fun _ => q⟩
/-- what a slot holds that is wiped by a block -/
abbrev Val (t : Option Sl) : Prop := t = none ∨ ∃ d, t = some (.v d)
theorem valN {t : Option Sl} : Val t → (match t with | some s => s.isOwn = false | none => True)
  | .inl e => by subst e; exact trivial
  | .inr ⟨d, e⟩ => by subst e; exact rfl
theorem map_comp {ms : List Int} {f : Int → Int} {k : Nat} {m : Int} (h : ms[k]? = some m) : dints ((ms.take k).map f) ++ [PyData.int (f m)] = dints ((ms.take (k + 1)).map f) := by
  rw [List.take_add_one, h, List.map_append]
  show _ = dints (_ ++ [f m])
  rw [dints_snoc]
theorem dints_at {ms : List Int} {i : Nat} {d : D} (h : (dints ms)[i]? = some d) : ∃ m, ms[i]? = some m ∧ d = .int m := by
  rw [List.getElem?_map] at h
  obtain ⟨m, hm, rfl⟩ := Option.map_eq_some_iff.mp h
  exact ⟨m, hm, rfl⟩
theorem dints_len (ms : List Int) : (dints ms).length = ms.length := List.length_map _
theorem sameF {k : Nat} {d e : D} {P Q : Prop} (h : pl k d = true) (he : d = e) (q : Q) : ((!PyData.eqv d e || false) = true → P) ∧ ((!PyData.eqv d e || false) = false → Q) := by
  subst he
  rw [eqv_self h]
  exact ⟨fun h => (by cases h), fun _ => q⟩
theorem eqT {k : Nat} {d e : D} {Q : Rt → Prop} (h : pl k d = true) (he : d = e) (q : Q (.v (.bool true))) : Q (.v (.bool (PyData.eqv d e))) := by
  subst he
  rw [eqv_self h]
  exact q
end DL
namespace DL
open PySem L2
theorem ixN_nat {n j : Nat} {z : Int} (e : z = j) (h : j < n) : ixN n z = some j := by
  subst e
  unfold ixN
  rw [if_pos (by omega), if_pos (by omega), Int.toNat_natCast]
theorem rep_zero (n : Nat) (c : Int) : (List.replicate n [PyData.int c]).flatten = dints (List.replicate n c) := by
  induction n with
  | zero => rfl
  | succ n ih => rw [List.replicate_succ, List.flatten_cons, ih, List.replicate_succ]; rfl
theorem dints_set (f : List Int) (i : Nat) (v : Int) : (dints f).set i (.int v) = dints (f.set i v) := List.map_set.symm
theorem dints_drop (f : List Int) : (dints f).dropLast = dints f.dropLast := List.map_dropLast.symm
theorem dints_get {f : List Int} {i : Nat} {v : Int} (h : f[i]? = some v) : (dints f)[i]? = some (.int v) := by
  rw [List.getElem?_map, h]; rfl
theorem dints_atI {f : List Int} {i : Nat} {j v : Int} (e : j = i) (h : f[i]? = some v) : atI (dints f) j = some (.int v) := atI_nats e (dints_get h)
theorem ixN_neg {n : Nat} (k : Nat) (h0 : 0 < k) (h : k ≤ n) : ixN n (-(k : Int)) = some (n - k) := by
  unfold ixN
  rw [if_neg (by omega), if_pos (by omega)]
  congr 1
  omega
theorem atI_neg {α : Type} {xs : List α} {n : Nat} {v : α} (hl : xs.length = n) (k : Nat) (h0 : 0 < k ∧ k ≤ n) (h : xs[n - k]? = some v) : atI xs (-(k : Int)) = some v := by
  unfold atI
  rw [hl, ixN_neg k h0.1 h0.2]
  exact h
/-- comparisons of data that are not seen through -/
theorem fNe_of {d e : D} {Q : D → Prop} (h1 : SeqAt.shaped d = true) (h2 : SeqAt.shaped e = true) (q : Q (.bool (!PyData.eqv d e))) : fNe d e Q := by
  unfold fNe
  split
  · rw [eqv_int] at q; exact q
  · exact ⟨h1, h2, q⟩
theorem fEq_of {d e : D} {Q : D → Prop} (h1 : SeqAt.shaped d = true) (h2 : SeqAt.shaped e = true) (q : Q (.bool (PyData.eqv d e))) : fEq d e Q := by
  unfold fEq
  split
  · rw [eqv_int] at q; exact q
  · exact ⟨h1, h2, q⟩
theorem wVar_at {i : Nat} {env : EnvD} {d : D} {Q : D → Prop} (h : get env i = some (.v d)) (q : Q d) : wVar i env Q := by
  unfold wVar
  rw [h]
  exact q
end DL
/-! primes, by divisors -/
namespace MB
def PrimeI (p : Int) : Prop := 2 ≤ p ∧ ∀ d : Int, 2 ≤ d → d < p → p % d ≠ 0
theorem prime_of_trial {p : Int} (m : Int) (h2 : 2 ≤ p) (hp : p < m * m) (hm : 0 < m) (h : ∀ d : Int, 2 ≤ d → d < m → d * d ≤ p → p % d ≠ 0) : PrimeI p := by
  refine ⟨h2, fun d d2 dp e => ?_⟩
  obtain ⟨q, hq⟩ := Int.dvd_of_emod_eq_zero e
  have q0 : 0 < q := by
    apply Int.not_le.mp
    intro z
    have := Int.mul_nonpos_of_nonneg_of_nonpos (a := d) (b := q) (by omega) z
    omega
  have q1 : q ≠ 1 := fun z => by rw [z, Int.mul_one] at hq; omega
  have lt : ∀ x : Int, 0 ≤ x → x * x ≤ p → x < m := fun x x0 hx => by
    apply Int.not_le.mp
    intro z
    have := Int.mul_le_mul z z (by omega) x0
    omega
  rcases Int.le_total d q with l | l
  · have := Int.mul_le_mul_of_nonneg_left l (by omega : 0 ≤ d)
    exact h d d2 (lt d (by omega) (by omega)) (by omega) e
  · have := Int.mul_le_mul_of_nonneg_right l (by omega : 0 ≤ q)
    exact h q (by omega) (lt q (by omega) (by omega)) (by omega) (by rw [hq]; exact Int.mul_emod_left _ _)
end MB
/-! the test of a number by a base, as plain arithmetic -/
namespace MB
/-- what passes(n, b) tells, n - 1 = odd * 2 ^ twos -/
def passR (n b : Int) (odd twos : Nat) : Bool := (b ^ odd % n == 1 || b ^ odd % n == n - 1) || (List.range (twos - 1)).any fun t => b ^ (odd * 2 ^ (t + 1)) % n == n - 1
def basesL : List Int := [2, 3, 5, 7, 11, 13, 17, 19, 23, 29, 31, 37]
/-- below 200: no base divides, so every base passes -/
def okSmall (n : Nat) : Bool := (List.range 8).all fun t => (basesL.any fun b => (n : Int) % b == 0) || !((n - 1) % 2 ^ t == 0 && ((n - 1) / 2 ^ t) % 2 == 1) || basesL.all fun b => passR n b ((n - 1) / 2 ^ t) t
theorem okSmall_all : (List.range 200).all (fun n => n < 2 || okSmall n) = true := by decide +kernel
def primeB (n : Nat) : Bool := 2 ≤ n && (List.range n).all fun d => d < 2 || n % d != 0
/-- what is_prime tells below 200 -/
theorem small_div : (List.range 200).all (fun n => n < 2 || match basesL.find? (fun b => (n : Int) % b == 0) with | some b => ((n : Int) == b) == primeB n | none => primeB n) = true := by decide +kernel
end MB
/-! joined remainders -/
namespace MB
/-- the least common multiple, as it is worked out -/
def L (a b : Int) : Int := a * (b / (Int.gcd a b : Nat))
def lcmP (ms : List Int) (k : Nat) : Int := (ms.take k).foldl L 1
theorem lcmP_succ {ms : List Int} {k : Nat} {m : Int} (h : ms[k]? = some m) : lcmP ms (k + 1) = L (lcmP ms k) m := by
  unfold lcmP
  rw [List.take_add_one, h, List.foldl_append]
  rfl
theorem gcd_pos {a b : Int} (hb : 0 < b) : (0 : Int) < (Int.gcd a b : Nat) := by
  have h3 : Int.gcd a b ≠ 0 := fun z => by
    have := (Int.gcd_eq_zero_iff.mp z).2
    omega
  omega
theorem L_pos {a b : Int} (ha : 0 < a) (hb : 0 < b) : 0 < L a b := by
  unfold L
  have h := gcd_pos (a := a) hb
  have hd : ((Int.gcd a b : Nat) : Int) ∣ b := Int.gcd_dvd_right _ _
  have hm := Int.ediv_mul_cancel hd
  refine Int.mul_pos ha ?_
  apply Int.not_le.mp
  intro z
  have := Int.mul_nonpos_of_nonpos_of_nonneg z (Int.le_of_lt h)
  omega
theorem dvd_L_left (a b : Int) : a ∣ L a b := Int.dvd_mul_right _ _
theorem dvd_L_right {a b : Int} : b ∣ L a b := by
  unfold L
  have hd : ((Int.gcd a b : Nat) : Int) ∣ b := Int.gcd_dvd_right _ _
  have hd2 : ((Int.gcd a b : Nat) : Int) ∣ a := Int.gcd_dvd_left _ _
  obtain ⟨c, hc⟩ := hd2
  refine ⟨c, ?_⟩
  have hm := Int.mul_ediv_cancel' hd
  generalize ((Int.gcd a b : Nat) : Int) = g at *
  rw [hc]
  calc g * c * (b / g) = (g * (b / g)) * c := by grind
    _ = b * c := by rw [hm]
theorem L_dvd {a b y : Int} (hb : 0 < b) (h1 : a ∣ y) (h2 : b ∣ y) : L a b ∣ y := by
  unfold L
  have hg := gcd_pos (a := a) hb
  have hd : ((Int.gcd a b : Nat) : Int) ∣ b := Int.gcd_dvd_right _ _
  have hd2 : ((Int.gcd a b : Nat) : Int) ∣ a := Int.gcd_dvd_left _ _
  have hcop : Int.gcd (a / (Int.gcd a b : Nat)) (b / (Int.gcd a b : Nat)) = 1 := Int.gcd_ediv_gcd_ediv_gcd (by omega)
  generalize ((Int.gcd a b : Nat) : Int) = g at *
  obtain ⟨a', rfl⟩ := hd2
  obtain ⟨b', rfl⟩ := hd
  rw [Int.mul_ediv_cancel_left _ (by omega), Int.mul_ediv_cancel_left _ (by omega)] at hcop
  rw [Int.mul_ediv_cancel_left _ (by omega)]
  obtain ⟨u, rfl⟩ := h1
  obtain ⟨v, hv⟩ := h2
  have e : a' * u = b' * v := by
    have : g * (a' * u) = g * (b' * v) := by rw [← Int.mul_assoc, ← Int.mul_assoc]; exact hv
    exact Int.eq_of_mul_eq_mul_left (by omega) this
  have hb' : b' ∣ u := by
    have : b' ∣ a' * u := ⟨v, e⟩
    exact dvd_of_gcd_one (by rw [Int.gcd_comm]; exact hcop) this
  obtain ⟨w, rfl⟩ := hb'
  exact ⟨w, by grind⟩
theorem L_le {a b : Int} (ha : 0 ≤ a) (hb : 0 < b) : L a b ≤ a * b := by
  unfold L
  exact Int.mul_le_mul_of_nonneg_left (Int.ediv_le_self _ (by omega)) ha
theorem L_eq (a b : Int) : a * b / (Int.gcd a b : Nat) = L a b := by
  unfold L
  exact Int.mul_ediv_assoc _ (Int.gcd_dvd_right _ _)
theorem lcmP_pos {ms : List Int} (h : ∀ m ∈ ms, 0 < m) : ∀ k, k ≤ ms.length → 0 < lcmP ms k
  | 0, _ => by unfold lcmP; rw [List.take_zero]; decide
  | k + 1, hk => by
    have e : ms[k]? = some (ms[k]) := List.getElem?_eq_getElem (by omega)
    rw [lcmP_succ e]
    exact L_pos (lcmP_pos h k (by omega)) (h _ (List.getElem_mem _))
theorem lcmP_dvd {ms : List Int} {k : Nat} : ∀ j, k + j ≤ ms.length → lcmP ms k ∣ lcmP ms (k + j)
  | 0, _ => Int.dvd_refl _
  | j + 1, hj => by
    have e : ms[k + j]? = some (ms[k + j]) := List.getElem?_eq_getElem (by omega)
    rw [show k + (j + 1) = (k + j) + 1 from rfl, lcmP_succ e]
    exact Int.dvd_trans (lcmP_dvd j (by omega)) (dvd_L_left _ _)
theorem lcmP_le {ms : List Int} (h : ∀ m ∈ ms, 0 < m) {k : Nat} (hk : k ≤ ms.length) : lcmP ms k ≤ lcmP ms ms.length := by
  have := lcmP_dvd (ms := ms) (k := k) (ms.length - k) (by omega)
  rw [show k + (ms.length - k) = ms.length by omega] at this
  exact Int.le_of_dvd (lcmP_pos h _ (Nat.le_refl _)) this
/-- y has the first k remainders -/
def Sol (rs ms : List Int) (k : Nat) (y : Int) : Prop := ∀ j, j < k → ∀ r m : Int, rs[j]? = some r → ms[j]? = some m → m ∣ y - r
theorem Sol_succ {rs ms : List Int} {k : Nat} {r m y : Int} (hr : rs[k]? = some r) (hm : ms[k]? = some m) : Sol rs ms (k + 1) y ↔ Sol rs ms k y ∧ m ∣ y - r := by
  constructor
  · intro h
    exact ⟨fun j hj => h j (by omega), h k (by omega) r m hr hm⟩
  · rintro ⟨h1, h2⟩ j hj r' m' hr' hm'
    by_cases e : j = k
    · subst e
      rw [hr] at hr'
      rw [hm] at hm'
      cases hr'; cases hm'
      exact h2
    · exact h1 j (by omega) r' m' hr' hm'
/-- what is known after k moduli -/
structure Upto (rs ms : List Int) (k : Nat) (x : Int) : Prop where
  lo : 0 ≤ x
  hi : x < lcmP ms k
  sol : Sol rs ms k x
  all : ∀ y, Sol rs ms k y → lcmP ms k ∣ y - x
theorem Upto.mk' {rs ms : List Int} {k : Nat} {x y : Int} (u : Upto rs ms k x) (h : lcmP ms k ∣ y - x) : Sol rs ms k y ↔ True := by
  refine ⟨fun _ => trivial, fun _ => ?_⟩
  intro j hj r m hr hm
  have h1 := u.sol j hj r m hr hm
  have : m ∣ lcmP ms k := by
    have hjl : j < ms.length := (List.getElem?_eq_some_iff.mp hm).1
    have : m ∣ lcmP ms (j + 1) := by rw [lcmP_succ hm]; exact dvd_L_right
    have hk : k ≤ ms.length ∨ ms.length < k := by omega
    rcases hk with hk | hk
    · have := lcmP_dvd (ms := ms) (k := j + 1) (k - (j + 1)) (by omega)
      rw [show j + 1 + (k - (j + 1)) = k by omega] at this
      exact Int.dvd_trans (by assumption) this
    · have e : lcmP ms k = lcmP ms ms.length := by unfold lcmP; rw [List.take_of_length_le (by omega), List.take_length]
      rw [e]
      have := lcmP_dvd (ms := ms) (k := j + 1) (ms.length - (j + 1)) (by omega)
      rw [show j + 1 + (ms.length - (j + 1)) = ms.length by omega] at this
      exact Int.dvd_trans (by assumption) this
  have h2 := Int.dvd_trans this h
  have := Int.dvd_add h2 h1
  rwa [show y - x + (x - r) = y - r by omega] at this
/-- no way to go on -/
theorem upto_stuck {rs ms : List Int} {k : Nat} {x r m y : Int} (u : Upto rs ms k x) (hr : rs[k]? = some r) (hm : ms[k]? = some m) (h : ¬ ((Int.gcd (lcmP ms k) m : Nat) : Int) ∣ r - x) : ¬ Sol rs ms (k + 1) y := fun z => by
  have ⟨h1, h2⟩ := (Sol_succ hr hm).mp z
  apply h
  have h3 := Int.dvd_trans (Int.gcd_dvd_left (lcmP ms k) m) (u.all y h1)
  have h4 := Int.dvd_trans (Int.gcd_dvd_right (lcmP ms k) m) h2
  have := Int.dvd_sub h3 h4
  rwa [show y - x - (y - r) = r - x by omega] at this
/-- one step: t inverts the rest -/
theorem upto_step {rs ms : List Int} {k : Nat} {x r m t : Int} (u : Upto rs ms k x) (hM : 0 < lcmP ms k) (hm0 : 0 < m) (hr : rs[k]? = some r) (hm : ms[k]? = some m) (h : ((Int.gcd (lcmP ms k) m : Nat) : Int) ∣ r - x)
    (ht : (m / (Int.gcd (lcmP ms k) m : Nat)) ∣ t * (lcmP ms k / (Int.gcd (lcmP ms k) m : Nat)) - 1) :
    Upto rs ms (k + 1) (x + lcmP ms k * ((r - x) / (Int.gcd (lcmP ms k) m : Nat) * t % (m / (Int.gcd (lcmP ms k) m : Nat)))) := by
  have hg := gcd_pos (a := lcmP ms k) hm0
  have hd : ((Int.gcd (lcmP ms k) m : Nat) : Int) ∣ m := Int.gcd_dvd_right _ _
  have hd2 : ((Int.gcd (lcmP ms k) m : Nat) : Int) ∣ lcmP ms k := Int.gcd_dvd_left _ _
  have hL : lcmP ms (k + 1) = L (lcmP ms k) m := lcmP_succ hm
  have hLd : ∀ y, lcmP ms k ∣ y → m ∣ y → lcmP ms (k + 1) ∣ y := fun y h1 h2 => by rw [hL]; exact L_dvd hm0 h1 h2
  have hLe : lcmP ms (k + 1) = lcmP ms k * (m / (Int.gcd (lcmP ms k) m : Nat)) := hL
  generalize hgg : ((Int.gcd (lcmP ms k) m : Nat) : Int) = g at *
  obtain ⟨c, hc⟩ := hd
  obtain ⟨M', hM'⟩ := hd2
  obtain ⟨q, hq⟩ := h
  have e1 : m / g = c := by rw [hc, Int.mul_ediv_cancel_left _ (by omega)]
  have e2 : lcmP ms k / g = M' := by rw [hM', Int.mul_ediv_cancel_left _ (by omega)]
  have e3 : (r - x) / g = q := by rw [hq, Int.mul_ediv_cancel_left _ (by omega)]
  rw [e1] at hLe ht ⊢
  rw [e2] at ht
  rw [e3]
  have c0 : 0 < c := by
    apply Int.not_le.mp
    intro z
    have := Int.mul_nonpos_of_nonneg_of_nonpos (a := g) (b := c) (by omega) z
    omega
  have s0 : 0 ≤ q * t % c := Int.emod_nonneg _ (by omega)
  have s1 : q * t % c < c := Int.emod_lt_of_pos _ c0
  have hs : c ∣ q * t - q * t % c := Int.dvd_self_sub_emod
  generalize q * t % c = s at *
  have mul0 : 0 ≤ lcmP ms k * s := Int.mul_nonneg (by omega) s0
  have hx := u.hi
  have hx0 := u.lo
  have solk : Sol rs ms k (x + lcmP ms k * s) := (u.mk' (y := x + lcmP ms k * s) (by rw [show x + lcmP ms k * s - x = lcmP ms k * s by omega]; exact Int.dvd_mul_right _ _)).mpr trivial
  have solm : m ∣ x + lcmP ms k * s - r := by
    obtain ⟨u1, hu1⟩ := ht
    obtain ⟨u2, hu2⟩ := hs
    -- r = x + g q; M = g M'; s = q t - c u2; t M' = 1 + c u1
    have hr' : r = x + g * q := by omega
    have hs' : s = q * t - c * u2 := by omega
    have htM : t * M' = 1 + c * u1 := by omega
    refine ⟨q * u1 - M' * u2, ?_⟩
    rw [hr', hM', hs', hc]
    have : x + g * M' * (q * t - c * u2) - (x + g * q) = g * (q * (t * M')) - g * M' * (c * u2) - g * q := by grind
    rw [this, htM]
    grind
  refine ⟨by omega, ?_, (Sol_succ hr hm).mpr ⟨solk, solm⟩, fun y hy => ?_⟩
  · rw [hLe]
    have : lcmP ms k * s ≤ lcmP ms k * (c - 1) := Int.mul_le_mul_of_nonneg_left (by omega) (by omega)
    rw [Int.mul_sub, Int.mul_one] at this
    omega
  · have ⟨h1, h2⟩ := (Sol_succ hr hm).mp hy
    apply hLd
    · have h3 := u.all y h1
      have : lcmP ms k ∣ lcmP ms k * s := Int.dvd_mul_right _ _
      have := Int.dvd_sub h3 this
      rwa [show y - x - lcmP ms k * s = y - (x + lcmP ms k * s) by omega] at this
    · have := Int.dvd_sub h2 solm
      rwa [show y - r - (x + lcmP ms k * s - r) = y - (x + lcmP ms k * s) by omega] at this
theorem lcmP_bd {ms : List Int} {c : Int} (h : ∀ m ∈ ms, 0 < m ∧ m ≤ c) : ∀ k, k ≤ ms.length → lcmP ms k ≤ c ^ k
  | 0, _ => by unfold lcmP; rw [List.take_zero, Int.pow_zero]; exact Int.le_refl _
  | k + 1, hk => by
    have e : ms[k]? = some (ms[k]) := List.getElem?_eq_getElem (by omega)
    have hm := h _ (List.getElem_mem (show k < ms.length by omega))
    have p := lcmP_pos (fun m hm => (h m hm).1) k (by omega)
    rw [lcmP_succ e, Int.pow_succ]
    exact Int.le_trans (L_le (Int.le_of_lt p) hm.1) (Int.mul_le_mul (lcmP_bd h k (by omega)) hm.2 (by omega) (Int.le_trans (Int.le_of_lt p) (lcmP_bd h k (by omega))))
/-- the steps of Euclid -/
theorem euclid_half {x y : Int} (hy : 0 < y) (h : y < x) : 2 * (x % y) ≤ x := by
  have h1 := Int.emod_lt_of_pos x hy
  have h2 := Int.emod_def x y
  have h3 : 1 ≤ x / y := by
    have := Int.le_ediv_of_mul_le hy (show 1 * y ≤ x by omega)
    exact this
  have : y * 1 ≤ y * (x / y) := Int.mul_le_mul_of_nonneg_left h3 (by omega)
  omega
end MB
/-! rests that fit pair by pair are the rests of some number -/
namespace MB
theorem bez2 : ∀ (k : Nat) (a b : Int), b.natAbs ≤ k → ∃ u v : Int, u * a + v * b = (Int.gcd a b : Nat)
  | 0, a, b, h => by
    have : b = 0 := by omega
    subst this
    rw [Int.gcd_zero_right]
    rcases Int.le_total 0 a with h1 | h1
    · exact ⟨1, 0, by omega⟩
    · exact ⟨-1, 0, by omega⟩
  | k + 1, a, b, h => by
    by_cases hb : b = 0
    · exact bez2 k a b (by omega)
    · have m0 := Int.emod_nonneg a hb
      have m1 := Int.emod_lt a hb
      obtain ⟨u, v, e⟩ := bez2 k b (a % b) (by omega)
      rw [MB.gcd_mod_r] at e
      refine ⟨v, u - v * (a / b), ?_⟩
      rw [← e, Int.emod_def]
      grind
theorem gcd_lift {a b c t : Int} (a0 : 0 < a) (b0 : 0 < b) (h1 : ((Int.gcd a c : Nat) : Int) ∣ t) (h2 : ((Int.gcd b c : Nat) : Int) ∣ t) : ((Int.gcd (L a b) c : Nat) : Int) ∣ t := by
  obtain ⟨h, hh⟩ : ∃ h : Int, h = (Int.gcd (L a b) c : Nat) := ⟨_, rfl⟩
  have hL : h ∣ L a b := by rw [hh]; exact Int.gcd_dvd_left _ _
  have hc : h ∣ c := by rw [hh]; exact Int.gcd_dvd_right _ _
  rw [← hh]
  obtain ⟨u1, v1, e1⟩ := bez2 _ a c (Nat.le_refl _)
  obtain ⟨u2, v2, e2⟩ := bez2 _ b c (Nat.le_refl _)
  obtain ⟨u3, v3, e3⟩ := bez2 _ a b (Nat.le_refl _)
  obtain ⟨s1, hs1⟩ := h1
  obtain ⟨s2, hs2⟩ := h2
  have hg := gcd_pos (a := a) b0
  obtain ⟨a', ha⟩ : ((Int.gcd a b : Nat) : Int) ∣ a := Int.gcd_dvd_left _ _
  obtain ⟨b', hb⟩ : ((Int.gcd a b : Nat) : Int) ∣ b := Int.gcd_dvd_right _ _
  have eL : L a b = a * b' := by
    unfold L
    have : b / ((Int.gcd a b : Nat) : Int) = b' := Int.ediv_eq_of_eq_mul_right (by omega) hb
    rw [this]
  generalize ((Int.gcd a b : Nat) : Int) = g at *
  have eL2 : L a b = b * a' := by
    rw [eL]
    have : g * (a * b') = g * (b * a') := by grind
    exact Int.eq_of_mul_eq_mul_left (by omega) this
  have one : u3 * a' + v3 * b' = 1 := by
    have : g * (u3 * a' + v3 * b') = g * 1 := by grind
    exact Int.eq_of_mul_eq_mul_left (by omega) this
  have k1 : h ∣ b' * t := by
    have : b' * t = L a b * (u1 * s1) + c * (b' * v1 * s1) := by rw [eL, hs1, ← e1]; grind
    rw [this]
    exact Int.dvd_add (Int.dvd_trans hL (Int.dvd_mul_right _ _)) (Int.dvd_trans hc (Int.dvd_mul_right _ _))
  have k2 : h ∣ a' * t := by
    have : a' * t = L a b * (u2 * s2) + c * (a' * v2 * s2) := by rw [eL2, hs2, ← e2]; grind
    rw [this]
    exact Int.dvd_add (Int.dvd_trans hL (Int.dvd_mul_right _ _)) (Int.dvd_trans hc (Int.dvd_mul_right _ _))
  have : t = u3 * (a' * t) + v3 * (b' * t) := by
    have : (u3 * a' + v3 * b') * t = t := by rw [one, Int.one_mul]
    grind
  rw [this]
  exact Int.dvd_add (Int.dvd_trans k2 (Int.dvd_mul_left _ _)) (Int.dvd_trans k1 (Int.dvd_mul_left _ _))
/-- rests that fit in pairs -/
def Fit (rs ms : List Int) (k : Nat) : Prop := ∀ i j, j < i → i < k → ∀ r m r' m' : Int, rs[i]? = some r → ms[i]? = some m → rs[j]? = some r' → ms[j]? = some m' → ((Int.gcd m m' : Nat) : Int) ∣ r - r'
theorem fit_gcd {rs ms : List Int} {m r x : Int} {k : Nat} (hl : rs.length = ms.length) (hm : ∀ m ∈ ms, 0 < m) (m0 : 0 < m) (hx : Sol rs ms k x) (h : ∀ j, j < k → ∀ r' m' : Int, rs[j]? = some r' → ms[j]? = some m' → ((Int.gcd m m' : Nat) : Int) ∣ r - r') : ∀ n, n ≤ k → n ≤ ms.length → ((Int.gcd (lcmP ms n) m : Nat) : Int) ∣ r - x
  | 0, _, _ => by
    have : lcmP ms 0 = 1 := rfl
    rw [this, Int.gcd_comm, Int.gcd_one_right]
    exact Int.one_dvd _
  | n + 1, hn, hl' => by
    have ih := fit_gcd hl hm m0 hx h n (by omega) (by omega)
    have e : ms[n]? = some ms[n] := List.getElem?_eq_getElem (by omega)
    have e' : rs[n]? = some (rs[n]'(by omega)) := List.getElem?_eq_getElem (by omega)
    rw [lcmP_succ e]
    refine gcd_lift (lcmP_pos hm n (by omega)) (hm _ (List.getElem_mem _)) ih ?_
    have h1 := h n (by omega) _ _ e' e
    have h2 := hx n (by omega) _ _ e' e
    rw [Int.gcd_comm] at h1
    have h3 := Int.dvd_trans (Int.gcd_dvd_left ms[n] m) h2
    have : r - x = (r - rs[n]'(by omega)) - (x - rs[n]'(by omega)) := by omega
    rw [this]
    exact Int.dvd_sub h1 h3
theorem fit_upto {rs ms : List Int} (hl : rs.length = ms.length) (hm : ∀ m ∈ ms, 0 < m) : ∀ k, k ≤ ms.length → Fit rs ms k → ∃ x, Upto rs ms k x
  | 0, _, _ => ⟨0, Int.le_refl _, by show (0 : Int) < 1; decide, fun j hj => absurd hj (Nat.not_lt_zero _), fun y _ => Int.one_dvd _⟩
  | k + 1, hk, hf => by
    obtain ⟨x, u⟩ := fit_upto hl hm k (by omega) fun i j h1 h2 => hf i j h1 (by omega)
    have e : ms[k]? = some ms[k] := List.getElem?_eq_getElem (by omega)
    have e' : rs[k]? = some (rs[k]'(by omega)) := List.getElem?_eq_getElem (by omega)
    have m0 := hm _ (List.getElem_mem (l := ms) (n := k) (by omega))
    have hg := fit_gcd hl hm m0 u.sol (fun j hj r' m' h1 h2 => hf k j hj (by omega) _ _ _ _ e' e h1 h2) k (Nat.le_refl _) (by omega)
    have M0 := lcmP_pos hm k (by omega)
    have gp := gcd_pos (a := lcmP ms k) m0
    obtain ⟨s, t, ht⟩ := bez2 _ (lcmP ms k) ms[k] (Nat.le_refl _)
    have d1 : ((Int.gcd (lcmP ms k) ms[k] : Nat) : Int) ∣ lcmP ms k := Int.gcd_dvd_left _ _
    have d2 : ((Int.gcd (lcmP ms k) ms[k] : Nat) : Int) ∣ ms[k] := Int.gcd_dvd_right _ _
    refine ⟨_, upto_step u M0 m0 e' e hg (t := s) ⟨-t, ?_⟩⟩
    generalize ((Int.gcd (lcmP ms k) ms[k] : Nat) : Int) = g at *
    have q1 := Int.mul_ediv_cancel' d1
    have q2 := Int.mul_ediv_cancel' d2
    generalize lcmP ms k / g = A at *
    generalize ms[k] / g = B at *
    have : g * (s * A - 1) = g * (B * -t) := by grind
    exact Int.eq_of_mul_eq_mul_left (by omega) this
theorem fit_of_sol {rs ms : List Int} {k : Nat} {y : Int} (h : Sol rs ms k y) : Fit rs ms k := fun i j h1 h2 r m r' m' e1 e2 e3 e4 => by
  have a1 := Int.dvd_trans (Int.gcd_dvd_left m m') (h i h2 _ _ e1 e2)
  have a2 := Int.dvd_trans (Int.gcd_dvd_right m m') (h j (by omega) _ _ e3 e4)
  have : r - r' = (y - r') - (y - r) := by omega
  rw [this]
  exact Int.dvd_sub a2 a1
theorem Upto.uniq {rs ms : List Int} {k : Nat} {x y : Int} (h : Upto rs ms k x) (h' : Upto rs ms k y) : x = y := by
  have := h.all y h'.sol
  have a := h.lo
  have b := h.hi
  have c := h'.lo
  have d := h'.hi
  obtain ⟨q, hq⟩ := this
  have : q = 0 := by
    rcases Int.lt_trichotomy q 0 with z | z | z
    · have : lcmP ms k * q ≤ lcmP ms k * -1 := Int.mul_le_mul_of_nonneg_left (by omega) (by omega)
      omega
    · exact z
    · have : lcmP ms k * 1 ≤ lcmP ms k * q := Int.mul_le_mul_of_nonneg_left (by omega) (by omega)
      omega
  subst this
  omega
theorem lcmP_bound {ms : List Int} {B : Nat} (hm : ∀ m ∈ ms, 0 < m ∧ m ≤ B) : ∀ k, k ≤ ms.length → lcmP ms k ≤ (B : Int) ^ k
  | 0, _ => by show (1 : Int) ≤ _; rw [Int.pow_zero]; omega
  | k + 1, hk => by
    have e : ms[k]? = some ms[k] := List.getElem?_eq_getElem (by omega)
    have hh := hm _ (List.getElem_mem (l := ms) (n := k) (by omega))
    have M0 := lcmP_pos (fun m h => (hm m h).1) k (show k ≤ ms.length by omega)
    rw [lcmP_succ e, Int.pow_succ]
    exact Int.le_trans (L_le (by omega) hh.1) (Int.mul_le_mul (lcmP_bound hm k (by omega)) hh.2 (by omega) (Int.pow_nonneg (by omega)))
end MB
/-! Fermat's little theorem; primes shown by it -/
namespace MB
theorem perm_of_sub : ∀ (l1 l2 : List Nat), l1.Nodup → (∀ x ∈ l1, x ∈ l2) → l2.length ≤ l1.length → l1.Perm l2
  | [], l2, _, _, hl => by
    have : l2 = [] := List.eq_nil_of_length_eq_zero (by simpa using hl)
    rw [this]
  | a :: l1, l2, hn, hs, hl => by
    have ha : a ∈ l2 := hs a List.mem_cons_self
    have hp := List.perm_cons_erase ha
    have hn' := List.nodup_cons.mp hn
    have := perm_of_sub l1 (l2.erase a) hn'.2 (fun x hx => by
      have hxa : x ≠ a := fun z => hn'.1 (z ▸ hx)
      exact (List.mem_erase_of_ne hxa).mpr (hs x (List.mem_cons_of_mem _ hx))) (by
      rw [List.length_erase_of_mem ha]
      rw [List.length_cons] at hl
      omega)
    exact (this.cons a).trans hp.symm
def pr : List Nat → Nat
  | [] => 1
  | a :: l => a * pr l
theorem pr_perm {l1 l2 : List Nat} (h : l1.Perm l2) : pr l1 = pr l2 := by
  induction h with
  | nil => rfl
  | cons a _ ih => show a * _ = a * _; rw [ih]
  | swap a b l => show b * (a * pr l) = a * (b * pr l); rw [← Nat.mul_assoc, Nat.mul_comm b a, Nat.mul_assoc]
  | trans _ _ ih1 ih2 => rw [ih1, ih2]
theorem pr_map (a p : Nat) : ∀ l : List Nat, pr (l.map fun x => a * x % p) % p = a ^ l.length * pr l % p
  | [] => by rw [List.map_nil, List.length_nil, Nat.pow_zero, Nat.one_mul]
  | x :: l => by
    show (a * x % p) * pr (l.map _) % p = a ^ (l.length + 1) * (x * pr l) % p
    rw [Nat.mul_mod, pr_map a p l, Nat.mod_mod, ← Nat.mul_mod]
    congr 1
    rw [Nat.pow_succ]
    grind
/-- a prime, of Nat -/
def PrimeN (p : Nat) : Prop := 2 ≤ p ∧ ∀ d, d ∣ p → d = 1 ∨ d = p
theorem PrimeN.euclid {p a b : Nat} (hp : PrimeN p) (h : p ∣ a * b) : p ∣ a ∨ p ∣ b := by
  rcases hp.2 (Nat.gcd p a) (Nat.gcd_dvd_left p a) with h1 | h1
  · exact .inr (Nat.Coprime.dvd_of_dvd_mul_left h1 h)
  · exact .inl (h1 ▸ Nat.gcd_dvd_right p a)
theorem PrimeN.of {p : Int} (h : PrimeI p) : PrimeN p.toNat := by
  refine ⟨by have := h.1; omega, fun d hd => ?_⟩
  have h1 := h.1
  have d0 : 0 < d := Nat.pos_of_dvd_of_pos hd (by omega)
  have dl := Nat.le_of_dvd (by omega) hd
  by_cases e1 : d = 1
  · exact .inl e1
  by_cases e2 : d = p.toNat
  · exact .inr e2
  have hd' : (d : Int) ∣ p := by
    have : ((p.toNat : Nat) : Int) = p := by omega
    rw [← this]
    exact Int.natCast_dvd_natCast.mpr hd
  exact absurd (Int.emod_eq_zero_of_dvd hd') (h.2 d (by omega) (by omega))
theorem PrimeN.toI {n : Nat} (h : PrimeN n) : PrimeI (n : Int) := by
  refine ⟨by have := h.1; omega, fun d h2 h3 e => ?_⟩
  have hd := Int.dvd_of_emod_eq_zero e
  obtain ⟨m, rfl⟩ : ∃ m : Nat, d = m := ⟨d.toNat, by omega⟩
  rcases h.2 m (Int.natCast_dvd_natCast.mp hd) with rfl | rfl <;> omega
theorem prime_pr {p : Nat} (hp : PrimeN p) : ∀ l : List Nat, (∀ x ∈ l, ¬ p ∣ x) → ¬ p ∣ pr l
  | [], _, h => by
    have := Nat.le_of_dvd (by decide) h
    have := hp.1
    show False
    have e : pr [] = 1 := rfl
    omega
  | x :: l, hl, h => by
    rcases hp.euclid (show p ∣ x * pr l from h) with h | h
    · exact hl x List.mem_cons_self h
    · exact prime_pr hp l (fun y hy => hl y (List.mem_cons_of_mem _ hy)) h
theorem fermatN {p a : Nat} (hp : PrimeN p) (ha : ¬ p ∣ a) : a ^ (p - 1) % p = 1 := by
  have h2 := hp.1
  let l := List.range' 1 (p - 1)
  have ml : ∀ {x}, x ∈ l ↔ 1 ≤ x ∧ x < p := fun {x} => by
    show x ∈ List.range' 1 (p - 1) ↔ _
    rw [List.mem_range'_1]
    omega
  have nd : ∀ x, x ∈ l → ¬ p ∣ x := fun x hx hd => by
    have := ml.mp hx
    have := Nat.le_of_dvd (by omega) hd
    omega
  have cancel : ∀ {x y z : Nat}, ¬ p ∣ x → x * y % p = x * z % p → y ≤ z → p ∣ z - y := fun {x y z} hx he hle => by
    have : p ∣ x * z - x * y := Nat.dvd_of_mod_eq_zero (Nat.sub_mod_eq_zero_of_mod_eq he.symm)
    rw [← Nat.mul_sub] at this
    exact (hp.euclid this).resolve_left hx
  have inj : ∀ {x y : Nat}, x ∈ l → y ∈ l → a * x % p = a * y % p → x = y := fun {x y} hx hy he => by
    have hx := ml.mp hx
    have hy := ml.mp hy
    rcases Nat.le_total x y with h | h
    · have := cancel ha he h
      have := Nat.eq_zero_of_dvd_of_lt this (by omega)
      omega
    · have := cancel ha he.symm h
      have := Nat.eq_zero_of_dvd_of_lt this (by omega)
      omega
  have perm : (l.map fun x => a * x % p).Perm l := by
    refine perm_of_sub _ _ ?_ (fun y hy => ?_) (by rw [List.length_map]; exact Nat.le_refl _)
    · show List.Pairwise (· ≠ ·) _
      rw [List.pairwise_map]
      refine List.Pairwise.imp_of_mem ?_ (List.nodup_range' (s := 1) (n := p - 1) (step := 1))
      intro x y hx hy hne he
      exact hne (inj hx hy he)
    · obtain ⟨x, hx, rfl⟩ := List.mem_map.mp hy
      refine ml.mpr ⟨?_, Nat.mod_lt _ (by omega)⟩
      have : a * x % p ≠ 0 := fun z => by
        rcases hp.euclid (Nat.dvd_of_mod_eq_zero z) with h | h
        · exact ha h
        · exact nd x hx h
      omega
  have hl : l.length = p - 1 := List.length_range'
  have e := pr_map a p l
  rw [pr_perm perm, hl] at e
  have np := prime_pr hp l nd
  have a1 : 1 ≤ a ^ (p - 1) := Nat.pow_pos (Nat.pos_of_ne_zero fun z => ha (z ▸ Nat.dvd_zero p))
  have := cancel np (y := 1) (z := a ^ (p - 1)) (by rw [Nat.mul_one, e, Nat.mul_comm]) a1
  obtain ⟨c, hc⟩ := this
  have : a ^ (p - 1) = 1 + p * c := by omega
  rw [this, Nat.add_mul_mod_self_left]
  exact Nat.mod_eq_of_lt (by omega)
theorem fermat {p a : Int} (hp : PrimeI p) (ha : ¬ p ∣ a) : a ^ (p - 1).toNat % p = 1 := by
  have h2 := hp.1
  have b0 : 0 ≤ a % p := Int.emod_nonneg _ (by omega)
  obtain ⟨b, hb⟩ : ∃ b : Nat, a % p = b := ⟨(a % p).toNat, by omega⟩
  obtain ⟨n, rfl⟩ : ∃ n : Nat, p = n := ⟨p.toNat, by omega⟩
  have hpn : PrimeN n := by
    have := PrimeN.of hp
    rwa [Int.toNat_natCast] at this
  have hb' : ¬ n ∣ b := fun z => ha (by
    have h1 : (n : Int) ∣ a % n := by rw [hb]; exact Int.natCast_dvd_natCast.mpr z
    exact Int.dvd_of_emod_eq_zero (by rw [← Int.emod_emod_of_dvd a (Int.dvd_refl (n : Int))]; exact Int.emod_eq_zero_of_dvd h1))
  have f := fermatN hpn hb'
  rw [← emod_pow, hb, show ((n : Int) - 1).toNat = n - 1 by omega]
  have : (((b ^ (n - 1) % n : Nat)) : Int) = 1 := by rw [f]; rfl
  rwa [Int.natCast_emod, Int.natCast_pow] at this
theorem fermat_inv {p a : Int} (hp : PrimeI p) (ha : ¬ p ∣ a) : a ^ (p - 2).toNat % p * a % p = 1 := by
  have h2 := hp.1
  rw [emod_mul_l, ← Int.pow_succ, show (p - 2).toNat.succ = (p - 1).toNat by omega]
  exact fermat hp ha
/-! ### primes shown -/
def trialB (n m : Nat) : Bool := decide (2 ≤ n) && decide (n < m * m) && (List.range m).all fun d => d < 2 || n % d != 0 || n == d
theorem trialB_ok {n m : Nat} (h : trialB n m = true) : PrimeN n := by
  unfold trialB at h
  rw [Bool.and_eq_true, Bool.and_eq_true, decide_eq_true_iff, decide_eq_true_iff, List.all_eq_true] at h
  obtain ⟨⟨h2, hm⟩, ht⟩ := h
  have small : ∀ d, d ∣ n → d < m → d = 1 ∨ d = n := fun d hd hlt => by
    have h1 := ht d (List.mem_range.mpr hlt)
    have d0 : 0 < d := Nat.pos_of_dvd_of_pos hd (by omega)
    rw [Bool.or_eq_true, Bool.or_eq_true, decide_eq_true_iff, bne_iff_ne, beq_iff_eq] at h1
    rcases h1 with (h1 | h1) | h1
    · left; omega
    · exact absurd (Nat.mod_eq_zero_of_dvd hd) h1
    · exact .inr h1.symm
  refine ⟨h2, fun d hd => ?_⟩
  by_cases hlt : d < m
  · exact small d hd hlt
  · obtain ⟨e, he⟩ := hd
    have elt : e < m := by
      apply Nat.lt_of_not_le
      intro z
      have := Nat.mul_le_mul (Nat.le_of_not_lt hlt) z
      omega
    rcases small e ⟨d, by rw [he, Nat.mul_comm]⟩ elt with h | h
    · right; rw [he, h, Nat.mul_one]
    · left
      have : d * e = 1 * e := by rw [← he, h, Nat.one_mul]
      exact Nat.eq_of_mul_eq_mul_right (by omega) this
/-- the power, worked out fast -/
def pm (n : Nat) : Nat → Nat → Nat → Nat
  | 0, _, _ => 1 % n
  | f + 1, a, k => if k = 0 then 1 % n else if k % 2 = 1 then a * pm n f (a * a % n) (k / 2) % n else pm n f (a * a % n) (k / 2)
theorem powmod (a n : Nat) : ∀ k, (a % n) ^ k % n = a ^ k % n := fun k => (Nat.pow_mod a k n).symm
theorem pm_eq (n : Nat) : ∀ f a k, k < 2 ^ f → pm n f a k = a ^ k % n
  | 0, a, k, h => by
    have : k = 0 := by omega
    subst this
    rfl
  | f + 1, a, k, h => by
    unfold pm
    by_cases k0 : k = 0
    · rw [if_pos k0, k0, Nat.pow_zero]
    · rw [if_neg k0]
      have hk : k / 2 < 2 ^ f := by rw [Nat.pow_succ] at h; omega
      rw [pm_eq n f _ _ hk]
      have e2 : (a * a % n) ^ (k / 2) % n = a ^ (2 * (k / 2)) % n := by
        rw [powmod, Nat.pow_mul, Nat.pow_two]
      by_cases o : k % 2 = 1
      · rw [if_pos o, e2]
        rw [Nat.mul_mod, Nat.mod_mod, ← Nat.mul_mod, Nat.mul_comm, ← Nat.pow_succ]
        congr 2
        omega
      · rw [if_neg o, e2]
        congr 2
        omega
theorem exists_prime (n : Nat) (h : 2 ≤ n) : ∃ r, PrimeN r ∧ r ∣ n := by
  induction n using Nat.strongRecOn with
  | ind n ih =>
    by_cases hp : ∀ d, d ∣ n → d = 1 ∨ d = n
    · exact ⟨n, ⟨h, hp⟩, Nat.dvd_refl n⟩
    · obtain ⟨d, hd⟩ := Classical.not_forall.mp hp
      have hd' := Classical.not_imp.mp hd
      have d0 : 0 < d := Nat.pos_of_dvd_of_pos hd'.1 (by omega)
      have dl := Nat.le_of_dvd (by omega) hd'.1
      have h12 := not_or.mp hd'.2
      obtain ⟨r, h1, h2⟩ := ih d (by omega) (by omega)
      exact ⟨r, h1, Nat.dvd_trans h2 hd'.1⟩
theorem pow_one_of {a r x k : Nat} (hr : 2 ≤ r) (h : a ^ x % r = 1) : a ^ (x * k) % r = 1 := by
  rw [Nat.pow_mul, ← powmod, h, Nat.one_pow]
  exact Nat.mod_eq_of_lt (by omega)
theorem pow_one_gcd {a r : Nat} (hr : 2 ≤ r) : ∀ x y, a ^ x % r = 1 → a ^ y % r = 1 → a ^ (Nat.gcd x y) % r = 1 := by
  intro x y
  induction x, y using Nat.gcd.induction with
  | H0 y => intro _ h; rwa [Nat.gcd_zero_left]
  | H1 x y hx ih =>
    intro h1 h2
    rw [Nat.gcd_rec]
    refine ih ?_ h1
    have e : y = x * (y / x) + y % x := (Nat.div_add_mod y x).symm
    rw [e, Nat.pow_add, Nat.mul_mod, pow_one_of hr h1, Nat.one_mul, Nat.mod_mod] at h2
    exact h2
theorem prime_of_pr {q : Nat} (hq : PrimeN q) : ∀ qs : List Nat, (∀ x ∈ qs, PrimeN x) → q ∣ pr qs → q ∈ qs
  | [], _, h => by
    have := Nat.le_of_dvd (by decide) h
    have := hq.1
    have e : pr [] = 1 := rfl
    omega
  | x :: qs, hx, h => by
    rcases hq.euclid (show q ∣ x * pr qs from h) with h | h
    · rcases (hx x List.mem_cons_self).2 q h with h | h
      · have := hq.1; omega
      · rw [h]; exact List.mem_cons_self
    · exact List.mem_cons_of_mem _ (prime_of_pr hq qs (fun y hy => hx y (List.mem_cons_of_mem _ hy)) h)
/-- shown by a number of full order -/
theorem lucas {n a : Nat} (qs : List Nat) (hn : 2 ≤ n) (hq : ∀ q ∈ qs, PrimeN q) (he : pr qs = n - 1) (h1 : a ^ (n - 1) % n = 1) (h2 : ∀ q ∈ qs, Nat.gcd (a ^ ((n - 1) / q) % n + n - 1) n = 1) : PrimeN n := by
  obtain ⟨r, hr, hrn⟩ := exists_prime n hn
  have r2 := hr.1
  have modr : ∀ k, a ^ k % n % r = a ^ k % r := fun k => Nat.mod_mod_of_dvd _ hrn
  have hm : a ^ (n - 1) % r = 1 := by
    rw [← modr, h1]
    exact Nat.mod_eq_of_lt (by omega)
  have har : ¬ r ∣ a := fun z => by
    have e : a ^ (n - 1) = a ^ (n - 2) * a := by rw [← Nat.pow_succ]; congr 1; omega
    have : r ∣ a ^ (n - 1) := by rw [e]; exact Nat.dvd_trans z (Nat.dvd_mul_left _ _)
    have := Nat.mod_eq_zero_of_dvd this
    omega
  have hf := fermatN hr har
  have hg := pow_one_gcd r2 _ _ hf hm
  have gd : Nat.gcd (r - 1) (n - 1) ∣ n - 1 := Nat.gcd_dvd_right _ _
  by_cases eg : Nat.gcd (r - 1) (n - 1) = n - 1
  · have : n - 1 ∣ r - 1 := eg ▸ Nat.gcd_dvd_left _ _
    have := Nat.le_of_dvd (by omega) this
    have := Nat.le_of_dvd (by omega) hrn
    have : r = n := by omega
    rwa [← this]
  · exfalso
    obtain ⟨k, hk⟩ := gd
    have k2 : 2 ≤ k := by
      have : k ≠ 0 := fun z => by rw [z, Nat.mul_zero] at hk; omega
      have : k ≠ 1 := fun z => by rw [z, Nat.mul_one] at hk; exact eg hk.symm
      omega
    obtain ⟨q, hqp, j, hj⟩ := exists_prime k k2
    have hqm : q ∈ qs := prime_of_pr hqp qs hq (by
      rw [he, hk, hj]
      exact ⟨Nat.gcd (r - 1) (n - 1) * j, by grind⟩)
    have e : (n - 1) / q = Nat.gcd (r - 1) (n - 1) * j := by
      have : n - 1 = q * (Nat.gcd (r - 1) (n - 1) * j) := by
        have : k = q * j := hj
        rw [this] at hk
        have e2 : Nat.gcd (r - 1) (n - 1) * (q * j) = q * (Nat.gcd (r - 1) (n - 1) * j) := by grind
        rw [← e2]
        exact hk
      generalize Nat.gcd (r - 1) (n - 1) * j = t at *
      rw [this]
      exact Nat.mul_div_cancel_left _ (by have := hqp.1; omega)
    have hone : a ^ ((n - 1) / q) % r = 1 := by rw [e]; exact pow_one_of r2 hg
    have hc := h2 q hqm
    have hx : r ∣ a ^ ((n - 1) / q) % n + n - 1 := by
      have h3 : (a ^ ((n - 1) / q) % n) % r = 1 := by rw [modr, hone]
      have h4 := Nat.div_add_mod (a ^ ((n - 1) / q) % n) r
      rw [h3] at h4
      obtain ⟨c, hc⟩ := hrn
      refine ⟨a ^ ((n - 1) / q) % n / r + c, ?_⟩
      rw [Nat.mul_add, ← hc]
      omega
    have := Nat.dvd_gcd hx hrn
    rw [hc] at this
    have := Nat.le_of_dvd (by decide) this
    omega
theorem prime_101 : PrimeN 101 := trialB_ok (m := 11) (by decide +kernel)
theorem prime_65537 : PrimeN 65537 := trialB_ok (m := 257) (by decide +kernel)
theorem prime_m31 : PrimeN 2147483647 := by
  refine lucas (a := 7) [2, 3, 3, 7, 11, 31, 151, 331] (by decide) (fun q hq => ?_) (by decide +kernel) ?_ (fun q hq => ?_)
  · have : ∀ q ∈ [2, 3, 3, 7, 11, 31, 151, 331], trialB q 20 = true := by decide +kernel
    exact trialB_ok (this q hq)
  · rw [← pm_eq _ 64 _ _ (by decide)]
    decide +kernel
  · have : ∀ q ∈ [2, 3, 3, 7, 11, 31, 151, 331], Nat.gcd (pm 2147483647 64 7 (2147483646 / q) + 2147483647 - 1) 2147483647 = 1 := by decide +kernel
    rw [← pm_eq _ 64 _ _ (Nat.lt_of_le_of_lt (Nat.div_le_self _ _) (by decide))]
    exact this q hq
theorem prime_m61 : PrimeN 2305843009213693951 := by
  refine lucas (a := 37) [2, 3, 3, 5, 5, 7, 11, 13, 31, 41, 61, 151, 331, 1321] (by decide) (fun q hq => ?_) (by decide +kernel) ?_ (fun q hq => ?_)
  · have : ∀ q ∈ [2, 3, 3, 5, 5, 7, 11, 13, 31, 41, 61, 151, 331, 1321], trialB q 40 = true := by decide +kernel
    exact trialB_ok (this q hq)
  · rw [← pm_eq _ 64 _ _ (by decide)]
    decide +kernel
  · have : ∀ q ∈ [2, 3, 3, 5, 5, 7, 11, 13, 31, 41, 61, 151, 331, 1321], Nat.gcd (pm 2305843009213693951 64 37 (2305843009213693950 / q) + 2305843009213693951 - 1) 2305843009213693951 = 1 := by decide +kernel
    rw [← pm_eq _ 64 _ _ (Nat.lt_of_le_of_lt (Nat.div_le_self _ _) (by decide))]
    exact this q hq
end MB
/-! a prime passes every base; a prime in every stretch of 2000 numbers up to 30000 -/
namespace MB
theorem sq_one {p x : Int} (hp : PrimeI p) (h : x * x % p = 1) (x0 : 0 ≤ x) (x1 : x < p) : x = 1 ∨ x = p - 1 := by
  have p2 := hp.1
  have hd : p ∣ (x - 1) * (x + 1) := by
    refine Int.dvd_of_emod_eq_zero ?_
    rw [show (x - 1) * (x + 1) = x * x - 1 by grind, Int.sub_emod, h, Int.emod_eq_of_lt (by omega) (by omega : (1 : Int) < p), Int.sub_self, Int.zero_emod]
  rcases (PrimeN.of hp).euclid (a := (x - 1).natAbs) (b := (x + 1).natAbs) (by
    rw [← Int.natAbs_mul]
    have := Int.natAbs_dvd_natAbs.mpr hd
    rwa [show p.natAbs = p.toNat by omega] at this) with z | z
  · by_cases h1 : (x - 1).natAbs = 0
    · left; omega
    · have := Nat.le_of_dvd (by omega) z
      by_cases h0 : x = 0
      · subst h0
        rw [Int.zero_mul, Int.zero_emod] at h
        cases h
      · omega
  · have := Nat.le_of_dvd (by omega) z
    right; omega
theorem passR_prime {n b : Int} (hp : PrimeI n) (n3 : 3 ≤ n) (hb : ¬ n ∣ b) {odd twos : Nat} (e : n - 1 = odd * 2 ^ twos) : passR n b odd twos = true := by
  have n0 : 0 < n := by omega
  have hf := fermat hp hb
  have en : (n - 1).toNat = odd * 2 ^ twos := by
    have : (((n - 1).toNat : Nat) : Int) = ((odd * 2 ^ twos : Nat) : Int) := by
      rw [Int.toNat_of_nonneg (by omega), e, Int.natCast_mul, two_pow_cast]
    omega
  rw [en] at hf
  have key : ∀ t, t ≤ twos → b ^ (odd * 2 ^ t) % n = 1 → passR n b odd twos = true := by
    intro t
    induction t with
    | zero =>
      intro _ h
      rw [Nat.pow_zero, Nat.mul_one] at h
      unfold passR
      rw [h]
      rfl
    | succ t ih =>
      intro ht h
      have e2 : odd * 2 ^ (t + 1) = odd * 2 ^ t + odd * 2 ^ t := by rw [Nat.pow_succ, ← Nat.mul_assoc]; omega
      rw [e2, Int.pow_add, Int.mul_emod] at h
      rcases sq_one hp h (Int.emod_nonneg _ (by omega)) (Int.emod_lt_of_pos _ n0) with z | z
      · exact ih (by omega) z
      · unfold passR
        cases t with
        | zero =>
          rw [Nat.pow_zero, Nat.mul_one] at z
          rw [z, beq_self_eq_true, Bool.or_true]
          rfl
        | succ t =>
          rw [Bool.or_eq_true]
          right
          rw [List.any_eq_true]
          refine ⟨t, List.mem_range.mpr (by omega), ?_⟩
          rw [z, beq_self_eq_true]
  exact key twos (Nat.le_refl _) hf
def near : List Nat := [1999, 3989, 5987, 7963, 9949, 11941, 13933, 15923, 17923, 19919, 21911, 23909, 25903, 27901, 29881, 31873]
theorem near_ok : near.all (fun q => trialB q 180) = true := by decide +kernel
theorem near_gap {n : Nat} (h : n ≤ 30000) : ∃ q ∈ near, n ≤ q ∧ q < n + 2000 := by
  have : n ≤ 1999 ∨ 1999 < n ∧ n ≤ 3989 ∨ 3989 < n ∧ n ≤ 5987 ∨ 5987 < n ∧ n ≤ 7963 ∨ 7963 < n ∧ n ≤ 9949 ∨ 9949 < n ∧ n ≤ 11941 ∨ 11941 < n ∧ n ≤ 13933 ∨ 13933 < n ∧ n ≤ 15923 ∨ 15923 < n ∧ n ≤ 17923 ∨ 17923 < n ∧ n ≤ 19919 ∨ 19919 < n ∧ n ≤ 21911 ∨ 21911 < n ∧ n ≤ 23909 ∨ 23909 < n ∧ n ≤ 25903 ∨ 25903 < n ∧ n ≤ 27901 ∨ 27901 < n ∧ n ≤ 29881 ∨ 29881 < n := by omega
  rcases this with h | h | h | h | h | h | h | h | h | h | h | h | h | h | h | h
  · exact ⟨1999, by decide, by omega, by omega⟩
  · exact ⟨3989, by decide, by omega, by omega⟩
  · exact ⟨5987, by decide, by omega, by omega⟩
  · exact ⟨7963, by decide, by omega, by omega⟩
  · exact ⟨9949, by decide, by omega, by omega⟩
  · exact ⟨11941, by decide, by omega, by omega⟩
  · exact ⟨13933, by decide, by omega, by omega⟩
  · exact ⟨15923, by decide, by omega, by omega⟩
  · exact ⟨17923, by decide, by omega, by omega⟩
  · exact ⟨19919, by decide, by omega, by omega⟩
  · exact ⟨21911, by decide, by omega, by omega⟩
  · exact ⟨23909, by decide, by omega, by omega⟩
  · exact ⟨25903, by decide, by omega, by omega⟩
  · exact ⟨27901, by decide, by omega, by omega⟩
  · exact ⟨29881, by decide, by omega, by omega⟩
  · exact ⟨31873, by decide, by omega, by omega⟩
theorem near_prime {n : Int} (h0 : 0 ≤ n) (h : n ≤ 30000) : ∃ q : Int, PrimeI q ∧ n ≤ q ∧ q < n + 2000 := by
  obtain ⟨q, hq, h1, h2⟩ := near_gap (n := n.toNat) (by omega)
  exact ⟨q, (trialB_ok (List.all_eq_true.mp near_ok q hq)).toI, by omega, by omega⟩
end MB
/-! the factors of a number -/
namespace MB
def prodP : List (Int × Int) → Int
  | [] => 1
  | P :: L => P.1 ^ P.2.toNat * prodP L
structure Facs (n : Int) (L : List (Int × Int)) : Prop where
  pr : ∀ P ∈ L, PrimeI P.1 ∧ 0 < P.2
  asc : L.Pairwise fun P R => P.1 < R.1
  prod : prodP L = n
theorem prodP_append (L : List (Int × Int)) : ∀ K : List (Int × Int), prodP (K ++ L) = prodP K * prodP L
  | [] => by show prodP L = 1 * prodP L; rw [Int.one_mul]
  | P :: K => by
    show P.1 ^ P.2.toNat * prodP (K ++ L) = P.1 ^ P.2.toNat * prodP K * prodP L
    rw [prodP_append L K, Int.mul_assoc]
theorem prodP_one (q e : Int) : prodP [(q, e)] = q ^ e.toNat := by
  show q ^ e.toNat * 1 = _
  rw [Int.mul_one]
/-- numbers whose factors are found: what is left behind the small ones is a prime -/
def Easy (n : Int) : Prop := ∀ m : Int, 1 < m → m ∣ n → (∀ d : Int, 2 ≤ d → d < 1000 → m % d ≠ 0) → PrimeI m
theorem easy_small {n : Int} (n0 : 0 < n) (h : n < 1000000) : Easy n := fun m m1 hd hno => by
  have := Int.le_of_dvd n0 hd
  exact prime_of_trial 1000 (by omega) (by omega) (by decide) fun d d2 d3 _ => hno d d2 d3
abbrev itL (L : List (Int × Int)) : List (L2.Key × DL.D) := L.map fun P => ((Sum.inl P.1 : L2.Key), PySem.PyData.int P.2)
theorem itL_no {q : Int} : ∀ {L : List (Int × Int)}, (∀ P ∈ L, P.1 < q) → DL.dAt (itL L) (.inl q) = none
  | [], _ => rfl
  | P :: L, h => by
    have h1 := h P (List.mem_cons_self ..)
    show (if (Sum.inl P.1 : L2.Key) = .inl q then some _ else DL.dAt (itL L) (.inl q)) = none
    rw [if_neg fun z => by injection z with z; omega]
    exact itL_no fun R hR => h R (List.mem_cons_of_mem _ hR)
/-- the factors so far, and a prime e times -/
def withE (L : List (Int × Int)) (q : Int) (e : Nat) : List (Int × Int) := if e = 0 then L else L ++ [(q, (e : Int))]
theorem withE_at {q : Int} (e : Nat) : ∀ {L : List (Int × Int)}, (∀ P ∈ L, P.1 < q) → (DL.dAt (itL (withE L q e)) (.inl q)).getD (.int 0) = .int e := by
  intro L h
  unfold withE
  by_cases h0 : e = 0
  · rw [if_pos h0, itL_no h, h0]
    rfl
  · rw [if_neg h0]
    have : itL (L ++ [(q, (e : Int))]) = itL L ++ [(.inl q, .int e)] := List.map_append
    rw [this, DL.dAt_snoc _ _ _ _ (itL_no h), if_pos rfl]
    rfl
theorem dRep_snoc {q : Int} {x d : DL.D} : ∀ {L : List (Int × Int)}, (∀ P ∈ L, P.1 < q) → DL.dRep (itL L ++ [(.inl q, x)]) (.inl q) d = itL L ++ [(.inl q, d)]
  | [], _ => by
    show [if (Sum.inl q : L2.Key) = .inl q then ((Sum.inl q : L2.Key), d) else (.inl q, x)] = [(.inl q, d)]
    rw [if_pos rfl]
  | P :: L, h => by
    have h1 := h P (List.mem_cons_self ..)
    show (if (Sum.inl P.1 : L2.Key) = .inl q then ((Sum.inl P.1 : L2.Key), d) else (.inl P.1, .int P.2)) :: DL.dRep (itL L ++ [(.inl q, x)]) (.inl q) d = _
    rw [if_neg fun z => by injection z with z; omega, dRep_snoc fun R hR => h R (List.mem_cons_of_mem _ hR)]
    rfl
theorem withE_put {q : Int} (e : Nat) {L : List (Int × Int)} (h : ∀ P ∈ L, P.1 < q) : DL.dSet (itL (withE L q e)) (.inl q) (.int ((e : Int) + 1)) = itL (withE L q (e + 1)) := by
  have e1 : itL (withE L q (e + 1)) = itL L ++ [(.inl q, .int ((e : Int) + 1))] := by
    unfold withE
    rw [if_neg (by omega)]
    exact List.map_append
  rw [e1]
  unfold DL.dSet
  by_cases h0 : e = 0
  · subst h0
    rw [show withE L q 0 = L from rfl, itL_no h, if_neg (by decide)]
  · have e2 : itL (withE L q e) = itL L ++ [(.inl q, .int e)] := by
      unfold withE
      rw [if_neg h0]
      exact List.map_append
    rw [e2, DL.dAt_snoc _ _ _ _ (itL_no h), if_pos rfl, if_pos (show (some (PySem.PyData.int (e : Int))).isSome = true from rfl), dRep_snoc h]
theorem prodP_withE (L : List (Int × Int)) (q : Int) (e : Nat) : prodP (withE L q e) = prodP L * q ^ e := by
  unfold withE
  by_cases h0 : e = 0
  · rw [if_pos h0, h0, Int.pow_zero, Int.mul_one]
  · rw [if_neg h0, prodP_append, prodP_one, Int.toNat_natCast]
theorem sortP_one {L M : List (Int × Int)} (h : M.Perm L) (hM : M.Pairwise DL.leP) (hL : L.Pairwise fun P R => P.1 < R.1) : M = L := by
  have hL' : L.Pairwise DL.leP := hL.imp fun h => .inl h
  refine List.Perm.eq_of_pairwise (le := DL.leP) (fun P R _ _ h1 h2 => ?_) hM hL' h
  rcases h1 with h1 | ⟨h1, h3⟩
  · rcases h2 with h2 | ⟨h2, _⟩
    · omega
    · omega
  · rcases h2 with h2 | ⟨_, h4⟩
    · omega
    · exact Prod.ext h1 (by omega)
/-- a prime that divides a number of factors is one of them -/
theorem facs_mem {q : Int} (hq : PrimeI q) : ∀ {L : List (Int × Int)}, (∀ P ∈ L, PrimeI P.1 ∧ 0 < P.2) → q ∣ prodP L → ∃ P ∈ L, P.1 = q
  | [], _, h => by
    have := Int.le_of_dvd (by decide) (show q ∣ 1 from h)
    have := hq.1
    omega
  | P :: L, hp, h => by
    have hN := PrimeN.of hq
    have h : q ∣ P.1 ^ P.2.toNat * prodP L := h
    have h' : q.toNat ∣ (P.1 ^ P.2.toNat).natAbs * (prodP L).natAbs := by
      rw [← Int.natAbs_mul]
      have := Int.natAbs_dvd_natAbs.mpr h
      rwa [show q.natAbs = q.toNat by have := hq.1; omega] at this
    rcases hN.euclid h' with z | z
    · have hp1 := (hp P (List.mem_cons_self ..)).1
      have key : ∀ k : Nat, q.toNat ∣ (P.1 ^ k).natAbs → q.toNat ∣ P.1.natAbs := by
        intro k
        induction k with
        | zero =>
          intro h
          rw [Int.pow_zero] at h
          have := Nat.le_of_dvd (by decide) h
          have := hq.1
          omega
        | succ k ih =>
          intro h
          rw [Int.pow_succ, Int.natAbs_mul] at h
          rcases hN.euclid h with y | y
          · exact ih y
          · exact y
      have hd := key _ z
      have hP := hp1.1
      have hd2 : q ∣ P.1 := by
        have : (q.toNat : Int) ∣ (P.1.natAbs : Int) := Int.natCast_dvd_natCast.mpr hd
        rwa [Int.toNat_of_nonneg (by have := hq.1; omega), Int.natAbs_of_nonneg (by omega)] at this
      refine ⟨P, List.mem_cons_self .., ?_⟩
      have hle := Int.le_of_dvd (by omega) hd2
      refine Classical.byContradiction fun ne => ?_
      exact hp1.2 q hq.1 (by omega) (Int.emod_eq_zero_of_dvd hd2)
    · have hd2 : q ∣ prodP L := by
        have : (q.toNat : Int) ∣ ((prodP L).natAbs : Int) := Int.natCast_dvd_natCast.mpr z
        rw [Int.toNat_of_nonneg (by have := hq.1; omega)] at this
        exact Int.dvd_natAbs.mp this
      obtain ⟨R, hR, e⟩ := facs_mem hq (fun R hR => hp R (List.mem_cons_of_mem _ hR)) hd2
      exact ⟨R, List.mem_cons_of_mem _ hR, e⟩
theorem facs_dvd : ∀ {L : List (Int × Int)}, (∀ P ∈ L, PrimeI P.1 ∧ 0 < P.2) → ∀ P ∈ L, P.1 ∣ prodP L
  | R :: L, h, P, hP => by
    rcases List.mem_cons.mp hP with rfl | hP
    · show P.1 ∣ P.1 ^ P.2.toNat * _
      obtain ⟨k, hk⟩ : ∃ k, P.2.toNat = k + 1 := ⟨P.2.toNat - 1, by have := (h P (List.mem_cons_self ..)).2; omega⟩
      rw [hk, Int.pow_succ, Int.mul_assoc, Int.mul_left_comm]
      exact Int.dvd_mul_right _ _
    · exact Int.dvd_trans (facs_dvd (fun Q hQ => h Q (List.mem_cons_of_mem _ hQ)) P hP) (Int.dvd_mul_left _ _)
/-- the primes of a number -/
theorem Facs.mem {n q : Int} {L : List (Int × Int)} (h : Facs n L) : (∃ P ∈ L, P.1 = q) ↔ PrimeI q ∧ q ∣ n := by
  constructor
  · rintro ⟨P, hP, rfl⟩
    exact ⟨(h.pr P hP).1, h.prod ▸ facs_dvd h.pr P hP⟩
  · rintro ⟨hq, hd⟩
    exact facs_mem hq h.pr (h.prod.symm ▸ hd)
end MB
/-! rows of coefficients modulo p: a commutative ring -/
namespace MS
/-- products of rows -/
def conv : (Nat → Int) → (Nat → Int) → Nat → Int
  | u, v, 0 => u 0 * v 0
  | u, v, k + 1 => u 0 * v (k + 1) + conv (fun i => u (i + 1)) v k
theorem conv_add (u v w : Nat → Int) : ∀ k, conv u (fun i => v i + w i) k = conv u v k + conv u w k := by
  intro k
  induction k generalizing u with
  | zero => show u 0 * (v 0 + w 0) = u 0 * v 0 + u 0 * w 0; grind
  | succ k ih =>
    show u 0 * (v (k + 1) + w (k + 1)) + conv _ _ k = u 0 * v (k + 1) + conv _ _ k + (u 0 * w (k + 1) + conv _ _ k)
    rw [ih]
    grind
theorem conv_succ (u v : Nat → Int) : ∀ k, conv u v (k + 1) = v 0 * u (k + 1) + conv u (fun i => v (i + 1)) k := by
  intro k
  induction k generalizing u with
  | zero =>
    show u 0 * v 1 + u 1 * v 0 = v 0 * u 1 + u 0 * v 1
    grind
  | succ k ih =>
    show u 0 * v (k + 2) + conv (fun i => u (i + 1)) v (k + 1) = v 0 * u (k + 2) + (u 0 * v (k + 2) + conv (fun i => u (i + 1)) (fun i => v (i + 1)) k)
    rw [ih]
    grind
theorem conv_comm (u v : Nat → Int) : ∀ k, conv u v k = conv v u k := by
  intro k
  induction k generalizing u v with
  | zero => show u 0 * v 0 = v 0 * u 0; grind
  | succ k ih =>
    rw [conv_succ]
    show v 0 * u (k + 1) + conv u (fun i => v (i + 1)) k = v 0 * u (k + 1) + conv (fun i => v (i + 1)) u k
    rw [ih]
theorem conv_smul (a : Int) (u v : Nat → Int) : ∀ k, conv (fun i => a * u i) v k = a * conv u v k := by
  intro k
  induction k generalizing u with
  | zero => show a * u 0 * v 0 = a * (u 0 * v 0); grind
  | succ k ih =>
    show a * u 0 * v (k + 1) + conv (fun i => a * u (i + 1)) v k = a * (u 0 * v (k + 1) + conv (fun i => u (i + 1)) v k)
    rw [ih (fun i => u (i + 1))]
    grind
theorem conv_addl (u v w : Nat → Int) (k : Nat) : conv (fun i => u i + v i) w k = conv u w k + conv v w k := by
  rw [conv_comm, conv_add, conv_comm w u, conv_comm w v]
theorem conv_assoc (u v w : Nat → Int) : ∀ k, conv (conv u v) w k = conv u (conv v w) k := by
  intro k
  induction k generalizing u with
  | zero => show u 0 * v 0 * w 0 = u 0 * (v 0 * w 0); grind
  | succ k ih =>
    show u 0 * v 0 * w (k + 1) + conv (fun i => conv u v (i + 1)) w k = u 0 * (v 0 * w (k + 1) + conv (fun i => v (i + 1)) w k) + conv (fun i => u (i + 1)) (conv v w) k
    have e : (fun i => conv u v (i + 1)) = fun i => (fun i => u 0 * v (i + 1)) i + conv (fun i => u (i + 1)) v i := by
      funext i
      rfl
    rw [e, conv_addl, conv_smul (u 0) (fun i => v (i + 1)) w k, ih]
    grind
theorem conv_mod {p : Int} {u u' v v' : Nat → Int} (h : ∀ k, u k % p = u' k % p) (h2 : ∀ k, v k % p = v' k % p) : ∀ k, conv u v k % p = conv u' v' k % p := by
  intro k
  induction k generalizing u u' with
  | zero => exact MB.cong_mul (h 0) (h2 0)
  | succ k ih => exact MB.cong_add (MB.cong_mul (h 0) (h2 (k + 1))) (ih fun i => h (i + 1))
/-- a row modulo p -/
structure Ser (p : Int) where
  c : Nat → Int
  n : ∀ k, c k % p = c k
theorem Ser.ext {p : Int} {a b : Ser p} (h : ∀ k, a.c k = b.c k) : a = b := by
  cases a; cases b
  congr
  funext k
  exact h k
variable {p : Int}
def mk (p : Int) (u : Nat → Int) : Ser p := ⟨fun k => u k % p, fun k => Int.emod_emod_of_dvd _ (Int.dvd_refl p)⟩
theorem mk_eq {u v : Nat → Int} (h : ∀ k, u k % p = v k % p) : mk p u = mk p v := Ser.ext h
theorem eq_mk {u v : Nat → Int} (h : mk p u = mk p v) (k : Nat) : u k % p = v k % p := congrArg (fun a => a.c k) h
theorem mk_c (a : Ser p) : mk p a.c = a := Ser.ext a.n
def cst (n : Int) : Nat → Int := fun k => if k = 0 then n else 0
instance : Add (Ser p) := ⟨fun a b => mk p fun k => a.c k + b.c k⟩
instance : Mul (Ser p) := ⟨fun a b => mk p (conv a.c b.c)⟩
instance : Neg (Ser p) := ⟨fun a => mk p fun k => -a.c k⟩
instance : Sub (Ser p) := ⟨fun a b => a + -b⟩
instance : NatCast (Ser p) := ⟨fun n => mk p (cst n)⟩
instance : IntCast (Ser p) := ⟨fun n => mk p (cst n)⟩
instance (n : Nat) : OfNat (Ser p) n := ⟨mk p (cst n)⟩
instance : SMul Nat (Ser p) := ⟨fun n a => (n : Ser p) * a⟩
instance : SMul Int (Ser p) := ⟨fun n a => (n : Ser p) * a⟩
def npw (a : Ser p) : Nat → Ser p
  | 0 => 1
  | n + 1 => npw a n * a
instance : HPow (Ser p) Nat (Ser p) := ⟨npw⟩
theorem mk_add (u v : Nat → Int) : mk p (fun k => u k + v k) = mk p u + mk p v := mk_eq fun k => by
  show _ = (u k % p + v k % p) % p
  exact Int.add_emod ..
theorem mk_mul (u v : Nat → Int) : mk p (conv u v) = mk p u * mk p v := mk_eq fun k => conv_mod (fun k => (Int.emod_emod_of_dvd _ (Int.dvd_refl p)).symm) (fun k => (Int.emod_emod_of_dvd _ (Int.dvd_refl p)).symm) k
theorem mk_neg (u : Nat → Int) : mk p (fun k => -u k) = -mk p u := mk_eq fun k => by
  show _ = (-(u k % p)) % p
  have := MB.cong_mul (a := -1) (b := -1) (m := p) rfl (Int.emod_emod_of_dvd (u k) (Int.dvd_refl p)).symm
  rw [show -1 * u k = -u k by omega, show -1 * (u k % p) = -(u k % p) by omega] at this
  exact this
theorem rep (a : Ser p) : ∃ u, a = mk p u := ⟨a.c, (mk_c a).symm⟩
theorem add_comm' (a b : Ser p) : a + b = b + a := mk_eq fun k => by rw [Int.add_comm]
theorem conv_cst (n : Int) (u : Nat → Int) (k : Nat) : conv (cst n) u k = n * u k := by
  cases k with
  | zero => rfl
  | succ k =>
    have z : ∀ k, conv (fun _ => 0) u k = 0 := by
      intro k
      induction k with
      | zero => exact Int.zero_mul _
      | succ k ih => show 0 * _ + conv _ _ k = 0; rw [ih]; simp
    show n * u (k + 1) + conv (fun i => cst n (i + 1)) u k = n * u (k + 1)
    have : (fun i => cst n (i + 1)) = fun _ => 0 := by funext i; rfl
    rw [this, z, Int.add_zero]
theorem mul_comm' (a b : Ser p) : a * b = b * a := by
  obtain ⟨v, rfl⟩ := rep b
  obtain ⟨u, rfl⟩ := rep a
  rw [← mk_mul, ← mk_mul]
  exact mk_eq fun k => by rw [conv_comm]
theorem mul_one' (a : Ser p) : a * 1 = a := by
  obtain ⟨u, rfl⟩ := rep a
  show mk p u * mk p (cst 1) = mk p u
  rw [← mk_mul]
  exact mk_eq fun k => by rw [conv_comm, conv_cst, Int.one_mul]
theorem dist' (a b c : Ser p) : a * (b + c) = a * b + a * c := by
  obtain ⟨w, rfl⟩ := rep c
  obtain ⟨v, rfl⟩ := rep b
  obtain ⟨u, rfl⟩ := rep a
  rw [← mk_mul, ← mk_mul, ← mk_add, ← mk_mul, ← mk_add]
  exact mk_eq fun k => by rw [conv_add]
theorem zero_mul' (a : Ser p) : 0 * a = 0 := by
  obtain ⟨u, rfl⟩ := rep a
  show mk p (cst 0) * mk p u = mk p (cst 0)
  rw [← mk_mul]
  exact mk_eq fun k => by
    rw [conv_cst, Int.zero_mul]
    show _ = cst 0 k % p
    rw [show cst 0 k = 0 by unfold cst; split <;> rfl]
instance : Lean.Grind.CommRing (Ser p) where
  add_zero a := by
    obtain ⟨u, rfl⟩ := rep a
    show mk p u + mk p (cst 0) = mk p u
    rw [← mk_add]
    refine mk_eq fun k => ?_
    show (u k + cst 0 k) % p = _
    rw [show cst 0 k = 0 by unfold cst; split <;> rfl, Int.add_zero]
  add_comm := add_comm'
  add_assoc a b c := by
    obtain ⟨w, rfl⟩ := rep c
    obtain ⟨v, rfl⟩ := rep b
    obtain ⟨u, rfl⟩ := rep a
    rw [← mk_add, ← mk_add, ← mk_add, ← mk_add]
    exact mk_eq fun k => by rw [Int.add_assoc]
  mul_assoc a b c := by
    obtain ⟨w, rfl⟩ := rep c
    obtain ⟨v, rfl⟩ := rep b
    obtain ⟨u, rfl⟩ := rep a
    rw [← mk_mul, ← mk_mul, ← mk_mul, ← mk_mul]
    exact mk_eq fun k => by rw [conv_assoc]
  mul_comm := mul_comm'
  mul_one := mul_one'
  one_mul a := (mul_comm' 1 a).trans (mul_one' a)
  left_distrib := dist'
  right_distrib a b c := by rw [mul_comm', dist', mul_comm' c a, mul_comm' c b]
  zero_mul := zero_mul'
  mul_zero a := (mul_comm' a 0).trans (zero_mul' a)
  pow_zero a := rfl
  pow_succ a n := rfl
  ofNat_succ n := by
    show mk p (cst ((n + 1 : Nat) : Int)) = mk p (cst n) + mk p (cst 1)
    rw [← mk_add]
    refine mk_eq fun k => ?_
    congr 1
    unfold cst
    split
    · exact Int.natCast_succ n
    · rfl
  ofNat_eq_natCast n := rfl
  nsmul_eq_natCast_mul n a := rfl
  neg_add_cancel a := by
    obtain ⟨u, rfl⟩ := rep a
    show -mk p u + mk p u = mk p (cst 0)
    rw [← mk_neg, ← mk_add]
    refine mk_eq fun k => ?_
    rw [show cst 0 k = 0 by unfold cst; split <;> rfl]
    congr 1
    omega
  sub_eq_add_neg a b := rfl
  neg_zsmul n a := by
    obtain ⟨u, rfl⟩ := rep a
    show mk p (cst (-n)) * mk p u = -(mk p (cst n) * mk p u)
    rw [← mk_mul, ← mk_mul, ← mk_neg]
    refine mk_eq fun k => ?_
    rw [conv_cst, conv_cst]
    congr 1
    grind
  zsmul_natCast_eq_nsmul n a := rfl
  intCast_ofNat n := rfl
  intCast_neg n := by
    show mk p (cst (-n)) = -mk p (cst n)
    rw [← mk_neg]
    refine mk_eq fun k => ?_
    congr 1
    unfold cst
    split <;> rfl
end MS
/-! polynomials modulo p as lists of coefficients -/
namespace MS
variable {p : Int}
def co (f : List Int) : Nat → Int := fun k => f.getD k 0
def cl (p : Int) (f : List Int) : Ser p := mk p (co f)
def X (p : Int) : Ser p := mk p fun k => if k = 1 then 1 else 0
def C (p : Int) (a : Int) : Ser p := mk p (cst a)
theorem C_add (a b : Int) : C p (a + b) = C p a + C p b := by
  unfold C
  rw [← mk_add]
  exact mk_eq fun k => by congr 1; unfold cst; split <;> rfl
theorem C_neg (a : Int) : C p (-a) = -C p a := by
  unfold C
  rw [← mk_neg]
  exact mk_eq fun k => by congr 1; unfold cst; split <;> rfl
theorem C_sub (a b : Int) : C p (a - b) = C p a - C p b := by
  rw [Int.sub_eq_add_neg, C_add, C_neg]
  rfl
theorem C_mul (a b : Int) : C p (a * b) = C p a * C p b := by
  unfold C
  rw [← mk_mul]
  exact mk_eq fun k => by rw [conv_cst]; congr 1; unfold cst; split <;> simp
theorem C_zero : C p 0 = 0 := rfl
theorem C_one : C p 1 = 1 := rfl
theorem C_mod {a b : Int} (h : a % p = b % p) : C p a = C p b := mk_eq fun k => by
  unfold cst
  split
  · exact h
  · rfl
theorem C_emod (a : Int) : C p (a % p) = C p a := C_mod (Int.emod_emod_of_dvd _ (Int.dvd_refl p))
theorem C_inj {a b : Int} (h : C p a = C p b) : a % p = b % p := eq_mk h 0
theorem cl_nil : cl p [] = 0 := mk_eq fun k => by unfold cst; split <;> rfl
theorem cl_cons (a : Int) (f : List Int) : cl p (a :: f) = C p a + X p * cl p f := by
  unfold cl C X
  rw [← mk_mul, ← mk_add]
  refine mk_eq fun k => ?_
  congr 1
  cases k with
  | zero =>
    show a = a + 0 * co f 0
    omega
  | succ k =>
    show co f k = 0 + (0 * co f (k + 1) + conv (fun i => if i + 1 = 1 then 1 else 0) (co f) k)
    have : (fun i : Nat => if i + 1 = 1 then (1 : Int) else 0) = cst 1 := by
      funext i
      unfold cst
      by_cases h : i = 0
      · rw [if_pos h, if_pos (by omega)]
      · rw [if_neg h, if_neg (by omega)]
    rw [this, conv_cst]
    omega
theorem cl_snoc (f : List Int) (a : Int) : cl p (f ++ [a]) = cl p f + C p a * X p ^ f.length := by
  induction f with
  | nil =>
    rw [List.nil_append, cl_cons, cl_nil]
    show _ = _ + _ * X p ^ 0
    grind
  | cons b f ih =>
    rw [List.cons_append, cl_cons, cl_cons, ih]
    show _ = _ + _ * X p ^ (f.length + 1)
    grind
theorem cl_set : ∀ (f : List Int) (i : Nat) (v w : Int), f[i]? = some w → cl p (f.set i v) = cl p f + C p (v - w) * X p ^ i
  | [], i, v, w, h => by rw [List.getElem?_nil] at h; cases h
  | a :: f, 0, v, w, h => by
    cases h
    show cl p (v :: f) = _
    rw [cl_cons, cl_cons, C_sub]
    show _ = _ + _ * X p ^ 0
    grind
  | a :: f, i + 1, v, w, h => by
    rw [List.getElem?_cons_succ] at h
    show cl p (a :: f.set i v) = _
    rw [cl_cons, cl_cons, cl_set f i v w h]
    show _ = _ + _ * X p ^ (i + 1)
    grind
theorem cl_zeros : ∀ n : Nat, cl p (List.replicate n 0) = 0
  | 0 => cl_nil
  | n + 1 => by
    rw [List.replicate_succ, cl_cons, cl_zeros n, C_zero]
    grind
theorem co_cons_zero (a : Int) (f : List Int) : co (a :: f) 0 = a := rfl
theorem cl_map_mod : ∀ f : List Int, cl p (f.map fun v => v % p) = cl p f
  | [] => rfl
  | a :: f => by rw [List.map_cons, cl_cons, cl_cons, cl_map_mod f, C_emod]
theorem cl_map_mul (c : Int) : ∀ f : List Int, cl p (f.map fun v => c * v) = C p c * cl p f
  | [] => by rw [List.map_nil, cl_nil]; grind
  | a :: f => by
    rw [List.map_cons, cl_cons, cl_cons, cl_map_mul c f, C_mul]
    grind
theorem cl_app (f g : List Int) : cl p (f ++ g) = cl p f + X p ^ f.length * cl p g := by
  induction f with
  | nil =>
    rw [List.nil_append, cl_nil]
    show _ = _ + X p ^ 0 * _
    grind
  | cons b f ih =>
    rw [List.cons_append, cl_cons, cl_cons, ih]
    show _ = _ + X p ^ (f.length + 1) * _
    grind
/-- no zeros at the end -/
def Ends (f : List Int) : Prop := f.getLast? ≠ some 0
structure NF (p : Int) (f : List Int) : Prop where
  bd : ∀ c ∈ f, 0 ≤ c ∧ c < p
  last : f.getLast? ≠ some 0
theorem NF.nil : NF p [] := ⟨fun c h => (nomatch h), by simp⟩
theorem co_ge {f : List Int} {k : Nat} (h : f.length ≤ k) : co f k = 0 := by
  unfold co
  rw [List.getD_eq_getElem?_getD, List.getElem?_eq_none h]
  rfl
theorem co_lt {f : List Int} {k : Nat} (h : k < f.length) : co f k = f[k] := by
  unfold co
  rw [List.getD_eq_getElem?_getD, List.getElem?_eq_getElem h]
  rfl
theorem NF.cob {f : List Int} (h : NF p f) (p0 : 0 < p) (k : Nat) : 0 ≤ co f k ∧ co f k < p := by
  by_cases hk : k < f.length
  · rw [co_lt hk]; exact h.bd _ (List.getElem_mem hk)
  · rw [co_ge (by omega)]; omega
theorem NF.top {f : List Int} (h : NF p f) (hf : f ≠ []) : MS.co f (f.length - 1) ≠ 0 := by
  have hl : 0 < f.length := List.length_pos_iff.mpr hf
  rw [co_lt (by omega)]
  intro z
  apply h.last
  rw [List.getLast?_eq_getElem?, List.getElem?_eq_getElem (by omega), z]
theorem NF.inj {f g : List Int} (p0 : 0 < p) (hf : NF p f) (hg : NF p g) (h : cl p f = cl p g) : f = g := by
  have e : ∀ k, MS.co f k = MS.co g k := fun k => by
    have := eq_mk h k
    have h1 := hf.cob p0 k
    have h2 := hg.cob p0 k
    rwa [Int.emod_eq_of_lt h1.1 h1.2, Int.emod_eq_of_lt h2.1 h2.2] at this
  have le : ∀ {f g : List Int}, NF p f → (∀ k, MS.co f k = MS.co g k) → f.length ≤ g.length := fun {f g} hf e => by
    apply Nat.le_of_not_lt
    intro z
    have h1 := hf.top (fun y => by rw [y] at z; exact absurd z (Nat.not_lt_zero _))
    rw [e, co_ge (by omega)] at h1
    exact h1 rfl
  apply List.ext_getElem
  · have := le hf e
    have := le hg fun k => (e k).symm
    omega
  · intro i h1 h2
    have := e i
    rwa [co_lt h1, co_lt h2] at this
/-! ### degrees -/
def Dl (a : Ser p) (n : Nat) : Prop := ∀ k, n ≤ k → a.c k = 0
theorem Dl.cl (f : List Int) : Dl (cl p f) f.length := fun k hk => by
  show MS.co f k % p = 0
  rw [co_ge hk, Int.zero_emod]
theorem Dl.mono {a : Ser p} {n m : Nat} (h : Dl a n) (l : n ≤ m) : Dl a m := fun k hk => h k (by omega)
theorem Dl.add {a b : Ser p} {n : Nat} (h : Dl a n) (h2 : Dl b n) : Dl (a + b) n := fun k hk => by
  show (a.c k + b.c k) % p = 0
  rw [h k hk, h2 k hk]
  exact Int.zero_emod p
theorem Dl.neg {a : Ser p} {n : Nat} (h : Dl a n) : Dl (-a) n := fun k hk => by
  show (-a.c k) % p = 0
  rw [h k hk]
  exact Int.zero_emod p
theorem Dl.sub {a b : Ser p} {n : Nat} (h : Dl a n) (h2 : Dl b n) : Dl (a - b) n := h.add h2.neg
theorem Dl.zero {a : Ser p} (h : Dl a 0) : a = 0 := Ser.ext fun k => by
  rw [h k (Nat.zero_le k)]
  show _ = cst 0 k % p
  rw [show cst 0 k = 0 by unfold cst; split <;> rfl, Int.zero_emod]
theorem conv_top {u v : Nat → Int} {n : Nat} (hv : ∀ k, n < k → v k = 0) : ∀ m, (∀ k, m < k → u k = 0) → conv u v (m + n) = u m * v n := by
  intro m
  induction m generalizing u with
  | zero =>
    intro hu
    rw [Nat.zero_add]
    cases n with
    | zero => rfl
    | succ n =>
      show u 0 * v (n + 1) + conv (fun i => u (i + 1)) v n = _
      have : (fun i => u (i + 1)) = fun i => 0 * u i := by
        funext i
        rw [hu (i + 1) (by omega), Int.zero_mul]
      rw [this, conv_smul]
      omega
  | succ m ih =>
    intro hu
    rw [show m + 1 + n = (m + n) + 1 by omega]
    show u 0 * v (m + n + 1) + conv (fun i => u (i + 1)) v (m + n) = _
    rw [ih (u := fun i => u (i + 1)) (fun k hk => hu (k + 1) (by omega)), hv (m + n + 1) (by omega)]
    omega
theorem top_mul {a b : Ser p} {m n : Nat} (ha : Dl a (m + 1)) (hb : Dl b (n + 1)) : (a * b).c (m + n) = a.c m * b.c n % p := by
  show conv a.c b.c (m + n) % p = _
  rw [conv_top (fun k hk => hb k (by omega)) m fun k hk => ha k (by omega)]
theorem Dl.mul {a b : Ser p} : ∀ {m n : Nat}, Dl a (m + 1) → Dl b (n + 1) → Dl (a * b) (m + n + 1) := fun {m n} ha hb k hk => by
  have := top_mul (m := m + (k - (m + n))) (n := n) (ha.mono (by omega)) hb
  rw [show m + (k - (m + n)) + n = k by omega, ha _ (by omega), Int.zero_mul, Int.zero_emod] at this
  exact this
theorem prime_mul {x y : Int} (hp : MB.PrimeI p) (h : x * y % p = 0) : x % p = 0 ∨ y % p = 0 := by
  have hd := Int.dvd_of_emod_eq_zero h
  have hg : (Int.gcd p x : Nat) ∣ p.toNat := by
    have : ((Int.gcd p x : Nat) : Int) ∣ ((p.toNat : Nat) : Int) := by
      rw [show ((p.toNat : Nat) : Int) = p by have := hp.1; omega]
      exact Int.gcd_dvd_left _ _
    exact Int.natCast_dvd_natCast.mp this
  rcases (MB.PrimeN.of hp).2 _ hg with h1 | h1
  · exact .inr (Int.emod_eq_zero_of_dvd (MB.dvd_of_gcd_one h1 hd))
  · left
    have : ((Int.gcd p x : Nat) : Int) ∣ x := Int.gcd_dvd_right _ _
    rw [h1, show ((p.toNat : Nat) : Int) = p by have := hp.1; omega] at this
    exact Int.emod_eq_zero_of_dvd this
/-- a product that is shorter than a factor -/
theorem zero_of_short {D G : Ser p} {n : Nat} (hp : MB.PrimeI p) (hG : Dl G (n + 1)) (ht : G.c n ≠ 0) (h : Dl (D * G) n) : ∀ N, Dl D N → D = 0
  | 0, hD => hD.zero
  | N + 1, hD => by
    refine zero_of_short hp hG ht h N fun k hk => ?_
    by_cases hk' : k = N
    · subst hk'
      have := top_mul hD hG
      rw [h _ (by omega)] at this
      rcases prime_mul hp this.symm with z | z
      · rwa [D.n] at z
      · rw [G.n] at z
        exact absurd z ht
    · exact hD k (by omega)
theorem NF.ctop {f : List Int} (h : NF p f) (p0 : 0 < p) (hf : f ≠ []) : (MS.cl p f).c (f.length - 1) ≠ 0 := by
  show MS.co f (f.length - 1) % p ≠ 0
  have := h.cob p0 (f.length - 1)
  rw [Int.emod_eq_of_lt this.1 this.2]
  exact h.top hf
theorem div_uniq {g q q' r r' : List Int} (hp : MB.PrimeI p) (hg : NF p g) (g0 : g ≠ []) (hr : r.length < g.length) (hr' : r'.length < g.length) (h : cl p q * cl p g + cl p r = cl p q' * cl p g + cl p r') : cl p q = cl p q' ∧ cl p r = cl p r' := by
  have p0 : 0 < p := by have := hp.1; omega
  have e : (cl p q - cl p q') * cl p g = cl p r' - cl p r := by grind
  have hn : g.length = (g.length - 1) + 1 := by omega
  have hG : Dl (cl p g) (g.length - 1 + 1) := by rw [← hn]; exact Dl.cl g
  have hs : Dl ((cl p q - cl p q') * cl p g) (g.length - 1) := by
    rw [e]
    exact ((Dl.cl r').mono (by omega)).sub ((Dl.cl r).mono (by omega))
  have z := zero_of_short hp hG (hg.ctop p0 g0) hs (q.length + q'.length) (((Dl.cl q).mono (by omega)).sub ((Dl.cl q').mono (by omega)))
  have z1 : cl p q = cl p q' := by grind
  refine ⟨z1, ?_⟩
  rw [z1] at h
  grind
/-! ### trimming -/
theorem NF.trim : ∀ (n : Nat) (f : List Int), f.length = n → (∀ c ∈ f, 0 ≤ c ∧ c < p) → ∃ g, NF p g ∧ MS.cl p g = MS.cl p f ∧ g.length ≤ f.length
  | 0, f, hn, _ => by
    have : f = [] := List.eq_nil_of_length_eq_zero hn
    subst this
    exact ⟨[], NF.nil, rfl, Nat.le_refl _⟩
  | n + 1, f, hn, hb => by
    by_cases h : f.getLast? = some 0
    · obtain ⟨g, rfl⟩ := List.getLast?_eq_some_iff.mp h
      rw [List.length_append] at hn
      obtain ⟨g', h1, h2, h3⟩ := NF.trim n g (by simpa using hn) fun c hc => hb c (List.mem_append_left _ hc)
      refine ⟨g', h1, ?_, by rw [List.length_append]; omega⟩
      rw [h2, cl_snoc, C_zero]
      grind
    · exact ⟨f, ⟨hb, h⟩, rfl, Nat.le_refl _⟩
end MS
/-! points of a curve over a prime -/
namespace MC
open MS
variable {p a b : Int}
def inv (p v : Int) : Int := v ^ (p - 2).toNat % p
theorem C_zero_iff {x : Int} : C p x = 0 ↔ x % p = 0 := ⟨fun h => by
  have := C_inj (a := x) (b := 0) h
  rwa [Int.zero_emod] at this, fun h => by
  have : C p x = C p 0 := C_mod (by rw [h, Int.zero_emod])
  exact this⟩
theorem inv_mul {v : Int} (hp : MB.PrimeI p) (hv : v % p ≠ 0) : C p (inv p v) * C p v = 1 := by
  have h2 := hp.1
  have hd : ¬ p ∣ v := fun z => hv (Int.emod_eq_zero_of_dvd z)
  have := MB.fermat_inv hp hd
  rw [← C_mul, ← C_one]
  refine C_mod ?_
  rw [show (1 : Int) % p = 1 from Int.emod_eq_of_lt (by omega) (by omega)]
  exact this
theorem inv_bd {v : Int} (p0 : 0 < p) : 0 ≤ inv p v ∧ inv p v < p := ⟨Int.emod_nonneg _ (by omega), Int.emod_lt_of_pos _ p0⟩
theorem inv_uniq {v t : Int} (hp : MB.PrimeI p) (t0 : 0 ≤ t) (t1 : t < p) (h : C p t * C p v = 1) (hv : v % p ≠ 0) : t = inv p v := by
  have h2 := hp.1
  have h1 := inv_mul hp hv
  have e : C p t = C p (inv p v) := by grind
  have := C_inj e
  have b := inv_bd (p := p) (v := v) (by omega)
  rwa [Int.emod_eq_of_lt t0 t1, Int.emod_eq_of_lt b.1 b.2] at this
theorem inv_mod (v : Int) : inv p (v % p) = inv p v := MB.emod_pow v p _
theorem gcd_one {x : Int} (hp : MB.PrimeI p) (h : x % p ≠ 0) : Int.gcd p x = 1 := by
  have h2 := hp.1
  have hg : Int.gcd p x ∣ p.toNat := by
    have : ((Int.gcd p x : Nat) : Int) ∣ ((p.toNat : Nat) : Int) := by
      rw [show ((p.toNat : Nat) : Int) = p by omega]
      exact Int.gcd_dvd_left _ _
    exact Int.natCast_dvd_natCast.mp this
  rcases (MB.PrimeN.of hp).2 _ hg with h1 | h1
  · exact h1
  · exfalso
    apply h
    have : ((Int.gcd p x : Nat) : Int) ∣ x := Int.gcd_dvd_right _ _
    rw [h1, show ((p.toNat : Nat) : Int) = p by omega] at this
    exact Int.emod_eq_zero_of_dvd this
/-- what the law of the great common divisor gives -/
theorem inv_of_gcd {v t : Int} (hp : MB.PrimeI p) (hv : v % p ≠ 0) (t0 : 0 ≤ t) (t1 : t < p) (h : p ∣ t * v - (Int.gcd p v : Nat)) : t = inv p v := by
  rw [gcd_one hp hv] at h
  refine inv_uniq hp t0 t1 ?_ hv
  rw [← C_mul, ← C_one]
  exact C_mod ((Int.emod_eq_emod_iff_emod_sub_eq_zero).mpr (Int.emod_eq_zero_of_dvd h))
theorem C_prod {x y : Int} (hp : MB.PrimeI p) (h : C p x * C p y = 0) : C p x = 0 ∨ C p y = 0 := by
  rw [← C_mul, C_zero_iff] at h
  rcases prime_mul hp h with h | h
  · exact .inl (C_zero_iff.mpr h)
  · exact .inr (C_zero_iff.mpr h)
/-! ### points -/
abbrev Pt := Option (Int × Int)
def dpt : Pt → DL.D
  | none => .none
  | some (x, y) => .tuple [.int x, .int y]
structure Cu (p a b : Int) : Prop where
  hp : MB.PrimeI p
  p5 : 5 ≤ p
  p1 : p < 2 ^ 62
  a0 : 0 ≤ a
  a1 : a < p
  b0 : 0 ≤ b
  b1 : b < p
def side (p a b x : Int) : Int := (x * x * x + a * x + b) % p
def On (p a b : Int) : Pt → Prop
  | none => True
  | some (x, y) => 0 ≤ x ∧ x < p ∧ 0 ≤ y ∧ y < p ∧ y * y % p = side p a b x
def slp (p a : Int) (x1 y1 x2 y2 : Int) : Int := if x1 = x2 then (3 * x1 * x1 + a) * inv p (2 * y1 % p) % p else (y2 - y1) * inv p ((x2 - x1) % p) % p
def addM (p m x1 y1 x2 : Int) : Int × Int := ((m * m - x1 - x2) % p, (m * (x1 - (m * m - x1 - x2) % p) - y1) % p)
def addP (p a : Int) : Pt → Pt → Pt
  | none, Q => Q
  | P, none => P
  | some (x1, y1), some (x2, y2) => if x1 = x2 ∧ (y1 + y2) % p = 0 then none else some (addM p (slp p a x1 y1 x2 y2) x1 y1 x2)
def negP (p : Int) : Pt → Pt
  | none => none
  | some (x, y) => some (x, -y % p)
theorem add_none (P : Pt) : addP p a P none = P := by cases P <;> rfl
theorem onE {x y : Int} (h : y * y % p = side p a b x) : C p y * C p y = C p x * C p x * C p x + C p a * C p x + C p b := by
  rw [← C_mul, ← C_mul, ← C_mul, ← C_mul, ← C_add, ← C_add]
  exact C_mod h
theorem onI {x y : Int} (h : C p y * C p y = C p x * C p x * C p x + C p a * C p x + C p b) : y * y % p = side p a b x := by
  rw [← C_mul, ← C_mul, ← C_mul, ← C_mul, ← C_add, ← C_add] at h
  exact C_inj h
theorem C_eq {x y : Int} (x0 : 0 ≤ x) (x1 : x < p) (y0 : 0 ≤ y) (y1 : y < p) (h : C p x = C p y) : x = y := by
  have := C_inj h
  rwa [Int.emod_eq_of_lt x0 x1, Int.emod_eq_of_lt y0 y1] at this
/-- equal first coordinates, no opposite points -/
theorem same_y {x y1 y2 : Int} (hp : MB.PrimeI p) (h1 : On p a b (some (x, y1))) (h2 : On p a b (some (x, y2))) (hn : ¬ (y1 + y2) % p = 0) : y1 = y2 := by
  obtain ⟨_, _, u0, u1, e1⟩ := h1
  obtain ⟨_, _, v0, v1, e2⟩ := h2
  have e1 := onE e1
  have e2 := onE e2
  have : C p (y1 + y2) * C p (y1 - y2) = 0 := by
    rw [C_add, C_sub]
    grind
  rcases C_prod hp this with h | h
  · exact absurd (C_zero_iff.mp h) hn
  · rw [C_sub] at h
    exact C_eq u0 u1 v0 v1 (by grind)
theorem two_y {y : Int} (hp : MB.PrimeI p) (hn : ¬ (y + y) % p = 0) : 2 * y % p ≠ 0 := by
  rwa [show 2 * y = y + y by omega]
theorem sub_ne {x1 x2 : Int} (h10 : 0 ≤ x1) (h11 : x1 < p) (h20 : 0 ≤ x2) (h21 : x2 < p) (h : ¬ x1 = x2) : (x2 - x1) % p ≠ 0 := fun z => by
  have : C p (x2 - x1) = 0 := C_zero_iff.mpr z
  rw [C_sub] at this
  exact h (C_eq h10 h11 h20 h21 (by grind))
theorem mod_ne {x : Int} (h : x % p ≠ 0) : x % p % p ≠ 0 := by rwa [Int.emod_emod_of_dvd _ (Int.dvd_refl p)]
/-- the slope: what it is told by -/
theorem slp_eq {x1 y1 x2 y2 : Int} (hp : MB.PrimeI p) (h1 : On p a b (some (x1, y1))) (h2 : On p a b (some (x2, y2))) (hn : ¬ (x1 = x2 ∧ (y1 + y2) % p = 0)) :
    (x1 = x2 ∧ y1 = y2 ∧ 2 * y1 % p ≠ 0 ∧ C p (slp p a x1 y1 x2 y2) * (2 * C p y1) = 3 * C p x1 * C p x1 + C p a) ∨ (x1 ≠ x2 ∧ (x2 - x1) % p ≠ 0 ∧ C p (slp p a x1 y1 x2 y2) * (C p x2 - C p x1) = C p y2 - C p y1) := by
  have c2 : C p 2 = 2 := by
    have : C p (1 + 1) = C p 1 + C p 1 := C_add 1 1
    rw [C_one] at this
    have h2 : C p 2 = 1 + 1 := this
    rw [h2]
    grind
  have c3 : C p 3 = 3 := by
    have : C p (2 + 1) = C p 2 + C p 1 := C_add 2 1
    rw [C_one, c2] at this
    have h2 : C p 3 = 2 + 1 := this
    rw [h2]
    grind
  by_cases hx : x1 = x2
  · subst hx
    have hn' : ¬ (y1 + y2) % p = 0 := fun z => hn ⟨rfl, z⟩
    have hy := same_y hp h1 h2 hn'
    subst hy
    have h2y := two_y hp hn'
    refine .inl ⟨rfl, rfl, h2y, ?_⟩
    unfold slp
    rw [if_pos rfl, C_emod, C_mul, inv_mod]
    have := inv_mul hp h2y
    rw [C_mul, c2] at this
    rw [C_add, C_mul, C_mul, c3]
    grind
  · have hd := sub_ne h1.1 h1.2.1 h2.1 h2.2.1 hx
    refine .inr ⟨hx, hd, ?_⟩
    unfold slp
    rw [if_neg hx, C_emod, C_mul, inv_mod]
    have := inv_mul hp hd
    rw [C_sub] at this ⊢
    grind
theorem chord {m X1 Y1 X2 Y2 I A B : Ser p} (h1 : Y1 * Y1 = X1 * X1 * X1 + A * X1 + B) (h2 : Y2 * Y2 = X2 * X2 * X2 + A * X2 + B) (hm : m * (X2 - X1) = Y2 - Y1) (hi : I * (X2 - X1) = 1) :
    (m * (X1 - (m * m - X1 - X2)) - Y1) * (m * (X1 - (m * m - X1 - X2)) - Y1) = (m * m - X1 - X2) * (m * m - X1 - X2) * (m * m - X1 - X2) + A * (m * m - X1 - X2) + B := by
  -- A and B by the two points
  have e1 : (X2 - X1) * A = (Y2 - Y1) * (Y2 + Y1) - (X2 * X2 * X2 - X1 * X1 * X1) := by grind
  have eA : A = m * (Y2 + Y1) - (X2 * X2 + X1 * X2 + X1 * X1) := by grind
  have eY : Y2 = Y1 + m * (X2 - X1) := by grind
  have eB : B = Y1 * Y1 - X1 * X1 * X1 - A * X1 := by grind
  subst eY
  subst eB
  subst eA
  grind
theorem tangent {m X1 Y1 I A B : Ser p} (h1 : Y1 * Y1 = X1 * X1 * X1 + A * X1 + B) (hm : m * (2 * Y1) = 3 * X1 * X1 + A) :
    (m * (X1 - (m * m - X1 - X1)) - Y1) * (m * (X1 - (m * m - X1 - X1)) - Y1) = (m * m - X1 - X1) * (m * m - X1 - X1) * (m * m - X1 - X1) + A * (m * m - X1 - X1) + B := by
  have eA : A = m * (2 * Y1) - 3 * X1 * X1 := by grind
  have eB : B = Y1 * Y1 - X1 * X1 * X1 - A * X1 := by grind
  subst eB
  subst eA
  grind
theorem addM_C {m x1 y1 x2 : Int} : C p (addM p m x1 y1 x2).1 = C p m * C p m - C p x1 - C p x2 ∧ C p (addM p m x1 y1 x2).2 = C p m * (C p x1 - (C p m * C p m - C p x1 - C p x2)) - C p y1 := by
  have h1 : C p ((m * m - x1 - x2) % p) = C p m * C p m - C p x1 - C p x2 := by rw [C_emod, C_sub, C_sub, C_mul]
  refine ⟨h1, ?_⟩
  show C p ((m * (x1 - (m * m - x1 - x2) % p) - y1) % p) = _
  rw [C_emod, C_sub, C_mul, C_sub, h1]
theorem addM_bd {m x1 y1 x2 : Int} (p0 : 0 < p) : 0 ≤ (addM p m x1 y1 x2).1 ∧ (addM p m x1 y1 x2).1 < p ∧ 0 ≤ (addM p m x1 y1 x2).2 ∧ (addM p m x1 y1 x2).2 < p :=
  ⟨Int.emod_nonneg _ (by omega), Int.emod_lt_of_pos _ p0, Int.emod_nonneg _ (by omega), Int.emod_lt_of_pos _ p0⟩
theorem On.add (c : Cu p a b) : ∀ {P Q : Pt}, On p a b P → On p a b Q → On p a b (addP p a P Q)
  | none, Q, _, h => h
  | some (x, y), none, h, _ => h
  | some (x1, y1), some (x2, y2), h1, h2 => by
    have hp := c.hp
    have p5 := c.p5
    show On p a b (if _ then _ else _)
    by_cases hn : x1 = x2 ∧ (y1 + y2) % p = 0
    · rw [if_pos hn]; trivial
    rw [if_neg hn]
    obtain ⟨m, hm⟩ : ∃ m, m = slp p a x1 y1 x2 y2 := ⟨_, rfl⟩
    have bd := addM_bd (p := p) (m := m) (x1 := x1) (y1 := y1) (x2 := x2) (by omega)
    have e := addM_C (p := p) (m := m) (x1 := x1) (y1 := y1) (x2 := x2)
    rw [← hm]
    refine ⟨bd.1, bd.2.1, bd.2.2.1, bd.2.2.2, onI ?_⟩
    show C p (addM p m x1 y1 x2).2 * C p (addM p m x1 y1 x2).2 = C p (addM p m x1 y1 x2).1 * C p (addM p m x1 y1 x2).1 * C p (addM p m x1 y1 x2).1 + C p a * C p (addM p m x1 y1 x2).1 + C p b
    rw [e.1, e.2]
    have o1 := onE h1.2.2.2.2
    have o2 := onE h2.2.2.2.2
    rcases slp_eq hp h1 h2 hn with ⟨ex, ey, h2y, hs⟩ | ⟨ex, hd, hs⟩
    · subst ex ey
      rw [← hm] at hs
      exact tangent (I := 0) o1 hs
    · rw [← hm] at hs
      have hi := inv_mul hp hd
      rw [C_sub] at hi
      exact chord o1 o2 hs hi
theorem On.neg (c : Cu p a b) : ∀ {P : Pt}, On p a b P → On p a b (negP p P)
  | none, _ => trivial
  | some (x, y), h => by
    have p5 := c.p5
    refine ⟨h.1, h.2.1, Int.emod_nonneg _ (by omega), Int.emod_lt_of_pos _ (by omega), onI ?_⟩
    have := onE h.2.2.2.2
    rw [C_emod, C_neg]
    grind
theorem add_neg (c : Cu p a b) : ∀ P : Pt, addP p a P (negP p P) = none
  | none => rfl
  | some (x, y) => by
    show (if x = x ∧ (y + -y % p) % p = 0 then none else _) = none
    rw [if_pos ⟨rfl, by
      rw [Int.add_emod, Int.emod_emod_of_dvd _ (Int.dvd_refl p), ← Int.add_emod, show y + -y = 0 by omega, Int.zero_emod]⟩]
theorem add_comm (c : Cu p a b) : ∀ {P Q : Pt}, On p a b P → On p a b Q → addP p a P Q = addP p a Q P
  | none, none, _, _ => rfl
  | none, some (x, y), _, _ => rfl
  | some (x, y), none, _, _ => rfl
  | some (x1, y1), some (x2, y2), h1, h2 => by
    have hp := c.hp
    have p5 := c.p5
    show (if x1 = x2 ∧ (y1 + y2) % p = 0 then none else _) = if x2 = x1 ∧ (y2 + y1) % p = 0 then none else _
    by_cases hn : x1 = x2 ∧ (y1 + y2) % p = 0
    · rw [if_pos hn, if_pos ⟨hn.1.symm, by rw [Int.add_comm]; exact hn.2⟩]
    have hn' : ¬ (x2 = x1 ∧ (y2 + y1) % p = 0) := fun z => hn ⟨z.1.symm, by rw [Int.add_comm]; exact z.2⟩
    rw [if_neg hn, if_neg hn']
    congr 1
    obtain ⟨m, hm⟩ : ∃ m, m = slp p a x1 y1 x2 y2 := ⟨_, rfl⟩
    obtain ⟨n, hn2⟩ : ∃ n, n = slp p a x2 y2 x1 y1 := ⟨_, rfl⟩
    have e := addM_C (p := p) (m := m) (x1 := x1) (y1 := y1) (x2 := x2)
    have e' := addM_C (p := p) (m := n) (x1 := x2) (y1 := y2) (x2 := x1)
    have bd := addM_bd (p := p) (m := m) (x1 := x1) (y1 := y1) (x2 := x2) (by omega)
    have bd' := addM_bd (p := p) (m := n) (x1 := x2) (y1 := y2) (x2 := x1) (by omega)
    rcases slp_eq hp h1 h2 hn with ⟨ex, ey, h2y, hs⟩ | ⟨ex, hd, hs⟩
    · subst ex ey
      rfl
    · rcases slp_eq hp h2 h1 hn' with ⟨ex', _⟩ | ⟨_, hd', hs'⟩
      · exact absurd ex'.symm ex
      rw [← hm, ← hn2]
      rw [← hm] at hs
      rw [← hn2] at hs'
      have hi := inv_mul hp hd
      rw [C_sub] at hi
      have emn : C p m = C p n := by grind
      refine Prod.ext (C_eq bd.1 bd.2.1 bd'.1 bd'.2.1 ?_) (C_eq bd.2.2.1 bd.2.2.2 bd'.2.2.1 bd'.2.2.2 ?_)
      · rw [e.1, e'.1, emn]
        grind
      · rw [e.2, e'.2, ← emn]
        grind
/-! ### all points -/
def rootsK (p : Int) (k : Nat) (s : Int) : List Int := ((List.range k).map Int.ofNat).filter fun y => y * y % p = s
def ptsK (p a b : Int) (k : Nat) : List Pt := none :: ((List.range k).map Int.ofNat).flatMap fun x => (rootsK p p.toNat (side p a b x)).map fun y => some (x, y)
theorem rootsK_succ (k : Nat) (s : Int) : rootsK p (k + 1) s = if (k : Int) * k % p = s then rootsK p k s ++ [(k : Int)] else rootsK p k s := by
  unfold rootsK
  rw [List.range_succ, List.map_append, List.filter_append]
  show _ ++ List.filter _ [(k : Int)] = _
  by_cases h : (k : Int) * k % p = s
  · rw [if_pos h, List.filter_cons_of_pos (by rw [decide_eq_true h]), List.filter_nil]
  · rw [if_neg h, List.filter_cons_of_neg (by rw [decide_eq_false h]; decide), List.filter_nil, List.append_nil]
theorem ptsK_succ (k : Nat) : ptsK p a b (k + 1) = ptsK p a b k ++ (rootsK p p.toNat (side p a b k)).map fun y => some ((k : Int), y) := by
  unfold ptsK
  rw [List.range_succ, List.map_append, List.flatMap_append]
  show none :: (_ ++ List.flatMap _ [(k : Int)]) = none :: _ ++ _
  rw [List.cons_append, List.flatMap_cons, List.flatMap_nil, List.append_nil]
theorem rootsK_len (k : Nat) (s : Int) : (rootsK p k s).length ≤ k := by
  unfold rootsK
  refine Nat.le_trans (List.length_filter_le _ _) ?_
  rw [List.length_map, List.length_range]
  exact Nat.le_refl _
theorem rootsK_mem {k : Nat} {s y : Int} : y ∈ rootsK p k s ↔ 0 ≤ y ∧ y < k ∧ y * y % p = s := by
  unfold rootsK
  rw [List.mem_filter, List.mem_map, decide_eq_true_iff]
  constructor
  · rintro ⟨⟨i, hi, rfl⟩, h⟩
    have := List.mem_range.mp hi
    exact ⟨by show (0 : Int) ≤ (i : Int); omega, by show ((i : Nat) : Int) < k; omega, h⟩
  · rintro ⟨h0, h1, h⟩
    exact ⟨⟨y.toNat, List.mem_range.mpr (by omega), by show ((y.toNat : Nat) : Int) = y; omega⟩, h⟩
theorem pts_mem (c : Cu p a b) (P : Pt) : P ∈ ptsK p a b p.toNat ↔ On p a b P := by
  have p5 := c.p5
  unfold ptsK
  rw [List.mem_cons, List.mem_flatMap]
  constructor
  · rintro (rfl | ⟨x, hx, hP⟩)
    · trivial
    · obtain ⟨i, hi, rfl⟩ := List.mem_map.mp hx
      have := List.mem_range.mp hi
      obtain ⟨y, hy, rfl⟩ := List.mem_map.mp hP
      have hy := rootsK_mem.mp hy
      exact ⟨by show (0 : Int) ≤ (i : Int); omega, by show ((i : Nat) : Int) < p; omega, hy.1, by have := hy.2.1; omega, hy.2.2⟩
  · cases P with
    | none => exact fun _ => .inl rfl
    | some q =>
      obtain ⟨x, y⟩ := q
      rintro ⟨x0, x1, y0, y1, h⟩
      exact .inr ⟨x, List.mem_map.mpr ⟨x.toNat, List.mem_range.mpr (by omega), by show ((x.toNat : Nat) : Int) = x; omega⟩, List.mem_map.mpr ⟨y, rootsK_mem.mpr ⟨y0, by omega, h⟩, rfl⟩⟩
end MC
namespace DL
open PySem L2
theorem pl_pt (P : MC.Pt) : pl 1 (MC.dpt P) = true := by
  cases P with
  | none => rfl
  | some q => obtain ⟨x, y⟩ := q; exact pl_dtup 0 [x, y]
theorem pl_pts (L : List MC.Pt) : pl 2 (.list (L.map MC.dpt)) = true := by
  show (L.map MC.dpt).all (pl 1) = true
  rw [List.all_eq_true]
  intro d hd
  obtain ⟨P, _, rfl⟩ := List.mem_map.mp hd
  exact pl_pt P
theorem dpt_inj {P Q : MC.Pt} (h : MC.dpt P = MC.dpt Q) : P = Q := by
  cases P with
  | none =>
    cases Q with
    | none => rfl
    | some q => obtain ⟨x, y⟩ := q; cases h
  | some q =>
    obtain ⟨x, y⟩ := q
    cases Q with
    | none => cases h
    | some q => obtain ⟨u, v⟩ := q; cases h; rfl
end DL
/-! Squares modulo an odd prime: roots of polynomials, Euler's test, one of t and d t. -/
namespace MQ
open MB
theorem euclid {p a b : Int} (hp : PrimeI p) (h : p ∣ a * b) : p ∣ a ∨ p ∣ b := by
  have hp2 := hp.1
  have hN := PrimeN.of hp
  have e : (p.toNat : Int) = p := Int.toNat_of_nonneg (by omega)
  have h1 : p.toNat ∣ a.natAbs * b.natAbs := by
    rw [← Int.natAbs_mul]
    exact Int.ofNat_dvd_left.mp (by rw [e]; exact h)
  rcases hN.euclid h1 with h | h
  · exact .inl (by rw [← e]; exact Int.ofNat_dvd_left.mpr h)
  · exact .inr (by rw [← e]; exact Int.ofNat_dvd_left.mpr h)
def ev (x : Int) : List Int → Int
  | [] => 0
  | a :: f => a + x * ev x f
def addL : List Int → List Int → List Int
  | [], g => g
  | f, [] => f
  | a :: f, b :: g => (a + b) :: addL f g
theorem ev_addL (x : Int) : ∀ f g : List Int, ev x (addL f g) = ev x f + ev x g
  | [], g => by simp [addL, ev]
  | a :: f, [] => by simp [addL, ev]
  | a :: f, b :: g => by
    have := ev_addL x f g
    simp only [addL, ev]
    rw [this]
    grind
theorem ev_mul (x r : Int) : ∀ f : List Int, ev x (f.map fun v => r * v) = r * ev x f
  | [] => by simp [ev]
  | a :: f => by
    have := ev_mul x r f
    simp only [List.map_cons, ev]
    rw [this]
    grind
def dq (r : Int) : List Int → List Int
  | [] => []
  | _ :: f => addL f ((dq r f).map fun v => r * v)
theorem ev_dq (s r : Int) : ∀ f : List Int, ev s f = ev r f + (s - r) * ev s (dq r f)
  | [] => by simp [ev, dq]
  | a :: f => by
    have := ev_dq s r f
    simp only [ev, dq, ev_addL, ev_mul]
    grind
theorem addL_snoc (c : Int) : ∀ (g h : List Int), h.length ≤ g.length → ∃ g', addL (g ++ [c]) h = g' ++ [c] ∧ g'.length = g.length
  | [], [], _ => ⟨[], rfl, rfl⟩
  | a :: g, [], _ => ⟨a :: g, rfl, rfl⟩
  | [], b :: h, hl => by simp at hl
  | a :: g, b :: h, hl => by
    obtain ⟨g', e, l⟩ := addL_snoc c g h (by simpa using hl)
    exact ⟨(a + b) :: g', by show (a + b) :: addL (g ++ [c]) h = _; rw [e]; rfl, by simp [l]⟩
theorem dq_snoc (r c : Int) : ∀ (a : Int) (g : List Int), ∃ g', dq r (a :: g ++ [c]) = g' ++ [c] ∧ g'.length = g.length
  | a, [] => ⟨[], by simp [dq, addL], rfl⟩
  | a, b :: g => by
    obtain ⟨g', e, l⟩ := dq_snoc r c b g
    show ∃ g'', addL (b :: g ++ [c]) ((dq r (b :: g ++ [c])).map fun v => r * v) = g'' ++ [c] ∧ _
    exact addL_snoc c (b :: g) _ (by rw [e]; simp [l])
theorem roots_le {p : Int} (hp : PrimeI p) {c : Int} (hc : ¬ p ∣ c) : ∀ (g : List Int) (rs : List Int), rs.Nodup → (∀ r ∈ rs, 0 ≤ r ∧ r < p ∧ p ∣ ev r (g ++ [c])) → rs.length ≤ g.length := by
  intro g
  generalize hn : g.length = n
  induction n generalizing g with
  | zero =>
    intro rs _ h
    cases List.length_eq_zero_iff.mp hn
    cases rs with
    | nil => exact Nat.le_refl _
    | cons r rs =>
      have := (h r List.mem_cons_self).2.2
      simp [ev] at this
      exact absurd this hc
  | succ n ih =>
    intro rs nd h
    cases rs with
    | nil => exact Nat.zero_le _
    | cons r rs =>
      cases g with
      | nil => simp at hn
      | cons a g =>
        obtain ⟨g', e, l⟩ := dq_snoc r c a g
        have hr := h r List.mem_cons_self
        have nd' := List.nodup_cons.mp nd
        have := ih g' (by rw [l]; simpa using hn) rs nd'.2 fun s hs => by
          have h1 := h s (List.mem_cons_of_mem _ hs)
          refine ⟨h1.1, h1.2.1, ?_⟩
          have e2 := ev_dq s r (a :: g ++ [c])
          rw [e] at e2
          have hd : p ∣ (s - r) * ev s (g' ++ [c]) := by
            have : (s - r) * ev s (g' ++ [c]) = ev s (a :: g ++ [c]) - ev r (a :: g ++ [c]) := by omega
            rw [this]
            exact Int.dvd_sub h1.2.2 hr.2.2
          rcases euclid hp hd with h3 | h3
          · exfalso
            have : s - r = 0 := by
              refine Int.eq_zero_of_dvd_of_natAbs_lt_natAbs h3 ?_
              omega
            have : s = r := by omega
            subst this
            exact nd'.1 hs
          · exact h3
        simpa using this
theorem ev_x (x : Int) : ∀ k : Nat, ev x (List.replicate k 0 ++ [1]) = x ^ k
  | 0 => by simp [ev]
  | k + 1 => by
    show 0 + x * ev x (List.replicate k 0 ++ [1]) = _
    rw [ev_x x k, Int.pow_succ]
    grind
theorem ev_xm1 (x : Int) (k : Nat) : ev x ((-1 :: List.replicate k 0) ++ [1]) = x ^ (k + 1) - 1 := by
  show -1 + x * ev x (List.replicate k 0 ++ [1]) = _
  rw [ev_x, Int.pow_succ]
  grind
theorem up_nodup (n : Nat) : ((List.range n).map fun k : Nat => (k : Int) + 1).Nodup := by
  refine List.pairwise_map.mpr (List.Pairwise.imp ?_ (List.nodup_range (n := n)))
  intro a b hab h
  have : (a : Int) + 1 = b + 1 := h
  omega
/-- some residue has another power than 1 -/
theorem exists_pow_ne {p : Int} (hp : PrimeI p) {m : Nat} (m0 : 0 < m) (hm : (m : Int) < p - 1) : ∃ t : Int, 0 < t ∧ t < p ∧ ¬ p ∣ t ^ m - 1 := by
  refine Classical.byContradiction fun hn => ?_
  have p2 := hp.1
  have all : ∀ t : Int, 0 < t → t < p → p ∣ t ^ m - 1 := fun t h0 h1 => Classical.byContradiction fun z => hn ⟨t, h0, h1, z⟩
  obtain ⟨k, rfl⟩ : ∃ k, m = k + 1 := ⟨m - 1, by omega⟩
  have := roots_le hp (c := 1) (fun z => by have := Int.le_of_dvd (by decide) z; omega) (-1 :: List.replicate k 0) ((List.range (p - 1).toNat).map fun k : Nat => (k : Int) + 1) (up_nodup _) fun r hr => by
    obtain ⟨j, hj, rfl⟩ := List.mem_map.mp hr
    have := List.mem_range.mp hj
    refine ⟨by omega, by omega, ?_⟩
    rw [ev_xm1]
    exact all _ (by omega) (by omega)
  simp at this
  omega
def Sq (p x : Int) : Prop := ∃ y : Int, y * y % p = x % p
theorem dvd_iff {p a b : Int} : a % p = b % p ↔ p ∣ a - b := ⟨fun h => Int.dvd_of_emod_eq_zero (Int.emod_eq_emod_iff_emod_sub_eq_zero.mp h), fun h => Int.emod_eq_emod_iff_emod_sub_eq_zero.mpr (Int.emod_eq_zero_of_dvd h)⟩
theorem Sq.dvd {p x : Int} : Sq p x ↔ ∃ y : Int, p ∣ y * y - x := ⟨fun ⟨y, h⟩ => ⟨y, dvd_iff.mp h⟩, fun ⟨y, h⟩ => ⟨y, dvd_iff.mpr h⟩⟩
/-- an inverse -/
theorem inv_ex {p y : Int} (hp : PrimeI p) (hy : ¬ p ∣ y) : ∃ z : Int, p ∣ z * y - 1 := by
  have p2 := hp.1
  have := fermat_inv hp hy
  rw [MB.emod_mul_l] at this
  exact ⟨y ^ (p - 2).toNat, dvd_iff.mp (by rw [this, Int.emod_eq_of_lt (by decide) (by omega)])⟩
theorem not_both {p d t : Int} (hp : PrimeI p) (hd : ¬ Sq p d) (ht : ¬ p ∣ t) (h1 : Sq p t) (h2 : Sq p (d * t)) : False := by
  obtain ⟨y, hy⟩ := Sq.dvd.mp h1
  obtain ⟨z, hz⟩ := Sq.dvd.mp h2
  have hy0 : ¬ p ∣ y := fun h => ht (by
    have : t = y * y - (y * y - t) := by omega
    rw [this]
    exact Int.dvd_sub (Int.dvd_trans h (Int.dvd_mul_right y y)) hy)
  obtain ⟨i, hi⟩ := inv_ex hp hy0
  refine hd (Sq.dvd.mpr ⟨z * i, ?_⟩)
  obtain ⟨a, ha⟩ := hy
  obtain ⟨b, hb⟩ := hz
  obtain ⟨c, hc⟩ := hi
  have e1 : t = y * y - p * a := by omega
  have e2 : z * z = d * t + p * b := by omega
  have e3 : i * y = 1 + p * c := by omega
  have : z * i * (z * i) - d = p * (b * (i * i) - d * a * (i * i) + d * c * (2 + p * c)) := by
    have : z * i * (z * i) = (z * z) * (i * i) := by grind
    rw [this, e2, e1]
    have : d * (y * y) * (i * i) = d * ((i * y) * (i * y)) := by grind
    grind
  exact ⟨_, this⟩
theorem half {p : Int} (hp : PrimeI p) (p3 : 2 < p) : p % 2 = 1 := by
  have := hp.2 2 (by decide) p3
  omega
theorem list_all {p : Nat} (L : List Nat) (nd : L.Nodup) (hb : ∀ x ∈ L, 0 < x ∧ x < p) (hl : L.length = p - 1) {t : Nat} (t0 : 0 < t) (t1 : t < p) : t ∈ L := by
  have := perm_of_sub L ((List.range (p - 1)).map (· + 1)) nd (fun x hx => by
    obtain ⟨h0, h1⟩ := hb x hx
    exact List.mem_map.mpr ⟨x - 1, List.mem_range.mpr (by omega), by omega⟩) (by simp [hl])
  exact this.mem_iff.mpr (List.mem_map.mpr ⟨t - 1, List.mem_range.mpr (by omega), by omega⟩)
theorem one_of {p d t : Int} (hp : PrimeI p) (p3 : 2 < p) (hd : ¬ Sq p d) : Sq p t ∨ Sq p (d * t) := by
  have p2 := hp.1
  have hodd := half hp p3
  by_cases ht : p ∣ t
  · exact .inl (Sq.dvd.mpr ⟨0, by have := Int.dvd_neg.mpr ht; simpa using this⟩)
  have hd0 : ¬ p ∣ d := fun h => hd (Sq.dvd.mpr ⟨0, by have := Int.dvd_neg.mpr h; simpa using this⟩)
  let m := ((p - 1) / 2).toNat
  have em : (m : Int) = (p - 1) / 2 := Int.toNat_of_nonneg (by omega)
  have md : ∀ x : Int, ¬ p ∣ x → 0 < (x % p).toNat ∧ (x % p).toNat < p.toNat := fun x hx => by
    have h0 := Int.emod_nonneg x (show p ≠ 0 by omega)
    have h1 := Int.emod_lt_of_pos x (show 0 < p by omega)
    have h2 : x % p ≠ 0 := fun z => hx (Int.dvd_of_emod_eq_zero z)
    omega
  have back : ∀ x : Int, ((x % p).toNat : Int) = x % p := fun x => Int.toNat_of_nonneg (Int.emod_nonneg x (show p ≠ 0 by omega))
  let S := (List.range m).map fun k : Nat => (((k : Int) + 1) * ((k : Int) + 1) % p).toNat
  let T := (List.range m).map fun k : Nat => (d * (((k : Int) + 1) * ((k : Int) + 1)) % p).toNat
  have sm : ∀ k : Nat, k < m → ¬ p ∣ (k : Int) + 1 := fun k hk h => by
    have := Int.le_of_dvd (by omega) h
    omega
  have sq0 : ∀ k : Nat, k < m → ¬ p ∣ ((k : Int) + 1) * ((k : Int) + 1) := fun k hk h => (euclid hp h).elim (sm k hk) (sm k hk)
  have dsq0 : ∀ k : Nat, k < m → ¬ p ∣ d * (((k : Int) + 1) * ((k : Int) + 1)) := fun k hk h => (euclid hp h).elim hd0 (sq0 k hk)
  have inj : ∀ a b : Nat, a < m → b < m → p ∣ ((a : Int) + 1) * ((a : Int) + 1) - ((b : Int) + 1) * ((b : Int) + 1) → a = b := fun a b ha hb h => by
    have : ((a : Int) + 1) * ((a : Int) + 1) - ((b : Int) + 1) * ((b : Int) + 1) = ((a : Int) - b) * ((a : Int) + b + 2) := by grind
    rw [this] at h
    rcases euclid hp h with h | h
    · have := Int.eq_zero_of_dvd_of_natAbs_lt_natAbs h (by omega)
      omega
    · have := Int.le_of_dvd (by omega) h
      omega
  have eqd : ∀ x y : Int, (x % p).toNat = (y % p).toNat → p ∣ x - y := fun x y h => dvd_iff.mp (by rw [← back x, ← back y, h])
  have nodup_of : ∀ f : Nat → Nat, (∀ a b, a < m → b < m → f a = f b → a = b) → ((List.range m).map f).Nodup := fun f hf => by
    refine List.pairwise_map.mpr ?_
    refine List.Pairwise.imp_of_mem ?_ (List.nodup_range (n := m))
    intro a b ha hb hab z
    exact hab (hf a b (List.mem_range.mp ha) (List.mem_range.mp hb) z)
  have ndS : S.Nodup := nodup_of _ fun a b ha hb h => inj a b ha hb (eqd _ _ h)
  have ndT : T.Nodup := nodup_of _ fun a b ha hb h => inj a b ha hb (by
    have h1 := eqd _ _ h
    rw [← Int.mul_sub] at h1
    exact (euclid hp h1).resolve_left hd0)
  have dis : ∀ x ∈ S, x ∉ T := fun x hs htT => by
    obtain ⟨a, ha, rfl⟩ := List.mem_map.mp hs
    obtain ⟨b, hb, e⟩ := List.mem_map.mp htT
    have hb' := List.mem_range.mp hb
    have h1 := eqd _ _ e
    refine not_both hp hd (sq0 b hb') ⟨_, rfl⟩ (Sq.dvd.mpr ⟨(a : Int) + 1, ?_⟩)
    have := Int.dvd_neg.mpr h1
    rwa [Int.neg_sub] at this
  have nd : (S ++ T).Nodup := List.nodup_append.mpr ⟨ndS, ndT, fun a ha b hb z => dis a ha (z ▸ hb)⟩
  have mem := list_all (p := p.toNat) (S ++ T) nd (fun x hx => by
    rcases List.mem_append.mp hx with h | h
    · obtain ⟨a, ha, rfl⟩ := List.mem_map.mp h
      exact md _ (sq0 a (List.mem_range.mp ha))
    · obtain ⟨a, ha, rfl⟩ := List.mem_map.mp h
      exact md _ (dsq0 a (List.mem_range.mp ha))) (by
      rw [List.length_append, List.length_map, List.length_map, List.length_range]
      omega) (md t ht).1 (md t ht).2
  rcases List.mem_append.mp mem with h | h
  · obtain ⟨a, ha, e⟩ := List.mem_map.mp h
    exact .inl (Sq.dvd.mpr ⟨_, eqd _ _ e⟩)
  · obtain ⟨a, ha, e⟩ := List.mem_map.mp h
    have h1 := eqd _ _ e
    refine .inr (Sq.dvd.mpr ⟨d * ((a : Int) + 1), ?_⟩)
    have : d * ((a : Int) + 1) * (d * ((a : Int) + 1)) - d * t = d * (d * (((a : Int) + 1) * ((a : Int) + 1)) - t) := by grind
    rw [this]
    exact Int.dvd_trans h1 (Int.dvd_mul_left _ _)
theorem pow_dvd {p a b : Int} (h : p ∣ a - b) (k : Nat) : p ∣ a ^ k - b ^ k := dvd_iff.mp (MB.cong_pow (dvd_iff.mpr h) k)
theorem sq_pow {p x : Int} (hp : PrimeI p) (p3 : 2 < p) (hx : ¬ p ∣ x) (h : Sq p x) : p ∣ x ^ ((p - 1) / 2).toNat - 1 := by
  have p2 := hp.1
  have hodd := half hp p3
  obtain ⟨y, hy⟩ := Sq.dvd.mp h
  have hy0 : ¬ p ∣ y := fun h => hx (by
    have : x = y * y - (y * y - x) := by omega
    rw [this]
    exact Int.dvd_sub (Int.dvd_trans h (Int.dvd_mul_right y y)) hy)
  have h1 := pow_dvd hy ((p - 1) / 2).toNat
  have e : (y * y) ^ ((p - 1) / 2).toNat = y ^ (p - 1).toNat := by
    rw [show y * y = y ^ 2 by rw [Int.pow_succ, Int.pow_succ, Int.pow_zero, Int.one_mul], ← Int.pow_mul]
    congr 1
    omega
  rw [e] at h1
  have h2 : p ∣ y ^ (p - 1).toNat - 1 := dvd_iff.mp (by rw [fermat hp hy0, Int.emod_eq_of_lt (by decide) (by omega)])
  have := Int.dvd_sub h2 h1
  rwa [show y ^ (p - 1).toNat - 1 - (y ^ (p - 1).toNat - x ^ ((p - 1) / 2).toNat) = x ^ ((p - 1) / 2).toNat - 1 by omega] at this
theorem exists_non {p : Int} (hp : PrimeI p) (p3 : 2 < p) : ∃ t : Int, 1 < t ∧ t < p ∧ ¬ p ∣ t ^ ((p - 1) / 2).toNat - 1 := by
  have hodd := half hp p3
  obtain ⟨t, t0, t1, h⟩ := exists_pow_ne hp (m := ((p - 1) / 2).toNat) (by omega) (by omega)
  refine ⟨t, ?_, t1, h⟩
  refine Classical.byContradiction fun z => ?_
  have : t = 1 := by omega
  subst this
  rw [Int.one_pow] at h
  exact h ⟨0, by omega⟩
theorem nd_of {p t : Int} (t0 : 0 < t) (t1 : t < p) : ¬ p ∣ t := fun h => by have := Int.le_of_dvd t0 h; omega
/-- Euler's test -/
theorem euler {p x : Int} (hp : PrimeI p) (p3 : 2 < p) (hx : ¬ p ∣ x) : Sq p x ↔ p ∣ x ^ ((p - 1) / 2).toNat - 1 := by
  refine ⟨sq_pow hp p3 hx, fun h => Classical.byContradiction fun hn => ?_⟩
  obtain ⟨t, t0, t1, ht⟩ := exists_non hp p3
  have ht0 : ¬ p ∣ t := nd_of (by omega) t1
  rcases one_of (t := t) hp p3 hn with h2 | h2
  · exact ht (sq_pow hp p3 ht0 h2)
  · have h3 := sq_pow hp p3 (fun z => (euclid hp z).elim hx ht0) h2
    rw [Int.mul_pow] at h3
    have : t ^ ((p - 1) / 2).toNat - 1 = (x ^ ((p - 1) / 2).toNat * t ^ ((p - 1) / 2).toNat - 1) - t ^ ((p - 1) / 2).toNat * (x ^ ((p - 1) / 2).toNat - 1) := by grind
    refine ht ?_
    rw [this]
    exact Int.dvd_sub h3 (Int.dvd_trans h (Int.dvd_mul_left _ _))
def sqB (p x : Int) : Bool := decide (x % p = 0) || decide (x ^ ((p - 1) / 2).toNat % p = 1)
theorem sqB_iff {p x : Int} (hp : PrimeI p) (p3 : 2 < p) : sqB p x = true ↔ Sq p x := by
  unfold sqB
  rw [Bool.or_eq_true, decide_eq_true_iff, decide_eq_true_iff]
  by_cases hx : p ∣ x
  · exact ⟨fun _ => Sq.dvd.mpr ⟨0, by have := Int.dvd_neg.mpr hx; simpa using this⟩, fun _ => .inl (Int.emod_eq_zero_of_dvd hx)⟩
  · rw [euler hp p3 hx, ← dvd_iff, Int.emod_eq_of_lt (a := 1) (by decide) (by omega)]
    exact ⟨fun h => h.resolve_left fun z => hx (Int.dvd_of_emod_eq_zero z), .inr⟩
theorem Sq.mod {p x : Int} : Sq p (x % p) ↔ Sq p x := by
  unfold Sq
  rw [Int.emod_emod_of_dvd _ (Int.dvd_refl p)]
theorem sqB_mod {p x : Int} (hp : PrimeI p) (p3 : 2 < p) : sqB p (x % p) = sqB p x := by
  rw [Bool.eq_iff_iff, sqB_iff hp p3, sqB_iff hp p3]
  exact Sq.mod
theorem non_ex {p : Int} (hp : PrimeI p) (p3 : 2 < p) : ∃ t : Int, 1 < t ∧ t < p ∧ sqB p t = false := by
  obtain ⟨t, t0, t1, h⟩ := exists_non hp p3
  refine ⟨t, t0, t1, Bool.eq_false_iff.mpr fun z => h ?_⟩
  exact (euler hp p3 (nd_of (by omega) t1)).mp ((sqB_iff hp p3).mp z)
end MQ
/-! twisted curves: points counted -/
namespace MQ
open MB MC
theorem len_le : ∀ (l1 l2 : List Int), l1.Nodup → (∀ x ∈ l1, x ∈ l2) → l1.length ≤ l2.length
  | [], _, _, _ => Nat.zero_le _
  | x :: l1, l2, nd, h => by
    have nd' := List.nodup_cons.mp nd
    have hx := h x List.mem_cons_self
    have := len_le l1 (l2.erase x) nd'.2 fun y hy => (List.mem_erase_of_ne (fun z : y = x => nd'.1 (by rw [← z]; exact hy))).mpr (h y (List.mem_cons_of_mem _ hy))
    rw [List.length_erase_of_mem hx] at this
    have : 0 < l2.length := List.length_pos_of_mem hx
    simp only [List.length_cons]
    omega
theorem len_eq {l1 l2 : List Int} (n1 : l1.Nodup) (n2 : l2.Nodup) (h : ∀ x, x ∈ l1 ↔ x ∈ l2) : l1.length = l2.length := Nat.le_antisymm (len_le _ _ n1 fun x => (h x).mp) (len_le _ _ n2 fun x => (h x).mpr)
theorem rootsK_nodup (p : Int) (k : Nat) (s : Int) : (rootsK p k s).Nodup := by
  unfold rootsK
  refine List.Pairwise.filter _ (List.pairwise_map.mpr (List.Pairwise.imp ?_ List.nodup_range))
  intro a b hab z
  exact hab (Int.ofNat.inj z)
def cR (p s : Int) : Nat := (rootsK p p.toNat s).length
theorem sq_root {p s y : Int} (hp : PrimeI p) (p3 : 2 < p) (y0 : 0 < y) (y1 : y < p) (s0 : 0 ≤ s) (s1 : s < p) (h : y * y % p = s) (z : Int) : (0 ≤ z ∧ z < p ∧ z * z % p = s) ↔ z = y ∨ z = p - y := by
  constructor
  · rintro ⟨z0, z1, hz⟩
    have : p ∣ z * z - y * y := dvd_iff.mp (hz.trans h.symm)
    rw [show z * z - y * y = (z - y) * (z + y) by grind] at this
    rcases euclid hp this with h | h
    · have := Int.eq_zero_of_dvd_of_natAbs_lt_natAbs h (by omega)
      omega
    · obtain ⟨c, hc⟩ := h
      have : c = 1 := by
        have c0 : 0 < c := Int.pos_of_mul_pos_right (a := p) (by omega) (by omega)
        have c1 : c < 2 := by
          refine Int.lt_of_mul_lt_mul_left (a := p) ?_ (by omega)
          omega
        omega
      subst this
      right
      omega
  · rintro (rfl | rfl)
    · exact ⟨by omega, y1, h⟩
    · refine ⟨by omega, by omega, ?_⟩
      rw [← h]
      exact dvd_iff.mpr ⟨p - 2 * y, by grind⟩
theorem cR_eq {p s : Int} (hp : PrimeI p) (p3 : 2 < p) (s0 : 0 ≤ s) (s1 : s < p) : cR p s = if s = 0 then 1 else if sqB p s = true then 2 else 0 := by
  have hodd := half hp p3
  have mem : ∀ y, y ∈ rootsK p p.toNat s ↔ 0 ≤ y ∧ y < p ∧ y * y % p = s := fun y => by
    rw [rootsK_mem, Int.toNat_of_nonneg (by omega)]
  unfold cR
  split
  · rename_i h
    subst h
    rw [len_eq (l2 := [0]) (rootsK_nodup _ _ _) (by simp) fun y => by
      rw [mem, List.mem_singleton]
      constructor
      · rintro ⟨y0, y1, h⟩
        have := (euclid hp (Int.dvd_of_emod_eq_zero h)).elim id id
        exact Int.eq_zero_of_dvd_of_natAbs_lt_natAbs this (by omega)
      · rintro rfl
        exact ⟨by omega, by omega, by simp⟩]
    rfl
  · rename_i h
    split
    · rename_i h2
      obtain ⟨y, hy⟩ := (sqB_iff hp p3).mp h2
      rw [Int.emod_eq_of_lt s0 s1] at hy
      have y0 := Int.emod_nonneg y (show p ≠ 0 by omega)
      have y1 := Int.emod_lt_of_pos y (show 0 < p by omega)
      have hy' : y % p * (y % p) % p = s := by rw [MB.emod_mul_l, MB.emod_mul_r, hy]
      have yn : y % p ≠ 0 := fun z => by rw [z] at hy'; simp at hy'; omega
      rw [len_eq (l2 := [y % p, p - y % p]) (rootsK_nodup _ _ _) (by
        refine List.nodup_cons.mpr ⟨?_, by simp⟩
        rw [List.mem_singleton]
        omega) fun z => by
        rw [mem, sq_root hp p3 (by omega) y1 s0 s1 hy' z]
        simp]
      rfl
    · rename_i h2
      rw [show rootsK p p.toNat s = [] from List.eq_nil_iff_forall_not_mem.mpr fun y hy => h2 ((sqB_iff hp p3).mpr ⟨y, by rw [((mem y).mp hy).2.2, Int.emod_eq_of_lt s0 s1]⟩)]
      rfl
theorem Sq.mul {p x y : Int} (h1 : Sq p x) (h2 : Sq p y) : Sq p (x * y) := by
  obtain ⟨u, hu⟩ := h1
  obtain ⟨v, hv⟩ := h2
  exact ⟨u * v, by rw [show u * v * (u * v) = u * u * (v * v) by grind]; exact MB.cong_mul hu hv⟩
theorem Sq.self (p y : Int) : Sq p (y * y) := ⟨y, rfl⟩
theorem Sq.cancel {p d x : Int} (hp : PrimeI p) (hd : ¬ p ∣ d) (h : Sq p (d * d * x)) : Sq p x := by
  obtain ⟨i, hi⟩ := inv_ex hp hd
  have h2 := Sq.mul (Sq.self p i) h
  have e : i * i * (d * d * x) % p = x % p := by
    obtain ⟨c, hc⟩ := hi
    refine dvd_iff.mpr ⟨c * (2 + p * c) * x, ?_⟩
    have : i * d = 1 + p * c := by omega
    have : i * i * (d * d * x) = (i * d) * (i * d) * x := by grind
    grind
  obtain ⟨y, hy⟩ := h2
  exact ⟨y, hy.trans e⟩
theorem cR_twist {p d s : Int} (hp : PrimeI p) (p3 : 2 < p) (d0 : 0 < d) (d1 : d < p) (s0 : 0 ≤ s) (s1 : s < p) : (sqB p d = true → cR p (d * d * d * s % p) = cR p s) ∧ (sqB p d = false → cR p (d * d * d * s % p) + cR p s = 2) := by
  have hd := nd_of d0 d1
  have b0 := Int.emod_nonneg (d * d * d * s) (show p ≠ 0 by omega)
  have b1 := Int.emod_lt_of_pos (d * d * d * s) (show 0 < p by omega)
  have z : d * d * d * s % p = 0 ↔ s = 0 := by
    constructor
    · intro h
      rcases euclid hp (Int.dvd_of_emod_eq_zero h) with h | h
      · rcases euclid hp h with h | h
        · exact ((euclid hp h).elim hd hd).elim
        · exact (hd h).elim
      · exact Int.eq_zero_of_dvd_of_natAbs_lt_natAbs h (by omega)
    · rintro rfl
      simp
  rw [cR_eq hp p3 b0 b1, cR_eq hp p3 s0 s1, sqB_mod hp p3]
  by_cases hs : s = 0
  · rw [if_pos (z.mpr hs), if_pos hs]
    exact ⟨fun _ => rfl, fun _ => rfl⟩
  rw [if_neg fun h => hs (z.mp h), if_neg hs]
  have hs0 : ¬ p ∣ s := nd_of (by omega) s1
  have e : d * d * d * s = d * d * (d * s) := by grind
  refine ⟨fun h => ?_, fun h => ?_⟩
  · have hsd := (sqB_iff hp p3).mp h
    have : sqB p (d * d * d * s) = sqB p s := by
      rw [Bool.eq_iff_iff, sqB_iff hp p3, sqB_iff hp p3]
      constructor
      · intro h2
        rw [e] at h2
        have h3 := Sq.mul hsd (Sq.cancel hp hd h2)
        rw [← Int.mul_assoc] at h3
        exact Sq.cancel hp hd h3
      · intro h2
        exact Sq.mul (Sq.mul (Sq.self p d) hsd) h2
    rw [this]
  · have hnd : ¬ Sq p d := fun h2 => by rw [(sqB_iff hp p3).mpr h2] at h; cases h
    by_cases h2 : Sq p s
    · have h3 : sqB p (d * d * d * s) = false := Bool.eq_false_iff.mpr fun h3 => by
        have h3 := (sqB_iff hp p3).mp h3
        rw [e] at h3
        exact not_both hp hnd hs0 h2 (Sq.cancel hp hd h3)
      rw [h3, (sqB_iff hp p3).mpr h2]
      rfl
    · have h3 : sqB p (d * d * d * s) = true := (sqB_iff hp p3).mpr (by
        rw [e]
        exact Sq.mul (Sq.self p d) ((one_of hp p3 hnd).resolve_left h2))
      have h4 : sqB p s = false := Bool.eq_false_iff.mpr fun h3 => h2 ((sqB_iff hp p3).mp h3)
      rw [h3, h4]
      rfl
def sm (f : Nat → Nat) : List Nat → Nat
  | [] => 0
  | x :: l => f x + sm f l
theorem sm_app (f : Nat → Nat) : ∀ l m : List Nat, sm f (l ++ m) = sm f l + sm f m
  | [], m => by simp [sm]
  | x :: l, m => by simp [sm, sm_app f l m, Nat.add_assoc]
theorem sm_perm (f : Nat → Nat) {l m : List Nat} (h : l.Perm m) : sm f l = sm f m := by
  induction h with
  | nil => rfl
  | cons x _ ih => simp [sm, ih]
  | swap x y l => simp [sm]; omega
  | trans _ _ h1 h2 => exact h1.trans h2
theorem sm_map (f : Nat → Nat) (g : Nat → Nat) : ∀ l : List Nat, sm f (l.map g) = sm (fun x => f (g x)) l
  | [] => rfl
  | x :: l => by simp [sm, sm_map f g l]
theorem sm_congr {f g : Nat → Nat} : ∀ {l : List Nat}, (∀ x ∈ l, f x = g x) → sm f l = sm g l
  | [], _ => rfl
  | x :: l, h => by
    simp only [sm]
    rw [h x List.mem_cons_self, sm_congr fun y hy => h y (List.mem_cons_of_mem _ hy)]
theorem sm_two {f g : Nat → Nat} : ∀ {l : List Nat}, (∀ x ∈ l, f x + g x = 2) → sm f l + sm g l = 2 * l.length
  | [], _ => rfl
  | x :: l, h => by
    have h1 := h x List.mem_cons_self
    have h2 := sm_two (f := f) (g := g) fun y hy => h y (List.mem_cons_of_mem _ hy)
    simp only [sm, List.length_cons]
    omega
theorem ptsK_len (p a b : Int) : ∀ k : Nat, (ptsK p a b k).length = 1 + sm (fun x => cR p (side p a b x)) (List.range k)
  | 0 => rfl
  | k + 1 => by
    rw [ptsK_succ, List.length_append, List.length_map, ptsK_len p a b k, List.range_succ, sm_app]
    simp [sm, cR]
    omega
/-- x to d x -/
theorem perm_mul {p d : Int} (hp : PrimeI p) (hd : ¬ p ∣ d) : ((List.range p.toNat).map fun x : Nat => (d * (x : Int) % p).toNat).Perm (List.range p.toNat) := by
  have p2 := hp.1
  have back : ∀ x : Int, ((x % p).toNat : Int) = x % p := fun x => Int.toNat_of_nonneg (Int.emod_nonneg x (show p ≠ 0 by omega))
  refine perm_of_sub _ _ ?_ (fun x hx => ?_) (by simp)
  · refine List.pairwise_map.mpr (List.Pairwise.imp_of_mem ?_ (List.nodup_range (n := p.toNat)))
    intro x y hx hy hxy z
    have hx := List.mem_range.mp hx
    have hy := List.mem_range.mp hy
    have : p ∣ d * x - d * y := dvd_iff.mp (by rw [← back (d * x), ← back (d * y), z])
    rw [← Int.mul_sub] at this
    have := Int.eq_zero_of_dvd_of_natAbs_lt_natAbs ((euclid hp this).resolve_left hd) (by omega)
    omega
  · obtain ⟨y, hy, rfl⟩ := List.mem_map.mp hx
    have := Int.emod_lt_of_pos (d * y) (show 0 < p by omega)
    have := Int.emod_nonneg (d * y) (show p ≠ 0 by omega)
    exact List.mem_range.mpr (by omega)
theorem side_bd (p a b x : Int) (p0 : 0 < p) : 0 ≤ side p a b x ∧ side p a b x < p := ⟨Int.emod_nonneg _ (by omega), Int.emod_lt_of_pos _ p0⟩
theorem side_twist (p a b d x : Int) : side p (a * d * d % p) (b * d * d * d % p) (d * x % p) = d * d * d * side p a b x % p := by
  unfold side
  rw [MB.emod_mul_r]
  refine dvd_iff.mpr ?_
  have key : ∀ u v m : Int, ∃ k, u % v = u + v * k := fun u v _ => ⟨-(u / v), by have := Int.emod_add_mul_ediv u v; grind⟩
  obtain ⟨k1, e1⟩ := key (a * d * d) p 0
  obtain ⟨k2, e2⟩ := key (b * d * d * d) p 0
  obtain ⟨k3, e3⟩ := key (d * x) p 0
  rw [e1, e2, e3]
  exact ⟨k3 * ((d * x) * (d * x) + (d * x) * (d * x + p * k3) + (d * x + p * k3) * (d * x + p * k3)) + k1 * (d * x + p * k3) + a * d * d * k3 + k2, by grind⟩
abbrev nP (p a b : Int) : Nat := (ptsK p a b p.toNat).length
theorem twist_len {p a b d : Int} (hp : PrimeI p) (hd : ¬ p ∣ d) : nP p (a * d * d % p) (b * d * d * d % p) = 1 + sm (fun x => cR p (d * d * d * side p a b x % p)) (List.range p.toNat) := by
  have p2 := hp.1
  unfold nP
  rw [ptsK_len, ← sm_perm _ (perm_mul hp hd), sm_map]
  congr 1
  refine sm_congr fun x _ => ?_
  rw [Int.toNat_of_nonneg (Int.emod_nonneg _ (show p ≠ 0 by omega)), side_twist]
theorem twist_sq {p a b d : Int} (hp : PrimeI p) (p3 : 2 < p) (d0 : 0 < d) (d1 : d < p) (h : sqB p d = true) : nP p (a * d * d % p) (b * d * d * d % p) = nP p a b := by
  rw [twist_len hp (nd_of d0 d1)]
  unfold nP
  rw [ptsK_len]
  congr 1
  refine sm_congr fun x _ => ?_
  have sb := side_bd p a b x (by omega)
  exact (cR_twist hp p3 d0 d1 sb.1 sb.2).1 h
theorem twist_non {p a b d : Int} (hp : PrimeI p) (p3 : 2 < p) (d0 : 0 < d) (d1 : d < p) (h : sqB p d = false) : nP p (a * d * d % p) (b * d * d * d % p) + nP p a b = 2 * p.toNat + 2 := by
  rw [twist_len hp (nd_of d0 d1)]
  unfold nP
  rw [ptsK_len]
  have := sm_two (f := fun x : Nat => cR p (d * d * d * side p a b x % p)) (g := fun x : Nat => cR p (side p a b x)) (l := List.range p.toNat) fun x _ => by
    have sb := side_bd p a b x (by omega)
    exact (cR_twist hp p3 d0 d1 sb.1 sb.2).2 h
  rw [List.length_range] at this
  omega
/-! ### the invariant -/
abbrev dsc (a b : Int) : Int := 4 * a * a * a + 27 * b * b
def jv (p a b : Int) : Int := 6912 * a * a * a * inv p (dsc a b) % p
theorem jv_law {p a b : Int} (hp : PrimeI p) (hd : dsc a b % p ≠ 0) : (jv p a b * (4 * a ^ 3 + 27 * b ^ 2) - 6912 * a ^ 3) % p = 0 := by
  have hi := MC.inv_mul hp hd
  rw [← MS.C_mul, ← MS.C_one] at hi
  have h1 : p ∣ inv p (dsc a b) * dsc a b - 1 := dvd_iff.mp (by have := MS.C_inj hi; exact this)
  obtain ⟨c, hc⟩ := h1
  unfold jv
  refine Int.emod_eq_zero_of_dvd ?_
  have : ∃ k, 6912 * a * a * a * inv p (dsc a b) % p = 6912 * a * a * a * inv p (dsc a b) + p * k := ⟨-(6912 * a * a * a * inv p (dsc a b) / p), by have := Int.emod_add_mul_ediv (6912 * a * a * a * inv p (dsc a b)) p; grind⟩
  obtain ⟨k, ek⟩ := this
  rw [ek]
  have e2 : (4 * a ^ 3 + 27 * b ^ 2) = dsc a b := by unfold dsc; grind
  rw [e2]
  exact ⟨6912 * a ^ 3 * c + k * dsc a b, by grind⟩
theorem dsc_twist (p a b d : Int) : dsc (a * d * d % p) (b * d * d * d % p) % p = d * d * d * d * d * d * dsc a b % p := by
  have key : ∀ u : Int, ∃ k, u % p = u + p * k := fun u => ⟨-(u / p), by have := Int.emod_add_mul_ediv u p; grind⟩
  obtain ⟨k1, e1⟩ := key (a * d * d)
  obtain ⟨k2, e2⟩ := key (b * d * d * d)
  rw [e1, e2]
  unfold dsc
  refine dvd_iff.mpr ⟨4 * k1 * ((a * d * d) * (a * d * d) + (a * d * d) * (a * d * d + p * k1) + (a * d * d + p * k1) * (a * d * d + p * k1)) + 27 * k2 * (2 * (b * d * d * d) + p * k2), by grind⟩
theorem dsc_twist_ne {p a b d : Int} (hp : PrimeI p) (hd : dsc a b % p ≠ 0) (d0 : ¬ p ∣ d) : dsc (a * d * d % p) (b * d * d * d % p) % p ≠ 0 := by
  rw [dsc_twist]
  intro z
  have := Int.dvd_of_emod_eq_zero z
  rcases euclid hp this with h | h
  · have e : d * d * d * d * d * d = (d * d) * (d * d) * (d * d) := by grind
    rw [e] at h
    have dd : ¬ p ∣ d * d := fun h => (euclid hp h).elim d0 d0
    exact (euclid hp h).elim (fun h => (euclid hp h).elim dd dd) dd
  · exact hd (Int.emod_eq_zero_of_dvd h)
theorem jv_twist {p a b d : Int} (hp : PrimeI p) (hd : dsc a b % p ≠ 0) (d0 : ¬ p ∣ d) : jv p (a * d * d % p) (b * d * d * d % p) = jv p a b := by
  have h1 := MC.inv_mul hp hd
  have h2 := MC.inv_mul hp (dsc_twist_ne hp hd d0)
  have e1 : MS.C p (dsc (a * d * d % p) (b * d * d * d % p)) = MS.C p (d * d * d * d * d * d * dsc a b) := MS.C_mod (dsc_twist p a b d)
  rw [e1, MS.C_mul] at h2
  unfold jv
  refine MS.C_inj ?_
  rw [MS.C_mul (6912 * (a * d * d % p) * (a * d * d % p) * (a * d * d % p)), MS.C_mul (6912 * a * a * a)]
  have e3 : MS.C p (6912 * (a * d * d % p) * (a * d * d % p) * (a * d * d % p)) = MS.C p (d * d * d * d * d * d) * MS.C p (6912 * a * a * a) := by
    rw [← MS.C_mul]
    refine MS.C_mod (dvd_iff.mpr ?_)
    obtain ⟨k1, e1⟩ : ∃ k, (a * d * d) % p = (a * d * d) + p * k := ⟨-(a * d * d / p), by have := Int.emod_add_mul_ediv (a * d * d) p; grind⟩
    rw [e1]
    exact ⟨6912 * k1 * ((a * d * d) * (a * d * d) + (a * d * d) * (a * d * d + p * k1) + (a * d * d + p * k1) * (a * d * d + p * k1)), by grind⟩
  rw [e3]
  grind
/-! ### the list of the squares -/
def sqs (p : Int) : List Int := (List.range (p - 1).toNat).map fun k : Nat => (1 + (k : Int)) * (1 + (k : Int)) % p
theorem sqs_mem {p d : Int} (hp : PrimeI p) (p3 : 2 < p) (d0 : 0 < d) (d1 : d < p) : d ∈ sqs p ↔ sqB p d = true := by
  rw [sqB_iff hp p3]
  unfold sqs
  rw [List.mem_map]
  constructor
  · rintro ⟨k, hk, rfl⟩
    exact Sq.mod.mpr (Sq.self _ _)
  · rintro ⟨y, hy⟩
    rw [Int.emod_eq_of_lt (by omega) d1] at hy
    have y0 := Int.emod_nonneg y (show p ≠ 0 by omega)
    have y1 := Int.emod_lt_of_pos y (show 0 < p by omega)
    have hy' : y % p * (y % p) % p = d := by rw [MB.emod_mul_l, MB.emod_mul_r, hy]
    have yn : y % p ≠ 0 := fun z => by rw [z] at hy'; simp at hy'; omega
    refine ⟨(y % p - 1).toNat, List.mem_range.mpr (by omega), ?_⟩
    rw [show 1 + (((y % p - 1).toNat : Nat) : Int) = y % p by omega]
    exact hy'
end MQ
namespace DL
open PySem L2
theorem any_int {ns : List Int} {d : Int} : ((dints ns).any fun z => PyData.eqv z (.int d)) = decide (d ∈ ns) := by
  rw [Bool.eq_iff_iff, List.any_eq_true, decide_eq_true_iff]
  constructor
  · rintro ⟨z, hz, h⟩
    obtain ⟨v, hv, rfl⟩ := List.mem_map.mp hz
    have := (eqv_iff 0 (.int v) (.int d) rfl rfl).mp h
    cases this
    exact hv
  · intro h
    exact ⟨.int d, List.mem_map_of_mem h, (eqv_iff 0 (.int d) (.int d) rfl rfl).mpr rfl⟩
end DL
/-! The road to a square root (Tonelli and Shanks), step by step. -/
namespace MQ
open MB
theorem one_mod {p : Int} (p2 : 2 ≤ p) : (1 : Int) % p = 1 := Int.emod_eq_of_lt (by decide) (by omega)
theorem minus_of {p u : Int} (hp : PrimeI p) (h : u * u % p = 1) (hn : u % p ≠ 1) : u % p = (-1) % p := by
  have p2 := hp.1
  have : p ∣ u * u - 1 := dvd_iff.mp (by rw [h, one_mod p2])
  rw [show u * u - 1 = (u - 1) * (u - -1) by grind] at this
  rcases euclid hp this with h1 | h1
  · exact absurd ((dvd_iff.mpr h1).trans (one_mod p2)) hn
  · exact dvd_iff.mpr h1
theorem pow_sq (r : Int) (i : Nat) : r ^ (2 ^ i) * r ^ (2 ^ i) = r ^ (2 ^ (i + 1)) := by
  rw [← Int.pow_add]
  congr 1
  rw [Nat.pow_succ]
  omega
theorem sq_pw (g : Int) (i : Nat) : (g * g) ^ (2 ^ i) = g ^ (2 ^ (i + 1)) := by
  rw [show g * g = g ^ 2 by rw [Int.pow_succ, Int.pow_succ, Int.pow_zero, Int.one_mul], ← Int.pow_mul, Nat.pow_succ, Nat.mul_comm]
structure TS (p x : Int) (t : Nat) (f r c : Int) : Prop where
  t1 : 1 ≤ t
  f0 : 0 ≤ f
  f1 : f < p
  r0 : 0 ≤ r
  r1 : r < p
  c0 : 0 ≤ c
  c1 : c < p
  sq : f * f % p = r * x % p
  one : r ^ (2 ^ (t - 1)) % p = 1
  neg : c ^ (2 ^ (t - 1)) % p = (-1) % p
theorem TS.step {p x f r c g : Int} {t s : Nat} (hp : PrimeI p) (h : TS p x t f r c) (s1 : 1 ≤ s) (s2 : s < t) (h1 : r ^ (2 ^ s) % p = 1) (h2 : r ^ (2 ^ (s - 1)) % p ≠ 1) (hg : g % p = c ^ (2 ^ (t - s - 1)) % p) :
    TS p x s (f * g % p) (r * (g * g % p) % p) (g * g % p) := by
  have p2 := hp.1
  have bd : ∀ v : Int, 0 ≤ v % p ∧ v % p < p := fun v => ⟨Int.emod_nonneg _ (by omega), Int.emod_lt_of_pos _ (by omega)⟩
  have G : (g * g % p) ^ (2 ^ (s - 1)) % p = (-1) % p := by
    rw [MB.emod_pow, sq_pw, show s - 1 + 1 = s by omega, MB.cong_pow hg, ← Int.pow_mul, ← Nat.pow_add, show t - s - 1 + s = t - 1 by omega]
    exact h.neg
  have R : r ^ (2 ^ (s - 1)) % p = (-1) % p := minus_of hp (by rw [pow_sq, show s - 1 + 1 = s by omega]; exact h1) h2
  refine ⟨s1, (bd _).1, (bd _).2, (bd _).1, (bd _).2, (bd _).1, (bd _).2, ?_, ?_, G⟩
  · rw [MB.emod_mul_l, MB.emod_mul_r, MB.emod_mul_l, show f * g * (f * g) = f * f * (g * g) by grind, MB.cong_mul h.sq rfl, show r * (g * g % p) * x = r * x * (g * g % p) by grind, MB.emod_mul_r]
  · rw [MB.emod_pow, Int.mul_pow, MB.cong_mul R G]
    exact one_mod p2
theorem pow_one' (r : Int) : r ^ (2 ^ 0) = r := by rw [Nat.pow_zero, Int.pow_succ, Int.pow_zero, Int.one_mul]
theorem TS.start {p x n o : Int} {t : Nat} (hp : PrimeI p) (p3 : 2 < p) (ho : o * 2 ^ t = p - 1) (o0 : 0 < o) (o1 : o % 2 = 1) (hx : ¬ p ∣ x) (hs : sqB p x = true) (hn : sqB p n = false) :
    TS p x t (x ^ ((o + 1) / 2).toNat % p) (x ^ o.toNat % p) (n ^ o.toNat % p) := by
  have p2 := hp.1
  have hodd := half hp p3
  have bd : ∀ v : Int, 0 ≤ v % p ∧ v % p < p := fun v => ⟨Int.emod_nonneg _ (by omega), Int.emod_lt_of_pos _ (by omega)⟩
  have t1 : 1 ≤ t := by
    refine Nat.pos_of_ne_zero fun z => ?_
    subst z
    simp at ho
    omega
  have eo : o * 2 ^ (t - 1) = (p - 1) / 2 := by
    have : o * 2 ^ t = o * 2 ^ (t - 1) * 2 := by
      rw [Int.mul_assoc, ← Int.pow_succ, show (t - 1).succ = t by omega]
    omega
  have ee : o.toNat * 2 ^ (t - 1) = ((p - 1) / 2).toNat := by
    have h1 : ((o.toNat * 2 ^ (t - 1) : Nat) : Int) = (p - 1) / 2 := by
      rw [Int.natCast_mul, Int.toNat_of_nonneg (by omega), Int.natCast_pow]
      exact eo
    omega
  have nx : n ^ ((p - 1) / 2).toNat % p = (-1) % p := by
    have hnn : ¬ p ∣ n := fun z => by
      unfold sqB at hn
      rw [decide_eq_true (Int.emod_eq_zero_of_dvd z)] at hn
      cases hn
    refine minus_of hp ?_ fun z => ?_
    · have e : n ^ ((p - 1) / 2).toNat * n ^ ((p - 1) / 2).toNat = n ^ (p - 1).toNat := by
        rw [← Int.pow_add]
        congr 1
        omega
      rw [e, fermat hp hnn]
    · unfold sqB at hn
      rw [decide_eq_true z, Bool.or_true] at hn
      cases hn
  refine ⟨t1, (bd _).1, (bd _).2, (bd _).1, (bd _).2, (bd _).1, (bd _).2, ?_, ?_, ?_⟩
  · rw [MB.emod_mul_l, MB.emod_mul_r, MB.emod_mul_l, ← Int.pow_add, ← Int.pow_succ]
    congr 2
    omega
  · rw [MB.emod_pow, ← Int.pow_mul, ee]
    have := (euler hp p3 hx).mp ((sqB_iff hp p3).mp hs)
    rw [dvd_iff.mpr this, one_mod p2]
  · rw [MB.emod_pow, ← Int.pow_mul, ee]
    exact nx
theorem TS.done {p x f c : Int} {t : Nat} (h : TS p x t f 1 c) : f * f % p = x % p := by rw [h.sq, Int.one_mul]
theorem TS.pos {p x f r c : Int} {t : Nat} (hp : PrimeI p) (h : TS p x t f r c) (hx : ¬ p ∣ x) : 0 < f := by
  have p2 := hp.1
  have f0 := h.f0
  refine Classical.byContradiction fun z => ?_
  have z : f = 0 := by omega
  have hs := h.sq
  rw [z] at hs
  have : p ∣ r * x := Int.dvd_of_emod_eq_zero (hs.symm.trans (by simp))
  rcases euclid hp this with h1 | h1
  · have h2 := h.one
    have h3 : r % p = 0 % p := by rw [Int.emod_eq_zero_of_dvd h1]; simp
    rw [MB.cong_pow h3, Int.zero_pow (by have := Nat.pow_pos (n := t - 1) (show 0 < 2 by decide); omega)] at h2
    simp at h2
  · exact hx h1
end MQ
namespace MQ
open MB
/-- the least root found among 0 .. k - 1 -/
def rtK (p : Int) : Nat → Int → Option Int
  | 0, _ => none
  | k + 1, s => match rtK p k s with
    | some v => some v
    | none => if (k : Int) * k % p = s then some (k : Int) else none
theorem rtK_succ (p s : Int) (k : Nat) : rtK p (k + 1) s = match rtK p k s with
    | some v => some v
    | none => if (k : Int) * k % p = s then some (k : Int) else none := rfl
theorem rtK_spec (p s : Int) : ∀ k : Nat, (∀ y, rtK p k s = some y → 0 ≤ y ∧ y < k ∧ y * y % p = s ∧ ∀ z : Int, 0 ≤ z → z < y → z * z % p ≠ s) ∧ (rtK p k s = none → ∀ z : Int, 0 ≤ z → z < k → z * z % p ≠ s)
  | 0 => ⟨fun y h => (nomatch h), fun _ z z0 z1 => by omega⟩
  | k + 1 => by
    obtain ⟨h1, h2⟩ := rtK_spec p s k
    unfold rtK
    cases e : rtK p k s with
    | some v =>
      refine ⟨fun y hy => ?_, fun h => (nomatch h)⟩
      have hy : v = y := Option.some.inj hy
      subst hy
      have := h1 v e
      exact ⟨this.1, by omega, this.2.2⟩
    | none =>
      by_cases hk : (k : Int) * k % p = s
      · rw [if_pos hk]
        refine ⟨fun y hy => ?_, fun h => (nomatch h)⟩
        have hy : (k : Int) = y := Option.some.inj hy
        subst hy
        exact ⟨by omega, by omega, hk, fun z z0 z1 => h2 e z z0 z1⟩
      · rw [if_neg hk]
        refine ⟨fun y hy => (nomatch hy), fun _ z z0 z1 => ?_⟩
        by_cases hz : z = k
        · rw [hz]; exact hk
        · exact h2 e z z0 (by omega)
theorem rtK_root {p s y : Int} (hp : PrimeI p) (p3 : 2 < p) (y0 : 0 ≤ y) (y1 : 2 * y < p) (h : y * y % p = s) (s0 : 0 ≤ s) (s1 : s < p) : rtK p p.toNat s = some y := by
  obtain ⟨h1, h2⟩ := rtK_spec p s p.toNat
  cases e : rtK p p.toNat s with
  | none => exact absurd h (h2 e y y0 (by omega))
  | some v =>
    obtain ⟨v0, v1, hv, hm⟩ := h1 v e
    congr 1
    have le : v ≤ y := Classical.byContradiction fun z => hm y y0 (by omega) h
    have : p ∣ v * v - y * y := dvd_iff.mp (hv.trans h.symm)
    rw [show v * v - y * y = (v - y) * (v + y) by grind] at this
    rcases euclid hp this with h3 | h3
    · have := Int.eq_zero_of_dvd_of_natAbs_lt_natAbs h3 (by omega)
      omega
    · have := Int.eq_zero_of_dvd_of_natAbs_lt_natAbs h3 (by omega)
      omega
theorem rtK_non {p s : Int} (hp : PrimeI p) (p3 : 2 < p) (s0 : 0 ≤ s) (s1 : s < p) (h : sqB p s = false) : rtK p p.toNat s = none := by
  obtain ⟨h1, h2⟩ := rtK_spec p s p.toNat
  cases e : rtK p p.toNat s with
  | none => rfl
  | some v =>
    obtain ⟨v0, v1, hv, hm⟩ := h1 v e
    rw [(sqB_iff hp p3).mpr ⟨v, by rw [hv, Int.emod_eq_of_lt s0 s1]⟩] at h
    cases h
theorem rtK_isSome {p s : Int} (hp : PrimeI p) (p3 : 2 < p) (s0 : 0 ≤ s) (s1 : s < p) : (rtK p p.toNat s).isSome = sqB p s := by
  cases h : sqB p s with
  | false => rw [rtK_non hp p3 s0 s1 h]; rfl
  | true =>
    cases e : rtK p p.toNat s with
    | some v => rfl
    | none =>
      obtain ⟨y, hy⟩ := (sqB_iff hp p3).mp h
      rw [Int.emod_eq_of_lt s0 s1] at hy
      exact absurd (by rw [MB.emod_mul_l, MB.emod_mul_r, hy]) ((rtK_spec p s p.toNat).2 e (y % p) (Int.emod_nonneg _ (by omega)) (by have := Int.emod_lt_of_pos y (show 0 < p by omega); omega))
end MQ
/-! The sum of points is associative. -/
namespace MC
open MS
variable {p a b : Int}
/-- m is a slope of the line through two points -/
structure Ln (p a m x1 y1 x2 y2 : Int) : Prop where
  i : C p y2 - C p y1 = C p m * (C p x2 - C p x1)
  ii : C p m * (C p y1 + C p y2) = C p x1 * C p x1 + C p x1 * C p x2 + C p x2 * C p x2 + C p a
theorem ln_slp {x1 y1 x2 y2 : Int} (hp : MB.PrimeI p) (h1 : On p a b (some (x1, y1))) (h2 : On p a b (some (x2, y2))) (hn : ¬ (x1 = x2 ∧ (y1 + y2) % p = 0)) : Ln p a (slp p a x1 y1 x2 y2) x1 y1 x2 y2 := by
  have e1 := onE h1.2.2.2.2
  have e2 := onE h2.2.2.2.2
  rcases slp_eq hp h1 h2 hn with ⟨rfl, rfl, _, e⟩ | ⟨_, hd, e⟩
  · exact ⟨by grind, by grind⟩
  · have hi := inv_mul hp hd
    rw [C_sub] at hi
    refine ⟨e.symm, ?_⟩
    generalize C p (slp p a x1 y1 x2 y2) = m at *
    have key : (C p x2 - C p x1) * (m * (C p y1 + C p y2) - (C p x1 * C p x1 + C p x1 * C p x2 + C p x2 * C p x2 + C p a)) = 0 := by
      have : (C p x2 - C p x1) * (m * (C p y1 + C p y2)) = (C p y2 - C p y1) * (C p y1 + C p y2) := by rw [← e]; grind
      grind
    grind
theorem nonopp {x1 y1 x2 y2 : Int} (hp : MB.PrimeI p) (h1 : On p a b (some (x1, y1))) (h2 : On p a b (some (x2, y2))) (hn : ¬ (x1 = x2 ∧ (y1 + y2) % p = 0)) : ∃ J : Ser p, J * (C p x2 - C p x1) = 1 ∨ J * (C p y1 + C p y2) = 1 := by
  by_cases hx : x1 = x2
  · have hy : (y1 + y2) % p ≠ 0 := fun z => hn ⟨hx, z⟩
    have := inv_mul hp hy
    rw [C_add] at this
    exact ⟨_, .inr this⟩
  · have := inv_mul hp (sub_ne h1.1 h1.2.1 h2.1 h2.2.1 hx)
    rw [C_sub] at this
    exact ⟨_, .inl this⟩
theorem ln_uniq {x1 y1 x2 y2 m n : Int} (hp : MB.PrimeI p) (h1 : On p a b (some (x1, y1))) (h2 : On p a b (some (x2, y2))) (hn : ¬ (x1 = x2 ∧ (y1 + y2) % p = 0)) (l1 : Ln p a m x1 y1 x2 y2) (l2 : Ln p a n x1 y1 x2 y2) : C p m = C p n := by
  obtain ⟨J, hJ⟩ := nonopp hp h1 h2 hn
  have a1 := l1.i
  have a2 := l1.ii
  have b1 := l2.i
  have b2 := l2.ii
  rcases hJ with hJ | hJ <;> grind
theorem pt_eq {x1 y1 x2 y2 : Int} (h1 : On p a b (some (x1, y1))) (h2 : On p a b (some (x2, y2))) (hx : C p x1 = C p x2) (hy : C p y1 = C p y2) : (some (x1, y1) : Pt) = some (x2, y2) := by
  rw [C_eq h1.1 h1.2.1 h2.1 h2.2.1 hx, C_eq h1.2.2.1 h1.2.2.2.1 h2.2.2.1 h2.2.2.2.1 hy]
theorem add_some {x1 y1 x2 y2 : Int} (c : Cu p a b) (h1 : On p a b (some (x1, y1))) (h2 : On p a b (some (x2, y2))) (hn : ¬ (x1 = x2 ∧ (y1 + y2) % p = 0)) :
    ∃ m x3 y3, addP p a (some (x1, y1)) (some (x2, y2)) = some (x3, y3) ∧ Ln p a m x1 y1 x2 y2 ∧ On p a b (some (x3, y3)) ∧ C p x3 = C p m * C p m - C p x1 - C p x2 ∧ C p y3 = C p m * (C p x1 - C p x3) - C p y1 := by
  have ha := h1.add c h2
  have e : addP p a (some (x1, y1)) (some (x2, y2)) = some (addM p (slp p a x1 y1 x2 y2) x1 y1 x2) := if_neg hn
  rw [e] at ha
  have ec := addM_C (p := p) (m := slp p a x1 y1 x2 y2) (x1 := x1) (y1 := y1) (x2 := x2)
  exact ⟨_, _, _, e, ln_slp c.hp h1 h2 hn, ha, ec.1, ec.2.trans (by rw [← ec.1]; rfl)⟩
theorem add_of {x1 y1 x2 y2 x3 y3 m : Int} (c : Cu p a b) (h1 : On p a b (some (x1, y1))) (h2 : On p a b (some (x2, y2))) (h3 : On p a b (some (x3, y3))) (hn : ¬ (x1 = x2 ∧ (y1 + y2) % p = 0)) (l : Ln p a m x1 y1 x2 y2)
    (hx : C p x3 = C p m * C p m - C p x1 - C p x2) (hy : C p y3 = C p m * (C p x1 - C p x3) - C p y1) : addP p a (some (x1, y1)) (some (x2, y2)) = some (x3, y3) := by
  obtain ⟨n, u, v, e, ln, hu, eu, ev⟩ := add_some c h1 h2 hn
  have := ln_uniq c.hp h1 h2 hn l ln
  rw [e]
  have ex : C p u = C p x3 := by rw [eu, hx, this]
  exact pt_eq hu h3 ex (by rw [ev, hy, this, ex])
theorem opp_C {x1 y1 x2 y2 : Int} (h1 : On p a b (some (x1, y1))) (h2 : On p a b (some (x2, y2))) : (x1 = x2 ∧ (y1 + y2) % p = 0) ↔ (C p x1 = C p x2 ∧ C p y1 + C p y2 = 0) := by
  rw [← C_add, C_zero_iff]
  exact ⟨fun h => ⟨by rw [h.1], h.2⟩, fun h => ⟨C_eq h1.1 h1.2.1 h2.1 h2.2.1 h.1, h.2⟩⟩
theorem neg_neg (c : Cu p a b) {P : Pt} (h : On p a b P) : negP p (negP p P) = P := by
  cases P with
  | none => rfl
  | some q =>
    obtain ⟨x, y⟩ := q
    exact pt_eq (h.neg c |>.neg c) h rfl (by rw [C_emod, C_neg, C_emod, C_neg]; grind)
theorem eq_neg {P Q : Pt} (c : Cu p a b) (h1 : On p a b P) (h2 : On p a b Q) (h : addP p a P Q = none) : Q = negP p P := by
  cases P with
  | none => exact h
  | some q =>
    obtain ⟨x1, y1⟩ := q
    cases Q with
    | none => exact absurd h (by intro z; cases z)
    | some q =>
      obtain ⟨x2, y2⟩ := q
      by_cases hn : x1 = x2 ∧ (y1 + y2) % p = 0
      · obtain ⟨e1, e2⟩ := (opp_C h1 h2).mp hn
        exact pt_eq h2 (h1.neg c) e1.symm (by rw [C_emod, C_neg]; grind)
      · obtain ⟨_, _, _, e, _⟩ := add_some c h1 h2 hn
        rw [e] at h
        cases h
theorem neg_add (c : Cu p a b) {P Q : Pt} (h1 : On p a b P) (h2 : On p a b Q) : negP p (addP p a P Q) = addP p a (negP p P) (negP p Q) := by
  cases P with
  | none => rfl
  | some q =>
    obtain ⟨x1, y1⟩ := q
    cases Q with
    | none => rfl
    | some q =>
      obtain ⟨x2, y2⟩ := q
      have n1 := h1.neg c
      have n2 := h2.neg c
      have ey1 : C p (-y1 % p) = -C p y1 := by rw [C_emod, C_neg]
      have ey2 : C p (-y2 % p) = -C p y2 := by rw [C_emod, C_neg]
      by_cases hn : x1 = x2 ∧ (y1 + y2) % p = 0
      · have hn2 := (opp_C n1 n2).mpr ⟨by rw [hn.1], by have := ((opp_C h1 h2).mp hn).2; rw [ey1, ey2]; grind⟩
        show negP p (if _ then _ else _) = if _ then _ else _
        rw [if_pos hn, if_pos hn2]
        rfl
      · have hn2 : ¬ (x1 = x2 ∧ (-y1 % p + -y2 % p) % p = 0) := fun z => hn ((opp_C h1 h2).mpr ⟨by rw [z.1], by have := ((opp_C n1 n2).mp z).2; rw [ey1, ey2] at this; grind⟩)
        obtain ⟨m, x3, y3, e, l, h3, ex, ey⟩ := add_some c h1 h2 hn
        rw [e]
        have n3 := h3.neg c
        have ey3 : C p (-y3 % p) = -C p y3 := by rw [C_emod, C_neg]
        refine (add_of (m := -m) c n1 n2 n3 hn2 ⟨?_, ?_⟩ ?_ ?_).symm
        · have := l.i
          rw [ey1, ey2, C_neg]
          grind
        · have := l.ii
          rw [ey1, ey2, C_neg]
          grind
        · rw [ex, C_neg]
          grind
        · rw [ey3, ey, ey1, C_neg]
          grind
theorem c1 {y1 y3 m x1 x3 : Ser p} (ey : y3 = m * (x1 - x3) - -y1) : y3 - y1 = -m * (x3 - x1) := by rw [ey]; grind
theorem c2a {m x1 x2 x3 y1 A : Ser p} (mm : m * m = x1 + x2 + x3) (h : m * (-y1 + (m * (x2 - x1) - y1)) = x1 * x1 + x1 * x2 + x2 * x2 + A) : -m * (y1 + (m * (x1 - x3) + y1)) = x1 * x1 + x1 * x3 + x3 * x3 + A := by
  have k1 : m * (-y1 + (m * (x2 - x1) - y1)) = (m * m) * (x2 - x1) - 2 * m * y1 := by clear h mm; grind
  have k2 : -m * (y1 + (m * (x1 - x3) + y1)) = -((m * m) * (x1 - x3)) - 2 * m * y1 := by clear h mm k1; grind
  rw [k1, mm] at h
  rw [k2, mm]
  clear k1 k2 mm
  grind
theorem c2 {m x1 x2 x3 y1 y2 y3 A : Ser p} (ex : x3 = m * m - x1 - x2) (ey : y3 = m * (x1 - x3) - -y1) (li : y2 - -y1 = m * (x2 - x1)) (lii : m * (-y1 + y2) = x1 * x1 + x1 * x2 + x2 * x2 + A) : -m * (y1 + y3) = x1 * x1 + x1 * x3 + x3 * x3 + A := by
  have k1 : y2 = m * (x2 - x1) - y1 := by rw [← li]; clear ex ey li lii; grind
  have k3 : y3 = m * (x1 - x3) + y1 := by rw [ey]; clear ex ey li lii k1; grind
  have k4 : m * m = x1 + x2 + x3 := by rw [ex]; clear ex ey li lii k1 k3; grind
  rw [k1] at lii
  have := c2a k4 lii
  rw [k3]
  exact this
theorem c3 {x1 x2 x3 m : Ser p} (ex : x3 = m * m - x1 - x2) : x2 = -m * -m - x1 - x3 := by rw [ex]; clear ex; grind
theorem c4 {x1 x2 y1 y2 m : Ser p} (li : y2 - -y1 = m * (x2 - x1)) : y2 = -m * (x1 - x2) - y1 := by grind
theorem c5 {y1 y3 m x1 x3 : Ser p} (ey : y3 = m * (x1 - x3) - -y1) (z : x1 = x3) : y3 = y1 := by rw [ey, z]; clear ey z; grind
theorem c6 {y1 y3 : Ser p} (h : y3 = y1) (z : y1 + y3 = 0) : (1 + 1) * y1 = 0 := by rw [h] at z; grind
theorem c7 : (1 + 1 + 1 + 1 : Ser p) = 4 := by grind
theorem c8 : (1 + 1 + 1 : Ser p) = 3 := by grind
theorem c9 : (3 * 3 * 3 : Ser p) = 27 := by grind
theorem sing1 {x1 x2 m A : Ser p} (mm : m * m = x1 + x1 + x2) (h : m * (-0 + m * (x2 - x1)) = x1 * x1 + x1 * x2 + x2 * x2 + A) : A = -(3 * x1 * x1) := by
  have k1 : m * (-0 + m * (x2 - x1)) = (m * m) * (x2 - x1) := by clear mm h; grind
  rw [k1, mm] at h
  clear k1 mm
  grind
theorem sing2 {x1 A B : Ser p} (hA : A = -(3 * x1 * x1)) (o : (0 : Ser p) * 0 = x1 * x1 * x1 + A * x1 + B) : 4 * A * A * A + 27 * B * B = 0 := by
  have hB : B = 2 * x1 * x1 * x1 := by rw [hA] at o; clear hA; grind
  rw [hA, hB]
  clear hA hB o
  grind
theorem sing3 {y2 t : Ser p} (li : y2 - -0 = t) : y2 = t := by grind
theorem sing {x1 x2 x3 y2 m A B : Ser p} (ex : x3 = m * m - x1 - x2) (z : x1 = x3) (li : y2 - -0 = m * (x2 - x1)) (lii : m * (-0 + y2) = x1 * x1 + x1 * x2 + x2 * x2 + A) (o : (0 : Ser p) * 0 = x1 * x1 * x1 + A * x1 + B) : 4 * A * A * A + 27 * B * B = 0 := by
  have mm : m * m = x1 + x1 + x2 := by rw [← z] at ex; clear li lii o z; grind
  rw [sing3 li] at lii
  exact sing2 (sing1 mm lii) o
theorem cancel (c : Cu p a b) (hd : (4 * a * a * a + 27 * b * b) % p ≠ 0) {P Q : Pt} (h1 : On p a b P) (h2 : On p a b Q) : addP p a P (addP p a (negP p P) Q) = Q := by
  cases P with
  | none => rfl
  | some q =>
    obtain ⟨x1, y1⟩ := q
    cases Q with
    | none => rw [add_none]; exact add_neg c _
    | some q =>
      obtain ⟨x2, y2⟩ := q
      have hp := c.hp
      have n1 := h1.neg c
      have ey1 : C p (-y1 % p) = -C p y1 := by rw [C_emod, C_neg]
      by_cases hn : x1 = x2 ∧ (-y1 % p + y2) % p = 0
      · have e : addP p a (negP p (some (x1, y1))) (some (x2, y2)) = none := if_pos hn
        rw [e, add_none]
        obtain ⟨e1, e2⟩ := (opp_C n1 h2).mp hn
        rw [ey1] at e2
        exact pt_eq h1 h2 e1 (by grind)
      · obtain ⟨m, x3, y3, e, l, h3, ex, ey⟩ := add_some c n1 h2 hn
        have e' : addP p a (negP p (some (x1, y1))) (some (x2, y2)) = some (x3, y3) := e
        rw [e']
        have li := l.i
        have lii := l.ii
        rw [ey1] at li lii ey
        have o1 := onE h1.2.2.2.2
        have hn2 : ¬ (x1 = x3 ∧ (y1 + y3) % p = 0) := fun z => by
          obtain ⟨z1, z2⟩ := (opp_C h1 h3).mp z
          have y30 : C p y3 = C p y1 := c5 ey z1
          have c2 : C p (1 + 1) * C p y1 = 0 := by rw [C_add, C_one]; exact c6 y30 z2
          have two : C p (1 + 1) ≠ 0 := fun y => by
            have := C_zero_iff.mp y
            have p5 := c.p5
            rw [Int.emod_eq_of_lt (by decide) (by omega)] at this
            cases this
          have y10 := (C_prod hp c2).resolve_left two
          rw [y10] at li lii o1
          refine hd (C_zero_iff.mp ?_)
          have c4 : C p 4 = 4 := by
            have : C p (1 + 1 + 1 + 1) = C p 1 + C p 1 + C p 1 + C p 1 := by rw [C_add, C_add, C_add]
            rw [C_one] at this
            have h : C p 4 = 1 + 1 + 1 + 1 := this
            rw [h]
            exact c7
          have c27 : C p 27 = 27 := by
            have c3 : C p 3 = 3 := by
              have : C p (1 + 1 + 1) = C p 1 + C p 1 + C p 1 := by rw [C_add, C_add]
              rw [C_one] at this
              have h : C p 3 = 1 + 1 + 1 := this
              rw [h]
              exact c8
            have : C p (3 * 3 * 3) = C p 3 * C p 3 * C p 3 := by rw [C_mul, C_mul]
            have h : C p 27 = C p 3 * C p 3 * C p 3 := this
            rw [h, c3]
            exact c9
          rw [C_add, C_mul, C_mul, C_mul, C_mul, C_mul, c4, c27]
          exact sing ex z1 li lii o1
        refine add_of (m := -m) c h1 h3 h2 hn2 ⟨?_, ?_⟩ ?_ ?_
        · rw [C_neg]
          exact c1 ey
        · rw [C_neg]
          exact c2 ex ey li lii
        · rw [C_neg]
          exact c3 ex
        · rw [C_neg]
          exact c4 li
theorem sub0 {u v : Ser p} (h : u - v = 0) : u = v := by grind
theorem opy {Y l x1 x3 y1 y2 y3 x2 : Ser p} (e : Y = l * (x1 - x3) - y1) (i12 : y2 - y1 = l * (x2 - x1)) (i23 : y3 - y2 = l * (x3 - x2)) : Y + y3 = 0 := by grind
theorem same1 {l x1 x3 y1 y2 y3 x2 : Ser p} (i12 : y2 - y1 = l * (x2 - x1)) (i23 : y3 - y2 = l * (x3 - x2)) (e : x1 = x3) : y1 = y3 := by grind
theorem dz1 {l x1 x2 x3 y2 A : Ser p} (ii12 : l * (y2 - l * (x2 - x1) + y2) = x1 * x1 + x1 * x2 + x2 * x2 + A) (ii23 : l * (y2 + (y2 + l * (x3 - x2))) = x2 * x2 + x2 * x3 + x3 * x3 + A) : (x3 - x1) * (l * l - x1 - x2 - x3) = 0 := by grind
theorem dz {l x1 x2 x3 y1 y2 y3 A : Ser p} (i12 : y2 - y1 = l * (x2 - x1)) (ii12 : l * (y1 + y2) = x1 * x1 + x1 * x2 + x2 * x2 + A) (i23 : y3 - y2 = l * (x3 - x2)) (ii23 : l * (y2 + y3) = x2 * x2 + x2 * x3 + x3 * x3 + A) : (x3 - x1) * (l * l - x1 - x2 - x3) = 0 := by
  have k1 : y1 = y2 - l * (x2 - x1) := by rw [← i12]; grind
  have k3 : y3 = y2 + l * (x3 - x2) := by rw [← i23]; grind
  rw [k1] at ii12
  rw [k3] at ii23
  exact dz1 ii12 ii23
theorem zz {d n u w t : Ser p} (h : w = n * u) (k : d * w = u * t) : u * (d * n - t) = 0 := by
  rw [h] at k
  grind
theorem flip {d x y u v t : Ser p} (k : d * (x - y) = (u - v) * t) : d * (y - x) = (v - u) * t := by grind
theorem eqA {A u t : Ser p} (h : u = t + A) : A = u - t := by grind
theorem uz {K u g : Ser p} (h : K * u = 1) (z : u * g = 0) : g = 0 := by grind
theorem hq1 {n X4 Y4 x3 y3 Z : Ser p} (h : y3 - Y4 = n * (x3 - X4)) : n * (X4 - Z) - Y4 = n * x3 - y3 - n * Z := by grind
theorem hq2 {n l m r x1 Z : Ser p} (h : r = n + (l - m)) : r * (x1 - Z) = n * x1 + (l - m) * x1 - n * Z - (l - m) * Z := by grind
theorem hq3 {l m r t : Ser p} (h : (m - l) * r = t) : (l - m) * r = -t := by grind
theorem hq5 {m n l x1 x2 x3 X5 : Ser p} (mm : m * m = X5 + x2 + x3) : n * (x3 - x1) + n * (x2 + x1 + X5 - l * m) = -(m * ((l - m) * n)) := by grind
theorem hq6 {m n l x1 x2 x3 X4 : Ser p} (ll : l * l = X4 + x1 + x2) (N1 : (l - m) * n = l * m - x2 - x3 - X4) : m * ((l - m) * n) + m * ((l - m) * l) = m * (x1 - x3) := by
  rw [N1]
  grind
theorem hX6 {n r l m X4 x2 x3 : Ser p} (rn : r = n + (l - m)) (N1 : (l - m) * n = l * m - x2 - x3 - X4) : n * n - X4 - x3 = n * r - l * m + x2 := by
  rw [rn]
  have : n * (n + (l - m)) = n * n + (l - m) * n := by grind
  rw [this, N1]
  grind
theorem hx67 {n r l m X4 X5 x1 x2 x3 : Ser p} (rn : r = n + (l - m)) (N1 : (l - m) * n = l * m - x2 - x3 - X4) (ll : l * l = X4 + x1 + x2) (mm : m * m = X5 + x2 + x3) : n * n - X4 - x3 = r * r - x1 - X5 := by
  rw [rn]
  have : (n + (l - m)) * (n + (l - m)) = n * n + (l - m) * n + (l - m) * n + (l * l - l * m - l * m + m * m) := by grind
  rw [this, N1, ll, mm]
  grind
theorem hr2 {n r l m : Ser p} (h : n - r + (l - m) = 0) : r = n + (l - m) := by grind
theorem hrn {n r l m X4 X5 x1 x2 x3 : Ser p} (N1 : (l - m) * n = l * m - x2 - x3 - X4) (N2 : (m - l) * r = l * m - x2 - x1 - X5) (ll : l * l = X4 + x1 + x2) (mm : m * m = X5 + x2 + x3) : (l - m) * (n - r + (l - m)) = 0 := by
  have : (l - m) * (n - r + (l - m)) = (l - m) * n + (m - l) * r + (l * l - l * m - l * m + m * m) := by grind
  rw [this, N1, N2, ll, mm]
  grind
section
variable {x1 y1 x2 y2 x3 y3 A l m n X4 Y4 X5 Y5 J : Ser p}
theorem r1 : l * (y2 - l * (x2 - x1) + y2) = 2 * y2 * l - (l * l) * (x2 - x1) := by grind
theorem r2 : m * (y2 + (y2 + m * (x3 - x2))) = 2 * y2 * m + (m * m) * (x3 - x2) := by grind
theorem r3 (h1 : 2 * y2 * l - (X4 + x1 + x2) * (x2 - x1) = x1 * x1 + x1 * x2 + x2 * x2 + A) (h2 : 2 * y2 * m + (X5 + x2 + x3) * (x3 - x2) = x2 * x2 + x2 * x3 + x3 * x3 + A) : 2 * y2 * (l - m) = (x3 - x2) * (X5 - x2) - (x1 - x2) * (X4 - x2) := by grind
theorem r4 : (l - m) * (y2 + m * (x3 - x2) - (l * (x2 - X4) - y2)) = 2 * y2 * (l - m) + l * m * (x3 - x2) - (m * m) * (x3 - x2) - (l * l) * (x2 - X4) + l * m * (x2 - X4) := by grind
theorem r5 : (x3 - x2) * (X5 - x2) - (x1 - x2) * (X4 - x2) + l * m * (x3 - x2) - (X5 + x2 + x3) * (x3 - x2) - (X4 + x1 + x2) * (x2 - X4) + l * m * (x2 - X4) = (x3 - X4) * (l * m - x2 - x3 - X4) := by grind
theorem r6 {S T : Ser p} : (l - m) * (S + (2 * y2 * l - T)) = l * (2 * y2 * (l - m)) + (l - m) * (S - T) := by grind
theorem r7 {V U : Ser p} : (l * U + m * V) * (l * m - x2 - x3 - X4) = (l * l) * m * U + (m * m) * l * V - (l * U + m * V) * (x2 + x3 + X4) := by grind
theorem r8 : l * ((x3 - x2) * (X5 - x2) - (x1 - x2) * (X4 - x2)) + (l - m) * (X4 * X4 + X4 * x3 + x3 * x3 - ((X4 + x1 + x2) * (x2 - x1) + (x1 * x1 + x1 * x2 + x2 * x2))) = (X4 + x1 + x2) * m * (x2 - X4) + (X5 + x2 + x3) * l * (x3 - x2) - (l * (x2 - X4) + m * (x3 - x2)) * (x2 + x3 + X4) := by grind
theorem r9 : l * (x2 - X4) - y2 + (y2 + m * (x3 - x2)) = l * (x2 - X4) + m * (x3 - x2) := by grind
theorem hN1 (I0 : 2 * y2 * (l - m) = (x3 - x2) * (X5 - x2) - (x1 - x2) * (X4 - x2)) (ll : l * l = X4 + x1 + x2) (mm : m * m = X5 + x2 + x3) (ey3 : y3 = y2 + m * (x3 - x2)) (f4 : Y4 = l * (x2 - X4) - y2)
    (hA : A = 2 * y2 * l - ((X4 + x1 + x2) * (x2 - x1) + (x1 * x1 + x1 * x2 + x2 * x2))) (i43 : y3 - Y4 = n * (x3 - X4)) (ii43 : n * (Y4 + y3) = X4 * X4 + X4 * x3 + x3 * x3 + A) (hJ : J * (x3 - X4) = 1 ∨ J * (Y4 + y3) = 1) : (l - m) * n = l * m - x2 - x3 - X4 := by
  have I1 : (l - m) * (y3 - Y4) = (x3 - X4) * (l * m - x2 - x3 - X4) := by rw [ey3, f4, r4, I0, ll, mm, r5]
  have I2 : (l - m) * (X4 * X4 + X4 * x3 + x3 * x3 + A) = (Y4 + y3) * (l * m - x2 - x3 - X4) := by rw [hA, r6, I0, f4, ey3, r9, r7, ll, mm, r8]
  have z1 := zz i43 I1
  have z2 := zz ii43.symm I2
  generalize hg : (l - m) * n - (l * m - x2 - x3 - X4) = g at z1 z2
  have : g = 0 := hJ.elim (fun h => uz h z1) fun h => uz h z2
  exact sub0 (hg.trans this)
end
theorem lm1 {X l u v : Ser p} (h : X = l * l - u - v) : l * l = X + u + v := by grind
theorem lm2 {X l u v : Ser p} (h : X = l * l - u - v) : l * l = X + v + u := by grind
theorem ey1' {y1 y2 l x1 x2 : Ser p} (h : y2 - y1 = l * (x2 - x1)) : y1 = y2 - l * (x2 - x1) := by rw [← h]; grind
theorem ey1'' {y1 y2 l x1 x2 : Ser p} (h : y2 - y1 = l * (x2 - x1)) : y1 = y2 + l * (x1 - x2) := by grind
theorem ey3' {y3 y2 m x3 x2 : Ser p} (h : y3 - y2 = m * (x3 - x2)) : y3 = y2 + m * (x3 - x2) := by rw [← h]; grind
theorem f4a {Y4 l x1 x2 X4 y1 y2 : Ser p} (f4 : Y4 = l * (x1 - X4) - y1) (e : y1 = y2 - l * (x2 - x1)) : Y4 = l * (x2 - X4) - y2 := by rw [f4, e]; grind
theorem neg0 {a b c d y l m : Ser p} (h : 2 * y * (l - m) = a * b - c * d) : 2 * y * (m - l) = c * d - a * b := by grind
theorem flp {a b n c d : Ser p} (h : b - a = n * (d - c)) : a - b = n * (c - d) := by grind
theorem flq {r u v x X A : Ser p} (h : r * (u + v) = x * x + x * X + X * X + A) : r * (v + u) = X * X + X * x + x * x + A := by grind
theorem flK {K X x y Y : Ser p} (h : K * (X - x) = 1 ∨ K * (y + Y) = 1) : ∃ J : Ser p, J * (x - X) = 1 ∨ J * (Y + y) = 1 := by
  rcases h with h | h
  · exact ⟨-K, .inl (by grind)⟩
  · exact ⟨K, .inr (by grind)⟩
theorem eqA2 {A y2 l T S : Ser p} (h : 2 * y2 * l - T = S + A) : A = 2 * y2 * l - (T + S) := by grind
theorem hAr {m y2 x2 x3 X5 A : Ser p} (h : 2 * y2 * m + (X5 + x2 + x3) * (x3 - x2) = x2 * x2 + x2 * x3 + x3 * x3 + A) : A = 2 * y2 * m - ((X5 + x3 + x2) * (x2 - x3) + (x3 * x3 + x3 * x2 + x2 * x2)) := by grind
theorem hq8 {m l x1 x2 x3 X5 y1 y3 n Z : Ser p} (key : n * (x3 - x1) + n * (x2 + x1 + X5 - l * m) + (y1 - y3) = -(m * (x1 - x3) - m * ((l - m) * l)) + (-(l * (x2 - x1)) - m * (x3 - x2))) : n * x3 - y3 - Z = n * x1 + (l - m) * x1 - Z - (n * -(l * m - x2 - x1 - X5) - (l - m) * (l * m - x2)) - y1 := by grind
theorem hq7 {l m n r x2 : Ser p} : (l - m) * (n * r - l * m + x2) = n * ((l - m) * r) - (l - m) * (l * m - x2) := by grind
theorem hq4 {l m x1 x2 x3 y2 : Ser p} : y2 - l * (x2 - x1) - (y2 + m * (x3 - x2)) = -(l * (x2 - x1)) - m * (x3 - x2) := by grind
theorem hq9 {a b c : Ser p} (h : a + b = c) : a = c - b := by grind
/-- the plain heart: what the four slopes tell -/
theorem heart {x1 y1 x2 y2 x3 y3 A l m n r X4 Y4 X5 Y5 I J K : Ser p} (i12 : y2 - y1 = l * (x2 - x1)) (ii12 : l * (y1 + y2) = x1 * x1 + x1 * x2 + x2 * x2 + A) (i23 : y3 - y2 = m * (x3 - x2)) (ii23 : m * (y2 + y3) = x2 * x2 + x2 * x3 + x3 * x3 + A)
    (e4 : X4 = l * l - x1 - x2) (f4 : Y4 = l * (x1 - X4) - y1) (e5 : X5 = m * m - x2 - x3) (f5 : Y5 = m * (x2 - X5) - y2)
    (i43 : y3 - Y4 = n * (x3 - X4)) (ii43 : n * (Y4 + y3) = X4 * X4 + X4 * x3 + x3 * x3 + A) (i15 : Y5 - y1 = r * (X5 - x1)) (ii15 : r * (y1 + Y5) = x1 * x1 + x1 * X5 + X5 * X5 + A)
    (hI : I * (l - m) = 1) (hJ : J * (x3 - X4) = 1 ∨ J * (Y4 + y3) = 1) (hK : K * (X5 - x1) = 1 ∨ K * (y1 + Y5) = 1) :
    n * n - X4 - x3 = r * r - x1 - X5 ∧ n * (X4 - (n * n - X4 - x3)) - Y4 = r * (x1 - (r * r - x1 - X5)) - y1 := by
  have ll := lm1 e4
  have mm := lm1 e5
  have ey1 := ey1' i12
  have ey3 := ey3' i23
  have f4' := f4a f4 ey1
  have ii12' := ii12
  rw [ey1, r1, ll] at ii12'
  have ii23' := ii23
  rw [ey3, r2, mm] at ii23'
  have I0 := r3 ii12' ii23'
  have N1 := hN1 I0 ll mm ey3 f4' (eqA2 ii12') i43 ii43 hJ
  obtain ⟨K', hK'⟩ := flK hK
  have N2 : (m - l) * r = m * l - x2 - x1 - X5 := hN1 (neg0 I0) (lm2 e5) (lm2 e4) (ey1'' i12) f5 (hAr ii23') (flp i15) (flq ii15) hK'
  rw [show m * l = l * m by grind] at N2
  have rn := hr2 (uz hI (hrn N1 N2 ll mm))
  have x67 := hx67 rn N1 ll mm
  refine ⟨x67, ?_⟩
  rw [← x67, hX6 rn N1]
  have q3 := hq3 N2
  have q5 := hq5 (n := n) (l := l) (x1 := x1) mm
  have q6 := hq6 ll N1
  rw [hq1 i43, hq2 rn, hq7, q3]
  refine hq8 ?_
  rw [q5, hq9 q6, ey1, ey3, hq4]
theorem assoc (c : Cu p a b) (hd : (4 * a * a * a + 27 * b * b) % p ≠ 0) {P Q R : Pt} (h1 : On p a b P) (h2 : On p a b Q) (h3 : On p a b R) : addP p a (addP p a P Q) R = addP p a P (addP p a Q R) := by
  have hp := c.hp
  cases P with
  | none => rfl
  | some P =>
  cases Q with
  | none => rfl
  | some Q =>
  cases R with
  | none => rw [add_none, add_none]
  | some R =>
  obtain ⟨x1, y1⟩ := P
  obtain ⟨x2, y2⟩ := Q
  obtain ⟨x3, y3⟩ := R
  by_cases n12 : x1 = x2 ∧ (y1 + y2) % p = 0
  · have e : addP p a (some (x1, y1)) (some (x2, y2)) = none := if_pos n12
    have e2 := eq_neg c h1 h2 e
    rw [e, e2, cancel c hd h1 h3]
    rfl
  by_cases n23 : x2 = x3 ∧ (y2 + y3) % p = 0
  · have e : addP p a (some (x2, y2)) (some (x3, y3)) = none := if_pos n23
    have e2 := eq_neg c h2 h3 e
    rw [e, e2, add_none, add_comm c (h1.add c h2) (h2.neg c), add_comm c h1 h2]
    have := cancel c hd (h2.neg c) h1
    rwa [neg_neg c h2] at this
  obtain ⟨l, X4, Y4, eA, lA, hA, eX4, eY4⟩ := add_some c h1 h2 n12
  obtain ⟨m, X5, Y5, eB, lB, hB, eX5, eY5⟩ := add_some c h2 h3 n23
  by_cases n43 : X4 = x3 ∧ (Y4 + y3) % p = 0
  · have e : addP p a (some (X4, Y4)) (some (x3, y3)) = none := if_pos n43
    have e2 := eq_neg c hA h3 e
    rw [eA, e, e2, ← eA, neg_add c h1 h2, add_comm c (h1.neg c) (h2.neg c), cancel c hd h2 (h1.neg c), add_neg c]
  by_cases n15 : x1 = X5 ∧ (y1 + Y5) % p = 0
  · have e : addP p a (some (x1, y1)) (some (X5, Y5)) = none := if_pos n15
    have e2 := eq_neg c h1 hB e
    have e3 : some (x1, y1) = negP p (some (X5, Y5)) := by rw [e2, neg_neg c h1]
    rw [eB, e, e3, ← eB, neg_add c h2 h3, add_comm c ((h2.neg c).add c (h3.neg c)) h2, cancel c hd h2 (h3.neg c), add_comm c (h3.neg c) h3, add_neg c]
  have i12 := lA.i
  have ii12 := lA.ii
  have i23 := lB.i
  have ii23 := lB.ii
  by_cases hd0 : (l - m) % p = 0
  · have ed : C p l = C p m := by
      have := C_zero_iff.mpr hd0
      rw [C_sub] at this
      grind
    rw [← ed] at i23 ii23 eX5 eY5
    have hz : C p (x3 - x1) * C p (X4 - x3) = 0 := by
      rw [C_sub, C_sub, eX4]
      exact dz i12 ii12 i23 ii23
    rcases C_prod hp hz with h | h
    · rw [C_sub] at h
      have ex : C p x1 = C p x3 := (sub0 h).symm
      have e : some (x1, y1) = some (x3, y3) := pt_eq h1 h3 ex (same1 i12 i23 ex)
      rw [← e, add_comm c (h1.add c h2) h1, add_comm c h1 h2]
    · exfalso
      rw [C_sub] at h
      have ex := sub0 h
      exact n43 ((opp_C hA h3).mpr ⟨ex, opy (by rw [eY4, ex]) i12 i23⟩)
  · obtain ⟨n, x6, y6, e6, l6, h6, ex6, ey6⟩ := add_some c hA h3 n43
    obtain ⟨r, x7, y7, e7, l7, h7, ex7, ey7⟩ := add_some c h1 hB n15
    rw [eA, eB, e6, e7]
    have hI := inv_mul hp hd0
    rw [C_sub] at hI
    obtain ⟨J, hJ⟩ := nonopp hp hA h3 n43
    obtain ⟨K, hK⟩ := nonopp hp h1 hB n15
    obtain ⟨g1, g2⟩ := heart i12 ii12 i23 ii23 eX4 eY4 eX5 eY5 l6.i l6.ii l7.i l7.ii hI hJ hK
    refine pt_eq h6 h7 (by rw [ex6, ex7, g1]) ?_
    rw [ey6, ey7, ex6, ex7]
    exact g2
end MC
/-! multiples -/
namespace MC
variable {p a b : Int}
def mulP (p a : Int) (P : Pt) : Nat → Pt
  | 0 => none
  | k + 1 => addP p a (mulP p a P k) P
theorem On.mul (c : Cu p a b) {P : Pt} (h : On p a b P) : ∀ k, On p a b (mulP p a P k)
  | 0 => trivial
  | k + 1 => (On.mul c h k).add c h
abbrev Ns (p a b : Int) : Prop := (4 * a * a * a + 27 * b * b) % p ≠ 0
theorem mul_add (c : Cu p a b) (hd : Ns p a b) {P : Pt} (h : On p a b P) (i : Nat) : ∀ j, mulP p a P (i + j) = addP p a (mulP p a P i) (mulP p a P j)
  | 0 => (add_none _).symm
  | j + 1 => by
    show addP p a (mulP p a P (i + j)) P = addP p a _ (addP p a (mulP p a P j) P)
    rw [mul_add c hd h i j, assoc c hd (h.mul c i) (h.mul c j) h]
theorem none_add (P : Pt) : addP p a none P = P := rfl
theorem mul_one (P : Pt) : mulP p a P 1 = P := rfl
theorem neg_mul (c : Cu p a b) {P : Pt} (h : On p a b P) : ∀ k, mulP p a (negP p P) k = negP p (mulP p a P k)
  | 0 => rfl
  | k + 1 => by
    show addP p a (mulP p a (negP p P) k) (negP p P) = negP p (addP p a (mulP p a P k) P)
    rw [neg_mul c h k, neg_add c (h.mul c k) h]
theorem mul_mul (c : Cu p a b) (hd : Ns p a b) {P : Pt} (h : On p a b P) {n : Nat} (hn : mulP p a P n = none) : ∀ k, mulP p a P (n * k) = none
  | 0 => rfl
  | k + 1 => by rw [Nat.mul_succ, mul_add c hd h, mul_mul c hd h hn k, hn]; rfl
theorem mul_mod (c : Cu p a b) (hd : Ns p a b) {P : Pt} (h : On p a b P) {n : Nat} (hn : mulP p a P n = none) (k : Nat) : mulP p a P k = mulP p a P (k % n) := by
  have e : k = n * (k / n) + k % n := (Nat.div_add_mod k n).symm
  rw [e, mul_add c hd h, mul_mul c hd h hn]
  show mulP p a P (k % n) = _
  rw [← e]
/-- some multiple is the zero point -/
theorem order_ex (c : Cu p a b) (hd : Ns p a b) {P : Pt} (h : On p a b P) : ∃ n, 0 < n ∧ n ≤ (ptsK p a b p.toNat).length ∧ mulP p a P n = none ∧ ∀ k, 0 < k → k < n → mulP p a P k ≠ none := by
  have some_ : ∃ n, 0 < n ∧ n ≤ (ptsK p a b p.toNat).length ∧ mulP p a P n = none := by
    refine Classical.byContradiction fun hne => ?_
    have no : ∀ n, 0 < n → n ≤ (ptsK p a b p.toNat).length → mulP p a P n ≠ none := fun n h0 h1 h2 => hne ⟨n, h0, h1, h2⟩
    have inj : ∀ i j, i < j → j ≤ (ptsK p a b p.toNat).length → mulP p a P i ≠ mulP p a P j := fun i j hij hj e => by
      have e2 := mul_add c hd h i (j - i)
      rw [show i + (j - i) = j by omega, ← e, add_comm c (h.mul c i) (h.mul c _)] at e2
      have e3 : addP p a (negP p (mulP p a P i)) (mulP p a P i) = addP p a (negP p (mulP p a P i)) (addP p a (mulP p a P (j - i)) (mulP p a P i)) := by rw [← e2]
      have hi := h.mul c i
      rw [add_comm c (hi.neg c) hi, add_neg c, add_comm c (h.mul c (j - i)) hi] at e3
      have := cancel c hd (hi.neg c) (h.mul c (j - i))
      rw [neg_neg c hi] at this
      exact no (j - i) (by omega) (by omega) (this.symm.trans e3.symm)
    have nd : ((List.range ((ptsK p a b p.toNat).length + 1)).map (mulP p a P)).Nodup := by
      refine List.pairwise_map.mpr (List.Pairwise.imp_of_mem ?_ (List.nodup_range (n := (ptsK p a b p.toNat).length + 1)))
      intro i j hi hj hij e
      have hi := List.mem_range.mp hi
      have hj := List.mem_range.mp hj
      rcases Nat.lt_or_ge i j with hl | hl
      · exact inj i j hl (by omega) e
      · exact inj j i (by omega) (by omega) e.symm
    have key : ∀ (l1 l2 : List Pt), l1.Nodup → (∀ x ∈ l1, x ∈ l2) → l1.length ≤ l2.length := by
      intro l1
      induction l1 with
      | nil => exact fun _ _ _ => Nat.zero_le _
      | cons x l1 ih =>
        intro l2 nd hs
        have nd' := List.nodup_cons.mp nd
        have hx := hs x List.mem_cons_self
        have := ih (l2.erase x) nd'.2 fun y hy => (List.mem_erase_of_ne (fun z : y = x => nd'.1 (by rw [← z]; exact hy))).mpr (hs y (List.mem_cons_of_mem _ hy))
        rw [List.length_erase_of_mem hx] at this
        have : 0 < l2.length := List.length_pos_of_mem hx
        simp only [List.length_cons]
        omega
    have := key _ (ptsK p a b p.toNat) nd fun x hx => by
      obtain ⟨k, _, rfl⟩ := List.mem_map.mp hx
      exact (pts_mem c _).mpr (h.mul c k)
    rw [List.length_map, List.length_range] at this
    omega
  obtain ⟨n, n0, n1, hn⟩ := some_
  induction n using Nat.strongRecOn with
  | ind n ih =>
    by_cases hx : ∃ k, 0 < k ∧ k < n ∧ mulP p a P k = none
    · obtain ⟨k, k0, k1, hk⟩ := hx
      exact ih k k1 k0 (by omega) hk
    · exact ⟨n, n0, n1, hn, fun k k0 k1 z => hx ⟨k, k0, k1, z⟩⟩
end MC
namespace MC
variable {p a b : Int}
theorem mul_dbl (c : Cu p a b) (hd : Ns p a b) {R : Pt} (h : On p a b R) : ∀ m, mulP p a (addP p a R R) m = mulP p a R (2 * m)
  | 0 => rfl
  | m + 1 => by
    show addP p a (mulP p a (addP p a R R) m) (addP p a R R) = mulP p a R (2 * m + 1 + 1)
    rw [mul_dbl c hd h m]
    show _ = addP p a (addP p a (mulP p a R (2 * m)) R) R
    rw [assoc c hd (h.mul c _) h h]
theorem mul_succ' (c : Cu p a b) (hd : Ns p a b) {R : Pt} (h : On p a b R) (m : Nat) : mulP p a R (m + 1) = addP p a R (mulP p a R m) := add_comm c (h.mul c m) h
/-- a multiple by any whole number -/
def zmul (p a : Int) (P : Pt) (z : Int) : Pt := if z < 0 then mulP p a (negP p P) (-z).toNat else mulP p a P z.toNat
theorem zmul_mod (c : Cu p a b) (hd : Ns p a b) {P : Pt} (h : On p a b P) {n : Nat} (n0 : 0 < n) (hn : mulP p a P n = none) (z : Int) : zmul p a P z = mulP p a P (z % n).toNat := by
  have b0 := Int.emod_nonneg z (show (n : Int) ≠ 0 by omega)
  unfold zmul
  split
  · rename_i hz
    rw [neg_mul c h]
    have hs : (z % n).toNat + (-z).toNat = n * (-(z / n)).toNat := by
      have e := Int.emod_add_mul_ediv z n
      have q0 : z / n ≤ 0 := by
        have := Int.ediv_lt_of_lt_mul (a := z) (b := 1) (c := n) (by omega) (by omega)
        omega
      have : (((z % n).toNat + (-z).toNat : Nat) : Int) = ((n * (-(z / n)).toNat : Nat) : Int) := by
        rw [Int.natCast_add, Int.natCast_mul, Int.toNat_of_nonneg b0, Int.toNat_of_nonneg (by omega), Int.toNat_of_nonneg (by omega), Int.mul_neg]
        omega
      omega
    have e := mul_mul c hd h hn (-(z / n)).toNat
    rw [← hs, mul_add c hd h] at e
    have e2 := eq_neg c (h.mul c _) (h.mul c _) e
    rw [e2, neg_neg c (h.mul c _)]
  · rename_i hz
    have := mul_mod c hd h hn z.toNat
    rw [this]
    congr 1
    have : ((z.toNat % n : Nat) : Int) = z % n := by rw [Int.natCast_emod, Int.toNat_of_nonneg (by omega)]
    omega
theorem ptsK_le (p a b : Int) (hp : p < 900) : ∀ k, (ptsK p a b k).length ≤ 1 + 900 * k
  | 0 => Nat.le_refl _
  | k + 1 => by
    have rl := rootsK_len (p := p) p.toNat (side p a b k)
    have := ptsK_le p a b hp k
    rw [ptsK_succ, List.length_append, List.length_map]
    omega
end MC
/-! multiples by whole numbers; points as keys of dicts; the test of primes -/
namespace MC
variable {p a b : Int}
def kpt : Pt → PySem.NestedKey
  | none => .none
  | some (x, y) => .tup [.num x, .num y]
theorem kpt_inj {P Q : Pt} (h : kpt P = kpt Q) : P = Q := by
  rcases P with _ | ⟨x, y⟩ <;> rcases Q with _ | ⟨u, v⟩
  · rfl
  · cases h
  · cases h
  · injection h with h
    injection h with h1 h
    injection h with h2 _
    injection h1 with h1
    injection h2 with h2
    rw [h1, h2]
theorem kpt_key (P : Pt) : DL.nKey 8 (dpt P) = some (kpt P) := by
  rcases P with _ | ⟨x, y⟩ <;> rfl
theorem On.zmul (c : Cu p a b) {P : Pt} (h : On p a b P) (z : Int) : On p a b (zmul p a P z) := by
  unfold MC.zmul
  split
  · exact (h.neg c).mul c _
  · exact h.mul c _
theorem zmul_nat (P : Pt) (k : Nat) : zmul p a P k = mulP p a P k := by
  unfold zmul
  rw [if_neg (by omega), Int.toNat_natCast]
theorem zmul_add (c : Cu p a b) (hd : Ns p a b) {P : Pt} (h : On p a b P) (i j : Int) : zmul p a P (i + j) = addP p a (zmul p a P i) (zmul p a P j) := by
  obtain ⟨n, n0, _, hn, _⟩ := order_ex c hd h
  have nn : (n : Int) ≠ 0 := by omega
  have b1 := Int.emod_nonneg i nn
  have b2 := Int.emod_nonneg j nn
  rw [zmul_mod c hd h n0 hn, zmul_mod c hd h n0 hn i, zmul_mod c hd h n0 hn j, ← mul_add c hd h, mul_mod c hd h hn ((i % n).toNat + (j % n).toNat)]
  congr 1
  have e : ((((i % n).toNat + (j % n).toNat) % n : Nat) : Int) = (i + j) % n := by
    rw [Int.natCast_emod, Int.natCast_add, Int.toNat_of_nonneg b1, Int.toNat_of_nonneg b2, ← Int.add_emod]
  omega
theorem zmul_none (z : Int) : zmul p a none z = none := by
  have h : ∀ k, mulP p a none k = none := fun k => by
    induction k with
    | zero => rfl
    | succ k ih =>
      show addP p a (mulP p a none k) none = none
      rw [ih]
      rfl
  unfold zmul
  split
  · exact h _
  · exact h _
/-- the first multiples of a point, in a dict: the least one for each -/
def Small (p a : Int) (P : Pt) (kvs : List (PySem.NestedKey × DL.D)) (j : Nat) : Prop := ∀ T : Pt, (DL.mAt kvs (kpt T) = none ∧ ∀ i, i < j → mulP p a P i ≠ T) ∨ ∃ i : Nat, i < j ∧ mulP p a P i = T ∧ (∀ k, k < i → mulP p a P k ≠ T) ∧ DL.mAt kvs (kpt T) = some (.int i)
theorem Small.zero {P : Pt} : Small p a P [] 0 := fun T => .inl ⟨rfl, fun i h => absurd h (Nat.not_lt_zero i)⟩
theorem Small.keep {P : Pt} {kvs : List (PySem.NestedKey × DL.D)} {j : Nat} (h : Small p a P kvs j) (hk : (DL.mAt kvs (kpt (mulP p a P j))).isSome = true) : Small p a P kvs (j + 1) := fun T => by
  by_cases e : mulP p a P j = T
  · subst e
    rcases h (mulP p a P j) with ⟨z, _⟩ | ⟨i, hi, h1, h2, h3⟩
    · rw [z] at hk; cases hk
    · exact .inr ⟨i, by omega, h1, h2, h3⟩
  · rcases h T with ⟨z, h1⟩ | ⟨i, hi, h1, h2, h3⟩
    · refine .inl ⟨z, fun i hi => ?_⟩
      by_cases ei : i = j
      · subst ei; exact e
      · exact h1 i (by omega)
    · exact .inr ⟨i, by omega, h1, h2, h3⟩
theorem Small.put {P : Pt} {kvs : List (PySem.NestedKey × DL.D)} {j : Nat} (h : Small p a P kvs j) (hk : (DL.mAt kvs (kpt (mulP p a P j))).isSome = false) : Small p a P (DL.mSet kvs (kpt (mulP p a P j)) (.int j)) (j + 1) := fun T => by
  rw [DL.mAt_set]
  by_cases e : mulP p a P j = T
  · subst e
    rw [if_pos rfl]
    rcases h (mulP p a P j) with ⟨_, h1⟩ | ⟨i, hi, h1, h2, h3⟩
    · exact .inr ⟨j, by omega, rfl, h1, rfl⟩
    · rw [h3] at hk; cases hk
  · rw [if_neg fun z => e (kpt_inj z).symm]
    rcases h T with ⟨z, h1⟩ | ⟨i, hi, h1, h2, h3⟩
    · refine .inl ⟨z, fun i hi => ?_⟩
      by_cases ei : i = j
      · subst ei; exact e
      · exact h1 i (by omega)
    · exact .inr ⟨i, by omega, h1, h2, h3⟩
/-- at + k times the point is the zero point just if k times it is the negative of at times it -/
theorem zmul_zero_iff (c : Cu p a b) (hd : Ns p a b) {P : Pt} (h : On p a b P) (z : Int) (k : Nat) : zmul p a P (z + k) = none ↔ mulP p a P k = negP p (zmul p a P z) := by
  rw [zmul_add c hd h, zmul_nat]
  exact ⟨fun e => eq_neg c (h.zmul c z) (h.mul c k) e, fun e => by rw [e]; exact add_neg c _⟩
end MC
/-! orders of points; as many times each point as there are points is the zero point -/
namespace MC
open MS
variable {p a b : Int}
structure IsOrd (p a : Int) (P : Pt) (n : Nat) : Prop where
  pos : 0 < n
  zero : mulP p a P n = none
  least : ∀ k, 0 < k → k < n → mulP p a P k ≠ none
theorem ord_ex (c : Cu p a b) (hd : Ns p a b) {P : Pt} (h : On p a b P) : ∃ n, IsOrd p a P n ∧ n ≤ (ptsK p a b p.toNat).length := by
  obtain ⟨n, n0, n1, hn, hl⟩ := order_ex c hd h
  exact ⟨n, ⟨n0, hn, hl⟩, n1⟩
theorem IsOrd.uniq {P : Pt} {n m : Nat} (h : IsOrd p a P n) (h' : IsOrd p a P m) : n = m := by
  rcases Nat.lt_trichotomy n m with z | z | z
  · exact absurd h.zero (h'.least n h.pos z)
  · exact z
  · exact absurd h'.zero (h.least m h'.pos z)
theorem IsOrd.le (c : Cu p a b) (hd : Ns p a b) {P : Pt} {n : Nat} (h : IsOrd p a P n) (hP : On p a b P) : n ≤ (ptsK p a b p.toNat).length := by
  obtain ⟨m, hm, hl⟩ := ord_ex c hd hP
  rw [h.uniq hm]
  exact hl
theorem IsOrd.iff (c : Cu p a b) (hd : Ns p a b) {P : Pt} {n : Nat} (h : IsOrd p a P n) (hP : On p a b P) {k : Nat} : mulP p a P k = none ↔ n ∣ k := by
  constructor
  · intro e
    rw [mul_mod c hd hP h.zero] at e
    refine Nat.dvd_of_mod_eq_zero (Nat.eq_zero_of_not_pos fun z => h.least _ z (Nat.mod_lt _ h.pos) e)
  · rintro ⟨j, rfl⟩
    exact mul_mul c hd hP h.zero j
theorem mul_mulP (c : Cu p a b) (hd : Ns p a b) {P : Pt} (hP : On p a b P) (k : Nat) : ∀ j, mulP p a (mulP p a P k) j = mulP p a P (k * j)
  | 0 => rfl
  | j + 1 => by
    show addP p a (mulP p a (mulP p a P k) j) (mulP p a P k) = _
    rw [mul_mulP c hd hP k j, Nat.mul_succ, mul_add c hd hP]
theorem IsOrd.of_iff {P : Pt} {n : Nat} (n0 : 0 < n) (h : ∀ k, mulP p a P k = none ↔ n ∣ k) : IsOrd p a P n :=
  ⟨n0, (h n).mpr (Nat.dvd_refl n), fun k k0 k1 e => by have := Nat.le_of_dvd k0 ((h k).mp e); omega⟩
theorem IsOrd.mul (c : Cu p a b) (hd : Ns p a b) {P : Pt} {n : Nat} (h : IsOrd p a P n) (hP : On p a b P) (k : Nat) : IsOrd p a (mulP p a P k) (n / Nat.gcd n k) := by
  have g0 : 0 < Nat.gcd n k := Nat.gcd_pos_of_pos_left _ h.pos
  refine .of_iff (Nat.div_pos (Nat.le_of_dvd h.pos (Nat.gcd_dvd_left _ _)) g0) fun j => ?_
  rw [mul_mulP c hd hP, h.iff c hd hP]
  have cop : Nat.Coprime (n / Nat.gcd n k) (k / Nat.gcd n k) := Nat.coprime_div_gcd_div_gcd g0
  obtain ⟨n', hn⟩ := Nat.gcd_dvd_left n k
  obtain ⟨k', hk⟩ := Nat.gcd_dvd_right n k
  generalize Nat.gcd n k = g at *
  have en : n / g = n' := by rw [hn, Nat.mul_div_cancel_left _ g0]
  have ek : k / g = k' := by rw [hk, Nat.mul_div_cancel_left _ g0]
  rw [en, ek] at cop
  rw [en, hn, hk, Nat.mul_assoc]
  constructor
  · intro z
    exact cop.dvd_of_dvd_mul_left (Nat.dvd_of_mul_dvd_mul_left g0 z)
  · intro z
    exact Nat.mul_dvd_mul_left g (Nat.dvd_trans z (Nat.dvd_mul_left _ _))
/-! ### as many times as there are points -/
def sumP (p a : Int) : List Pt → Pt
  | [] => none
  | P :: l => addP p a P (sumP p a l)
theorem sumP_on (c : Cu p a b) : ∀ {l : List Pt}, (∀ P ∈ l, On p a b P) → On p a b (sumP p a l)
  | [], _ => trivial
  | P :: l, h => (h P (List.mem_cons_self ..)).add c (sumP_on c fun Q hQ => h Q (List.mem_cons_of_mem _ hQ))
theorem sumP_perm (c : Cu p a b) (hd : Ns p a b) {l m : List Pt} (h : l.Perm m) : (∀ P ∈ l, On p a b P) → sumP p a l = sumP p a m := by
  induction h with
  | nil => exact fun _ => rfl
  | cons x _ ih =>
    intro hl
    show addP p a x _ = addP p a x _
    rw [ih fun Q hQ => hl Q (List.mem_cons_of_mem _ hQ)]
  | swap x y l =>
    intro hl
    have hx := hl x (List.mem_cons_of_mem _ (List.mem_cons_self ..))
    have hy := hl y (List.mem_cons_self ..)
    have hs := sumP_on c fun Q hQ => hl Q (List.mem_cons_of_mem _ (List.mem_cons_of_mem _ hQ))
    show addP p a y (addP p a x _) = addP p a x (addP p a y _)
    rw [← assoc c hd hy hx hs, ← assoc c hd hx hy hs, add_comm c hy hx]
  | trans h1 _ ih1 ih2 =>
    intro hl
    rw [ih1 hl, ih2 fun Q hQ => hl Q (h1.mem_iff.mpr hQ)]
theorem sumP_shift (c : Cu p a b) (hd : Ns p a b) {Q : Pt} (hQ : On p a b Q) : ∀ {l : List Pt}, (∀ P ∈ l, On p a b P) → sumP p a (l.map fun P => addP p a Q P) = addP p a (mulP p a Q l.length) (sumP p a l)
  | [], _ => rfl
  | P :: l, h => by
    have hP := h P (List.mem_cons_self ..)
    have hl := fun R hR => h R (List.mem_cons_of_mem _ hR)
    have hs := sumP_on c hl
    have hm := hQ.mul c l.length
    show addP p a (addP p a Q P) (sumP p a (l.map fun P => addP p a Q P)) = addP p a (addP p a (mulP p a Q l.length) Q) (addP p a P (sumP p a l))
    rw [sumP_shift c hd hQ hl, assoc c hd hQ hP (hm.add c hs), assoc c hd hm hQ (hP.add c hs), ← assoc c hd hP hm hs, add_comm c hP hm, assoc c hd hm hP hs, ← assoc c hd hQ hm (hP.add c hs), add_comm c hQ hm, assoc c hd hm hQ (hP.add c hs)]
theorem ptsO_nodup (p a b : Int) : ∀ k : Nat, (ptsK p a b k).Nodup
  | 0 => by
    show ([none] : List Pt).Nodup
    simp
  | k + 1 => by
    rw [ptsK_succ]
    refine List.nodup_append.mpr ⟨ptsO_nodup p a b k, ?_, fun x hx y hy z => ?_⟩
    · exact List.pairwise_map.mpr ((MQ.rootsK_nodup p p.toNat _).imp fun h e => h (by injection e with e; injection e))
    · subst z
      obtain ⟨y, _, rfl⟩ := List.mem_map.mp hy
      have : ∀ k : Nat, ∀ P ∈ ptsK p a b k, ∀ u v : Int, P = some (u, v) → u < (k : Int) := by
        intro k
        induction k with
        | zero => intro P hP u v e; subst e; have := List.mem_singleton.mp hP; cases this
        | succ k ih =>
          intro P hP u v e
          rw [ptsK_succ] at hP
          rcases List.mem_append.mp hP with h | h
          · have := ih P h u v e; omega
          · obtain ⟨w, _, rfl⟩ := List.mem_map.mp h
            injection e with e
            injection e with e
            omega
      have := this k _ hx _ _ rfl
      omega
theorem shift_perm (c : Cu p a b) (hd : Ns p a b) {Q : Pt} (hQ : On p a b Q) : ((ptsK p a b p.toNat).map fun P => addP p a Q P).Perm (ptsK p a b p.toNat) := by
  have hnd := ptsO_nodup p a b p.toNat
  have back : ∀ {P : Pt}, On p a b P → addP p a (negP p Q) (addP p a Q P) = P := fun {P} hP => by
    have := cancel c hd (hQ.neg c) hP
    rwa [neg_neg c hQ] at this
  refine (List.perm_ext_iff_of_nodup ?_ hnd).mpr fun P => ?_
  · refine List.pairwise_map.mpr (hnd.imp_of_mem fun {x y} hx hy hne e => hne ?_)
    rw [← back ((pts_mem c x).mp hx), ← back ((pts_mem c y).mp hy), e]
  · rw [List.mem_map]
    constructor
    · rintro ⟨R, hR, rfl⟩
      exact (pts_mem c _).mpr (hQ.add c ((pts_mem c R).mp hR))
    · intro hP
      have hP := (pts_mem c P).mp hP
      exact ⟨addP p a (negP p Q) P, (pts_mem c _).mpr ((hQ.neg c).add c hP), cancel c hd hQ hP⟩
theorem lagrange (c : Cu p a b) (hd : Ns p a b) {Q : Pt} (hQ : On p a b Q) : mulP p a Q (ptsK p a b p.toNat).length = none := by
  have hl : ∀ P ∈ ptsK p a b p.toNat, On p a b P := fun P hP => (pts_mem c P).mp hP
  have e1 := sumP_shift c hd hQ hl
  have e2 := sumP_perm c hd (shift_perm c hd hQ) fun P hP => by
    obtain ⟨R, hR, rfl⟩ := List.mem_map.mp hP
    exact hQ.add c (hl R hR)
  rw [e2] at e1
  have hs := sumP_on c hl
  have hm := hQ.mul c (ptsK p a b p.toNat).length
  have e3 : addP p a (addP p a (mulP p a Q (ptsK p a b p.toNat).length) (sumP p a (ptsK p a b p.toNat))) (negP p (sumP p a (ptsK p a b p.toNat))) = none := by rw [← e1, add_neg c]
  rw [assoc c hd hm hs (hs.neg c), add_neg c, add_none] at e3
  exact e3
theorem IsOrd.dvd (c : Cu p a b) (hd : Ns p a b) {P : Pt} {n : Nat} (h : IsOrd p a P n) (hP : On p a b P) : n ∣ (ptsK p a b p.toNat).length := (h.iff c hd hP).mp (lagrange c hd hP)
end MC
/-! logarithms: multiples by whole numbers, and numbers that are told by the prime powers of an order -/
namespace MB
theorem pow_cop {q : Int} {e : Int} (hq : PrimeI q) (e0 : 0 < e) {L : List (Int × Int)} (hL : ∀ P ∈ L, PrimeI P.1 ∧ 0 < P.2) (hno : ∀ P ∈ L, P.1 ≠ q) : Int.gcd (q ^ e.toNat) (prodP L) = 1 := by
  have qp : 0 < q ^ e.toNat := Int.pow_pos (by have := hq.1; omega)
  refine Classical.byContradiction fun ne => ?_
  have g0 : 0 < Int.gcd (q ^ e.toNat) (prodP L) := Int.gcd_pos_of_ne_zero_left _ (by omega)
  obtain ⟨r, hr, hd⟩ := exists_prime (Int.gcd (q ^ e.toNat) (prodP L)) (by omega)
  have hr' := hr.toI
  have hd' : (r : Int) ∣ (Int.gcd (q ^ e.toNat) (prodP L) : Nat) := Int.natCast_dvd_natCast.mpr hd
  have h1 := Int.dvd_trans hd' (Int.gcd_dvd_left (q ^ e.toNat) (prodP L))
  have h2 := Int.dvd_trans hd' (Int.gcd_dvd_right (q ^ e.toNat) (prodP L))
  obtain ⟨P, hP, e1⟩ := facs_mem (L := [(q, e)]) hr' (fun P hP => by rw [List.mem_singleton.mp hP]; exact ⟨hq, e0⟩) (by rw [prodP_one]; exact h1)
  rw [List.mem_singleton.mp hP] at e1
  obtain ⟨R, hR, e2⟩ := facs_mem hr' hL h2
  exact hno R hR (by rw [e2, ← e1])
theorem cop_mul {x y z : Int} (h : Int.gcd x y = 1) (h1 : x ∣ z) (h2 : y ∣ z) : x * y ∣ z := by
  obtain ⟨u, v, e⟩ := bez2 y.natAbs x y (Nat.le_refl _)
  rw [h] at e
  obtain ⟨s, hs⟩ := h1
  obtain ⟨t, ht⟩ := h2
  have e' : u * x + v * y = 1 := e
  have : z = x * y * (u * t + v * s) := by
    have : z = (u * x + v * y) * z := by rw [e', Int.one_mul]
    rw [this, Int.add_mul]
    have e1 : u * x * z = x * y * (u * t) := by rw [ht]; grind
    have e2 : v * y * z = x * y * (v * s) := by rw [hs]; grind
    rw [e1, e2]
    grind
  exact ⟨_, this⟩
theorem prod_dvd {z : Int} : ∀ {L : List (Int × Int)}, (∀ P ∈ L, PrimeI P.1 ∧ 0 < P.2) → (L.Pairwise fun P R => P.1 < R.1) → (∀ P ∈ L, P.1 ^ P.2.toNat ∣ z) → prodP L ∣ z
  | [], _, _, _ => Int.one_dvd _
  | P :: L, h, ha, hd => by
    have ⟨h1, h2⟩ := List.pairwise_cons.mp ha
    have hP := h P (List.mem_cons_self ..)
    refine cop_mul (pow_cop hP.1 hP.2 (fun R hR => h R (List.mem_cons_of_mem _ hR)) fun R hR e => ?_) (hd P (List.mem_cons_self ..)) (prod_dvd (fun R hR => h R (List.mem_cons_of_mem _ hR)) h2 fun R hR => hd R (List.mem_cons_of_mem _ hR))
    have := h1 R hR
    omega
theorem pow_dvd : ∀ {L : List (Int × Int)}, ∀ P ∈ L, P.1 ^ P.2.toNat ∣ prodP L
  | R :: L, P, hP => by
    rcases List.mem_cons.mp hP with rfl | hP
    · exact Int.dvd_mul_right _ _
    · exact Int.dvd_trans (pow_dvd P hP) (Int.dvd_mul_left _ _)
theorem two_cop {P R : Int × Int} (hP : PrimeI P.1 ∧ 0 < P.2) (hR : PrimeI R.1 ∧ 0 < R.2) (ne : P.1 ≠ R.1) : Int.gcd (P.1 ^ P.2.toNat) (R.1 ^ R.2.toNat) = 1 := by
  have := pow_cop hP.1 hP.2 (L := [R]) (fun X hX => by rw [List.mem_singleton.mp hX]; exact hR) (fun X hX => by rw [List.mem_singleton.mp hX]; exact fun e => ne e.symm)
  rwa [prodP_one] at this
theorem lcmP_dvd_of {ms : List Int} {z : Int} (hm : ∀ m ∈ ms, 0 < m) (h : ∀ m ∈ ms, m ∣ z) : ∀ k, k ≤ ms.length → lcmP ms k ∣ z
  | 0, _ => by unfold lcmP; rw [List.take_zero]; exact Int.one_dvd _
  | k + 1, hk => by
    have e : ms[k]? = some (ms[k]) := List.getElem?_eq_getElem (by omega)
    rw [lcmP_succ e]
    exact L_dvd (hm _ (List.getElem_mem _)) (lcmP_dvd_of hm h k (by omega)) (h _ (List.getElem_mem _))
theorem dvd_lcmP {ms : List Int} {m : Int} {j : Nat} (h : ms[j]? = some m) : m ∣ lcmP ms ms.length := by
  have hj := (List.getElem?_eq_some_iff.mp h).1
  have h1 : lcmP ms (j + 1) = L (lcmP ms j) m := lcmP_succ h
  have h2 := lcmP_dvd (ms := ms) (k := j + 1) (ms.length - (j + 1)) (by omega)
  rw [show j + 1 + (ms.length - (j + 1)) = ms.length by omega, h1] at h2
  exact Int.dvd_trans (dvd_L_right) h2
end MB
namespace MC
open MS
variable {p a b : Int}
theorem IsOrd.zz (c : Cu p a b) (hd : Ns p a b) {P : Pt} {n : Nat} (ho : IsOrd p a P n) (hP : On p a b P) {z : Int} : zmul p a P z = none ↔ (n : Int) ∣ z := by
  have n0 := ho.pos
  rw [zmul_mod c hd hP ho.pos ho.zero, ho.iff c hd hP]
  have b0 := Int.emod_nonneg z (show (n : Int) ≠ 0 by omega)
  have b1 := Int.emod_lt_of_pos z (show (0 : Int) < n by omega)
  constructor
  · intro h
    have := Nat.eq_zero_of_dvd_of_lt h (by omega)
    exact Int.dvd_of_emod_eq_zero (by omega)
  · intro h
    rw [Int.emod_eq_zero_of_dvd h]
    exact Nat.dvd_zero _
theorem zmul_neg (c : Cu p a b) (hd : Ns p a b) {P : Pt} (h : On p a b P) (i : Int) : zmul p a P (-i) = negP p (zmul p a P i) := by
  have e := zmul_add c hd h i (-i)
  rw [show i + -i = ((0 : Nat) : Int) by omega, zmul_nat] at e
  exact eq_neg c (h.zmul c i) (h.zmul c _) e.symm
theorem zmul_sub (c : Cu p a b) (hd : Ns p a b) {P : Pt} (h : On p a b P) (i j : Int) : zmul p a P (i - j) = addP p a (zmul p a P i) (negP p (zmul p a P j)) := by
  rw [Int.sub_eq_add_neg, zmul_add c hd h, zmul_neg c hd h]
theorem IsOrd.eqz (c : Cu p a b) (hd : Ns p a b) {P : Pt} {n : Nat} (ho : IsOrd p a P n) (hP : On p a b P) {i j : Int} : zmul p a P i = zmul p a P j ↔ (n : Int) ∣ i - j := by
  rw [← ho.zz c hd hP, zmul_sub c hd hP]
  constructor
  · intro e
    rw [e]
    exact add_neg c _
  · intro e
    have := eq_neg c (hP.zmul c i) ((hP.zmul c j).neg c) e
    have e2 := congrArg (negP p) this
    rw [neg_neg c (hP.zmul c j), neg_neg c (hP.zmul c i)] at e2
    exact e2.symm
theorem zmul_mulP (c : Cu p a b) (hd : Ns p a b) {P : Pt} (h : On p a b P) (i : Int) : ∀ j : Nat, mulP p a (zmul p a P i) j = zmul p a P (i * j)
  | 0 => by
    rw [show i * ((0 : Nat) : Int) = ((0 : Nat) : Int) by rw [Int.natCast_zero, Int.mul_zero], zmul_nat]
    rfl
  | j + 1 => by
    show addP p a (mulP p a (zmul p a P i) j) (zmul p a P i) = _
    rw [zmul_mulP c hd h i j, ← zmul_add c hd h]
    congr 1
    rw [Int.natCast_succ, Int.mul_add, Int.mul_one]
theorem zmul_zmul (c : Cu p a b) (hd : Ns p a b) {P : Pt} (h : On p a b P) (i j : Int) : zmul p a (zmul p a P i) j = zmul p a P (i * j) := by
  by_cases hj : 0 ≤ j
  · obtain ⟨k, rfl⟩ : ∃ k : Nat, j = k := ⟨j.toNat, by omega⟩
    rw [zmul_nat, zmul_mulP c hd h]
  · obtain ⟨k, rfl⟩ : ∃ k : Nat, j = -(k : Int) := ⟨(-j).toNat, by omega⟩
    rw [zmul_neg c hd (h.zmul c i), zmul_nat, zmul_mulP c hd h, ← zmul_neg c hd h, Int.mul_neg]
/-- a move by a point -/
theorem shift_iff (c : Cu p a b) (hd : Ns p a b) {R T X : Pt} (hR : On p a b R) (hT : On p a b T) (hX : On p a b X) : R = addP p a T (negP p X) ↔ addP p a X R = T := by
  constructor
  · rintro rfl
    rw [add_comm c hT (hX.neg c)]
    exact cancel c hd hX hT
  · rintro rfl
    rw [add_comm c (hX.add c hR) (hX.neg c)]
    have := cancel c hd (hX.neg c) hR
    rw [neg_neg c hX] at this
    exact this.symm
theorem shift_two (c : Cu p a b) (hd : Ns p a b) {T X Y : Pt} (hT : On p a b T) (hX : On p a b X) (hY : On p a b Y) : addP p a (addP p a T (negP p X)) (negP p Y) = addP p a T (negP p (addP p a X Y)) := by
  rw [assoc c hd hT (hX.neg c) (hY.neg c), neg_add c hX hY]
theorem IsOrd.div (c : Cu p a b) (hd : Ns p a b) {P : Pt} {n d : Nat} (h : IsOrd p a P n) (hP : On p a b P) (hdn : d ∣ n) : IsOrd p a (mulP p a P (n / d)) d := by
  obtain ⟨k, rfl⟩ := hdn
  have n0 := h.pos
  have d0 : 0 < d := Nat.pos_of_mul_pos_left n0 |> fun _ => Nat.pos_of_ne_zero fun z => by rw [z, Nat.zero_mul] at n0; cases n0
  have k0 : 0 < k := Nat.pos_of_ne_zero fun z => by rw [z, Nat.mul_zero] at n0; cases n0
  have e1 : d * k / d = k := Nat.mul_div_cancel_left _ d0
  have := h.mul c hd hP k
  rw [Nat.gcd_mul_left_left, Nat.mul_div_cancel _ k0] at this
  rwa [e1]
/-- the same by a whole number -/
theorem IsOrd.divz (c : Cu p a b) (hd : Ns p a b) {P : Pt} {n d : Nat} (h : IsOrd p a P n) (hP : On p a b P) (hdn : d ∣ n) : IsOrd p a (zmul p a P ((n : Int) / (d : Int))) d := by
  rw [← Int.natCast_ediv, zmul_nat]
  exact h.div c hd hP hdn
/-- two points without a common multiple but the zero point -/
def Apart (p a : Int) (P R : Pt) : Prop := ∀ j k : Int, zmul p a R j = zmul p a P k → zmul p a R j = none
theorem not_apart (c : Cu p a b) (hd : Ns p a b) {P R : Pt} {n m : Nat} (h1 : IsOrd p a P n) (h2 : IsOrd p a R m) (hP : On p a b P) (hR : On p a b R) (hmn : m ∣ n) (h : ¬ Apart p a P R) :
    ∃ q : Nat, MB.PrimeI q ∧ q ∣ m ∧ ∃ s : Int, zmul p a (zmul p a P ((n : Int) / (q : Int))) s = zmul p a R ((m : Int) / (q : Int)) := by
  unfold Apart at h
  obtain ⟨j, h⟩ := Classical.not_forall.mp h
  obtain ⟨k, h⟩ := Classical.not_forall.mp h
  obtain ⟨e, hne⟩ := Classical.not_imp.mp h
  have m0 := h2.pos
  rw [h2.zz c hd hR] at hne
  obtain ⟨u, v, hb⟩ := MB.bez2 (m : Int).natAbs j m (Nat.le_refl _)
  have gm := Int.gcd_dvd_right j (m : Int)
  have gj := Int.gcd_dvd_left j (m : Int)
  have g0 : 0 < Int.gcd j (m : Int) := Int.gcd_pos_of_ne_zero_right _ (by omega)
  generalize Int.gcd j (m : Int) = g at *
  obtain ⟨t, ht⟩ := Int.natCast_dvd_natCast.mp gm
  have t1 : 1 < t := by
    refine Nat.not_le.mp fun z => hne ?_
    have : t = 0 ∨ t = 1 := by omega
    rcases this with rfl | rfl
    · omega
    · rw [ht, Nat.mul_one]
      exact gj
  obtain ⟨q, hq, w, hw⟩ := MB.exists_prime t t1
  have hqI := hq.toI
  have q2 := hqI.1
  have hqm : q ∣ m := ⟨g * w, by rw [ht, hw, Nat.mul_left_comm]⟩
  obtain ⟨n', hn'⟩ := Nat.dvd_trans hqm hmn
  have eM : (m : Int) / (q : Int) = g * w := by
    rw [ht, hw, show ((g * (q * w) : Nat) : Int) = (q : Int) * (g * w) by rw [Nat.mul_left_comm]; exact Int.natCast_mul _ _]
    exact Int.mul_ediv_cancel_left _ (by omega)
  have eN : (n : Int) / (q : Int) = n' := by
    rw [hn', Int.natCast_mul]
    exact Int.mul_ediv_cancel_left _ (by omega)
  have e1 : zmul p a R ((m : Int) / (q : Int)) = zmul p a P (k * (u * w)) := by
    rw [← zmul_zmul c hd hP, ← e, zmul_zmul c hd hR, h2.eqz c hd hR, eM]
    refine ⟨v * w, ?_⟩
    have : (g : Int) = u * j + v * m := hb.symm
    rw [this]
    grind
  have e2 : zmul p a P (k * (u * w) * q) = none := by
    rw [← zmul_zmul c hd hP, ← e1, zmul_zmul c hd hR, h2.zz c hd hR, Int.ediv_mul_cancel (Int.natCast_dvd_natCast.mpr hqm)]
    exact Int.dvd_refl _
  rw [h1.zz c hd hP, hn', Int.natCast_mul, Int.mul_comm _ (q : Int)] at e2
  obtain ⟨s, hs⟩ := Int.dvd_of_mul_dvd_mul_left (by omega) e2
  refine ⟨q, hqI, hqm, s, ?_⟩
  rw [zmul_zmul c hd hP, e1, eN, hs]
theorem apart_of (c : Cu p a b) (hd : Ns p a b) {P R : Pt} {n m q : Nat} (h2 : IsOrd p a R m) (hP : On p a b P) (hR : On p a b R) (hq : MB.PrimeI q) (hqm : q ∣ m) (h : Apart p a P R) (s : Int) : zmul p a (zmul p a P ((n : Int) / (q : Int))) s ≠ zmul p a R ((m : Int) / (q : Int)) := fun e => by
  rw [zmul_zmul c hd hP] at e
  have := h _ _ e.symm
  rw [h2.zz c hd hR] at this
  obtain ⟨w, hw⟩ := hqm
  have q2 := hq.1
  have m0 := h2.pos
  have eM : (m : Int) / (q : Int) = w := by
    rw [hw, Int.natCast_mul]
    exact Int.mul_ediv_cancel_left _ (by omega)
  rw [eM] at this
  have w0 : 0 < w := Nat.pos_of_ne_zero fun z => by rw [z, Nat.mul_zero] at hw; omega
  have h3 := Int.le_of_dvd (by omega) this
  have h4 : 2 * w ≤ q * w := Nat.mul_le_mul_right _ (by omega)
  omega
theorem sm_two (f : Nat → Nat) : ∀ L : List Nat, (∀ x ∈ L, f x ≤ 2) → MQ.sm f L ≤ 2 * L.length
  | [], _ => Nat.le_refl _
  | x :: L, h => by
    have h1 := h x (List.mem_cons_self ..)
    have h2 := sm_two f L fun y hy => h y (List.mem_cons_of_mem _ hy)
    show f x + MQ.sm f L ≤ 2 * (L.length + 1)
    omega
theorem pts_few (c : Cu p a b) : (ptsK p a b p.toNat).length ≤ 2 * p.toNat + 1 := by
  have p5 := c.p5
  rw [MQ.ptsK_len]
  have := sm_two (fun x => MQ.cR p (side p a b x)) (List.range p.toNat) fun x _ => by
    have sb := MQ.side_bd p a b x (by omega)
    show MQ.cR p (side p a b x) ≤ 2
    rw [MQ.cR_eq c.hp (by omega) sb.1 sb.2]
    split
    · decide
    · split <;> decide
  rw [List.length_range] at this
  omega
/-- one digit of a logarithm -/
theorem digit_at (c : Cu p a b) (hd : Ns p a b) {B T : Pt} (hB : On p a b B) {q e t : Nat} (ht : t < e) {f K : Int} (hf : f = K % ((q ^ t : Nat) : Int)) (hK : zmul p a B K = T) :
    zmul p a (addP p a T (negP p (zmul p a B f))) ((q ^ (e - 1 - t) : Nat) : Int) = zmul p a (zmul p a B ((q ^ (e - 1) : Nat) : Int)) (K / ((q ^ t : Nat) : Int)) := by
  rw [← hK, ← zmul_sub c hd hB, zmul_zmul c hd hB, zmul_zmul c hd hB]
  congr 1
  have h1 := Int.emod_add_mul_ediv K ((q ^ t : Nat) : Int)
  rw [← hf] at h1
  have h2 : K - f = ((q ^ t : Nat) : Int) * (K / ((q ^ t : Nat) : Int)) := by omega
  have h3 : q ^ (e - 1) = q ^ t * q ^ (e - 1 - t) := by rw [← Nat.pow_add]; congr 1; omega
  rw [h2, h3, Int.natCast_mul, Int.mul_assoc, Int.mul_assoc, Int.mul_comm (K / _)]
theorem digit_put {q t : Nat} {f K k : Int} (q0 : 0 < q) (hf : f = K % ((q ^ t : Nat) : Int)) (k0 : 0 ≤ k) (k1 : k < q) (hk : (q : Int) ∣ k - K / ((q ^ t : Nat) : Int)) : f + k * ((q ^ t : Nat) : Int) = K % ((q ^ (t + 1) : Nat) : Int) := by
  have A0 : (0 : Int) < ((q ^ t : Nat) : Int) := Int.natCast_pos.mpr (Nat.pow_pos q0)
  have h1 := Int.emod_add_mul_ediv K ((q ^ t : Nat) : Int)
  have f0 := Int.emod_nonneg K (show ((q ^ t : Nat) : Int) ≠ 0 by omega)
  have f1 := Int.emod_lt_of_pos K A0
  rw [← hf] at h1 f0 f1
  rw [Nat.pow_succ, Int.natCast_mul]
  generalize ((q ^ t : Nat) : Int) = A at *
  generalize K / A = s at *
  obtain ⟨w, hw⟩ := hk
  have e : K = f + k * A + A * q * (-w) := by
    have : s = k - q * w := by omega
    rw [← h1, this]
    grind
  have b1 : k * A ≤ (q - 1) * A := Int.mul_le_mul_of_nonneg_right (by omega) (by omega)
  have b2 : 0 ≤ k * A := Int.mul_nonneg k0 (by omega)
  have b3 : ((q : Int) - 1) * A = A * q - A := by grind
  rw [e, Int.add_mul_emod_self_left, Int.emod_eq_of_lt (by omega) (by omega)]
end MC
namespace G
open PySem L2 DL
def topS (i : Nat) : Stmt := PySem.Challenge.pw_curvetally_k45_logarithms_and_independen.main.body.getD i (.Pass ⟨0, 0, 0, 0⟩)
abbrev okH : List D → Prop := okF1
section
variable {P : Program} {w : World} {K : PySem.W.Frag} {mg : Str → Option Value} {base : Heap}
/-! ### power -/
abbrev s_power : Stmt := topS 4
theorem sc_power : FnScope ["modulus", "x", "n", "result", "base"] ["modulus", "x", "n"] (defScope s_power) := ⟨rfl, rfl, rfl, by decide +kernel, rfl, by decide +kernel, by decide +kernel⟩
/-- power(m, x, n) -/
def M_power : WM := fun as Q => ∃ m x n : Int, as = [.v (.int m), .v (.int x), .v (.int n)] ∧ 0 < m ∧ m < 2 ^ 64 ∧ 0 ≤ n ∧ Q (.v (.int (x ^ n.toNat % m)))

def w_power : WS := (wSeq (wSet 3 (wBin fMod (wC (.int 1)) (wVar 0)))
 (wSeq (wSet 4 (wBin fMod (wVar 1) (wVar 0)))
 (wSeq (wWhile (wTest (wBin fGt (wVar 2) (wC (.int 0))))
 (wSeq (wIf (wTest (wBin fEq (wBin fMod (wVar 2) (wC (.int 2))) (wC (.int 1))))
 (wSet 3 (wBin fMod (wBin fMul (wVar 3) (wVar 4)) (wVar 0)))
 wNx)
 (wSeq (wSet 4 (wBin fMod (wBin fMul (wVar 4) (wVar 4)) (wVar 0)))
 (wSet 2 (wBin fDiv (wVar 2) (wC (.int 2)))))))
 (wRet (wVar 3)))))
theorem mf_power : ∀ as Q, as.length = 3 → M_power as Q → w_power { nx := fun _ => Q (.v .none), rt := Q } (stE as 2) := by
  rintro as Q _ ⟨m, x, n, rfl, hm, hm2, hn, hq⟩
  refine ⟨hm, hm, ?_⟩
  let I : Nat → EnvD → Prop := fun k env => ∃ r b j : Int, env = [some (.v (.int m)), some (.v (.int x)), some (.v (.int j)), some (.v (.int r)), some (.v (.int b))] ∧ (0 ≤ r ∧ r < m) ∧ (0 ≤ b ∧ b < m) ∧ 0 ≤ j ∧ k = j.toNat ∧ r * b ^ j.toNat % m = x ^ n.toNat % m
  have md : ∀ a : Int, 0 ≤ a % m ∧ a % m < m := fun a => ⟨Int.emod_nonneg _ (by omega), Int.emod_lt_of_pos _ hm⟩
  refine ⟨I, ⟨n.toNat, 1 % m, x % m, n, rfl, md 1, md x, hn, rfl, ?_⟩, fun k env hI => ?_⟩
  · rw [MB.emod_mul_l, Int.one_mul, MB.emod_pow]
  obtain ⟨r, b, j, rfl, hr, hb, hj, rfl, e⟩ := hI
  refine ⟨fun h => ?_, fun h => ?_⟩
  · have hj0 : 0 < j := of_decide_eq_true h
    refine ⟨fun e => ∃ m', m' < j.toNat ∧ I m' e, fun _ z => z, ?_⟩
    refine ⟨by decide, fun h1 => ?_, fun h1 => ?_⟩
    · have h1 : j % 2 = 1 := of_decide_eq_true h1
      refine ⟨.inl ⟨by omega, by omega⟩, hm, .inl ⟨by omega, by omega⟩, hm, ⟨by decide, by decide⟩, ?_⟩
      exact ⟨(j / 2).toNat, by omega, r * b % m, b * b % m, j / 2, rfl, md _, md _, by omega, rfl, by rw [MB.ladder_odd r b m hj h1, e]⟩
    · have h1 : ¬ j % 2 = 1 := of_decide_eq_false h1
      refine ⟨.inl ⟨by omega, by omega⟩, hm, ⟨by decide, by decide⟩, ?_⟩
      exact ⟨(j / 2).toNat, by omega, r, b * b % m, j / 2, rfl, hr, md _, by omega, rfl, by rw [MB.ladder_even r b m hj h1, e]⟩
  · have hj0 : ¬ 0 < j := of_decide_eq_false h
    have ej : j = 0 := by omega
    subst ej
    have e2 : r = x ^ n.toNat % m := by
      rw [← e, show (0 : Int).toNat = 0 from rfl, Int.pow_zero, Int.mul_one, Int.emod_eq_of_lt hr.1 hr.2]
    show Q (.v (.int r))
    rw [e2]
    exact hq

theorem ok_power {f : Addr} {fd : FuncData} (F : Fun K "power" "power" s_power f fd)      : FnOk P w K mg base CX0 1 f fd ["modulus", "x", "n"] (SpD K okH 3 M_power) :=
  def_ok F sc_power rfl (fun cdv A outer s H E hr =>
 (s_cons (s_set 3 sc_power.nd (d_mod d_int (d_var 0)))
 (s_cons (s_set 4 sc_power.nd (d_mod (d_var 1) (d_var 0)))
 (s_cons (s_while PassesOwn.never (t_gt (d_var 2) d_int)
 (s_cons (s_if (t_eq hr (d_mod (d_var 2) d_int) d_int)
 (s_one (s_set 3 sc_power.nd (d_mod (d_mul (d_var 3) (d_var 4)) (d_var 0))))
 s_nil)
 (s_cons (s_set 4 sc_power.nd (d_mod (d_mul (d_var 4) (d_var 4)) (d_var 0)))
 (s_one (s_set 2 sc_power.nd (d_div (d_var 2) d_int))))))
 (s_one (s_ret (d_var 3))))))) mf_power
/-! ### common -/
abbrev s_common : Stmt := topS 5
theorem sc_common : FnScope ["x", "y"] ["x", "y"] (defScope s_common) := ⟨rfl, rfl, rfl, by decide +kernel, rfl, by decide +kernel, by decide +kernel⟩
/-- common(x, y): the greatest common divisor -/
def M_common : WM := fun as Q => ∃ x y : Int, as = [.v (.int x), .v (.int y)] ∧ Q (.v (.int (Int.gcd x y)))

def w_common : WS := (wSeq (wSet 0 (wUn fAbs (wVar 0)))
 (wSeq (wSet 1 (wUn fAbs (wVar 1)))
 (wSeq (wWhile (wTest (wBin fGt (wVar 1) (wC (.int 0))))
 (wPar 0 1 (wCons (wVar 1) (wCons (wBin fMod (wVar 0) (wVar 1)) wNil))))
 (wRet (wVar 0)))))
theorem mf_common : ∀ as Q, as.length = 2 → M_common as Q → w_common { nx := fun _ => Q (.v .none), rt := Q } (stE as 0) := by
  rintro as Q _ ⟨x, y, rfl, hq⟩
  have ab : ∀ z : Int, (if z < 0 then -z else z) = (z.natAbs : Int) := fun z => by split <;> omega
  let I : Nat → EnvD → Prop := fun k env => ∃ a b : Nat, env = [some (.v (.int a)), some (.v (.int b))] ∧ k = b ∧ Nat.gcd a b = Int.gcd x y
  refine ⟨I, ⟨y.natAbs, x.natAbs, y.natAbs, ?_, rfl, rfl⟩, fun k env hI => ?_⟩
  · rw [← ab x, ← ab y]
    rfl
  obtain ⟨a, b, rfl, rfl, e⟩ := hI
  refine ⟨fun h => ?_, fun h => ?_⟩
  · have hb : (0 : Int) < k := of_decide_eq_true h
    refine ⟨fun e => ∃ m', m' < k ∧ I m' e, fun _ z => z, ?_⟩
    refine ⟨hb, ?_⟩
    refine ⟨a % k, Nat.mod_lt _ (by omega), k, a % k, ?_, rfl, ?_⟩
    · rw [Int.natCast_emod]
      rfl
    · rw [← e, Nat.gcd_comm a k, Nat.gcd_rec k a, Nat.gcd_comm]
  · have hb : ¬ (0 : Int) < k := of_decide_eq_false h
    have e0 : k = 0 := by omega
    subst e0
    rw [Nat.gcd_zero_right] at e
    show Q (.v (.int (a : Int)))
    rw [e]
    exact hq

theorem ok_common {f : Addr} {fd : FuncData} (F : Fun K "common" "common" s_common f fd)  (m_abs : mg "abs" = none)    : FnOk P w K mg base CX0 1 f fd ["x", "y"] (SpD K okH 2 M_common) :=
  def_ok F sc_common rfl (fun cdv A outer s H E hr =>
 (s_cons (s_set 0 sc_common.nd (d_abs m_abs (d_var 0)))
 (s_cons (s_set 1 sc_common.nd (d_abs m_abs (d_var 1)))
 (s_cons (s_while PassesOwn.never (t_gt (d_var 1) d_int)
 (s_one (s_par 0 1 rfl sc_common.nd (by decide) (a_cons (d_var 1) (a_cons (d_mod (d_var 0) (d_var 1)) a_nil)))))
 (s_one (s_ret (d_var 0))))))) mf_common
/-! ### inverse_by -/
abbrev s_inverse_by : Stmt := topS 6
theorem sc_inverse_by : FnScope ["modulus", "x", "old", "new", "first", "second", "times"] ["modulus", "x"] (defScope s_inverse_by) := ⟨rfl, rfl, rfl, by decide +kernel, rfl, by decide +kernel, by decide +kernel⟩
def M_inverse_by : WM := fun as Q => ∃ n v : Int, as = [.v (.int n), .v (.int v)] ∧ 0 < n ∧ n < 2 ^ 62 ∧ ∀ t : Int, 0 ≤ t → t < n → n ∣ t * v - (Int.gcd n v : Nat) → Q (.v (.int t))

def w_inverse_by : WS := (wSeq (wPar 2 3 (wCons (wVar 0) (wCons (wBin fMod (wVar 1) (wVar 0)) wNil)))
 (wSeq (wAsg (wTupP (wCons (wC (.int 0)) (wCons (wC (.int 1)) wNil))) (gT 2 (gsCons (gN 4) (gsCons (gN 5) gsNil))))
 (wSeq (wWhile (wTest (wBin fGt (wVar 3) (wC (.int 0))))
 (wSeq (wSet 6 (wBin fDiv (wVar 2) (wVar 3)))
 (wSeq (wPar 2 3 (wCons (wVar 3) (wCons (wBin fSub (wVar 2) (wBin fMul (wVar 6) (wVar 3))) wNil)))
 (wPar 4 5 (wCons (wVar 5) (wCons (wBin fSub (wVar 4) (wBin fMul (wVar 6) (wVar 5))) wNil))))))
 (wRet (wBin fMod (wVar 4) (wVar 0))))))
theorem mf_inverse_by : ∀ as Q, as.length = 2 → M_inverse_by as Q → w_inverse_by { nx := fun _ => Q (.v .none), rt := Q } (stE as 5) := by
  rintro as Q _ ⟨n, v, rfl, n0, n1, hq⟩
  let I : Nat → EnvD → Prop := fun k env => ∃ a b s t u, env = [some (.v (.int n)), some (.v (.int v)), some (.v (.int a)), some (.v (.int b)), some (.v (.int s)), some (.v (.int t)), u] ∧ 0 < a ∧ a ≤ n ∧ 0 ≤ b ∧ b ≤ n ∧ n ∣ s * v - a ∧ n ∣ t * v - b ∧ Int.gcd a b = Int.gcd n v ∧ k = b.toNat
  have v0 : 0 ≤ v % n := Int.emod_nonneg _ (by omega)
  refine ⟨n0, rfl, lk rfl, rfl, rfl, I, ⟨(v % n).toNat, n, v % n, 0, 1, none, rfl, n0, Int.le_refl _, v0, Int.le_of_lt (Int.emod_lt_of_pos _ n0), ?_, ?_, ?_, rfl⟩, fun k env hI => ?_⟩
  · rw [Int.zero_mul, Int.zero_sub]; exact Int.dvd_neg.mpr (Int.dvd_refl _)
  · rw [Int.one_mul]; exact Int.dvd_self_sub_emod
  · exact MB.gcd_mod n v
  obtain ⟨a, b, s, t, u, rfl, a0, a1, b0, ba, hs, ht, hg, rfl⟩ := hI
  refine ⟨fun h => ?_, fun h => ?_⟩
  · have bp : 0 < b := of_decide_eq_true h
    have t0 : 0 ≤ a / b := Int.ediv_nonneg (by omega) b0
    have t1 : a / b ≤ a := Int.ediv_le_self _ (by omega)
    have cm : ∀ z : Int, CMul (a / b) z := fun z => .inl ⟨by omega, by omega⟩
    have e : a - a / b * b = a % b := by
      have := Int.emod_def a b
      rw [Int.mul_comm b] at this
      omega
    have m0 : 0 ≤ a % b := Int.emod_nonneg _ (by omega)
    have m1 : a % b < b := Int.emod_lt_of_pos _ bp
    refine ⟨fun e => ∃ m', m' < b.toNat ∧ I m' e, fun _ z => z, div200 bp (by omega) _, cm _, cm _, ?_⟩
    refine ⟨(a % b).toNat, by omega, b, a % b, t, s - a / b * t, _, by rw [← e]; rfl, bp, ba, m0, by omega, ht, ?_, ?_, rfl⟩
    · obtain ⟨c1, hc1⟩ := hs
      obtain ⟨c2, hc2⟩ := ht
      refine ⟨c1 - a / b * c2, ?_⟩
      rw [← e]
      have : (s - a / b * t) * v - (a - a / b * b) = (s * v - a) - a / b * (t * v - b) := by grind
      rw [this, hc1, hc2]
      grind
    · rw [← hg]
      exact MB.gcd_mod_r a b
  · have bp : ¬ 0 < b := of_decide_eq_false h
    have b00 : b = 0 := by omega
    subst b00
    have ea : a = (Int.gcd n v : Nat) := by
      rw [← hg, Int.gcd_zero_right]
      omega
    refine ⟨n0, hq _ (Int.emod_nonneg _ (by omega)) (Int.emod_lt_of_pos _ n0) ?_⟩
    rw [← ea]
    have h1 : n ∣ s - s % n := Int.dvd_self_sub_emod
    obtain ⟨c1, hc1⟩ := h1
    obtain ⟨c2, hc2⟩ := hs
    refine ⟨c2 - c1 * v, ?_⟩
    have : s % n * v - a = (s * v - a) - (s - s % n) * v := by grind
    rw [this, hc1, hc2]
    grind

theorem ok_inverse_by {f : Addr} {fd : FuncData} (F : Fun K "inverse_by" "inverse_by" s_inverse_by f fd)      : FnOk P w K mg base CX0 1 f fd ["modulus", "x"] (SpD K okH 2 M_inverse_by) :=
  def_ok F sc_inverse_by rfl (fun cdv A outer s H E hr =>
 (s_cons (s_par 2 3 rfl sc_inverse_by.nd (by decide) (a_cons (d_var 0) (a_cons (d_mod (d_var 1) (d_var 0)) a_nil)))
 (s_cons (s_asg (vs := [4, 5]) (d_tup (a_cons d_int (a_cons d_int a_nil))) (g_tupN (g_cons (g_name 4 sc_inverse_by.nd) (g_cons (g_name 5 sc_inverse_by.nd) g_nil))))
 (s_cons (s_while PassesOwn.never (t_gt (d_var 3) d_int)
 (s_cons (s_set 6 sc_inverse_by.nd (d_div (d_var 2) (d_var 3)))
 (s_cons (s_par 2 3 rfl sc_inverse_by.nd (by decide) (a_cons (d_var 3) (a_cons (d_sub (d_var 2) (d_mul (d_var 6) (d_var 3))) a_nil)))
 (s_one (s_par 4 5 rfl sc_inverse_by.nd (by decide) (a_cons (d_var 5) (a_cons (d_sub (d_var 4) (d_mul (d_var 6) (d_var 5))) a_nil)))))))
 (s_one (s_ret (d_mod (d_var 4) (d_var 0)))))))) mf_inverse_by
/-! ### inverse -/
abbrev s_inverse : Stmt := topS 7
theorem sc_inverse : FnScope ["p", "x"] ["p", "x"] (defScope s_inverse) := ⟨rfl, rfl, rfl, by decide +kernel, rfl, by decide +kernel, by decide +kernel⟩
def M_inverse : WM := fun as Q => ∃ p x : Int, as = [.v (.int p), .v (.int x)] ∧ MB.PrimeI p ∧ p < 2 ^ 62 ∧ x % p ≠ 0 ∧ Q (.v (.int (MC.inv p x)))

def w_inverse : WS := (wSeq (wIf (wTest (wBin fEq (wBin fMod (wVar 1) (wVar 0)) (wC (.int 0))))
 wNever
 wNx)
 (wRet (wCallP 2 M_inverse_by (wCons (wVar 0) (wCons (wVar 1) wNil)))))
theorem mf_inverse : ∀ as Q, as.length = 2 → M_inverse as Q → w_inverse { nx := fun _ => Q (.v .none), rt := Q } (stE as 0) := by
  rintro as Q _ ⟨p, x, rfl, hp, p1, hx, hq⟩
  have h2 := hp.1
  refine ⟨by omega, fun h => ?_, fun _ => ?_⟩
  · exact absurd (of_decide_eq_true h) hx
  · refine ⟨rfl, rfl, p, x, rfl, by omega, p1, fun t t0 t1 ht => ?_⟩
    rw [MC.inv_of_gcd hp hx t0 t1 ht]
    exact hq

theorem ok_inverse {f : Addr} {fd : FuncData} (F : Fun K "inverse" "inverse" s_inverse f fd) (h_inverse_by : Has P w K mg base okH 1 "inverse_by" 2 M_inverse_by)     : FnOk P w K mg base CX0 2 f fd ["p", "x"] (SpD K okH 2 M_inverse) :=
  def_ok F sc_inverse rfl (fun cdv A outer s H E hr =>
 (s_cons (s_if (t_eq hr (d_mod (d_var 1) (d_var 0)) d_int)
 (s_one s_no)
 s_nil)
 (s_one (s_ret (d_call h_inverse_by hr (by decide) (a_cons (d_var 0) (a_cons (d_var 1) a_nil))))))) mf_inverse
/-! ### floor_root -/
abbrev s_floor_root : Stmt := topS 8
theorem sc_floor_root : FnScope ["n", "x", "y"] ["n"] (defScope s_floor_root) := ⟨rfl, rfl, rfl, by decide +kernel, rfl, by decide +kernel, by decide +kernel⟩
/-- floor_root(n): the greatest integer whose square is at most n; n itself below 2 -/
def M_floor_root : WM := fun as Q => ∃ n : Int, as = [.v (.int n)] ∧ n < 2 ^ 200 ∧ (n < 0 → Q (.v (.int n))) ∧ (0 ≤ n → ∀ r : Int, 0 ≤ r → r * r ≤ n → n < (r + 1) * (r + 1) → Q (.v (.int r)))

def w_floor_root : WS := (wSeq (wIf (wTest (wBin fLt (wVar 0) (wC (.int 2))))
 (wRet (wVar 0))
 wNx)
 (wSeq (wSet 1 (wBin fShl (wC (.int 1)) (wBin fDiv (wBin fAdd (wUn fBits (wVar 0)) (wC (.int 1))) (wC (.int 2)))))
 (wSeq (wSet 2 (wBin fDiv (wBin fAdd (wVar 1) (wBin fDiv (wVar 0) (wVar 1))) (wC (.int 2))))
 (wSeq (wWhile (wTest (wBin fLt (wVar 2) (wVar 1)))
 (wSeq (wSet 1 (wVar 2))
 (wSet 2 (wBin fDiv (wBin fAdd (wVar 1) (wBin fDiv (wVar 0) (wVar 1))) (wC (.int 2))))))
 (wRet (wVar 1))))))
theorem newton_above {n x : Int} (hn : 0 ≤ n) (hx : 0 < x) : n < ((x + n / x) / 2 + 1) * ((x + n / x) / 2 + 1) := by
  have h1 : n < x * (n / x + 1) := by
    have := Int.lt_mul_ediv_self_add (x := n) hx
    rw [Int.mul_add, Int.mul_one]
    exact this
  have h2 : x + n / x + 1 ≤ 2 * ((x + n / x) / 2 + 1) := by omega
  have hq : 0 ≤ n / x := Int.ediv_nonneg hn (by omega)
  generalize n / x = q at *
  generalize (x + q) / 2 + 1 = y at *
  have h3 : (x + q + 1) * (x + q + 1) ≤ (2 * y) * (2 * y) := Int.mul_le_mul h2 h2 (by omega) (by omega)
  have h4 : 0 ≤ (x - (q + 1)) * (x - (q + 1)) := MB.sq_nonneg _
  have h5 : (x + q + 1) * (x + q + 1) = (x - (q + 1)) * (x - (q + 1)) + 4 * (x * (q + 1)) := by grind
  have h6 : (2 * y) * (2 * y) = 4 * (y * y) := by grind
  omega
theorem newton_below {n x : Int} (hn : 0 ≤ n) (hx : 0 < x) (h : ¬ (x + n / x) / 2 < x) : x * x ≤ n := by
  have h1 : x ≤ n / x := by omega
  have h2 : x * (n / x) ≤ n := by
    have := Int.mul_ediv_self_le (x := n) (k := x) (by omega)
    exact this
  have h3 : x * x ≤ x * (n / x) := Int.mul_le_mul_of_nonneg_left h1 (by omega)
  omega
theorem bits_lt {n : Int} (hn : 0 < n) : n < 2 ^ (Builtin.Int.intBits n) := by
  have h0 : n.natAbs ≠ 0 := by omega
  have h := (Nat.log2_lt h0 (k := n.natAbs.log2 + 1)).mp (Nat.lt_succ_self _)
  have e : Builtin.Int.intBits n = n.natAbs.log2 + 1 := by
    unfold Builtin.Int.intBits
    split
    · rename_i hz
      rw [beq_iff_eq] at hz
      omega
    · rfl
  rw [e]
  have : ((n.natAbs : Nat) : Int) < ((2 ^ (n.natAbs.log2 + 1) : Nat) : Int) := Int.ofNat_lt.mpr h
  have e2 : ((n.natAbs : Nat) : Int) = n := by omega
  rw [MB.two_pow_cast] at this
  exact e2 ▸ this
theorem bits_le {n : Int} (h0 : 0 ≤ n) (h : n < 2 ^ 200) : Builtin.Int.intBits n ≤ 200 := by
  unfold Builtin.Int.intBits
  split
  · omega
  · rename_i hz
    have : n.natAbs.log2 < 200 := PySem.Flt.log2_lt_of (by decide) (by omega)
    omega
theorem mf_floor_root : ∀ as Q, as.length = 1 → M_floor_root as Q → w_floor_root { nx := fun _ => Q (.v .none), rt := Q } (stE as 2) := by
  rintro as Q _ ⟨n, rfl, hn2, hneg, hq⟩
  refine ⟨fun h => ?_, fun h => ?_⟩
  · have h2 : n < 2 := of_decide_eq_true h
    show Q (.v (.int n))
    by_cases h0 : n < 0
    · exact hneg h0
    · have : n = 0 ∨ n = 1 := by omega
      rcases this with rfl | rfl
      · exact hq (by decide) 0 (by decide) (by decide) (by decide)
      · exact hq (by decide) 1 (by decide) (by decide) (by decide)
  · have h2 : ¬ n < 2 := of_decide_eq_false h
    have hb1 := bits_lt (n := n) (by omega)
    have hb2 := bits_le (n := n) (by omega) hn2
    obtain ⟨b, hb⟩ : ∃ b, b = Builtin.Int.intBits n := ⟨_, rfl⟩
    rw [← hb] at hb1 hb2
    have hm : (0 : Int) ≤ ((b : Nat) + 1 : Int) / 2 := by omega
    have hx0 : (1 : Int) * 2 ^ (((b : Nat) + 1 : Int) / 2).toNat < 2 ^ 200 := by
      have : (((b : Nat) + 1 : Int) / 2).toNat ≤ 100 := by omega
      have z : (2 : Nat) ^ (((b : Nat) + 1 : Int) / 2).toNat ≤ 2 ^ 100 := Nat.pow_le_pow_right (by decide) this
      have z2 : ((2 ^ (((b : Nat) + 1 : Int) / 2).toNat : Nat) : Int) ≤ ((2 ^ 100 : Nat) : Int) := by exact_mod_cast z
      rw [MB.two_pow_cast] at z2
      omega
    have hx1 : (0 : Int) < 1 * 2 ^ (((b : Nat) + 1 : Int) / 2).toNat := by
      rw [Int.one_mul]; exact Int.pow_pos (by decide)
    have hx2 : n < (1 * 2 ^ (((b : Nat) + 1 : Int) / 2).toNat + 1) * (1 * 2 ^ (((b : Nat) + 1 : Int) / 2).toNat + 1) := by
      have e : (2 : Int) ^ b ≤ 2 ^ (((b : Nat) + 1 : Int) / 2).toNat * 2 ^ (((b : Nat) + 1 : Int) / 2).toNat := by
        rw [← Int.pow_add]
        have : b ≤ (((b : Nat) + 1 : Int) / 2).toNat + (((b : Nat) + 1 : Int) / 2).toNat := by omega
        have z : (2 : Nat) ^ b ≤ 2 ^ ((((b : Nat) + 1 : Int) / 2).toNat + (((b : Nat) + 1 : Int) / 2).toNat) := Nat.pow_le_pow_right (by decide) this
        exact_mod_cast z
      rw [Int.one_mul]
      generalize (2 : Int) ^ (((b : Nat) + 1 : Int) / 2).toNat = x at *
      have : (x + 1) * (x + 1) = x * x + 2 * x + 1 := by grind
      omega
    rw [hb] at hm hx0 hx1 hx2
    refine ⟨⟨by decide, by decide⟩, ⟨hm, by omega, by decide⟩, div200 hx1 hx0 _, ⟨by decide, by decide⟩, ?_⟩
    obtain ⟨x0, hx⟩ : ∃ x0, x0 = (1 : Int) * 2 ^ (((Builtin.Int.intBits n : Nat) + 1 : Int) / 2).toNat := ⟨_, rfl⟩
    rw [← hx] at hx0 hx1 hx2
    let I : Nat → EnvD → Prop := fun k env => ∃ x : Int, env = [some (.v (.int n)), some (.v (.int x)), some (.v (.int ((x + n / x) / 2)))] ∧ 0 < x ∧ x < 2 ^ 200 ∧ n < (x + 1) * (x + 1) ∧ k = x.toNat
    refine ⟨I, ⟨x0.toNat, x0, by rw [hx]; rfl, hx1, hx0, hx2, rfl⟩, fun k env hI => ?_⟩
    obtain ⟨x, rfl, p1, p2, p3, rfl⟩ := hI
    refine ⟨fun h => ?_, fun h => ?_⟩
    · have hlt : (x + n / x) / 2 < x := of_decide_eq_true h
      have hq0 : 0 ≤ n / x := Int.ediv_nonneg (by omega) (by omega)
      have hpos : 0 < (x + n / x) / 2 := by
        by_cases h1 : x = 1
        · subst h1; rw [Int.ediv_one]; omega
        · omega
      refine ⟨fun e => ∃ m', m' < x.toNat ∧ I m' e, fun _ z => z, div200 hpos (by omega) _, ⟨by decide, by decide⟩, ?_⟩
      exact ⟨((x + n / x) / 2).toNat, by omega, (x + n / x) / 2, rfl, hpos, by omega, newton_above (by omega) p1, rfl⟩
    · have hge : ¬ (x + n / x) / 2 < x := of_decide_eq_false h
      exact hq (by omega) x (by omega) (newton_below (by omega) p1 hge) p3

theorem ok_floor_root {f : Addr} {fd : FuncData} (F : Fun K "floor_root" "floor_root" s_floor_root f fd)      : FnOk P w K mg base CX0 1 f fd ["n"] (SpD K okH 1 M_floor_root) :=
  def_ok F sc_floor_root rfl (fun cdv A outer s H E hr =>
 (s_cons (s_if (t_lt (d_var 0) d_int)
 (s_one (s_ret (d_var 0)))
 s_nil)
 (s_cons (s_set 1 sc_floor_root.nd (d_shl d_int (d_div (d_add (d_bits (d_var 0)) d_int) d_int)))
 (s_cons (s_set 2 sc_floor_root.nd (d_div (d_add (d_var 1) (d_div (d_var 0) (d_var 1))) d_int))
 (s_cons (s_while PassesOwn.never (t_lt (d_var 2) (d_var 1))
 (s_cons (s_set 1 sc_floor_root.nd (d_var 2))
 (s_one (s_set 2 sc_floor_root.nd (d_div (d_add (d_var 1) (d_div (d_var 0) (d_var 1))) d_int)))))
 (s_one (s_ret (d_var 1)))))))) mf_floor_root
/-! ### joined -/
abbrev s_joined : Stmt := topS 9
theorem sc_joined : FnScope ["remainders", "moduli", "x", "m", "index", "modulus", "part", "gap", "rest"] ["remainders", "moduli"] (defScope s_joined) := ⟨rfl, rfl, rfl, by decide +kernel, rfl, by decide +kernel, by decide +kernel⟩
def M_joined : WM := fun as Q => ∃ rs ms : List Int, as = [.v (.list (dints rs)), .v (.list (dints ms))] ∧ rs.length = ms.length ∧ ms.length < 1000 ∧ (∀ m ∈ ms, 0 < m ∧ m < 2 ^ 62) ∧ MB.lcmP ms ms.length < 2 ^ 62 ∧
  ((∀ y, ¬ MB.Sol rs ms ms.length y) → Q (.v .none)) ∧ (∀ x, MB.Upto rs ms ms.length x → Q (.v (.tuple [.int x, .int (MB.lcmP ms ms.length)])))

def w_joined : WS := (wSeq (wSet 2 (wC (.int 0)))
 (wSeq (wSet 3 (wC (.int 1)))
 (wSeq (wFor (iR1 (wLen (wVar 1))) (gN 4)
 (wSeq (wSet 5 (wIx (wVar 1) (wVar 4)))
 (wSeq (wSet 6 (wCallP 2 M_common (wCons (wVar 3) (wCons (wVar 5) wNil))))
 (wSeq (wSet 7 (wBin fSub (wIx (wVar 0) (wVar 4)) (wVar 2)))
 (wSeq (wIf (wTest (wBin fNe (wBin fMod (wVar 7) (wVar 6)) (wC (.int 0))))
 (wRet (wC .none))
 wNx)
 (wSeq (wSet 8 (wBin fDiv (wVar 5) (wVar 6)))
 (wSeq (wSet 2 (wBin fAdd (wVar 2) (wBin fMul (wVar 3) (wBin fMod (wBin fMul (wBin fDiv (wVar 7) (wVar 6)) (wCallP 2 M_inverse_by (wCons (wVar 8) (wCons (wBin fDiv (wVar 3) (wVar 6)) wNil)))) (wVar 8)))))
 (wSet 3 (wBin fMul (wVar 3) (wVar 8))))))))))
 (wRet (wTupP (wCons (wBin fMod (wVar 2) (wVar 3)) (wCons (wVar 3) wNil)))))))
theorem mf_joined : ∀ as Q, as.length = 2 → M_joined as Q → w_joined { nx := fun _ => Q (.v .none), rt := Q } (stE as 7) := by
  rintro as Q _ ⟨rs, ms, rfl, hl, hn, hm, hL, h1, h2⟩
  have ml : (dints ms).length = ms.length := List.length_map _
  have mp : ∀ m ∈ ms, 0 < m := fun m h => (hm m h).1
  refine ⟨⟨by rw [ml]; omega, by rw [ml]; omega⟩, fun k env => ∃ x t1 t2 t3 t4 t5, env = [some (.v (.list (dints rs))), some (.v (.list (dints ms))), some (.v (.int x)), some (.v (.int (MB.lcmP ms k))), t1, t2, t3, t4, t5] ∧ MB.Upto rs ms k x, ⟨0, none, none, none, none, none, rfl, Int.le_refl _, (by show (0 : Int) < 1; decide), ?_, ?_⟩, ?_, ?_⟩
  · intro j hj; exact absurd hj (Nat.not_lt_zero _)
  · intro y _; exact Int.one_dvd _
  · rintro i d env hd ⟨x, t1, t2, t3, t4, t5, rfl, hu⟩
    obtain ⟨hi, rfl⟩ := rng_at hd
    have hi : i < ms.length := by rw [ml] at hi; omega
    have hmi : ms[i]? = some ms[i] := List.getElem?_eq_getElem hi
    have hri : rs[i]? = some (rs[i]'(by omega)) := List.getElem?_eq_getElem (by omega)
    generalize ms[i] = m at hmi
    generalize rs[i]'(by omega) = r at hri
    have hmm : m ∈ ms := List.mem_of_getElem? hmi
    have ⟨m0, m1⟩ := hm m hmm
    have am : atI (dints ms) (0 + (i : Int)) = some (.int m) := atI_nats (i := i) (by omega) (by rw [List.getElem?_map, hmi]; rfl)
    have ar : atI (dints rs) (0 + (i : Int)) = some (.int r) := atI_nats (i := i) (by omega) (by rw [List.getElem?_map, hri]; rfl)
    have M0 := MB.lcmP_pos mp i (by omega)
    have ML := MB.lcmP_le mp (k := i) (by omega)
    have hg := MB.gcd_pos (a := MB.lcmP ms i) m0
    have hgd : ((Int.gcd (MB.lcmP ms i) m : Nat) : Int) ∣ m := Int.gcd_dvd_right _ _
    have hgle := Int.le_of_dvd m0 hgd
    have rest0 : 0 < m / (Int.gcd (MB.lcmP ms i) m : Nat) := by
      have := Int.ediv_mul_cancel hgd
      apply Int.not_le.mp
      intro z
      have := Int.mul_nonpos_of_nonpos_of_nonneg z (Int.le_of_lt hg)
      omega
    have rest1 : m / (Int.gcd (MB.lcmP ms i) m : Nat) ≤ m := Int.ediv_le_self _ (by omega)
    have cop : Int.gcd (m / (Int.gcd (MB.lcmP ms i) m : Nat)) (MB.lcmP ms i / (Int.gcd (MB.lcmP ms i) m : Nat)) = 1 := by
      rw [Int.gcd_comm]
      exact Int.gcd_ediv_gcd_ediv_gcd (by omega)
    have dv : ∀ z : Int, CDivW z (Int.gcd (MB.lcmP ms i) m : Nat) := fun z => div200 hg (by omega) z
    refine ⟨_, am, rfl, rfl, _, _, rfl, _, ar, hg, fun h => ?_, fun h => ?_⟩
    · have h' : ¬ (r - x) % ((Int.gcd (MB.lcmP ms i) m : Nat) : Int) = 0 := fun z => by
        have := no_ne z
        rw [show (!decide ((r - x) % ((Int.gcd (MB.lcmP ms i) m : Nat) : Int) = 0)) = true from h] at this
        cases this
      refine h1 fun y hy => ?_
      have : MB.Sol rs ms (i + 1) y := fun j hj => hy j (by omega)
      exact MB.upto_stuck hu hri hmi (fun z => h' (Int.emod_eq_zero_of_dvd z)) this
    · have h' : (r - x) % ((Int.gcd (MB.lcmP ms i) m : Nat) : Int) = 0 := by
        have : (!decide ((r - x) % ((Int.gcd (MB.lcmP ms i) m : Nat) : Int) = 0)) = false := h
        rw [Bool.not_eq_false'] at this
        exact of_decide_eq_true this
      refine ⟨dv _, dv _, dv _, rfl, rfl, _, _, rfl, rest0, by omega, fun t t0 t1 ht => ?_⟩
      rw [cop] at ht
      have st := MB.upto_step hu M0 m0 hri hmi (Int.dvd_of_emod_eq_zero h') ht
      exact ⟨.inr ⟨by omega, by omega⟩, rest0, .inl ⟨by omega, by omega⟩, .inl ⟨by omega, by omega⟩, _, _, _, _, _, _, (by rw [MB.lcmP_succ hmi]; rfl), st⟩
  · rintro env ⟨x, t1, t2, t3, t4, t5, rfl, hu⟩
    rw [rng_len, ml, show ((ms.length : Int)).toNat = ms.length by omega] at hu
    have M0 := MB.lcmP_pos mp ms.length (Nat.le_refl _)
    have hq := h2 x hu
    rw [rng_len, ml, show ((ms.length : Int)).toNat = ms.length by omega]
    refine ⟨M0, rfl, lk rfl, ?_⟩
    rw [Int.emod_eq_of_lt hu.lo hu.hi]
    exact hq

theorem ok_joined {f : Addr} {fd : FuncData} (F : Fun K "joined" "joined" s_joined f fd) (h_common : Has P w K mg base okH 1 "common" 2 M_common) (h_inverse_by : Has P w K mg base okH 1 "inverse_by" 2 M_inverse_by) (m_len : mg "len" = none) (m_range : mg "range" = none)    : FnOk P w K mg base CX0 2 f fd ["remainders", "moduli"] (SpD K okH 2 M_joined) :=
  def_ok F sc_joined rfl (fun cdv A outer s H E hr =>
 (s_cons (s_set 2 sc_joined.nd d_int)
 (s_cons (s_set 3 sc_joined.nd d_int)
 (s_cons (s_for (vs := [4]) PassesOwn.never rfl (i_r1 m_range (d_len m_len (d_b (d_var 1)))) (g_name 4 sc_joined.nd)
 (s_cons (s_set 5 sc_joined.nd (d_ix (d_b (d_var 1)) (d_var 4)))
 (s_cons (s_set 6 sc_joined.nd (d_call h_common hr (by decide) (a_cons (d_var 3) (a_cons (d_var 5) a_nil))))
 (s_cons (s_set 7 sc_joined.nd (d_sub (d_ix (d_b (d_var 0)) (d_var 4)) (d_var 2)))
 (s_cons (s_if (t_ne hr (d_mod (d_var 7) (d_var 6)) d_int)
 (s_one (s_ret d_non))
 s_nil)
 (s_cons (s_set 8 sc_joined.nd (d_div (d_var 5) (d_var 6)))
 (s_cons (s_set 2 sc_joined.nd (d_add (d_var 2) (d_mul (d_var 3) (d_mod (d_mul (d_div (d_var 7) (d_var 6)) (d_call h_inverse_by hr (by decide) (a_cons (d_var 8) (a_cons (d_div (d_var 3) (d_var 6)) a_nil)))) (d_var 8)))))
 (s_one (s_set 3 sc_joined.nd (d_mul (d_var 3) (d_var 8)))))))))))
 (s_one (s_ret (d_tup (a_cons (d_mod (d_var 2) (d_var 3)) (a_cons (d_var 3) a_nil))))))))) mf_joined
/-! ### passes -/
abbrev s_passes : Stmt := topS 12
theorem sc_passes : FnScope ["n", "base", "odd", "twos", "x", "turn"] ["n", "base"] (defScope s_passes) := ⟨rfl, rfl, rfl, by decide +kernel, rfl, by decide +kernel, by decide +kernel⟩
def M_passes : WM := fun as Q => ∃ n b : Int, as = [.v (.int n), .v (.int b)] ∧ 2 ≤ n ∧ n < 2 ^ 62 ∧ ∀ odd twos : Nat, n - 1 = odd * 2 ^ twos → odd % 2 = 1 → Q (.v (.bool (MB.passR n b odd twos)))

def w_passes : WS := (wSeq (wSet 2 (wBin fSub (wVar 0) (wC (.int 1))))
 (wSeq (wSet 3 (wC (.int 0)))
 (wSeq (wWhile (wTest (wBin fEq (wBin fMod (wVar 2) (wC (.int 2))) (wC (.int 0))))
 (wSeq (wSet 2 (wBin fDiv (wVar 2) (wC (.int 2))))
 (wSet 3 (wBin fAdd (wVar 3) (wC (.int 1))))))
 (wSeq (wSet 4 (wCallP 3 M_power (wCons (wVar 0) (wCons (wVar 1) (wCons (wVar 2) wNil)))))
 (wSeq (wIf (wTest (wIn (wVar 4) (wTupP (wCons (wC (.int 1)) (wCons (wBin fSub (wVar 0) (wC (.int 1))) wNil)))))
 (wRet (wC (.bool true)))
 wNx)
 (wSeq (wFor (iR1 (wBin fSub (wVar 3) (wC (.int 1)))) (gN 5)
 (wSeq (wSet 4 (wBin fMod (wBin fMul (wVar 4) (wVar 4)) (wVar 0)))
 (wIf (wTest (wBin fEq (wVar 4) (wBin fSub (wVar 0) (wC (.int 1)))))
 (wRet (wC (.bool true)))
 wNx)))
 (wRet (wC (.bool false)))))))))
theorem mf_passes : ∀ as Q, as.length = 2 → M_passes as Q → w_passes { nx := fun _ => Q (.v .none), rt := Q } (stE as 4) := by
  rintro as Q _ ⟨n, b, rfl, n0, n1, hq⟩
  let I : Nat → EnvD → Prop := fun k env => ∃ o t : Nat, env = [some (.v (.int n)), some (.v (.int b)), some (.v (.int o)), some (.v (.int t)), none, none] ∧ n - 1 = o * 2 ^ t ∧ 0 < o ∧ k = o
  refine ⟨I, ⟨(n - 1).toNat, (n - 1).toNat, 0, ?_, by omega, by omega, rfl⟩, fun k env hI => ?_⟩
  · rw [show (((n - 1).toNat : Nat) : Int) = n - 1 by omega]
    rfl
  obtain ⟨o, t, rfl, e, o0, rfl⟩ := hI
  refine ⟨by decide, fun h => ?_, fun h => ?_⟩
  · have h2 : (k : Int) % 2 = 0 := of_decide_eq_true h
    refine ⟨fun e => ∃ m', m' < k ∧ I m' e, fun _ z => z, div200 (by decide) (by decide) _, ?_⟩
    refine ⟨k / 2, by omega, k / 2, t + 1, rfl, ?_, by omega, rfl⟩
    rw [e, Int.pow_succ]
    have : (k : Int) = ((k / 2 : Nat) : Int) * 2 := by omega
    generalize ((k / 2 : Nat) : Int) = u at *
    rw [this]
    grind
  · have h2 : ¬ (k : Int) % 2 = 0 := of_decide_eq_false h
    have hq' := hq k t e (by omega)
    have x0 : 0 ≤ b ^ k % n := Int.emod_nonneg _ (by omega)
    have x1 : b ^ k % n < n := Int.emod_lt_of_pos _ (by omega)
    refine ⟨rfl, rfl, n, b, k, rfl, by omega, by omega, by omega, ?_⟩
    refine ⟨rfl, lk rfl, _, [1, n - 1], rfl, rfl, fun h => ?_, fun h => ?_⟩
    · have h' : (1 == b ^ k % n || (n - 1 == b ^ k % n || false)) = true := h
      have : MB.passR n b k t = true := by
        unfold MB.passR
        rw [Bool.or_false] at h'
        rw [BEq.comm (a := b ^ k % n) (b := 1), BEq.comm (a := b ^ k % n) (b := n - 1), h', Bool.true_or]
      rw [this] at hq'
      exact hq'
    · have h' : (1 == b ^ k % n || (n - 1 == b ^ k % n || false)) = false := h
      rw [Bool.or_false] at h'
      have hp : MB.passR n b k t = (List.range (t - 1)).any fun t => b ^ (k * 2 ^ (t + 1)) % n == n - 1 := by
        unfold MB.passR
        rw [BEq.comm (a := b ^ k % n) (b := 1), BEq.comm (a := b ^ k % n) (b := n - 1), h', Bool.false_or]
      by_cases t0 : t = 0
      · subst t0
        refine ⟨⟨by decide, by decide⟩, fun j env => j = 0 ∧ env = [some (.v (.int n)), some (.v (.int b)), some (.v (.int k)), some (.v (.int (0 : Nat))), some (.v (.int (b ^ k % n))), none], ⟨rfl, rfl⟩, ?_, ?_⟩
        · rintro i d env hd _
          obtain ⟨hi, _⟩ := rng_at hd
          exact absurd (show i < 0 from hi) (Nat.not_lt_zero _)
        · rintro env ⟨_, rfl⟩
          rw [hp] at hq'
          exact hq'
      have ht : n < 2 ^ 62 → t < 62 := fun h => by
        apply Nat.lt_of_not_le
        intro z
        have z2 : (2 : Nat) ^ 62 ≤ 2 ^ t := Nat.pow_le_pow_right (by decide) z
        have z3 : ((2 ^ 62 : Nat) : Int) ≤ ((2 ^ t : Nat) : Int) := Int.ofNat_le.mpr z2
        rw [MB.two_pow_cast t] at z3
        have z4 : (1 : Int) * 2 ^ t ≤ k * 2 ^ t := Int.mul_le_mul_of_nonneg_right (by omega) (Int.le_of_lt (Int.pow_pos (by decide)))
        omega
      have ht := ht n1
      refine ⟨⟨by omega, by omega⟩, fun j env => ∃ u, env = [some (.v (.int n)), some (.v (.int b)), some (.v (.int k)), some (.v (.int t)), some (.v (.int (b ^ (k * 2 ^ j) % n))), u] ∧ ((List.range j).any fun t => b ^ (k * 2 ^ (t + 1)) % n == n - 1) = false, ⟨none, ?_, rfl⟩, ?_, ?_⟩
      · rw [Nat.pow_zero, Nat.mul_one]
        rfl
      · rintro i d env hd ⟨u, rfl, hn⟩
        obtain ⟨hi, rfl⟩ := rng_at hd
        have y0 : 0 ≤ b ^ (k * 2 ^ i) % n := Int.emod_nonneg _ (by omega)
        have y1 : b ^ (k * 2 ^ i) % n < n := Int.emod_lt_of_pos _ (by omega)
        have es : b ^ (k * 2 ^ i) % n * (b ^ (k * 2 ^ i) % n) % n = b ^ (k * 2 ^ (i + 1)) % n := by
          rw [← Int.mul_emod, ← Int.pow_add]
          congr 2
          rw [Nat.pow_succ, ← Nat.mul_assoc]
          omega
        refine ⟨.inl ⟨by omega, by omega⟩, by omega, ?_⟩
        rw [es]
        refine ⟨fun h => ?_, fun h => ?_⟩
        · have h' : b ^ (k * 2 ^ (i + 1)) % n = n - 1 := of_decide_eq_true h
          have : MB.passR n b k t = true := by
            rw [hp, List.any_eq_true]
            exact ⟨i, List.mem_range.mpr (by omega), by rw [h']; exact beq_self_eq_true _⟩
          rw [this] at hq'
          exact hq'
        · have h' : ¬ b ^ (k * 2 ^ (i + 1)) % n = n - 1 := of_decide_eq_false h
          refine ⟨_, rfl, ?_⟩
          rw [List.range_succ, List.any_append, hn, Bool.false_or]
          show (_ || false) = false
          rw [Bool.or_false]
          exact beq_eq_false_iff_ne.mpr h'
      · rintro env ⟨u, rfl, hn⟩
        rw [rng_len, show ((t : Int) - 1).toNat = t - 1 by omega] at hn
        rw [hp, hn] at hq'
        exact hq'

theorem ok_passes {f : Addr} {fd : FuncData} (F : Fun K "passes" "passes" s_passes f fd) (h_power : Has P w K mg base okH 1 "power" 3 M_power) (m_range : mg "range" = none)    : FnOk P w K mg base CX0 2 f fd ["n", "base"] (SpD K okH 2 M_passes) :=
  def_ok F sc_passes rfl (fun cdv A outer s H E hr =>
 (s_cons (s_set 2 sc_passes.nd (d_sub (d_var 0) d_int))
 (s_cons (s_set 3 sc_passes.nd d_int)
 (s_cons (s_while PassesOwn.never (t_eq hr (d_mod (d_var 2) d_int) d_int)
 (s_cons (s_set 2 sc_passes.nd (d_div (d_var 2) d_int))
 (s_one (s_set 3 sc_passes.nd (d_add (d_var 3) d_int)))))
 (s_cons (s_set 4 sc_passes.nd (d_call h_power hr (by decide) (a_cons (d_var 0) (a_cons (d_var 1) (a_cons (d_var 2) a_nil)))))
 (s_cons (s_if (t_in hr (d_var 4) (d_b (d_tup (a_cons d_int (a_cons (d_sub (d_var 0) d_int) a_nil)))))
 (s_one (s_ret d_bl))
 s_nil)
 (s_cons (s_for (vs := [5]) PassesOwn.never rfl (i_r1 m_range (d_sub (d_var 3) d_int)) (g_name 5 sc_passes.nd)
 (s_cons (s_set 4 sc_passes.nd (d_mod (d_mul (d_var 4) (d_var 4)) (d_var 0)))
 (s_one (s_if (t_eq hr (d_var 4) (d_sub (d_var 0) d_int))
 (s_one (s_ret d_bl))
 s_nil))))
 (s_one (s_ret d_bl))))))))) mf_passes
/-! ### is_prime -/
abbrev s_is_prime : Stmt := topS 13
theorem sc_is_prime : FnScope ["n", "base"] ["n"] (defScope s_is_prime) := ⟨rfl, rfl, rfl, by decide +kernel, rfl, by decide +kernel, by decide +kernel⟩
def M_is_prime : WM := fun as Q => ∃ n : Int, as = [.v (.int n)] ∧ n < 2 ^ 62 ∧ (n < 2 → Q (.v (.bool false))) ∧ (2 ≤ n → ∀ b, MB.basesL.find? (fun b => n % b == 0) = some b → Q (.v (.bool (n == b)))) ∧
  (2 ≤ n → MB.basesL.find? (fun b => n % b == 0) = none → ∀ odd twos : Nat, n - 1 = odd * 2 ^ twos → odd % 2 = 1 → Q (.v (.bool (MB.basesL.all fun b => MB.passR n b odd twos))))

def w_is_prime : WS := (wSeq (wIf (wTest (wBin fLt (wVar 0) (wC (.int 2))))
 (wRet (wC (.bool false)))
 wNx)
 (wSeq (wFor (iS (wC (.tuple [.int 2, .int 3, .int 5, .int 7, .int 11, .int 13, .int 17, .int 19, .int 23, .int 29, .int 31, .int 37]))) (gN 1)
 (wIf (wTest (wBin fEq (wBin fMod (wVar 0) (wVar 1)) (wC (.int 0))))
 (wRet (wBin fEq (wVar 0) (wVar 1)))
 wNx))
 (wRet (wAll (wFz (wLc (iS (wC (.tuple [.int 2, .int 3, .int 5, .int 7, .int 11, .int 13, .int 17, .int 19, .int 23, .int 29, .int 31, .int 37]))) (gN 1) wYes (wCallP 2 M_passes (wCons (wVar 0) (wCons (wVar 1) wNil))) [1]))))))
theorem odd_of (m : Nat) (h : 0 < m) : ∃ o t : Nat, m = o * 2 ^ t ∧ o % 2 = 1 := by
  induction m using Nat.strongRecOn with
  | ind m ih =>
    by_cases e : m % 2 = 1
    · exact ⟨m, 0, by simp, e⟩
    · obtain ⟨o, t, h1, h2⟩ := ih (m / 2) (by omega) (by omega)
      refine ⟨o, t + 1, ?_, h2⟩
      have : m = m / 2 * 2 := by omega
      rw [this, h1, Nat.pow_succ]
      rw [Nat.mul_assoc]
theorem odd_uniq {o t o' t' : Nat} (h : o * 2 ^ t = o' * 2 ^ t') (h1 : o % 2 = 1) (h2 : o' % 2 = 1) : o = o' ∧ t = t' := by
  induction t generalizing t' with
  | zero =>
    cases t' with
    | zero => simpa using h
    | succ t' =>
      rw [Nat.pow_zero, Nat.mul_one, Nat.pow_succ, ← Nat.mul_assoc] at h
      omega
  | succ t ih =>
    cases t' with
    | zero =>
      rw [Nat.pow_zero, Nat.mul_one, Nat.pow_succ, ← Nat.mul_assoc] at h
      omega
    | succ t' =>
      rw [Nat.pow_succ, Nat.pow_succ, ← Nat.mul_assoc, ← Nat.mul_assoc] at h
      have := ih (t' := t') (by omega)
      exact ⟨this.1, by omega⟩
theorem odd_ofI {n : Int} (h : 2 ≤ n) : ∃ o t : Nat, n - 1 = o * 2 ^ t ∧ o % 2 = 1 := by
  obtain ⟨o, t, h1, h2⟩ := odd_of (n - 1).toNat (by omega)
  refine ⟨o, t, ?_, h2⟩
  have : (((n - 1).toNat : Nat) : Int) = ((o * 2 ^ t : Nat) : Int) := by rw [h1]
  rw [Int.natCast_mul, MB.two_pow_cast] at this
  omega
theorem mf_is_prime : ∀ as Q, as.length = 1 → M_is_prime as Q → w_is_prime { nx := fun _ => Q (.v .none), rt := Q } (stE as 1) := by
  rintro as Q _ ⟨n, rfl, n1, h1, h2, h3⟩
  refine ⟨fun h => h1 (of_decide_eq_true h), fun h => ?_⟩
  have n2 : 2 ≤ n := Int.not_lt.mp (of_decide_eq_false h)
  let bs : List Int := MB.basesL
  refine ⟨fun k env => ∃ u, (u = none ∨ ∃ d, u = some (.v d)) ∧ env = [some (.v (.int n)), u] ∧ ∀ j, j < k → ∀ b, bs[j]? = some b → ¬ n % b = 0, ⟨none, .inl rfl, rfl, fun j hj => absurd hj (Nat.not_lt_zero _)⟩, ?_, ?_⟩
  · rintro i d env hd ⟨u, _, rfl, hn⟩
    have hd' : (bs.map PyData.int)[i]? = some d := hd
    rw [List.getElem?_map] at hd'
    obtain ⟨b, hb, rfl⟩ := Option.map_eq_some_iff.mp hd'
    have hmem : b ∈ bs := List.mem_of_getElem? hb
    have bpos : 0 < b := by
      have : ∀ b ∈ bs, 0 < b := by decide
      exact this b hmem
    refine ⟨bpos, fun h => ?_, fun h => ?_⟩
    · have h' : n % b = 0 := of_decide_eq_true h
      have hf : MB.basesL.find? (fun b => n % b == 0) = some b := by
        rw [List.find?_eq_some_iff_getElem]
        have hi : i < bs.length := (List.getElem?_eq_some_iff.mp hb).1
        refine ⟨beq_iff_eq.mpr h', i, hi, (List.getElem?_eq_some_iff.mp hb).2, fun j hj => ?_⟩
        rw [Bool.not_eq_true', beq_eq_false_iff_ne]
        exact hn j hj _ (List.getElem?_eq_getElem (by omega))
      have := h2 n2 b hf
      exact this
    · have h' : ¬ n % b = 0 := of_decide_eq_false h
      refine ⟨some (.v (.int b)), .inr ⟨_, rfl⟩, rfl, fun j hj c hc => ?_⟩
      by_cases ej : j = i
      · subst ej
        rw [hb] at hc
        cases hc
        exact h'
      · exact hn j (by omega) c hc
  · rintro env ⟨u, hu, rfl, hn⟩
    have hf : MB.basesL.find? (fun b => n % b == 0) = none := by
      rw [List.find?_eq_none]
      intro b hb
      obtain ⟨j, hj, rfl⟩ := List.mem_iff_getElem.mp hb
      rw [beq_iff_eq]
      exact hn j hj _ (List.getElem?_eq_getElem hj)
    obtain ⟨o, t, e, ho⟩ := odd_ofI n2
    have hq := h3 n2 hf o t e ho
    have hpass : ∀ b ∈ MB.basesL, ∀ R : Rt → Prop, R (.v (.bool (MB.passR n b o t))) → M_passes [.v (.int n), .v (.int b)] R := fun b _ R hR => ⟨n, b, rfl, n2, n1, fun o' t' e' ho' => by
      have : o' = o ∧ t' = t := odd_uniq (Int.natCast_inj.mp (by rw [Int.natCast_mul, Int.natCast_mul, MB.two_pow_cast, MB.two_pow_cast, ← e, ← e'])) ho' ho
      rw [this.1, this.2]
      exact hR⟩
    refine ⟨by show 12 < 1000000; decide, ⟨by rcases hu with rfl | ⟨d, rfl⟩; exact trivial; exact rfl, trivial⟩, fun k acc => acc = ((MB.basesL.take k).map fun b => PyData.bool (MB.passR n b o t)), rfl, fun i d acc hd ha => ?_, fun acc ha => ?_⟩
    · have hd' : (bs.map PyData.int)[i]? = some d := hd
      rw [List.getElem?_map] at hd'
      obtain ⟨b, hb, rfl⟩ := Option.map_eq_some_iff.mp hd'
      refine wtrue ⟨rfl, rfl, hpass b (List.mem_of_getElem? hb) _ ?_⟩
      have hb' : MB.basesL[i]? = some b := hb
      show acc ++ _ = _
      rw [ha, List.take_add_one, hb', List.map_append]
      rfl
    · have e12 : MB.basesL.take 12 = MB.basesL := rfl
      have ha' : acc = ((MB.basesL.take 12).map fun b => PyData.bool (MB.passR n b o t)) := ha
      refine ⟨MB.basesL.map fun b => MB.passR n b o t, ?_, ?_⟩
      · rw [ha', e12, List.map_map]
        rfl
      · rw [List.all_map]
        exact hq

theorem ok_is_prime {f : Addr} {fd : FuncData} (F : Fun K "is_prime" "is_prime" s_is_prime f fd) (h_passes : Has P w K mg base okH 2 "passes" 2 M_passes) (m_all : mg "all" = none) (g_BASES : GlD K mg "BASES" (.tuple [.int 2, .int 3, .int 5, .int 7, .int 11, .int 13, .int 17, .int 19, .int 23, .int 29, .int 31, .int 37]))   : FnOk P w K mg base CX0 3 f fd ["n"] (SpD K okH 1 M_is_prime) :=
  def_ok F sc_is_prime rfl (fun cdv A outer s H E hr =>
 (s_cons (s_if (t_lt (d_var 0) d_int)
 (s_one (s_ret d_bl))
 s_nil)
 (s_cons (s_for (vs := [1]) PassesOwn.never rfl (i_seq (d_gl g_BASES)) (g_name 1 sc_is_prime.nd)
 (s_one (s_if (t_eq hr (d_mod (d_var 0) (d_var 1)) d_int)
 (s_one (s_ret (d_eq hr (d_var 0) (d_var 1))))
 s_nil)))
 (s_one (s_ret (d_all rfl m_all (d_b (d_fz (l_lc (own := [("base", 1)]) rfl sc_is_prime.nd (i_seq (d_gl g_BASES)) (blkOk_by (N := ["n", "base"]) (sc := defScope s_is_prime) (by decide +kernel)) ⟨(gName 1), fun _ _ _ _ _ => (pg_name (i := 1) sc_is_prime.nd rfl (Or.inl rfl)), (sg_name (i := 1) (by decide))⟩ ⟨tYes, fun _ _ _ _ _ => pts_nil, st_yes⟩ ⟨(tCall (SpD K okH 2 M_passes) [] E0 (tCons (tVar 0) (tCons (tVar 1) tNil))), fun _ _ _ _ _ => (pe_has h_passes hr (by decide) (pa_cons (pv 0) (pa_cons (pv 1) pa_nil))), (snd_call (snd_cons snd_var (snd_cons snd_var snd_nil)))⟩))))))))) mf_is_prime
/-! ### primes_of -/
abbrev s_primes_of : Stmt := topS 15
theorem sc_primes_of : FnScope ["n", "part"] ["n"] (defScope s_primes_of) := ⟨rfl, rfl, rfl, by decide +kernel, rfl, by decide +kernel, by decide +kernel⟩
def M0_primes_of : WM := fun _ _ => False

def w0_primes_of : WS := (wSeq (wIf (wTest (wBin fEq (wVar 0) (wC (.int 1))))
 (wRetO (wLstP wNil))
 wNx)
 (wSeq (wIf (wTest (wCallP 1 M_is_prime (wCons (wVar 0) wNil)))
 (wRetO (wLstP (wCons (wVar 0) wNil)))
 wNx)
 (wSeq wNever
 wNever)))
theorem mf0_primes_of : ∀ as Q, as.length = 1 → M0_primes_of as Q → w0_primes_of { nx := fun _ => Q (.v .none), rt := Q } (stE as 1) := fun _ _ _ h => h.elim

theorem ok0_primes_of {f : Addr} {fd : FuncData} (F : Fun K "primes_of" "primes_of" s_primes_of f fd) (h_is_prime : Has P w K mg base okH 3 "is_prime" 1 M_is_prime)   : FnOk P w K mg base CX0 4 f fd ["n"] (SpD K okH 1 M0_primes_of) :=
  def_ok F sc_primes_of rfl (fun cdv A outer s H E hr =>
 (s_cons (s_if (t_eq hr (d_var 0) d_int)
 (s_one (s_retO (l_lst a_nil)))
 s_nil)
 (s_cons (s_if (t_val (d_call h_is_prime hr (by decide) (a_cons (d_var 0) a_nil)))
 (s_one (s_retO (l_lst (a_cons (d_var 0) a_nil))))
 s_nil)
 (s_cons s_no
 (s_one s_no))))) mf0_primes_of
def M_primes_of : WM := fun as Q => ∃ n : Int, as = [.v (.int n)] ∧ n < 2 ^ 62 ∧ ((n = 1 ∧ Q (.own [])) ∨ (MB.PrimeI n ∧ Q (.own [.int n])))

def w_primes_of : WS := (wSeq (wIf (wTest (wBin fEq (wVar 0) (wC (.int 1))))
 (wRetO (wLstP wNil))
 wNx)
 (wSeq (wIf (wTest (wCallP 1 M_is_prime (wCons (wVar 0) wNil)))
 (wRetO (wLstP (wCons (wVar 0) wNil)))
 wNx)
 (wSeq wNever
 (wRetO (wCat (wFz (wCallOP 1 M0_primes_of (wCons (wVar 1) wNil))) (wFz (wCallOP 1 M0_primes_of (wCons (wBin fDiv (wVar 0) (wVar 1)) wNil))))))))
theorem isp_prime {n : Int} (hp : MB.PrimeI n) (n1 : n < 2 ^ 62) {R : Rt → Prop} (h : R (.v (.bool true))) : M_is_prime [.v (.int n)] R := by
  have n2 := hp.1
  refine ⟨n, rfl, n1, fun z => absurd z (by omega), fun _ b hb => ?_, fun _ hno odd twos e _ => ?_⟩
  · have hm := List.mem_of_find?_eq_some hb
    have hd := List.find?_some hb
    have b2 : 2 ≤ b := by
      have : ∀ b ∈ MB.basesL, 2 ≤ b := by decide
      exact this b hm
    have hd : n % b = 0 := by simpa using hd
    have : n = b := by
      have := Int.le_of_dvd (by omega) (Int.dvd_of_emod_eq_zero hd)
      refine Classical.byContradiction fun z => hp.2 b b2 (by omega) hd
    rw [show (n == b) = true from beq_iff_eq.mpr this]
    exact h
  · rw [List.find?_eq_none] at hno
    have n3 : 3 ≤ n := by
      have := hno 2 (by decide)
      refine Classical.byContradiction fun z => this ?_
      have : n = 2 := by omega
      rw [this]
      rfl
    have : (MB.basesL.all fun b => MB.passR n b odd twos) = true := List.all_eq_true.mpr fun b hb => MB.passR_prime hp n3 (fun z => by
      have b2 : 2 ≤ b := by
        have : ∀ b ∈ MB.basesL, 2 ≤ b := by decide
        exact this b hb
      have bp : MB.PrimeI b := by
        have : ∀ b ∈ MB.basesL, MB.trialB b.toNat 7 = true := by decide
        have h := (MB.trialB_ok (this b hb)).toI
        rwa [Int.toNat_of_nonneg (by omega)] at h
      have hle := Int.le_of_dvd (by omega) z
      by_cases e : n = b
      · refine hno b hb ?_
        rw [e]
        show (b % b == 0) = true
        rw [Int.emod_self]
        rfl
      · exact bp.2 n n2 (by omega) (Int.emod_eq_zero_of_dvd z)) e
    rw [this]
    exact h
theorem mf_primes_of : ∀ as Q, as.length = 1 → M_primes_of as Q → w_primes_of { nx := fun _ => Q (.v .none), rt := Q } (stE as 1) := by
  rintro as Q _ ⟨n, rfl, n1, h⟩
  rcases h with ⟨rfl, h⟩ | ⟨hp, h⟩
  · exact ⟨fun _ => ⟨rfl, lk rfl, h⟩, fun z => (by cases z)⟩
  · have n2 := hp.1
    refine ⟨fun z => absurd (of_decide_eq_true z) (by omega), fun _ => onNx ⟨rfl, rfl, isp_prime hp n1 ?_⟩⟩
    exact ⟨fun _ => ⟨rfl, lk rfl, h⟩, fun z => (by cases z)⟩

theorem ok_primes_of {f : Addr} {fd : FuncData} (F : Fun K "primes_of" "primes_of" s_primes_of f fd) (h_is_prime : Has P w K mg base okH 3 "is_prime" 1 M_is_prime)     (h0_primes_of : Has P w K mg base okH 4 "primes_of" 1 M0_primes_of) : FnOk P w K mg base CX0 5 f fd ["n"] (SpD K okH 1 M_primes_of) :=
  def_ok F sc_primes_of rfl (fun cdv A outer s H E hr =>
 (s_cons (s_if (t_eq hr (d_var 0) d_int)
 (s_one (s_retO (l_lst a_nil)))
 s_nil)
 (s_cons (s_if (t_val (d_call h_is_prime hr (by decide) (a_cons (d_var 0) a_nil)))
 (s_one (s_retO (l_lst (a_cons (d_var 0) a_nil))))
 s_nil)
 (s_cons s_no
 (s_one (s_retO (l_cat (d_b (d_fz (l_call h0_primes_of hr (by decide) (a_cons (d_var 1) a_nil)))) (d_b (d_fz (l_call h0_primes_of hr (by decide) (a_cons (d_div (d_var 0) (d_var 1)) a_nil))))))))))) mf_primes_of
/-! ### factors -/
abbrev s_factors : Stmt := topS 16
theorem sc_factors : FnScope ["n", "found", "small", "prime"] ["n"] (defScope s_factors) := ⟨rfl, rfl, rfl, by decide +kernel, rfl, by decide +kernel, by decide +kernel⟩
def M_factors : WM := fun as Q => ∃ n : Int, as = [.v (.int n)] ∧ 1 ≤ n ∧ n < 2 ^ 62 ∧ MB.Easy n ∧ ∀ L : List (Int × Int), MB.Facs n L → Q (.v (.list (L.map d2)))

def w_factors_L7 : WS := (wSet 2 (wBin fAdd (wVar 2) (wC (.int 1))))
def w_factors_L10 : WS := (wRet (wFz (wSortIt 1)))
def w_factors_L8 : WS := (wSeq (wFor (iS (wFz (wCallOP 1 M_primes_of (wCons (wVar 0) wNil)))) (gN 3)
 (wDPut 1 (wVar 3) (wBin fAdd (wDGet2 1 (wVar 3) (wC (.int 0))) (wC (.int 1)))))
 w_factors_L10)
def w_factors : WS := (wSeq (wSetD 1)
 (wSeq (wSet 2 (wC (.int 2)))
 (wSeq (wWhile (wAndD (wTest (wBin fLt (wVar 2) (wC (.int 1000)))) (wTest (wBin fLe (wBin fMul (wVar 2) (wVar 2)) (wVar 0))))
 (wSeq (wWhile (wTest (wBin fEq (wBin fMod (wVar 0) (wVar 2)) (wC (.int 0))))
 (wSeq (wDPut 1 (wVar 2) (wBin fAdd (wDGet2 1 (wVar 2) (wC (.int 0))) (wC (.int 1))))
 (wSet 0 (wBin fDiv (wVar 0) (wVar 2)))))
 w_factors_L7))
 w_factors_L8)))
structure FSt (N small n : Int) (L : List (Int × Int)) : Prop where
  pr : ∀ P ∈ L, MB.PrimeI P.1 ∧ 0 < P.2
  lt : ∀ P ∈ L, P.1 < small
  asc : L.Pairwise fun P R => P.1 < R.1
  prod : MB.prodP L * n = N
  n1 : 1 ≤ n
  nN : n ≤ N
  no : ∀ d : Int, 2 ≤ d → d < small → n % d ≠ 0
  s2 : 2 ≤ small
  s1 : small ≤ 1000
  len : L.length < small.toNat
theorem factors_end {N small n : Int} {L : List (Int × Int)} {Q : Rt → Prop} {t3 : Option Sl} (h : FSt N small n L) (N1 : N < 2 ^ 62) (he : MB.Easy N) (hs : small = 1000 ∨ n < small * small) (hq : ∀ L : List (Int × Int), MB.Facs N L → Q (.v (.list (L.map d2)))) :
    w_factors_L8 { nx := fun _ => Q (.v .none), rt := Q } [some (.v (.int n)), some (.dct (MB.itL L)), some (.v (.int small)), t3] := by
  have s2 := h.s2
  have s1 := h.s1
  have n1 := h.n1
  have nN := h.nN
  have len := h.len
  by_cases e : n = 1
  · have hf : MB.Facs N L := ⟨h.pr, h.asc, by rw [← h.prod, e, Int.mul_one]⟩
    refine ⟨rfl, rfl, n, rfl, by omega, .inl ⟨e, ?_⟩⟩
    refine ⟨fun k env => k = 0 ∧ env = [some (.v (.int n)), some (.dct (MB.itL L)), some (.v (.int small)), t3], ⟨rfl, rfl⟩, ?_, ?_⟩
    · rintro k d env hd ⟨rfl, rfl⟩
      cases hd
    · rintro env ⟨_, rfl⟩
      refine ⟨L, rfl, fun L' hp hl => ?_⟩
      rw [MB.sortP_one hp hl h.asc]
      exact hq L hf
  · have hp : MB.PrimeI n := by
      rcases hs with hs | hs
      · subst hs
        exact he n (by omega) ⟨MB.prodP L, by rw [← h.prod, Int.mul_comm]⟩ h.no
      · exact MB.prime_of_trial small (by omega) hs (by omega) fun d d2 d3 _ => h.no d d2 d3
    have hsn : small ≤ n := Int.not_lt.mp fun z => h.no n (by omega) z Int.emod_self
    have hlt : ∀ P ∈ L, P.1 < n := fun P hP => by have := h.lt P hP; omega
    have hf : MB.Facs N (MB.withE L n 1) := by
      refine ⟨fun P hP => ?_, ?_, by rw [MB.prodP_withE, Int.pow_succ, Int.pow_zero, Int.one_mul, h.prod]⟩
      · rcases List.mem_append.mp (show P ∈ L ++ [(n, ((1 : Nat) : Int))] from hP) with hP | hP
        · exact h.pr P hP
        · rw [List.mem_singleton.mp hP]
          exact ⟨hp, Int.one_pos⟩
      · refine List.pairwise_append.mpr ⟨h.asc, List.pairwise_singleton _ _, fun P hP R hR => ?_⟩
        rw [List.mem_singleton.mp hR]
        exact hlt P hP
    refine ⟨rfl, rfl, n, rfl, by omega, .inr ⟨hp, ?_⟩⟩
    refine ⟨fun k env => (k = 0 ∧ env = [some (.v (.int n)), some (.dct (MB.itL L)), some (.v (.int small)), t3]) ∨ (k = 1 ∧ env = [some (.v (.int n)), some (.dct (MB.itL (MB.withE L n 1))), some (.v (.int small)), some (.v (.int n))]), .inl ⟨rfl, rfl⟩, ?_, ?_⟩
    · rintro k d env hd (⟨rfl, rfl⟩ | ⟨rfl, rfl⟩)
      · have := Option.some.inj hd
        subst this
        refine ⟨_, _, rfl, MB.withE_at 0 hlt, _, rfl, by rw [List.length_map]; omega, .inr ⟨rfl, ?_⟩⟩
        have := MB.withE_put 0 hlt
        have e0 : MB.withE L n 0 = L := rfl
        rw [e0] at this
        rw [← this]
        rfl
      · cases hd
    · rintro env (⟨h0, _⟩ | ⟨_, rfl⟩)
      · cases h0
      · refine ⟨MB.withE L n 1, rfl, fun L' hp hl => ?_⟩
        rw [MB.sortP_one hp hl hf.asc]
        exact hq _ hf
theorem mf_factors : ∀ as Q, as.length = 1 → M_factors as Q → w_factors { nx := fun _ => Q (.v .none), rt := Q } (stE as 3) := by
  rintro as Q _ ⟨N, rfl, N0, N1, he, hq⟩
  let I : Nat → EnvD → Prop := fun m env => ∃ (n small : Int) (L : List (Int × Int)), env = [some (.v (.int n)), some (.dct (MB.itL L)), some (.v (.int small)), none] ∧ m = (1000 - small).toNat ∧ FSt N small n L
  refine ⟨I, ⟨_, N, 2, [], rfl, rfl, ⟨fun P hP => (by cases hP), fun P hP => (by cases hP), List.Pairwise.nil, by show 1 * N = N; omega, N0, Int.le_refl _, fun d d2 d3 => absurd d3 (by omega), by decide, by decide, by decide⟩⟩, fun m env hI => ?_⟩
  obtain ⟨n, small, L, rfl, rfl, h⟩ := hI
  have s2 := h.s2
  have s1 := h.s1
  refine ⟨decide (small * small ≤ n), fun _ => ⟨.inl ⟨by omega, by omega⟩, rfl⟩, fun hc => ?_, fun hc => ?_⟩
  · have hc : (decide (small < 1000) && decide (small * small ≤ n)) = true := hc
    rw [Bool.and_eq_true, decide_eq_true_iff, decide_eq_true_iff] at hc
    refine ⟨fun e => ∃ m', m' < (1000 - small).toNat ∧ I m' e, fun _ z => z, ?_⟩
    -- the small one is divided out
    let J : Nat → EnvD → Prop := fun m env => ∃ (e : Nat) (n' : Int), env = [some (.v (.int n')), some (.dct (MB.itL (MB.withE L small e))), some (.v (.int small)), none] ∧ m = n'.toNat ∧ MB.prodP L * small ^ e * n' = N ∧ 1 ≤ n' ∧ n' ≤ n ∧ (∀ d : Int, 2 ≤ d → d < small → n' % d ≠ 0) ∧ (0 < e → MB.PrimeI small)
    refine ⟨J, ⟨_, 0, n, rfl, rfl, by rw [Int.pow_zero, Int.mul_one]; exact h.prod, h.n1, Int.le_refl _, h.no, fun z => absurd z (by omega)⟩, fun m env hJ => ?_⟩
    obtain ⟨e, n', rfl, rfl, hp, n1, nn, hno, hpr⟩ := hJ
    refine ⟨by omega, fun hd => ?_, fun hd => ?_⟩
    · have hd : n' % small = 0 := of_decide_eq_true hd
      obtain ⟨k, hk⟩ := Int.dvd_of_emod_eq_zero hd
      have k1 : 1 ≤ k := Int.not_lt.mp fun z => by
        have : small * k ≤ small * 0 := Int.mul_le_mul_of_nonneg_left (by omega) (by omega)
        omega
      have k2 : 2 * k ≤ small * k := Int.mul_le_mul_of_nonneg_right s2 (by omega)
      have ek : n' / small = k := Int.ediv_eq_of_eq_mul_right (by omega) hk
      have hl : (MB.withE L small e).length ≤ L.length + 1 := by
        unfold MB.withE
        split
        · omega
        · rw [List.length_append]; exact Nat.le_refl _
      have len := h.len
      refine ⟨fun e => ∃ m', m' < n'.toNat ∧ J m' e, fun _ z => z, ?_⟩
      refine ⟨_, _, rfl, MB.withE_at e h.lt, _, rfl, by rw [List.length_map]; omega, div200 (by omega) (by omega) _, k.toNat, by omega, e + 1, k, ?_, rfl, ?_, k1, by omega, fun d d2 d3 z => ?_, fun _ => ?_⟩
      · rw [← MB.withE_put e h.lt, ← ek]
        rfl
      · rw [Int.pow_succ, ← hp, hk]
        grind
      · refine hno d d2 d3 ?_
        rw [hk]
        exact Int.emod_eq_zero_of_dvd (Int.dvd_trans (Int.dvd_of_emod_eq_zero z) (Int.dvd_mul_left _ _))
      · refine MB.prime_of_trial small s2 (by have : small * 2 ≤ small * small := Int.mul_le_mul_of_nonneg_left s2 (by omega); omega) (by omega) fun d d2 d3 _ z => hno d d2 d3 ?_
        rw [hk]
        exact Int.emod_eq_zero_of_dvd (Int.dvd_trans (Int.dvd_of_emod_eq_zero z) (Int.dvd_mul_right _ _))
    · have hd : ¬ n' % small = 0 := of_decide_eq_false hd
      refine ⟨(1000 - (small + 1)).toNat, by omega, n', small + 1, MB.withE L small e, rfl, rfl, ?_⟩
      have nN := h.nN
      have len := h.len
      unfold MB.withE
      by_cases e0 : e = 0
      · rw [if_pos e0]
        rw [e0, Int.pow_zero, Int.mul_one] at hp
        refine ⟨h.pr, fun P hP => by have := h.lt P hP; omega, h.asc, hp, n1, by omega, fun d d2 d3 z => ?_, by omega, by omega, by omega⟩
        by_cases ed : d = small
        · exact hd (ed ▸ z)
        · exact hno d d2 (by omega) z
      · rw [if_neg e0]
        refine ⟨fun P hP => ?_, fun P hP => ?_, ?_, ?_, n1, by omega, fun d d2 d3 z => ?_, by omega, by omega, by rw [List.length_append, List.length_singleton]; omega⟩
        · rcases List.mem_append.mp hP with hP | hP
          · exact h.pr P hP
          · rw [List.mem_singleton.mp hP]
            exact ⟨hpr (by omega), by show (0 : Int) < (e : Int); omega⟩
        · rcases List.mem_append.mp hP with hP | hP
          · have := h.lt P hP; omega
          · rw [List.mem_singleton.mp hP]
            show small < small + 1
            omega
        · refine List.pairwise_append.mpr ⟨h.asc, List.pairwise_singleton _ _, fun P hP R hR => ?_⟩
          rw [List.mem_singleton.mp hR]
          exact h.lt P hP
        · rw [MB.prodP_append, MB.prodP_one, Int.toNat_natCast]
          exact hp
        · by_cases ed : d = small
          · exact hd (ed ▸ z)
          · exact hno d d2 (by omega) z
  · have hc : (decide (small < 1000) && decide (small * small ≤ n)) = false := hc
    refine factors_end h N1 he ?_ hq
    by_cases z : small < 1000
    · right
      rw [decide_eq_true z, Bool.true_and, decide_eq_false_iff_not] at hc
      omega
    · left
      omega

theorem ok_factors {f : Addr} {fd : FuncData} (F : Fun K "factors" "factors" s_factors f fd) (h_primes_of : Has P w K mg base okH 5 "primes_of" 1 M_primes_of) (m_sorted : mg "sorted" = none)    : FnOk P w K mg base CX0 6 f fd ["n"] (SpD K okH 1 M_factors) :=
  def_ok F sc_factors rfl (fun cdv A outer s H E hr =>
 (s_cons (s_setD 1 sc_factors.nd)
 (s_cons (s_set 2 sc_factors.nd d_int)
 (s_cons (s_while PassesOwn.never (t_w (w_and (t_lt (d_var 2) d_int) (w_and1 (t_le (d_mul (d_var 2) (d_var 2)) (d_var 0)))))
 (s_cons (s_while PassesOwn.never (t_eq hr (d_mod (d_var 0) (d_var 2)) d_int)
 (s_cons (s_dput 1 hr (d_add (d_dget2 1 hr (d_var 2) d_int) d_int) (d_var 2))
 (s_one (s_set 0 sc_factors.nd (d_div (d_var 0) (d_var 2))))))
 (s_one (s_set 2 sc_factors.nd (d_add (d_var 2) d_int)))))
 (s_cons (s_for (vs := [3]) PassesOwn.never rfl (i_seq (d_fz (l_call h_primes_of hr (by decide) (a_cons (d_var 0) a_nil)))) (g_name 3 sc_factors.nd)
 (s_one (s_dput 1 hr (d_add (d_dget2 1 hr (d_var 3) d_int) d_int) (d_var 3))))
 (s_one (s_ret (d_fz (l_sortIt 1 rfl m_sorted))))))))) mf_factors
/-! ### negative -/
abbrev s_negative : Stmt := topS 18
theorem sc_negative : FnScope ["curve", "point"] ["curve", "point"] (defScope s_negative) := ⟨rfl, rfl, rfl, by decide +kernel, rfl, by decide +kernel, by decide +kernel⟩
def M_negative : WM := fun as Q => ∃ (p a b : Int) (P : MC.Pt), as = [.v (.tuple [.int p, .int a, .int b]), .v (MC.dpt P)] ∧ 0 < p ∧ Q (.v (MC.dpt (MC.negP p P)))

def w_negative : WS := (wSeq (wIf (wTest (wIsN (wVar 1)))
 (wRet (wC .none))
 wNx)
 (wRet (wTupP (wCons (wIx (wVar 1) (wC (.int 0))) (wCons (wBin fMod (wUn fNeg (wIx (wVar 1) (wC (.int 1)))) (wIx (wVar 0) (wC (.int 0)))) wNil)))))
theorem mf_negative : ∀ as Q, as.length = 2 → M_negative as Q → w_negative { nx := fun _ => Q (.v .none), rt := Q } (stE as 0) := by
  rintro as Q _ ⟨p, a, b, P, rfl, p0, hq⟩
  cases P with
  | none => exact wtrue hq
  | some q =>
    obtain ⟨x, y⟩ := q
    exact wfalse ⟨_, rfl, _, rfl, _, rfl, p0, rfl, lk rfl, hq⟩

theorem ok_negative {f : Addr} {fd : FuncData} (F : Fun K "negative" "negative" s_negative f fd)      : FnOk P w K mg base CX0 1 f fd ["curve", "point"] (SpD K okH 2 M_negative) :=
  def_ok F sc_negative rfl (fun cdv A outer s H E hr =>
 (s_cons (s_if (t_isN (d_var 1))
 (s_one (s_ret d_non))
 s_nil)
 (s_one (s_ret (d_tup (a_cons (d_ix (d_b (d_var 1)) d_int) (a_cons (d_mod (d_neg (d_ix (d_b (d_var 1)) d_int)) (d_ix (d_b (d_var 0)) d_int)) a_nil))))))) mf_negative
/-! ### slope -/
abbrev s_slope : Stmt := topS 19
theorem sc_slope : FnScope ["curve", "one", "two", "p", "a", "b"] ["curve", "one", "two"] (defScope s_slope) := ⟨rfl, rfl, rfl, by decide +kernel, rfl, by decide +kernel, by decide +kernel⟩
def M_slope : WM := fun as Q => ∃ (p a b x1 y1 x2 y2 : Int), as = [.v (.tuple [.int p, .int a, .int b]), .v (.tuple [.int x1, .int y1]), .v (.tuple [.int x2, .int y2])] ∧ MC.Cu p a b ∧ MC.On p a b (some (x1, y1)) ∧ MC.On p a b (some (x2, y2)) ∧ ¬ (x1 = x2 ∧ (y1 + y2) % p = 0) ∧ Q (.v (.int (MC.slp p a x1 y1 x2 y2)))

def w_slope : WS := (wSeq (wAsg (wVar 0) (gT 3 (gsCons (gN 3) (gsCons (gN 4) (gsCons (gN 5) gsNil)))))
 (wSeq (wIf (wTest (wBin fEq (wIx (wVar 1) (wC (.int 0))) (wIx (wVar 2) (wC (.int 0)))))
 (wRet (wBin fMod (wBin fMul (wBin fAdd (wBin fMul (wBin fMul (wC (.int 3)) (wIx (wVar 1) (wC (.int 0)))) (wIx (wVar 1) (wC (.int 0)))) (wVar 4)) (wCallP 2 M_inverse (wCons (wVar 3) (wCons (wBin fMod (wBin fMul (wC (.int 2)) (wIx (wVar 1) (wC (.int 1)))) (wVar 3)) wNil)))) (wVar 3)))
 wNx)
 (wRet (wBin fMod (wBin fMul (wBin fSub (wIx (wVar 2) (wC (.int 1))) (wIx (wVar 1) (wC (.int 1)))) (wCallP 2 M_inverse (wCons (wVar 3) (wCons (wBin fMod (wBin fSub (wIx (wVar 2) (wC (.int 0))) (wIx (wVar 1) (wC (.int 0)))) (wVar 3)) wNil)))) (wVar 3)))))
theorem mf_slope : ∀ as Q, as.length = 3 → M_slope as Q → w_slope { nx := fun _ => Q (.v .none), rt := Q } (stE as 3) := by
  rintro as Q _ ⟨p, a, b, x1, y1, x2, y2, rfl, c, h1, h2, hn, hq⟩
  have p5 := c.p5
  have p1 := c.p1
  have p0 : 0 < p := by omega
  have b1 : ∀ z, CMul z x1 := fun z => .inr ⟨by have := h1.1; omega, by have := h1.2.1; omega⟩
  have ib : ∀ v z, CMul z (MC.inv p v) := fun v z => .inr ⟨by have := (MC.inv_bd (p := p) (v := v) p0).1; omega, by have := (MC.inv_bd (p := p) (v := v) p0).2; omega⟩
  refine ⟨rfl, rfl, _, rfl, _, rfl, fun h => ?_, fun h => ?_⟩
  · have hx : x1 = x2 := of_decide_eq_true h
    have ey : y1 = y2 := by
      subst hx
      exact MC.same_y c.hp h1 h2 fun z => hn ⟨rfl, z⟩
    have hy : 2 * y1 % p ≠ 0 := MC.two_y c.hp fun z => hn ⟨hx, by rw [← ey]; exact z⟩
    refine ⟨_, rfl, b1 _, _, rfl, b1 _, _, rfl, .inl ⟨by decide, by decide⟩, p0, rfl, rfl, p, _, rfl, c.hp, p1, MC.mod_ne hy, ib _ _, p0, ?_⟩
    have e : MC.slp p a x1 y1 x2 y2 = (3 * x1 * x1 + a) * MC.inv p (2 * y1 % p) % p := if_pos hx
    rw [e] at hq
    exact hq
  · have hx : ¬ x1 = x2 := of_decide_eq_false h
    have hd := MC.sub_ne h1.1 h1.2.1 h2.1 h2.2.1 hx
    refine ⟨_, rfl, _, rfl, _, rfl, _, rfl, p0, rfl, rfl, p, _, rfl, c.hp, p1, MC.mod_ne hd, ib _ _, p0, ?_⟩
    have e : MC.slp p a x1 y1 x2 y2 = (y2 - y1) * MC.inv p ((x2 - x1) % p) % p := if_neg hx
    rw [e] at hq
    exact hq

theorem ok_slope {f : Addr} {fd : FuncData} (F : Fun K "slope" "slope" s_slope f fd) (h_inverse : Has P w K mg base okH 2 "inverse" 2 M_inverse)     : FnOk P w K mg base CX0 3 f fd ["curve", "one", "two"] (SpD K okH 3 M_slope) :=
  def_ok F sc_slope rfl (fun cdv A outer s H E hr =>
 (s_cons (s_asg (vs := [3, 4, 5]) (d_var 0) (g_tupN (g_cons (g_name 3 sc_slope.nd) (g_cons (g_name 4 sc_slope.nd) (g_cons (g_name 5 sc_slope.nd) g_nil)))))
 (s_cons (s_if (t_eq hr (d_ix (d_b (d_var 1)) d_int) (d_ix (d_b (d_var 2)) d_int))
 (s_one (s_ret (d_mod (d_mul (d_add (d_mul (d_mul d_int (d_ix (d_b (d_var 1)) d_int)) (d_ix (d_b (d_var 1)) d_int)) (d_var 4)) (d_call h_inverse hr (by decide) (a_cons (d_var 3) (a_cons (d_mod (d_mul d_int (d_ix (d_b (d_var 1)) d_int)) (d_var 3)) a_nil)))) (d_var 3))))
 s_nil)
 (s_one (s_ret (d_mod (d_mul (d_sub (d_ix (d_b (d_var 2)) d_int) (d_ix (d_b (d_var 1)) d_int)) (d_call h_inverse hr (by decide) (a_cons (d_var 3) (a_cons (d_mod (d_sub (d_ix (d_b (d_var 2)) d_int) (d_ix (d_b (d_var 1)) d_int)) (d_var 3)) a_nil)))) (d_var 3))))))) mf_slope
/-! ### plus -/
abbrev s_plus : Stmt := topS 20
theorem sc_plus : FnScope ["curve", "one", "two", "p", "m", "x"] ["curve", "one", "two"] (defScope s_plus) := ⟨rfl, rfl, rfl, by decide +kernel, rfl, by decide +kernel, by decide +kernel⟩
def M_plus : WM := fun as Q => ∃ (p a b : Int) (P R : MC.Pt), as = [.v (.tuple [.int p, .int a, .int b]), .v (MC.dpt P), .v (MC.dpt R)] ∧ MC.Cu p a b ∧ MC.On p a b P ∧ MC.On p a b R ∧ Q (.v (MC.dpt (MC.addP p a P R)))

def w_plus : WS := (wSeq (wIf (wTest (wIsN (wVar 1)))
 (wRet (wVar 2))
 wNx)
 (wSeq (wIf (wTest (wIsN (wVar 2)))
 (wRet (wVar 1))
 wNx)
 (wSeq (wSet 3 (wIx (wVar 0) (wC (.int 0))))
 (wSeq (wIf (wAndD (wTest (wBin fEq (wIx (wVar 1) (wC (.int 0))) (wIx (wVar 2) (wC (.int 0))))) (wTest (wBin fEq (wBin fMod (wBin fAdd (wIx (wVar 1) (wC (.int 1))) (wIx (wVar 2) (wC (.int 1)))) (wVar 3)) (wC (.int 0)))))
 (wRet (wC .none))
 wNx)
 (wSeq (wSet 4 (wCallP 3 M_slope (wCons (wVar 0) (wCons (wVar 1) (wCons (wVar 2) wNil)))))
 (wSeq (wSet 5 (wBin fMod (wBin fSub (wBin fSub (wBin fMul (wVar 4) (wVar 4)) (wIx (wVar 1) (wC (.int 0)))) (wIx (wVar 2) (wC (.int 0)))) (wVar 3)))
 (wRet (wTupP (wCons (wVar 5) (wCons (wBin fMod (wBin fSub (wBin fMul (wVar 4) (wBin fSub (wIx (wVar 1) (wC (.int 0))) (wVar 5))) (wIx (wVar 1) (wC (.int 1)))) (wVar 3)) wNil))))))))))
theorem mf_plus : ∀ as Q, as.length = 3 → M_plus as Q → w_plus { nx := fun _ => Q (.v .none), rt := Q } (stE as 3) := by
  rintro as Q _ ⟨p, a, b, P, R, rfl, c, h1, h2, hq⟩
  have p5 := c.p5
  have p1 := c.p1
  have p0 : 0 < p := by omega
  cases P with
  | none => exact wtrue hq
  | some q =>
    obtain ⟨x1, y1⟩ := q
    refine wfalse ?_
    cases R with
    | none => exact wtrue hq
    | some r =>
      obtain ⟨x2, y2⟩ := r
      refine wfalse ⟨_, rfl, _, rfl, _, rfl, decide ((y1 + y2) % p = 0), fun h => ⟨_, rfl, _, rfl, p0, rfl⟩, fun h => ?_, fun h => ?_⟩
      · have h' : (decide (x1 = x2) && decide ((y1 + y2) % p = 0)) = true := h
        rw [Bool.and_eq_true, decide_eq_true_iff, decide_eq_true_iff] at h'
        have e : MC.addP p a (some (x1, y1)) (some (x2, y2)) = none := if_pos h'
        rw [e] at hq
        exact hq
      · have h' : (decide (x1 = x2) && decide ((y1 + y2) % p = 0)) = false := h
        have hn : ¬ (x1 = x2 ∧ (y1 + y2) % p = 0) := fun z => by
          rw [decide_eq_true z.1, decide_eq_true z.2] at h'
          cases h'
        have e : MC.addP p a (some (x1, y1)) (some (x2, y2)) = some (MC.addM p (MC.slp p a x1 y1 x2 y2) x1 y1 x2) := if_neg hn
        rw [e] at hq
        have mb : ∀ z, CMul (MC.slp p a x1 y1 x2 y2) z := fun z => by
          have : 0 ≤ MC.slp p a x1 y1 x2 y2 ∧ MC.slp p a x1 y1 x2 y2 < p := by
            unfold MC.slp
            split <;> exact ⟨Int.emod_nonneg _ (by omega), Int.emod_lt_of_pos _ p0⟩
          exact .inl ⟨by omega, by omega⟩
        exact ⟨rfl, rfl, p, a, b, x1, y1, x2, y2, rfl, c, h1, h2, hn, mb _, _, rfl, _, rfl, p0, _, rfl, mb _, _, rfl, p0, rfl, lk rfl, hq⟩

theorem ok_plus {f : Addr} {fd : FuncData} (F : Fun K "plus" "plus" s_plus f fd) (h_slope : Has P w K mg base okH 3 "slope" 3 M_slope)     : FnOk P w K mg base CX0 4 f fd ["curve", "one", "two"] (SpD K okH 3 M_plus) :=
  def_ok F sc_plus rfl (fun cdv A outer s H E hr =>
 (s_cons (s_if (t_isN (d_var 1))
 (s_one (s_ret (d_var 2)))
 s_nil)
 (s_cons (s_if (t_isN (d_var 2))
 (s_one (s_ret (d_var 1)))
 s_nil)
 (s_cons (s_set 3 sc_plus.nd (d_ix (d_b (d_var 0)) d_int))
 (s_cons (s_if (t_w (w_and (t_eq hr (d_ix (d_b (d_var 1)) d_int) (d_ix (d_b (d_var 2)) d_int)) (w_and1 (t_eq hr (d_mod (d_add (d_ix (d_b (d_var 1)) d_int) (d_ix (d_b (d_var 2)) d_int)) (d_var 3)) d_int))))
 (s_one (s_ret d_non))
 s_nil)
 (s_cons (s_set 4 sc_plus.nd (d_call h_slope hr (by decide) (a_cons (d_var 0) (a_cons (d_var 1) (a_cons (d_var 2) a_nil)))))
 (s_cons (s_set 5 sc_plus.nd (d_mod (d_sub (d_sub (d_mul (d_var 4) (d_var 4)) (d_ix (d_b (d_var 1)) d_int)) (d_ix (d_b (d_var 2)) d_int)) (d_var 3)))
 (s_one (s_ret (d_tup (a_cons (d_var 5) (a_cons (d_mod (d_sub (d_mul (d_var 4) (d_sub (d_ix (d_b (d_var 1)) d_int) (d_var 5))) (d_ix (d_b (d_var 1)) d_int)) (d_var 3)) a_nil)))))))))))) mf_plus
/-! ### times -/
abbrev s_times : Stmt := topS 21
theorem sc_times : FnScope ["curve", "number", "point", "total", "power"] ["curve", "number", "point"] (defScope s_times) := ⟨rfl, rfl, rfl, by decide +kernel, rfl, by decide +kernel, by decide +kernel⟩
def M0_times : WM := fun as Q => ∃ (p a b n : Int) (P : MC.Pt), as = [.v (.tuple [.int p, .int a, .int b]), .v (.int n), .v (MC.dpt P)] ∧ MC.Cu p a b ∧ MC.Ns p a b ∧ MC.On p a b P ∧ 0 ≤ n ∧ Q (.v (MC.dpt (MC.mulP p a P n.toNat)))

def w0_times : WS := (wSeq (wIf (wTest (wBin fLt (wVar 1) (wC (.int 0))))
 wNever
 wNx)
 (wSeq (wSet 3 (wC .none))
 (wSeq (wSet 4 (wVar 2))
 (wSeq (wWhile (wTest (wBin fGt (wVar 1) (wC (.int 0))))
 (wSeq (wIf (wTest (wBin fEq (wBin fMod (wVar 1) (wC (.int 2))) (wC (.int 1))))
 (wSet 3 (wCallP 3 M_plus (wCons (wVar 0) (wCons (wVar 3) (wCons (wVar 4) wNil)))))
 wNx)
 (wSeq (wSet 4 (wCallP 3 M_plus (wCons (wVar 0) (wCons (wVar 4) (wCons (wVar 4) wNil)))))
 (wSet 1 (wBin fDiv (wVar 1) (wC (.int 2)))))))
 (wRet (wVar 3))))))
theorem mf0_times : ∀ as Q, as.length = 3 → M0_times as Q → w0_times { nx := fun _ => Q (.v .none), rt := Q } (stE as 2) := by
  rintro as Q _ ⟨p, a, b, n, P, rfl, c, hd, hP, n0, hq⟩
  refine ⟨fun h => absurd (of_decide_eq_true h) (by omega), fun _ => onNx ?_⟩
  let I : Nat → EnvD → Prop := fun k env => ∃ (T R : MC.Pt) (j : Int), env = [some (.v (.tuple [.int p, .int a, .int b])), some (.v (.int j)), some (.v (MC.dpt P)), some (.v (MC.dpt T)), some (.v (MC.dpt R))] ∧ MC.On p a b T ∧ MC.On p a b R ∧ 0 ≤ j ∧ k = j.toNat ∧ MC.addP p a T (MC.mulP p a R j.toNat) = MC.mulP p a P n.toNat
  refine ⟨I, ⟨n.toNat, none, P, n, rfl, trivial, hP, n0, rfl, rfl⟩, fun k env hI => ?_⟩
  obtain ⟨T, R, j, rfl, hT, hR, j0, rfl, e⟩ := hI
  refine ⟨fun h => ?_, fun h => ?_⟩
  · have h : 0 < j := of_decide_eq_true h
    refine ⟨fun e => ∃ m', m' < j.toNat ∧ I m' e, fun _ z => z, by decide, fun h2 => ?_, fun h2 => ?_⟩
    · have h2 : j % 2 = 1 := of_decide_eq_true h2
      refine ⟨rfl, rfl, p, a, b, T, R, rfl, c, hT, hR, rfl, rfl, p, a, b, R, R, rfl, c, hR, hR, div200 (by decide) (by decide) _, ?_⟩
      refine ⟨(j / 2).toNat, by omega, _, _, j / 2, rfl, hT.add c hR, hR.add c hR, by omega, rfl, ?_⟩
      rw [← e, MC.mul_dbl c hd hR, MC.assoc c hd hT hR (hR.mul c _), ← MC.mul_succ' c hd hR]
      congr 2
      omega
    · have h2 : ¬ j % 2 = 1 := of_decide_eq_false h2
      refine onNx ⟨rfl, rfl, p, a, b, R, R, rfl, c, hR, hR, div200 (by decide) (by decide) _, ?_⟩
      refine ⟨(j / 2).toNat, by omega, _, _, j / 2, rfl, hT, hR.add c hR, by omega, rfl, ?_⟩
      rw [← e, MC.mul_dbl c hd hR]
      congr 2
      omega
  · have h : ¬ 0 < j := of_decide_eq_false h
    have : j = 0 := by omega
    subst this
    have e : T = MC.mulP p a P n.toNat := (MC.add_none T).symm.trans e
    show Q (.v (MC.dpt T))
    rw [e]
    exact hq

theorem ok0_times {f : Addr} {fd : FuncData} (F : Fun K "times" "times" s_times f fd) (h_plus : Has P w K mg base okH 4 "plus" 3 M_plus)   : FnOk P w K mg base CX0 5 f fd ["curve", "number", "point"] (SpD K okH 3 M0_times) :=
  def_ok F sc_times rfl (fun cdv A outer s H E hr =>
 (s_cons (s_if (t_lt (d_var 1) d_int)
 (s_one s_no)
 s_nil)
 (s_cons (s_set 3 sc_times.nd d_non)
 (s_cons (s_set 4 sc_times.nd (d_var 2))
 (s_cons (s_while PassesOwn.never (t_gt (d_var 1) d_int)
 (s_cons (s_if (t_eq hr (d_mod (d_var 1) d_int) d_int)
 (s_one (s_set 3 sc_times.nd (d_call h_plus hr (by decide) (a_cons (d_var 0) (a_cons (d_var 3) (a_cons (d_var 4) a_nil))))))
 s_nil)
 (s_cons (s_set 4 sc_times.nd (d_call h_plus hr (by decide) (a_cons (d_var 0) (a_cons (d_var 4) (a_cons (d_var 4) a_nil)))))
 (s_one (s_set 1 sc_times.nd (d_div (d_var 1) d_int))))))
 (s_one (s_ret (d_var 3)))))))) mf0_times
def M_times : WM := fun as Q => ∃ (p a b n : Int) (P : MC.Pt), as = [.v (.tuple [.int p, .int a, .int b]), .v (.int n), .v (MC.dpt P)] ∧ MC.Cu p a b ∧ MC.Ns p a b ∧ MC.On p a b P ∧ Q (.v (MC.dpt (MC.zmul p a P n)))

def w_times : WS := (wSeq (wIf (wTest (wBin fLt (wVar 1) (wC (.int 0))))
 (wRet (wCallP 3 M0_times (wCons (wVar 0) (wCons (wUn fNeg (wVar 1)) (wCons (wCallP 2 M_negative (wCons (wVar 0) (wCons (wVar 2) wNil))) wNil)))))
 wNx)
 (wSeq (wSet 3 (wC .none))
 (wSeq (wSet 4 (wVar 2))
 (wSeq (wWhile (wTest (wBin fGt (wVar 1) (wC (.int 0))))
 (wSeq (wIf (wTest (wBin fEq (wBin fMod (wVar 1) (wC (.int 2))) (wC (.int 1))))
 (wSet 3 (wCallP 3 M_plus (wCons (wVar 0) (wCons (wVar 3) (wCons (wVar 4) wNil)))))
 wNx)
 (wSeq (wSet 4 (wCallP 3 M_plus (wCons (wVar 0) (wCons (wVar 4) (wCons (wVar 4) wNil)))))
 (wSet 1 (wBin fDiv (wVar 1) (wC (.int 2)))))))
 (wRet (wVar 3))))))
theorem mf_times : ∀ as Q, as.length = 3 → M_times as Q → w_times { nx := fun _ => Q (.v .none), rt := Q } (stE as 2) := by
  rintro as Q _ ⟨p, a, b, n, P, rfl, c, hd, hP, hq⟩
  have p5 := c.p5
  by_cases hn : n < 0
  · have ez : MC.zmul p a P n = MC.mulP p a (MC.negP p P) (-n).toNat := if_pos hn
    rw [ez] at hq
    exact ⟨fun _ => ⟨rfl, rfl, p, a, b, P, rfl, by omega, rfl, rfl, p, a, b, -n, MC.negP p P, rfl, c, hd, hP.neg c, by omega, hq⟩, fun h => absurd hn (of_decide_eq_false h)⟩
  · have ez : MC.zmul p a P n = MC.mulP p a P n.toNat := if_neg hn
    rw [ez] at hq
    have := mf0_times _ Q rfl ⟨p, a, b, n, P, rfl, c, hd, hP, by omega, hq⟩
    exact ⟨fun h => absurd (of_decide_eq_true h) hn, fun h => this.2 h⟩

theorem ok_times {f : Addr} {fd : FuncData} (F : Fun K "times" "times" s_times f fd) (h_negative : Has P w K mg base okH 1 "negative" 2 M_negative) (h_plus : Has P w K mg base okH 4 "plus" 3 M_plus)     (h0_times : Has P w K mg base okH 5 "times" 3 M0_times) : FnOk P w K mg base CX0 6 f fd ["curve", "number", "point"] (SpD K okH 3 M_times) :=
  def_ok F sc_times rfl (fun cdv A outer s H E hr =>
 (s_cons (s_if (t_lt (d_var 1) d_int)
 (s_one (s_ret (d_call h0_times hr (by decide) (a_cons (d_var 0) (a_cons (d_neg (d_var 1)) (a_cons (d_call h_negative hr (by decide) (a_cons (d_var 0) (a_cons (d_var 2) a_nil))) a_nil))))))
 s_nil)
 (s_cons (s_set 3 sc_times.nd d_non)
 (s_cons (s_set 4 sc_times.nd (d_var 2))
 (s_cons (s_while PassesOwn.never (t_gt (d_var 1) d_int)
 (s_cons (s_if (t_eq hr (d_mod (d_var 1) d_int) d_int)
 (s_one (s_set 3 sc_times.nd (d_call h_plus hr (by decide) (a_cons (d_var 0) (a_cons (d_var 3) (a_cons (d_var 4) a_nil))))))
 s_nil)
 (s_cons (s_set 4 sc_times.nd (d_call h_plus hr (by decide) (a_cons (d_var 0) (a_cons (d_var 4) (a_cons (d_var 4) a_nil)))))
 (s_one (s_set 1 sc_times.nd (d_div (d_var 1) d_int))))))
 (s_one (s_ret (d_var 3)))))))) mf_times
/-! ### small_logarithm -/
abbrev s_small_logarithm : Stmt := topS 23
theorem sc_small_logarithm : FnScope ["curve", "base", "order", "point", "step", "small", "here", "j", "back", "i"] ["curve", "base", "order", "point"] (defScope s_small_logarithm) := ⟨rfl, rfl, rfl, by decide +kernel, rfl, by decide +kernel, by decide +kernel⟩
def M_small_logarithm : WM := fun as Q => ∃ (p a b : Int) (n : Nat) (B T : MC.Pt), as = [.v (.tuple [.int p, .int a, .int b]), .v (MC.dpt B), .v (.int n), .v (MC.dpt T)] ∧ MC.Cu p a b ∧ MC.Ns p a b ∧ MC.On p a b B ∧ MC.On p a b T ∧ MC.IsOrd p a B n ∧ n < 2 ^ 36 ∧ (∀ k : Int, 0 ≤ k → k < n → MC.zmul p a B k = T → Q (.v (.int k))) ∧ ((∀ k : Int, MC.zmul p a B k ≠ T) → Q (.v .none))

def w_small_logarithm_L7 : WS := (wSet 6 (wCallP 3 M_plus (wCons (wVar 0) (wCons (wVar 6) (wCons (wVar 1) wNil)))))
def w_small_logarithm_L12 : WS := (wSet 3 (wCallP 3 M_plus (wCons (wVar 0) (wCons (wVar 3) (wCons (wVar 8) wNil)))))
def w_small_logarithm_L13 : WS := (wRet (wC .none))
def w_small_logarithm_L8 : WS := (wSeq (wSet 8 (wCallP 2 M_negative (wCons (wVar 0) (wCons (wVar 6) wNil))))
 (wSeq (wFor (iR1 (wVar 4)) (gN 9)
 (wSeq (wIf (wTest (wMIn 5 (wVar 3)))
 (wRet (wBin fAdd (wBin fMul (wVar 9) (wVar 4)) (wMIx 5 (wVar 3))))
 wNx)
 w_small_logarithm_L12))
 w_small_logarithm_L13))
def w_small_logarithm_L2 : WS := (wSeq (wSetM 5)
 (wSeq (wSet 6 (wC .none))
 (wSeq (wFor (iR1 (wVar 4)) (gN 7)
 (wSeq (wIf (wTest (wMNin 5 (wVar 6)))
 (wMPut 5 (wVar 6) (wVar 7))
 wNx)
 w_small_logarithm_L7))
 w_small_logarithm_L8)))
def w_small_logarithm : WS := (wSeq (wSet 4 (wBin fAdd (wCallP 1 M_floor_root (wCons (wVar 2) wNil)) (wC (.int 1))))
 w_small_logarithm_L2)
abbrev ESL (p a b n : Int) (s : Nat) (B T : MC.Pt) (kvs : List (PySem.NestedKey × D)) (here : MC.Pt) (t7 t8 t9 : Option Sl) : EnvD := [some (.v (.tuple [.int p, .int a, .int b])), some (.v (MC.dpt B)), some (.v (.int n)), some (.v (MC.dpt T)), some (.v (.int (s : Int))), some (.dcm kvs), some (.v (MC.dpt here)), t7, t8, t9]
theorem small_L8 {p a b : Int} {n s : Nat} {B T : MC.Pt} {Q : Rt → Prop} {kvs : List (PySem.NestedKey × D)} {t7 : Option Sl} (c : MC.Cu p a b) (hd : MC.Ns p a b) (hB : MC.On p a b B) (hT : MC.On p a b T) (ho : MC.IsOrd p a B n) (s1 : s < 900000) (hs : n < s * s) (hk : MC.Small p a B kvs s)
    (hq1 : ∀ k : Int, 0 ≤ k → k < n → MC.zmul p a B k = T → Q (.v (.int k))) (hq2 : (∀ k : Int, MC.zmul p a B k ≠ T) → Q (.v .none)) :
    w_small_logarithm_L8 { nx := fun _ => Q (.v .none), rt := Q } (ESL p a b n s B T kvs (MC.mulP p a B s) t7 none none) := by
  have p5 := c.p5
  have n0 := ho.pos
  have hX := fun i => hB.mul c i
  refine ⟨rfl, rfl, p, a, b, _, rfl, by omega, ⟨by omega, by omega⟩, fun i env => ∃ t9, env = ESL p a b n s B (MC.addP p a T (MC.negP p (MC.mulP p a B (i * s)))) kvs (MC.mulP p a B s) t7 (some (.v (MC.dpt (MC.negP p (MC.mulP p a B s))))) t9 ∧ ∀ j, j < i * s → MC.mulP p a B j ≠ T, ⟨none, ?_, ?_⟩, ?_, ?_⟩
  · have e : MC.addP p a T (MC.negP p (MC.mulP p a B (0 * s))) = T := by
      rw [Nat.zero_mul]
      cases T <;> rfl
    rw [e]
    rfl
  · intro j hj
    rw [Nat.zero_mul] at hj
    exact absurd hj (Nat.not_lt_zero _)
  · rintro i d env hdd ⟨t9, rfl, hno⟩
    obtain ⟨hi, rfl⟩ := rng_at hdd
    have hTi := hT.add c ((hX (i * s)).neg c)
    have sh := fun (j : Nat) => MC.shift_iff c hd (hX j) hT (hX (i * s))
    rcases hk (MC.addP p a T (MC.negP p (MC.mulP p a B (i * s)))) with ⟨h1, h2⟩ | ⟨j, hj, h1, h2, h3⟩
    · refine ⟨_, false, MC.kpt_key _, by rw [h1]; rfl, fun y => (by cases y), fun _ => onNx ?_⟩
      refine ⟨rfl, rfl, p, a, b, _, _, rfl, c, hTi, (hX s).neg c, ?_⟩
      have e : MC.addP p a T (MC.negP p (MC.mulP p a B ((i + 1) * s))) = MC.addP p a (MC.addP p a T (MC.negP p (MC.mulP p a B (i * s)))) (MC.negP p (MC.mulP p a B s)) := by
        rw [MC.shift_two c hd hT (hX _) (hX _), ← MC.mul_add c hd hB, Nat.succ_mul]
      refine ⟨some (.v (.int (0 + (i : Int)))), ?_, fun j hj e' => ?_⟩
      · rw [e]
        rfl
      · by_cases hji : j < i * s
        · exact hno j hji e'
        · rw [Nat.succ_mul] at hj
          refine h2 (j - i * s) (by omega) ((sh _).mpr ?_)
          rw [← MC.mul_add c hd hB, Nat.add_sub_cancel' (by omega)]
          exact e'
    · refine ⟨_, true, MC.kpt_key _, by rw [h3]; rfl, fun _ => ?_, fun y => (by cases y)⟩
      refine ⟨.inl ⟨by omega, by omega⟩, _, _, MC.kpt_key _, h3, ?_⟩
      have e1 := (sh j).mp h1
      rw [← MC.mul_add c hd hB] at e1
      have hlt : i * s + j < n := Nat.not_le.mp fun z => by
        have m1 := Nat.mod_lt (i * s + j) n0
        rw [MC.mul_mod c hd hB ho.zero] at e1
        have m2 : ¬ (i * s + j) % n < i * s := fun y => hno _ y e1
        refine h2 ((i * s + j) % n - i * s) (by omega) ((sh _).mpr ?_)
        rw [← MC.mul_add c hd hB, Nat.add_sub_cancel' (by omega)]
        exact e1
      have ek : (0 + (i : Int)) * s + (j : Int) = ((i * s + j : Nat) : Int) := by rw [Int.zero_add, Int.natCast_add, Int.natCast_mul]
      show Q (.v (.int ((0 + (i : Int)) * s + (j : Int))))
      rw [ek]
      refine hq1 _ (Int.natCast_nonneg _) (Int.ofNat_lt.mpr hlt) ?_
      rw [MC.zmul_nat]
      exact e1
  · rintro env ⟨t9, rfl, hno⟩
    rw [rng_len, Int.toNat_natCast] at hno
    refine hq2 fun k e => ?_
    rw [MC.zmul_mod c hd hB n0 ho.zero] at e
    have b0 := Int.emod_nonneg k (show (n : Int) ≠ 0 by omega)
    have b1 := Int.emod_lt_of_pos k (show (0 : Int) < n by omega)
    exact hno _ (by omega) e
theorem small_L2 {p a b : Int} {n s : Nat} {B T : MC.Pt} {Q : Rt → Prop} (c : MC.Cu p a b) (hd : MC.Ns p a b) (hB : MC.On p a b B) (hT : MC.On p a b T) (ho : MC.IsOrd p a B n) (s1 : s < 900000) (hs : n < s * s)
    (hq1 : ∀ k : Int, 0 ≤ k → k < n → MC.zmul p a B k = T → Q (.v (.int k))) (hq2 : (∀ k : Int, MC.zmul p a B k ≠ T) → Q (.v .none)) :
    w_small_logarithm_L2 { nx := fun _ => Q (.v .none), rt := Q } [some (.v (.tuple [.int p, .int a, .int b])), some (.v (MC.dpt B)), some (.v (.int n)), some (.v (MC.dpt T)), some (.v (.int (s : Int))), none, none, none, none, none] := by
  refine ⟨⟨by omega, by omega⟩, fun j env => ∃ (kvs : List (PySem.NestedKey × D)) (t7 : Option Sl), env = ESL p a b n s B T kvs (MC.mulP p a B j) t7 none none ∧ MC.Small p a B kvs j ∧ kvs.length ≤ j, ⟨[], none, rfl, MC.Small.zero, Nat.le_refl _⟩, ?_, ?_⟩
  · rintro j d env hdd ⟨kvs, t7, rfl, hk, hl⟩
    obtain ⟨hj, rfl⟩ := rng_at hdd
    have hO := hB.mul c j
    have nxt : ∀ kvs', MC.Small p a B kvs' (j + 1) → kvs'.length ≤ j + 1 → ∀ W : WEnds, (∀ kvs' t7, MC.Small p a B kvs' (j + 1) → kvs'.length ≤ j + 1 → W.nx (ESL p a b n s B T kvs' (MC.mulP p a B (j + 1)) t7 none none)) →
        w_small_logarithm_L7 W (ESL p a b n s B T kvs' (MC.mulP p a B j) (some (.v (.int (0 + (j : Int))))) none none) := by
      intro kvs' h1 h2 W hW
      exact ⟨rfl, rfl, p, a, b, _, _, rfl, c, hO, hB, hW _ _ h1 h2⟩
    cases e : (mAt kvs (MC.kpt (MC.mulP p a B j))).isSome with
    | true =>
      refine ⟨_, true, MC.kpt_key _, e, fun y => (by cases y), fun _ => onNx ?_⟩
      exact nxt kvs (hk.keep e) (by omega) _ fun k t h1 h2 => ⟨k, t, rfl, h1, h2⟩
    | false =>
      refine ⟨_, false, MC.kpt_key _, e, fun _ => ⟨_, MC.kpt_key _, by omega, ?_⟩, fun y => (by cases y)⟩
      have ls := mSet_len kvs (MC.kpt (MC.mulP p a B j)) (.int (0 + (j : Int)))
      have hp := hk.put e
      rw [← Int.zero_add (j : Int)] at hp
      exact nxt _ hp (by omega) _ fun k t h1 h2 => ⟨k, t, rfl, h1, h2⟩
  · rintro env ⟨kvs, t7, rfl, hk, hl⟩
    rw [rng_len, Int.toNat_natCast] at hk ⊢
    exact small_L8 c hd hB hT ho s1 hs hk hq1 hq2
theorem mf_small_logarithm : ∀ as Q, as.length = 4 → M_small_logarithm as Q → w_small_logarithm { nx := fun _ => Q (.v .none), rt := Q } (stE as 6) := by
  rintro as Q _ ⟨p, a, b, n, B, T, rfl, c, hd, hB, hT, ho, hn, hq1, hq2⟩
  refine ⟨rfl, rfl, n, rfl, by omega, fun h => absurd h (by omega), fun h r r0 r1 r2 => ?_⟩
  have r3 : r < 800000 := Int.not_le.mp fun z => by
    have : 800000 * 800000 ≤ r * r := Int.mul_le_mul z z (by omega) (by omega)
    omega
  obtain ⟨s, hs⟩ : ∃ s : Nat, r + 1 = s := ⟨(r + 1).toNat, by omega⟩
  rw [hs] at r2
  have r2 : n < s * s := Int.ofNat_lt.mp (by rw [Int.natCast_mul]; exact r2)
  have := small_L2 (s := s) c hd hB hT ho (by omega) r2 hq1 hq2
  rw [← hs] at this
  exact this

theorem ok_small_logarithm {f : Addr} {fd : FuncData} (F : Fun K "small_logarithm" "small_logarithm" s_small_logarithm f fd) (h_floor_root : Has P w K mg base okH 1 "floor_root" 1 M_floor_root) (h_plus : Has P w K mg base okH 4 "plus" 3 M_plus) (h_negative : Has P w K mg base okH 1 "negative" 2 M_negative) (m_range : mg "range" = none)    : FnOk P w K mg base CX0 5 f fd ["curve", "base", "order", "point"] (SpD K okH 4 M_small_logarithm) :=
  def_ok F sc_small_logarithm rfl (fun cdv A outer s H E hr =>
 (s_cons (s_set 4 sc_small_logarithm.nd (d_add (d_call h_floor_root hr (by decide) (a_cons (d_var 2) a_nil)) d_int))
 (s_cons (s_setM 5 sc_small_logarithm.nd)
 (s_cons (s_set 6 sc_small_logarithm.nd d_non)
 (s_cons (s_for (vs := [7]) PassesOwn.never rfl (i_r1 m_range (d_var 4)) (g_name 7 sc_small_logarithm.nd)
 (s_cons (s_if (t_mnin 5 hr (d_var 6))
 (s_one (s_mput 5 hr (d_var 7) (d_var 6)))
 s_nil)
 (s_one (s_set 6 sc_small_logarithm.nd (d_call h_plus hr (by decide) (a_cons (d_var 0) (a_cons (d_var 6) (a_cons (d_var 1) a_nil))))))))
 (s_cons (s_set 8 sc_small_logarithm.nd (d_call h_negative hr (by decide) (a_cons (d_var 0) (a_cons (d_var 6) a_nil))))
 (s_cons (s_for (vs := [9]) PassesOwn.never rfl (i_r1 m_range (d_var 4)) (g_name 9 sc_small_logarithm.nd)
 (s_cons (s_if (t_min 5 hr (d_var 3))
 (s_one (s_ret (d_add (d_mul (d_var 9) (d_var 4)) (d_mix 5 hr (d_var 3)))))
 s_nil)
 (s_one (s_set 3 sc_small_logarithm.nd (d_call h_plus hr (by decide) (a_cons (d_var 0) (a_cons (d_var 3) (a_cons (d_var 8) a_nil))))))))
 (s_one (s_ret d_non))))))))) mf_small_logarithm
/-! ### prime_logarithm -/
abbrev s_prime_logarithm : Stmt := topS 24
theorem sc_prime_logarithm : FnScope ["curve", "base", "prime", "count", "point", "weights", "turn", "top", "found", "rest", "digit"] ["curve", "base", "prime", "count", "point"] (defScope s_prime_logarithm) := ⟨rfl, rfl, rfl, by decide +kernel, rfl, by decide +kernel, by decide +kernel⟩
def M_prime_logarithm : WM := fun as Q => ∃ (p a b : Int) (q e : Nat) (B T : MC.Pt), as = [.v (.tuple [.int p, .int a, .int b]), .v (MC.dpt B), .v (.int q), .v (.int e), .v (MC.dpt T)] ∧ MC.Cu p a b ∧ MC.Ns p a b ∧ MC.On p a b B ∧ MC.On p a b T ∧ 2 ≤ q ∧ 0 < e ∧ MC.IsOrd p a B (q ^ e) ∧ q ^ e < 2 ^ 36 ∧
  ((∀ k : Int, MC.zmul p a B k ≠ T) → Q (.v .none)) ∧ ∀ r : Int, 0 ≤ r → r < ((q ^ e : Nat) : Int) → (∀ k : Int, MC.zmul p a B k = T → r = k % ((q ^ e : Nat) : Int)) → Q (.v (.int r))

def w_prime_logarithm_L11 : WS := (wSet 8 (wBin fAdd (wVar 8) (wBin fMul (wVar 10) (wIx (wBor 5) (wVar 6)))))
def w_prime_logarithm_L12 : WS := (wRet (wVar 8))
def w_prime_logarithm_L4 : WS := (wSeq (wSet 7 (wCallP 3 M_times (wCons (wVar 0) (wCons (wIx (wBor 5) (wBin fSub (wVar 3) (wC (.int 1)))) (wCons (wVar 1) wNil)))))
 (wSeq (wSet 8 (wC (.int 0)))
 (wSeq (wFor (iR1 (wVar 3)) (gN 6)
 (wSeq (wSet 9 (wCallP 3 M_plus (wCons (wVar 0) (wCons (wVar 4) (wCons (wCallP 2 M_negative (wCons (wVar 0) (wCons (wCallP 3 M_times (wCons (wVar 0) (wCons (wVar 8) (wCons (wVar 1) wNil)))) wNil))) wNil)))))
 (wSeq (wSet 10 (wCallP 4 M_small_logarithm (wCons (wVar 0) (wCons (wVar 7) (wCons (wVar 2) (wCons (wCallP 3 M_times (wCons (wVar 0) (wCons (wIx (wBor 5) (wBin fSub (wBin fSub (wVar 3) (wC (.int 1))) (wVar 6))) (wCons (wVar 9) wNil)))) wNil))))))
 (wSeq (wIf (wTest (wIsN (wVar 10)))
 (wRet (wC .none))
 wNx)
 w_prime_logarithm_L11))))
 w_prime_logarithm_L12)))
def w_prime_logarithm : WS := (wSeq (wSetO 5 (wLstP (wCons (wC (.int 1)) wNil)))
 (wSeq (wFor (iR1 (wVar 3)) (gN 6)
 (wApp 5 (wBin fMul (wIx (wBor 5) (wUn fNeg (wC (.int 1)))) (wVar 2))))
 w_prime_logarithm_L4))
abbrev powL (q m : Nat) : List D := (List.range m).map fun i => .int ((q ^ i : Nat) : Int)
theorem powL_succ (q m : Nat) : powL q m ++ [.int ((q ^ m : Nat) : Int)] = powL q (m + 1) := by
  show _ = (List.range (m + 1)).map _
  rw [List.range_succ, List.map_append]
  rfl
theorem powL_at {q m k : Nat} (h : k < m) {z : Int} (e : z = k) : atI (powL q m) z = some (.int ((q ^ k : Nat) : Int)) := by
  refine atI_nats e ?_
  rw [List.getElem?_map, List.getElem?_range h]
  rfl
theorem powL_len (q m : Nat) : (powL q m).length = m := by rw [List.length_map, List.length_range]
theorem plog_L4 {p a b : Int} {q e : Nat} {B T : MC.Pt} {Q : Rt → Prop} {t6 : Option Sl} (c : MC.Cu p a b) (hd : MC.Ns p a b) (hB : MC.On p a b B) (hT : MC.On p a b T) (q2 : 2 ≤ q) (e0 : 0 < e) (e1 : e < 40) (ho : MC.IsOrd p a B (q ^ e)) (hn : q ^ e < 2 ^ 36)
    (hq1 : (∀ k : Int, MC.zmul p a B k ≠ T) → Q (.v .none)) (hq2 : ∀ r : Int, 0 ≤ r → r < ((q ^ e : Nat) : Int) → (∀ k : Int, MC.zmul p a B k = T → r = k % ((q ^ e : Nat) : Int)) → Q (.v (.int r))) :
    w_prime_logarithm_L4 { nx := fun _ => Q (.v .none), rt := Q } [some (.v (.tuple [.int p, .int a, .int b])), some (.v (MC.dpt B)), some (.v (.int q)), some (.v (.int e)), some (.v (MC.dpt T)), some (.own (powL q (e + 1))), t6, none, none, none, none] := by
  have p5 := c.p5
  have hO : MC.IsOrd p a (MC.zmul p a B ((q ^ (e - 1) : Nat) : Int)) q := by
    have hq : q ∣ q ^ e := by
      obtain ⟨k, rfl⟩ : ∃ k, e = k + 1 := ⟨e - 1, by omega⟩
      rw [Nat.pow_succ]
      exact Nat.dvd_mul_left _ _
    have := ho.div c hd hB hq
    have e2 : q ^ e / q = q ^ (e - 1) := by
      obtain ⟨k, rfl⟩ : ∃ k, e = k + 1 := ⟨e - 1, by omega⟩
      rw [Nat.pow_succ, Nat.mul_div_cancel _ (by omega)]
      rfl
    rw [e2] at this
    rw [MC.zmul_nat]
    exact this
  have hTop := hB.zmul c ((q ^ (e - 1) : Nat) : Int)
  have qle : q ≤ q ^ e := by
    have := Nat.pow_le_pow_right (show 0 < q by omega) e0
    rwa [Nat.pow_one] at this
  refine ⟨_, powL_at (k := e - 1) (by omega) (by omega), rfl, rfl, p, a, b, _, B, rfl, c, hd, hB, ⟨by omega, by omega⟩, fun t env => ∃ (f : Int) (t6 t9 t10 : Option Sl), env = [some (.v (.tuple [.int p, .int a, .int b])), some (.v (MC.dpt B)), some (.v (.int q)), some (.v (.int e)), some (.v (MC.dpt T)), some (.own (powL q (e + 1))), t6, some (.v (MC.dpt (MC.zmul p a B ((q ^ (e - 1) : Nat) : Int)))), some (.v (.int f)), t9, t10] ∧ 0 ≤ f ∧ f < ((q ^ t : Nat) : Int) ∧ ∀ K : Int, MC.zmul p a B K = T → f = K % ((q ^ t : Nat) : Int), ⟨0, t6, none, none, rfl, Int.le_refl _, by rw [Nat.pow_zero]; decide, fun K _ => by rw [Nat.pow_zero, Int.natCast_one, Int.emod_one]⟩, ?_, ?_⟩
  · rintro t d env hdd ⟨f, t6, t9, t10, rfl, f0, f1, hf⟩
    obtain ⟨ht, rfl⟩ := rng_at hdd
    have ht : t < e := by omega
    have hF := hB.zmul c f
    have hR := hT.add c (hF.neg c)
    have hdig := fun K (hK : MC.zmul p a B K = T) => MC.digit_at c hd hB ht (hf K hK) hK
    refine ⟨rfl, rfl, p, a, b, f, B, rfl, c, hd, hB, rfl, rfl, p, a, b, _, rfl, by omega, rfl, rfl, p, a, b, T, _, rfl, c, hT, hF.neg c, ?_⟩
    refine ⟨_, powL_at (k := e - 1 - t) (by omega) (by omega), rfl, rfl, p, a, b, _, _, rfl, c, hd, hR, ?_⟩
    refine ⟨rfl, rfl, p, a, b, q, _, _, rfl, c, hd, hTop, hR.zmul c _, hO, by omega, fun k k0 k1 hk => ?_, fun hno => ?_⟩
    · refine ⟨fun h => (by cases h), fun _ => onNx ⟨_, powL_at (k := t) (by omega) (by omega), .inl ⟨by omega, by omega⟩, f + k * ((q ^ t : Nat) : Int), some (.v (.int (0 + (t : Int)))), some (.v (MC.dpt (MC.addP p a T (MC.negP p (MC.zmul p a B f))))), some (.v (.int k)), rfl, ?_, ?_, fun K hK => ?_⟩⟩
      · exact Int.add_nonneg f0 (Int.mul_nonneg k0 (Int.natCast_nonneg _))
      · have b1 : k * ((q ^ t : Nat) : Int) ≤ ((q : Int) - 1) * ((q ^ t : Nat) : Int) := Int.mul_le_mul_of_nonneg_right (by omega) (Int.natCast_nonneg _)
        have b2 : ((q ^ (t + 1) : Nat) : Int) = ((q : Int) - 1) * ((q ^ t : Nat) : Int) + ((q ^ t : Nat) : Int) := by rw [Nat.pow_succ, Int.natCast_mul]; grind
        omega
      · refine MC.digit_put (by omega) (hf K hK) k0 k1 ?_
        rw [← hO.eqz c hd hTop, hk]
        exact hdig K hK
    · exact ⟨fun _ => hq1 fun K hK => hno _ (hdig K hK).symm, fun h => (by cases h)⟩
  · rintro env ⟨f, t6, t9, t10, rfl, f0, f1, hf⟩
    rw [rng_len, Int.toNat_natCast] at f1 hf
    exact hq2 f f0 f1 hf
theorem mf_prime_logarithm : ∀ as Q, as.length = 5 → M_prime_logarithm as Q → w_prime_logarithm { nx := fun _ => Q (.v .none), rt := Q } (stE as 6) := by
  rintro as Q _ ⟨p, a, b, q, e, B, T, rfl, c, hd, hB, hT, q2, e0, ho, hn, hq1, hq2⟩
  have e1 : e < 36 := by
    have : 2 ^ e < 2 ^ 36 := Nat.lt_of_le_of_lt (Nat.pow_le_pow_left q2 e) hn
    exact (Nat.pow_lt_pow_iff_right (by decide)).mp this
  have qle : q ≤ q ^ e := by
    have := Nat.pow_le_pow_right (show 0 < q by omega) e0
    rwa [Nat.pow_one] at this
  refine ⟨rfl, lk rfl, ⟨by omega, by omega⟩, fun j env => ∃ t6, env = [some (.v (.tuple [.int p, .int a, .int b])), some (.v (MC.dpt B)), some (.v (.int q)), some (.v (.int e)), some (.v (MC.dpt T)), some (.own (powL q (j + 1))), t6, none, none, none, none], ⟨none, rfl⟩, ?_, ?_⟩
  · rintro j d env hdd ⟨t6, rfl⟩
    obtain ⟨hj, rfl⟩ := rng_at hdd
    have hj : j < e := by omega
    have hl := powL_len q (j + 1)
    have h1 : atI (powL q (j + 1)) (-1) = some (.int ((q ^ j : Nat) : Int)) := by
      refine atI_neg hl 1 ⟨by decide, by omega⟩ ?_
      show (powL q (j + 1))[j]? = _
      rw [List.getElem?_map, List.getElem?_range (by omega)]
      rfl
    refine ⟨_, h1, .inr ⟨by omega, by omega⟩, by omega, some (.v (.int (0 + (j : Int)))), ?_⟩
    rw [← powL_succ q (j + 1), Nat.pow_succ, Int.natCast_mul]
    rfl
  · rintro env ⟨t6, rfl⟩
    rw [rng_len, Int.toNat_natCast]
    exact plog_L4 c hd hB hT q2 e0 (by omega) ho hn hq1 hq2

theorem ok_prime_logarithm {f : Addr} {fd : FuncData} (F : Fun K "prime_logarithm" "prime_logarithm" s_prime_logarithm f fd) (h_times : Has P w K mg base okH 6 "times" 3 M_times) (h_plus : Has P w K mg base okH 4 "plus" 3 M_plus) (h_negative : Has P w K mg base okH 1 "negative" 2 M_negative) (h_small_logarithm : Has P w K mg base okH 5 "small_logarithm" 4 M_small_logarithm) (m_range : mg "range" = none)    : FnOk P w K mg base CX0 7 f fd ["curve", "base", "prime", "count", "point"] (SpD K okH 5 M_prime_logarithm) :=
  def_ok F sc_prime_logarithm rfl (fun cdv A outer s H E hr =>
 (s_cons (s_setO 5 sc_prime_logarithm.nd (l_lst (a_cons d_int a_nil)))
 (s_cons (s_for (vs := [6]) PassesOwn.never rfl (i_r1 m_range (d_var 3)) (g_name 6 sc_prime_logarithm.nd)
 (s_one (s_app 5 (d_mul (d_ix (d_bor 5) (d_neg d_int)) (d_var 2)))))
 (s_cons (s_set 7 sc_prime_logarithm.nd (d_call h_times hr (by decide) (a_cons (d_var 0) (a_cons (d_ix (d_bor 5) (d_sub (d_var 3) d_int)) (a_cons (d_var 1) a_nil)))))
 (s_cons (s_set 8 sc_prime_logarithm.nd d_int)
 (s_cons (s_for (vs := [6]) PassesOwn.never rfl (i_r1 m_range (d_var 3)) (g_name 6 sc_prime_logarithm.nd)
 (s_cons (s_set 9 sc_prime_logarithm.nd (d_call h_plus hr (by decide) (a_cons (d_var 0) (a_cons (d_var 4) (a_cons (d_call h_negative hr (by decide) (a_cons (d_var 0) (a_cons (d_call h_times hr (by decide) (a_cons (d_var 0) (a_cons (d_var 8) (a_cons (d_var 1) a_nil)))) a_nil))) a_nil)))))
 (s_cons (s_set 10 sc_prime_logarithm.nd (d_call h_small_logarithm hr (by decide) (a_cons (d_var 0) (a_cons (d_var 7) (a_cons (d_var 2) (a_cons (d_call h_times hr (by decide) (a_cons (d_var 0) (a_cons (d_ix (d_bor 5) (d_sub (d_sub (d_var 3) d_int) (d_var 6))) (a_cons (d_var 9) a_nil)))) a_nil))))))
 (s_cons (s_if (t_isN (d_var 10))
 (s_one (s_ret d_non))
 s_nil)
 (s_one (s_set 8 sc_prime_logarithm.nd (d_add (d_var 8) (d_mul (d_var 10) (d_ix (d_bor 5) (d_var 6))))))))))
 (s_one (s_ret (d_var 8))))))))) mf_prime_logarithm
/-! ### logarithm -/
abbrev s_logarithm : Stmt := topS 25
theorem sc_logarithm : FnScope ["curve", "base", "order", "point", "remainders", "moduli", "prime", "count", "size", "turn", "rest", "part", "found"] ["curve", "base", "order", "point"] (defScope s_logarithm) := ⟨rfl, rfl, rfl, by decide +kernel, rfl, by decide +kernel, by decide +kernel⟩
def M_logarithm : WM := fun as Q => ∃ (p a b : Int) (n : Nat) (B T : MC.Pt), as = [.v (.tuple [.int p, .int a, .int b]), .v (MC.dpt B), .v (.int n), .v (MC.dpt T)] ∧ MC.Cu p a b ∧ MC.Ns p a b ∧ MC.On p a b B ∧ MC.On p a b T ∧ MC.IsOrd p a B n ∧ n < 2 ^ 36 ∧ MB.Easy n ∧ (∀ k : Int, 0 ≤ k → k < n → MC.zmul p a B k = T → Q (.v (.int k))) ∧ ((∀ k : Int, MC.zmul p a B k ≠ T) → Q (.v .none))

def w_logarithm_L11 : WS := (wSeq (wApp 4 (wVar 11))
 (wApp 5 (wVar 8)))
def w_logarithm_L7 : WS := (wSeq (wSet 10 (wBin fDiv (wVar 2) (wVar 8)))
 (wSeq (wSet 11 (wCallP 5 M_prime_logarithm (wCons (wVar 0) (wCons (wCallP 3 M_times (wCons (wVar 0) (wCons (wVar 10) (wCons (wVar 1) wNil)))) (wCons (wVar 6) (wCons (wVar 7) (wCons (wCallP 3 M_times (wCons (wVar 0) (wCons (wVar 10) (wCons (wVar 3) wNil)))) wNil)))))))
 (wSeq (wIf (wTest (wIsN (wVar 11)))
 (wRet (wC .none))
 wNx)
 w_logarithm_L11)))
def w_logarithm_L13 : WS := (wSeq (wFrz 5 (wFrz 4 (wSet 12 (wIx (wCallP 2 M_joined (wCons (wVar 4) (wCons (wVar 5) wNil))) (wC (.int 0))))))
 (wRet (wIfE (wTest (wBin fEq (wCallP 3 M_times (wCons (wVar 0) (wCons (wVar 12) (wCons (wVar 1) wNil)))) (wVar 3))) (wVar 12) (wC .none))))
def w_logarithm : WS := (wSeq (wSetO 4 (wLstP wNil))
 (wSeq (wSetO 5 (wLstP wNil))
 (wSeq (wFor (iS (wCallP 1 M_factors (wCons (wVar 2) wNil))) (gT 2 (gsCons (gN 6) (gsCons (gN 7) gsNil)))
 (wSeq (wSet 8 (wC (.int 1)))
 (wSeq (wFor (iR1 (wVar 7)) (gN 9)
 (wSet 8 (wBin fMul (wVar 8) (wVar 6))))
 w_logarithm_L7)))
 w_logarithm_L13)))
theorem lg_pl : ∀ P : MC.Pt, pl 2 (MC.dpt P) = true
  | none => rfl
  | some (x, y) => rfl
theorem lg_inj : ∀ {P R : MC.Pt}, MC.dpt P = MC.dpt R → P = R
  | none, none, _ => rfl
  | none, some _, h => (by cases h)
  | some _, none, h => (by cases h)
  | some (x, y), some (u, v), h => by cases h; rfl
theorem lg_eqv {P R : MC.Pt} : PyData.eqv (MC.dpt P) (MC.dpt R) = decide (P = R) := by
  by_cases h : P = R
  · rw [decide_eq_true h, h, eqv_self (lg_pl R)]
  · rw [decide_eq_false h, eqv_ne (lg_pl P) (lg_pl R) fun z => h (lg_inj z)]
theorem lg_fEq {P R : MC.Pt} {Q : D → Prop} (h : Q (.bool (decide (P = R)))) : fEq (MC.dpt P) (MC.dpt R) Q := by
  have h1 := shp (lg_pl P)
  have h2 := shp (lg_pl R)
  rw [← lg_eqv] at h
  rcases P with _ | ⟨x, y⟩
  · exact ⟨h1, h2, h⟩
  · exact ⟨h1, h2, h⟩
theorem lg_if {P R : MC.Pt} {X Y : Prop} (hx : P = R → X) (hy : P ≠ R → Y) : fEq (MC.dpt P) (MC.dpt R) fun x => wTest (wC x) [] fun z => (z = true → X) ∧ (z = false → Y) :=
  lg_fEq ⟨fun h => hx (of_decide_eq_true h), fun h => hy (of_decide_eq_false h)⟩
theorem facs_len : ∀ {L : List (Int × Int)}, (∀ P ∈ L, MB.PrimeI P.1 ∧ 0 < P.2) → (2 : Int) ^ L.length ≤ MB.prodP L
  | [], _ => Int.le_refl _
  | P :: L, h => by
    have h1 := h P (List.mem_cons_self ..)
    have h2 := facs_len fun R hR => h R (List.mem_cons_of_mem _ hR)
    obtain ⟨k, hk⟩ : ∃ k, P.2.toNat = k + 1 := ⟨P.2.toNat - 1, by omega⟩
    show (2 : Int) ^ (L.length + 1) ≤ P.1 ^ P.2.toNat * MB.prodP L
    have p2 := h1.1.1
    have h3 : 2 ≤ P.1 ^ P.2.toNat := by
      rw [hk, Int.pow_succ]
      have : 0 < P.1 ^ k := Int.pow_pos (by omega)
      have := Int.mul_le_mul (show 1 ≤ P.1 ^ k by omega) p2 (by omega) (by omega)
      omega
    have h4 : (0 : Int) < 2 ^ L.length := Int.pow_pos (by decide)
    rw [Int.pow_succ, Int.mul_comm]
    exact Int.mul_le_mul h3 h2 (by omega) (by omega)
abbrev sizes (L : List (Int × Int)) : List Int := L.map fun P => P.1 ^ P.2.toNat
theorem log_fit {L : List (Int × Int)} (h1 : ∀ P ∈ L, MB.PrimeI P.1 ∧ 0 < P.2) (h2 : L.Pairwise fun P R => P.1 < R.1) (rs : List Int) (k : Nat) : MB.Fit rs (sizes L) k := fun i j hj hi r m r' m' e1 e2 e3 e4 => by
  rw [List.getElem?_map] at e2 e4
  obtain ⟨P, hP, rfl⟩ := Option.map_eq_some_iff.mp e2
  obtain ⟨R, hR, rfl⟩ := Option.map_eq_some_iff.mp e4
  have il := (List.getElem?_eq_some_iff.mp hP)
  have jl := (List.getElem?_eq_some_iff.mp hR)
  obtain ⟨il, rfl⟩ := il
  obtain ⟨jl, rfl⟩ := jl
  have := List.pairwise_iff_getElem.mp h2 j i jl il hj
  rw [MB.two_cop (h1 _ (List.getElem_mem _)) (h1 _ (List.getElem_mem _)) (by omega)]
  exact Int.one_dvd _
section
variable {p a b : Int} {n : Nat} {B T : MC.Pt} {Q : Rt → Prop}
abbrev ELG (p a b : Int) (n : Nat) (B T : MC.Pt) (rs ms : List Int) (t6 t7 t8 t9 t10 t11 : Option Sl) : EnvD := [some (.v (.tuple [.int p, .int a, .int b])), some (.v (MC.dpt B)), some (.v (.int n)), some (.v (MC.dpt T)), some (.own (dints rs)), some (.own (dints ms)), t6, t7, t8, t9, t10, t11, none]
theorem log_L7 {W : WEnds} {q e : Nat} {rs ms : List Int} {t9 t10 t11 : Option Sl} (c : MC.Cu p a b) (hd : MC.Ns p a b) (hB : MC.On p a b B) (hT : MC.On p a b T) (ho : MC.IsOrd p a B n) (hn : n < 2 ^ 36) (q2 : 2 ≤ q) (e0 : 0 < e) (hqn : q ^ e ∣ n) (hl : rs.length < 900) (hl2 : ms.length < 900)
    (hq2 : (∀ k : Int, MC.zmul p a B k ≠ T) → W.rt (.v .none))
    (hW : ∀ r t10 t11, 0 ≤ r → (∀ k : Int, MC.zmul p a B k = T → r = k % ((q ^ e : Nat) : Int)) → W.nx (ELG p a b n B T (rs ++ [r]) (ms ++ [((q ^ e : Nat) : Int)]) (some (.v (.int q))) (some (.v (.int e))) (some (.v (.int ((q ^ e : Nat) : Int)))) t9 t10 t11)) :
    w_logarithm_L7 W (ELG p a b n B T rs ms (some (.v (.int q))) (some (.v (.int e))) (some (.v (.int ((q ^ e : Nat) : Int)))) t9 t10 t11) := by
  have n0 := ho.pos
  have s1 := Nat.le_of_dvd n0 hqn
  have s0 : 0 < q ^ e := Nat.pow_pos (by omega)
  have hB' := hB.zmul c ((n : Int) / ((q ^ e : Nat) : Int))
  have hT' := hT.zmul c ((n : Int) / ((q ^ e : Nat) : Int))
  have hlr : (dints rs).length = rs.length := List.length_map _
  have hlm : (dints ms).length = ms.length := List.length_map _
  have key : ∀ k : Int, MC.zmul p a B k = T → MC.zmul p a (MC.zmul p a B ((n : Int) / ((q ^ e : Nat) : Int))) k = MC.zmul p a T ((n : Int) / ((q ^ e : Nat) : Int)) := fun k hk => by
    rw [← hk, MC.zmul_zmul c hd hB, MC.zmul_zmul c hd hB, Int.mul_comm]
  refine ⟨div200 (by omega) (by omega) _, rfl, rfl, p, a, b, _, B, rfl, c, hd, hB, rfl, rfl, p, a, b, _, T, rfl, c, hd, hT, rfl, rfl, p, a, b, q, e, _, _, rfl, c, hd, hB', hT', q2, e0, ho.divz c hd hB hqn, by omega, fun hno => ?_, fun r r0 r1 hr => ?_⟩
  · exact ⟨fun _ => hq2 fun k hk => hno k (key k hk), fun h => (by cases h)⟩
  · refine ⟨fun h => (by cases h), fun _ => onNx ⟨by omega, by omega, ?_⟩⟩
    have := hW r (some (.v (.int ((n : Int) / ((q ^ e : Nat) : Int))))) (some (.v (.int r))) r0 fun k hk => hr k (key k hk)
    unfold ELG at this
    rw [dints_app, dints_app] at this
    exact this
theorem mf_logarithm : ∀ as Q, as.length = 4 → M_logarithm as Q → w_logarithm { nx := fun _ => Q (.v .none), rt := Q } (stE as 9) := by
  rintro as Q _ ⟨p, a, b, n, B, T, rfl, c, hd, hB, hT, ho, hn, he, hq1, hq2⟩
  have n0 := ho.pos
  refine ⟨rfl, lk rfl, rfl, lk rfl, rfl, rfl, n, rfl, by omega, by omega, he, fun L hL => ?_⟩
  have hLl : L.length < 40 := by
    have h1 := facs_len hL.pr
    rw [hL.prod] at h1
    refine Nat.not_le.mp fun z => ?_
    have : (2 : Int) ^ 40 ≤ 2 ^ L.length := by
      have := Nat.pow_le_pow_right (show 0 < 2 by decide) z
      exact_mod_cast this
    omega
  have hsn : ∀ P ∈ L, P.1 ^ P.2.toNat ∣ (n : Int) := fun P hP => hL.prod ▸ MB.pow_dvd P hP
  have spos : ∀ m ∈ sizes L, 0 < m := fun m hm => by
    obtain ⟨P, hP, rfl⟩ := List.mem_map.mp hm
    exact Int.pow_pos (by have := (hL.pr P hP).1.1; omega)
  have sdvd : ∀ m ∈ sizes L, m ∣ (n : Int) := fun m hm => by
    obtain ⟨P, hP, rfl⟩ := List.mem_map.mp hm
    exact hsn P hP
  refine ⟨fun i env => ∃ (rs : List Int) (t6 t7 t8 t9 t10 t11 : Option Sl), env = ELG p a b n B T rs (sizes (L.take i)) t6 t7 t8 t9 t10 t11 ∧ rs.length = i ∧ i ≤ L.length ∧ ∀ K : Int, MC.zmul p a B K = T → MB.Sol rs (sizes L) i K, ⟨[], none, none, none, none, none, none, by rw [List.take_zero]; rfl, rfl, Nat.zero_le _, fun K _ j hj => absurd hj (Nat.not_lt_zero _)⟩, ?_, ?_⟩
  · rintro i d env hdi ⟨rs, t6, t7, t8, t9, t10, t11, rfl, hrl, hil, hsol⟩
    rw [List.getElem?_map] at hdi
    obtain ⟨P, hP, rfl⟩ := Option.map_eq_some_iff.mp hdi
    have hPm := List.mem_of_getElem? hP
    have hPr := hL.pr P hPm
    have hPn := hsn P hPm
    have hsz : (sizes L)[i]? = some (P.1 ^ P.2.toNat) := by rw [List.getElem?_map, hP]; rfl
    have tk' : sizes (L.take (i + 1)) = sizes (L.take i) ++ [P.1 ^ P.2.toNat] := by
      show (L.take (i + 1)).map _ = _
      rw [List.take_add_one, hP, List.map_append]
      rfl
    have hil' := (List.getElem?_eq_some_iff.mp hP).1
    obtain ⟨qi, ei⟩ := P
    obtain ⟨q, rfl⟩ : ∃ q : Nat, qi = q := ⟨qi.toNat, by have := hPr.1.1; have : 2 ≤ qi := this; omega⟩
    obtain ⟨e, rfl⟩ : ∃ e : Nat, ei = e := ⟨ei.toNat, by have := hPr.2; have : 0 < ei := this; omega⟩
    have q2 : 2 ≤ q := by have := hPr.1.1; have : 2 ≤ (q : Int) := this; omega
    have e0 : 0 < e := by have := hPr.2; have : 0 < (e : Int) := this; omega
    have epw : (q : Int) ^ (e : Int).toNat = ((q ^ e : Nat) : Int) := by rw [Int.toNat_natCast, Int.natCast_pow]
    have hPn : ((q : Int) ^ (e : Int).toNat) ∣ (n : Int) := hPn
    have hsz : (sizes L)[i]? = some ((q : Int) ^ (e : Int).toNat) := hsz
    have tk' : sizes (L.take (i + 1)) = sizes (L.take i) ++ [(q : Int) ^ (e : Int).toNat] := tk'
    rw [epw] at hPn hsz tk'
    have hqn : q ^ e ∣ n := Int.natCast_dvd_natCast.mp hPn
    have s1 := Nat.le_of_dvd n0 hqn
    have e1 : e < 36 := by
      have : 2 ^ e < 2 ^ 36 := Nat.lt_of_le_of_lt (Nat.pow_le_pow_left q2 e) (by omega)
      exact (Nat.pow_lt_pow_iff_right (by decide)).mp this
    have qle : q ≤ q ^ e := by
      have := Nat.pow_le_pow_right (show 0 < q by omega) e0
      rwa [Nat.pow_one] at this
    refine ⟨rfl, rfl, ⟨by omega, by omega⟩, fun j env => ∃ t9, env = ELG p a b n B T rs (sizes (L.take i)) (some (.v (.int q))) (some (.v (.int e))) (some (.v (.int ((q ^ j : Nat) : Int)))) t9 t10 t11, ⟨t9, by rw [Nat.pow_zero]; rfl⟩, ?_, ?_⟩
    · rintro j d env hdj ⟨t9, rfl⟩
      obtain ⟨hj, rfl⟩ := rng_at hdj
      refine ⟨.inr ⟨by omega, by omega⟩, some (.v (.int (0 + (j : Int)))), ?_⟩
      rw [Nat.pow_succ, Int.natCast_mul]
      rfl
    · rintro env ⟨t9, rfl⟩
      rw [rng_len, Int.toNat_natCast]
      have hll : (sizes (L.take i)).length < 900 := by rw [List.length_map, List.length_take]; omega
      refine log_L7 c hd hB hT ho hn q2 e0 hqn (by omega) hll hq2 fun r t10 t11 r0 hr => ?_
      refine ⟨rs ++ [r], some (.v (.int q)), some (.v (.int e)), some (.v (.int ((q ^ e : Nat) : Int))), t9, t10, t11, ?_, ?_, by omega, fun K hK => ?_⟩
      · rw [tk']
      · rw [List.length_append, hrl]; rfl
      · have hs := hsol K hK
        refine (MB.Sol_succ (r := r) (m := ((q ^ e : Nat) : Int)) ?_ hsz).mpr ⟨?_, ?_⟩
        · rw [← hrl, List.getElem?_concat_length]
        · intro j hj r' m' h1 h2
          rw [List.getElem?_append_left (by omega)] at h1
          exact hs j hj r' m' h1 h2
        · rw [hr K hK]
          exact ⟨K / ((q ^ e : Nat) : Int), by have := Int.emod_add_mul_ediv K ((q ^ e : Nat) : Int); omega⟩
  · rintro env ⟨rs, t6, t7, t8, t9, t10, t11, rfl, hrl, hil, hsol⟩
    rw [List.length_map] at hrl hsol
    have hml : (sizes L).length = L.length := List.length_map _
    rw [List.length_map, List.take_length]
    have hlc : MB.lcmP (sizes L) (sizes L).length ∣ (n : Int) := MB.lcmP_dvd_of spos sdvd _ (Nat.le_refl _)
    have hlc1 := Int.le_of_dvd (by omega) hlc
    refine ⟨rfl, rfl, rs, sizes L, rfl, by omega, by omega, fun m hm => ⟨spos m hm, ?_⟩, by omega, fun hno => ?_, fun x hx => ?_⟩
    · have := Int.le_of_dvd (by omega) (sdvd m hm)
      omega
    · exfalso
      obtain ⟨x, hx⟩ := MB.fit_upto (rs := rs) (ms := sizes L) (by omega) spos _ (Nat.le_refl _) (log_fit hL.pr hL.asc rs _)
      exact hno x hx.sol
    · refine ⟨_, rfl, rfl, rfl, p, a, b, x, B, rfl, c, hd, hB, ?_⟩
      refine lg_if (fun h => ?_) (fun h => ?_)
      · exact hq1 x hx.lo (by have := hx.hi; omega) h
      · refine hq2 fun K hK => h ?_
        have h1 := hx.all K (by rw [hml]; exact hsol K hK)
        rw [← hK, ho.eqz c hd hB]
        have h2 : (n : Int) ∣ K - x := by
          rw [← hL.prod]
          refine MB.prod_dvd hL.pr hL.asc fun P hP => ?_
          obtain ⟨j, hj⟩ := List.mem_iff_getElem?.mp hP
          exact Int.dvd_trans (MB.dvd_lcmP (j := j) (by rw [List.getElem?_map, hj]; rfl)) h1
        have := Int.dvd_neg.mpr h2
        rwa [Int.neg_sub] at this
end

theorem ok_logarithm {f : Addr} {fd : FuncData} (F : Fun K "logarithm" "logarithm" s_logarithm f fd) (h_factors : Has P w K mg base okH 6 "factors" 1 M_factors) (h_prime_logarithm : Has P w K mg base okH 7 "prime_logarithm" 5 M_prime_logarithm) (h_times : Has P w K mg base okH 6 "times" 3 M_times) (h_joined : Has P w K mg base okH 2 "joined" 2 M_joined) (m_range : mg "range" = none)    : FnOk P w K mg base CX0 8 f fd ["curve", "base", "order", "point"] (SpD K okH 4 M_logarithm) :=
  def_ok F sc_logarithm rfl (fun cdv A outer s H E hr =>
 (s_cons (s_setO 4 sc_logarithm.nd (l_lst a_nil))
 (s_cons (s_setO 5 sc_logarithm.nd (l_lst a_nil))
 (s_cons (s_for (vs := [6, 7]) PassesOwn.never rfl (i_seq (d_call h_factors hr (by decide) (a_cons (d_var 2) a_nil))) (g_tupN (g_cons (g_name 6 sc_logarithm.nd) (g_cons (g_name 7 sc_logarithm.nd) g_nil)))
 (s_cons (s_set 8 sc_logarithm.nd d_int)
 (s_cons (s_for (vs := [9]) PassesOwn.never rfl (i_r1 m_range (d_var 7)) (g_name 9 sc_logarithm.nd)
 (s_one (s_set 8 sc_logarithm.nd (d_mul (d_var 8) (d_var 6)))))
 (s_cons (s_set 10 sc_logarithm.nd (d_div (d_var 2) (d_var 8)))
 (s_cons (s_set 11 sc_logarithm.nd (d_call h_prime_logarithm hr (by decide) (a_cons (d_var 0) (a_cons (d_call h_times hr (by decide) (a_cons (d_var 0) (a_cons (d_var 10) (a_cons (d_var 1) a_nil)))) (a_cons (d_var 6) (a_cons (d_var 7) (a_cons (d_call h_times hr (by decide) (a_cons (d_var 0) (a_cons (d_var 10) (a_cons (d_var 3) a_nil)))) a_nil)))))))
 (s_cons (s_if (t_isN (d_var 11))
 (s_one (s_ret d_non))
 s_nil)
 (s_cons (s_app 4 (d_var 11))
 (s_one (s_app 5 (d_var 8))))))))))
 (s_cons (s_frz 5 (s_frz 4 (s_set 12 sc_logarithm.nd (d_ix (d_b (d_call h_joined hr (by decide) (a_cons (d_var 4) (a_cons (d_var 5) a_nil)))) d_int))))
 (s_one (s_ret (d_ifE (t_eq hr (d_call h_times hr (by decide) (a_cons (d_var 0) (a_cons (d_var 12) (a_cons (d_var 1) a_nil)))) (d_var 3)) (d_var 12) d_non)))))))) mf_logarithm
/-! ### are_independent -/
abbrev s_are_independent : Stmt := topS 26
theorem sc_are_independent : FnScope ["curve", "one", "n", "two", "m", "prime", "count", "base"] ["curve", "one", "n", "two", "m"] (defScope s_are_independent) := ⟨rfl, rfl, rfl, by decide +kernel, rfl, by decide +kernel, by decide +kernel⟩
def M_are_independent : WM := fun as Q => ∃ (p a b : Int) (n m : Nat) (P R : MC.Pt), as = [.v (.tuple [.int p, .int a, .int b]), .v (MC.dpt P), .v (.int n), .v (MC.dpt R), .v (.int m)] ∧ MC.Cu p a b ∧ MC.Ns p a b ∧ MC.On p a b P ∧ MC.On p a b R ∧ MC.IsOrd p a P n ∧ MC.IsOrd p a R m ∧ m ∣ n ∧ n < 900000 ∧ ∀ v : Bool, (v = true ↔ MC.Apart p a P R) → Q (.v (.bool v))

def w_are_independent : WS := (wSeq (wFor (iS (wCallP 1 M_factors (wCons (wVar 4) wNil))) (gT 2 (gsCons (gN 5) (gsCons (gN 6) gsNil)))
 (wSeq (wSet 7 (wCallP 3 M_times (wCons (wVar 0) (wCons (wBin fDiv (wVar 2) (wVar 5)) (wCons (wVar 1) wNil)))))
 (wIf (wTest (wNotN (wCallP 4 M_logarithm (wCons (wVar 0) (wCons (wVar 7) (wCons (wVar 5) (wCons (wCallP 3 M_times (wCons (wVar 0) (wCons (wBin fDiv (wVar 4) (wVar 5)) (wCons (wVar 3) wNil)))) wNil)))))))
 (wRet (wC (.bool false)))
 wNx)))
 (wRet (wC (.bool true))))
theorem mf_are_independent : ∀ as Q, as.length = 5 → M_are_independent as Q → w_are_independent { nx := fun _ => Q (.v .none), rt := Q } (stE as 3) := by
  rintro as Q _ ⟨p, a, b, n, m, P, R, rfl, c, hd, hP, hR, h1, h2, hmn, hn, hq⟩
  have n0 := h1.pos
  have m0 := h2.pos
  have mn := Nat.le_of_dvd n0 hmn
  refine ⟨rfl, rfl, m, rfl, by omega, by omega, MB.easy_small (by omega) (by omega), fun L hL => ?_⟩
  refine ⟨fun k env => ∃ (t5 t6 t7 : Option Sl), env = [some (.v (.tuple [.int p, .int a, .int b])), some (.v (MC.dpt P)), some (.v (.int n)), some (.v (MC.dpt R)), some (.v (.int m)), t5, t6, t7] ∧ ∀ F ∈ L.take k, ∀ s : Int, MC.zmul p a (MC.zmul p a P ((n : Int) / F.1)) s ≠ MC.zmul p a R ((m : Int) / F.1), ⟨none, none, none, rfl, fun F hF => by rw [List.take_zero] at hF; cases hF⟩, ?_, ?_⟩
  · rintro k d env hdk ⟨t5, t6, t7, rfl, hno⟩
    rw [List.getElem?_map] at hdk
    obtain ⟨F, hF, rfl⟩ := Option.map_eq_some_iff.mp hdk
    have hFm := List.mem_of_getElem? hF
    obtain ⟨hpr, hdm⟩ := (hL.mem (q := F.1)).mp ⟨F, hFm, rfl⟩
    have tk' : L.take (k + 1) = L.take k ++ [F] := by rw [List.take_add_one, hF]; rfl
    obtain ⟨q, hq'⟩ : ∃ q : Nat, F.1 = q := ⟨F.1.toNat, by have := hpr.1; omega⟩
    have q2 : 2 ≤ q := by have := hpr.1; omega
    have hqm : q ∣ m := Int.natCast_dvd_natCast.mp (by rw [← hq']; exact hdm)
    have hqn := Nat.dvd_trans hqm hmn
    have qm := Nat.le_of_dvd m0 hqm
    have hB := hP.zmul c ((n : Int) / (q : Int))
    have hT := hR.zmul c ((m : Int) / (q : Int))
    refine ⟨rfl, rfl, ?_⟩
    show (wSeq (wSet 7 _) _) _ [_, _, _, _, _, some (.v (.int F.1)), _, _]
    rw [hq']
    refine ⟨div200 (by omega) (by omega) _, rfl, rfl, p, a, b, _, P, rfl, c, hd, hP, div200 (by omega) (by omega) _, rfl, rfl, p, a, b, _, R, rfl, c, hd, hR, rfl, rfl, p, a, b, q, _, _, rfl, c, hd, hB, hT, h1.divz c hd hP hqn, by omega, MB.easy_small (by omega) (by omega), fun s s0 s1 hs => ?_, fun hn' => ?_⟩
    · refine ⟨fun _ => hq false ⟨fun h => (by cases h), fun h => absurd hs (MC.apart_of c hd h2 hP hR (by rw [← hq']; exact hpr) hqm h s)⟩, fun h => (by cases h)⟩
    · refine ⟨fun h => (by cases h), fun _ => onNx ⟨_, _, _, rfl, fun S hS s => ?_⟩⟩
      rw [tk'] at hS
      rcases List.mem_append.mp hS with hS | hS
      · exact hno S hS s
      · rw [List.mem_singleton.mp hS, hq']
        exact hn' s
  · rintro env ⟨t5, t6, t7, rfl, hno⟩
    rw [List.length_map, List.take_length] at hno
    refine hq true ⟨fun _ => Classical.byContradiction fun h => ?_, fun _ => rfl⟩
    obtain ⟨q, hqp, hqm, s, hs⟩ := MC.not_apart c hd h1 h2 hP hR hmn h
    obtain ⟨F, hF, hFq⟩ := hL.mem.mpr ⟨hqp, Int.natCast_dvd_natCast.mpr hqm⟩
    have := hno F hF s
    rw [hFq] at this
    exact this hs

theorem ok_are_independent {f : Addr} {fd : FuncData} (F : Fun K "are_independent" "are_independent" s_are_independent f fd) (h_factors : Has P w K mg base okH 6 "factors" 1 M_factors) (h_times : Has P w K mg base okH 6 "times" 3 M_times) (h_logarithm : Has P w K mg base okH 8 "logarithm" 4 M_logarithm)     : FnOk P w K mg base CX0 9 f fd ["curve", "one", "n", "two", "m"] (SpD K okH 5 M_are_independent) :=
  def_ok F sc_are_independent rfl (fun cdv A outer s H E hr =>
 (s_cons (s_for (vs := [5, 6]) PassesOwn.never rfl (i_seq (d_call h_factors hr (by decide) (a_cons (d_var 4) a_nil))) (g_tupN (g_cons (g_name 5 sc_are_independent.nd) (g_cons (g_name 6 sc_are_independent.nd) g_nil)))
 (s_cons (s_set 7 sc_are_independent.nd (d_call h_times hr (by decide) (a_cons (d_var 0) (a_cons (d_div (d_var 2) (d_var 5)) (a_cons (d_var 1) a_nil)))))
 (s_one (s_if (t_notN (d_call h_logarithm hr (by decide) (a_cons (d_var 0) (a_cons (d_var 7) (a_cons (d_var 5) (a_cons (d_call h_times hr (by decide) (a_cons (d_var 0) (a_cons (d_div (d_var 4) (d_var 5)) (a_cons (d_var 3) a_nil)))) a_nil))))))
 (s_one (s_ret d_bl))
 s_nil))))
 (s_one (s_ret d_bl)))) mf_are_independent
/-! ### _law_draw -/
abbrev s__law_draw : Stmt := topS 28
theorem sc__law_draw : FnScope ["state", "many", "place", "cell", "one", "two", "taken"] ["state", "many"] (defScope s__law_draw) := ⟨rfl, rfl, rfl, by decide +kernel, rfl, by decide +kernel, by decide +kernel⟩
abbrev M__law_draw : WM := DL.M_draw
theorem ok__law_draw {f : Addr} {fd : FuncData} (F : Fun K "_law_draw" "_law_draw" s__law_draw f fd)  (m_abs : mg "abs" = none) (m_int : mg "int" = none) (m_len : mg "len" = none) : FnOk P w K mg base CX0 1 f fd ["state", "many"] (SpD K okH 2 M__law_draw) := draw_ok F sc__law_draw (fun cdv A outer s H E => (pss_cons (ps_if (pt_cmpR op_le (pe_ix ix_seq (pv 0) pe_int (fun _ _ => rfl)) pe_int (nomark _)) (pss_cons (ps_set (i := 2) sc__law_draw.nd rfl (Or.inl rfl) (pe_ix ix_seq (pv 0) pe_int (fun _ _ => rfl))) (pss_cons (ps_asg (pe_op op_add (pv 2) pe_int) (pg_sub (pv 0) pe_int set_list)) (pss_cons (ps_set (i := 3) sc__law_draw.nd rfl (Or.inl rfl) (pe_op op_add (pe_op op_mul (pv 2) pe_int) pe_int)) (pss_cons (ps_if (pt_cmpR op_lt (pv 2) (pe_callB call_len_seq (by rfl) m_len PySem.boot_len (pa_cons (pe_ix ix_seq (pv 0) pe_int (fun _ _ => rfl)) pa_nil)) (nomark _)) (pss_one (ps_set (i := 3) sc__law_draw.nd rfl (Or.inl rfl) (pe_ix ix_seq (pe_ix ix_seq (pv 0) pe_int (fun _ _ => rfl)) (pv 2) (fun _ _ => rfl)))) pss_nil) (pss_cons (ps_if (pt_chain op_le op_lt pe_int (pv 3) pe_int) (pss_cons (ps_set (i := 4) sc__law_draw.nd rfl (Or.inl rfl) (pe_op op_mod (pe_callTy call_int1 (by rfl) m_int (by decide +kernel) (pa_cons (pe_op op_add (pe_op op_add (pe_op op_mul (pv 3) pe_int) (pe_op op_mul (pv 2) pe_int)) (pe_ix ix_seq (pv 0) pe_int (fun _ _ => rfl))) pa_nil)) pe_int)) (pss_cons (ps_set (i := 5) sc__law_draw.nd rfl (Or.inl rfl) (pe_op op_mod (pe_callTy call_int1 (by rfl) m_int (by decide +kernel) (pa_cons (pe_op op_add (pe_op op_add (pe_op op_mul (pv 4) pe_int) (pv 3)) pe_int) pa_nil)) pe_int)) (pss_one (ps_asg (pe_op op_add (pe_op op_mul (pv 4) pe_int) (pv 5)) (pg_sub (pv 0) pe_int set_list))))) (pss_one (ps_asg (pe_callB call_abs (by rfl) m_abs (by decide +kernel) (pa_cons (pv 3) pa_nil)) (pg_sub (pv 0) pe_int set_list)))) (pss_one (ps_asg (pe_op op_mod (pe_callTy call_int1 (by rfl) m_int (by decide +kernel) (pa_cons (pe_op op_add (pe_op op_mul (pe_ix ix_seq (pv 0) pe_int (fun _ _ => rfl)) pe_int) (pv 3)) pa_nil)) pe_int) (pg_sub (pv 0) pe_int set_list)))))))) pss_nil) (pss_cons (ps_set (i := 6) sc__law_draw.nd rfl (Or.inl rfl) (pe_op op_mod (pe_callTy call_int1 (by rfl) m_int (by decide +kernel) (pa_cons (pe_ix ix_seq (pv 0) pe_int (fun _ _ => rfl)) pa_nil)) (pv 1))) (pss_cons (ps_asg (pe_op op_fdivW (pe_callTy call_int1 (by rfl) m_int (by decide +kernel) (pa_cons (pe_ix ix_seq (pv 0) pe_int (fun _ _ => rfl)) pa_nil)) (pv 1)) (pg_sub (pv 0) pe_int set_list)) (pss_one (ps_ret (pv 6)))))))
/-! ### _law_is_prime -/
abbrev s__law_is_prime : Stmt := topS 29
theorem sc__law_is_prime : FnScope ["n", "d", "turn"] ["n"] (defScope s__law_is_prime) := ⟨rfl, rfl, rfl, by decide +kernel, rfl, by decide +kernel, by decide +kernel⟩
def M__law_is_prime : WM := fun as Q => ∃ n : Int, as = [.v (.int n)] ∧ 0 ≤ n ∧ n < 2 ^ 32 ∧ ∀ b : Bool, (b = true ↔ MB.PrimeI n) → Q (.v (.bool b))

def w__law_is_prime_L7 : WS := (wSet 1 (wBin fAdd (wBin fAdd (wVar 1) (wC (.int 1))) (wUn fInt (wBin fGt (wVar 1) (wC (.int 2))))))
def w__law_is_prime_L5 : WS := (wSeq (wIf (wTest (wBin fEq (wBin fMod (wUn fInt (wVar 0)) (wVar 1)) (wC (.int 0))))
 (wRet (wC (.bool false)))
 wNx)
 w__law_is_prime_L7)
def w__law_is_prime_L8 : WS := (wRet (wBin fGt (wVar 0) (wC (.int 1))))
def w__law_is_prime : WS := (wSeq (wSet 1 (wC (.int 2)))
 (wSeq (wFor (iR1 (wC (.int 40000))) (gN 2)
 (wSeq (wIf (wTest (wBin fGt (wBin fMul (wVar 1) (wVar 1)) (wVar 0)))
 wBk
 wNx)
 w__law_is_prime_L5))
 w__law_is_prime_L8))
theorem is_prime_L8 {Q : Rt → Prop} {n d : Int} {t : Option Sl} (d2 : 2 ≤ d) (hd : n < d * d) (he : ∀ e : Int, 2 ≤ e → e < d → n % e ≠ 0) (hq : ∀ b : Bool, (b = true ↔ MB.PrimeI n) → Q (.v (.bool b))) :
    w__law_is_prime_L8 { nx := fun _ => Q (.v .none), rt := Q } [some (.v (.int n)), some (.v (.int d)), t] := by
  refine hq _ ⟨fun h => ?_, fun h => decide_eq_true (by have := h.1; omega)⟩
  have h : 1 < n := of_decide_eq_true h
  exact MB.prime_of_trial d (by omega) hd (by omega) fun e e2 e1 _ => he e e2 e1
theorem mf__law_is_prime : ∀ as Q, as.length = 1 → M__law_is_prime as Q → w__law_is_prime { nx := fun _ => Q (.v .none), rt := Q } (stE as 2) := by
  rintro as Q _ ⟨n, rfl, n0, n1, hq⟩
  refine ⟨⟨by decide, by decide⟩, fun i env => ∃ (d : Int) (t : Option Sl), env = [some (.v (.int n)), some (.v (.int d)), t] ∧ (i = 0 ∧ d = 2 ∨ 1 ≤ i ∧ d = 2 * i + 1) ∧ ∀ e : Int, 2 ≤ e → e < d → n % e ≠ 0, ⟨2, none, rfl, .inl ⟨rfl, rfl⟩, fun e _ _ => by omega⟩, ?_, ?_⟩
  · rintro i x env hx ⟨d, t, rfl, hd, he⟩
    obtain ⟨hi, rfl⟩ := rng_at hx
    have hi' : i < 40000 := hi
    refine ⟨.inl ⟨by omega, by omega⟩, fun h => onBk (is_prime_L8 (t := some (.v (.int (0 + (i : Int))))) (by omega) (of_decide_eq_true h) he hq), fun h => ⟨by omega, fun h2 => ?_, fun h2 => ?_⟩⟩
    · have h : ¬ n < d * d := of_decide_eq_false h
      have h2 : n % d = 0 := of_decide_eq_true h2
      refine hq false ⟨fun z => (nomatch z), fun z => ?_⟩
      have : d * 2 ≤ d * d := Int.mul_le_mul_of_nonneg_left (by omega) (by omega)
      exact absurd h2 (z.2 d (by omega) (by omega))
    · have h2 : ¬ n % d = 0 := of_decide_eq_false h2
      obtain ⟨e, he', e0⟩ : ∃ e : Int, e = (if decide ((2 : Int) < d) then 1 else 0) ∧ (d = 2 ∧ e = 0 ∨ 2 < d ∧ e = 1) := by
        refine ⟨_, rfl, ?_⟩
        split
        · rename_i z; have := of_decide_eq_true z; omega
        · rename_i z; have : ¬ 2 < d := fun y => z (decide_eq_true y); omega
      refine ⟨d + 1 + e, some (.v (.int (0 + (i : Int)))), ?_, by omega, fun f f2 f1 z => ?_⟩
      · subst he'
        rfl
      · by_cases h3 : f < d
        · exact he f f2 h3 z
        · by_cases h4 : f = d
          · rw [h4] at z; exact h2 z
          · have h5 : f = d + 1 ∧ 2 < d ∧ d % 2 = 1 := by omega
            refine he 2 (by omega) (by omega) ?_
            obtain ⟨c, hc⟩ := Int.dvd_of_emod_eq_zero z
            obtain ⟨g, hg⟩ : ∃ g, f = 2 * g := ⟨f / 2, by omega⟩
            exact Int.emod_eq_zero_of_dvd ⟨g * c, by rw [hc, hg, Int.mul_assoc]⟩
  · rintro env ⟨d, t, rfl, hd, he⟩
    have hd : d = 80001 := by
      rw [rng_len] at hd
      rcases hd with ⟨z, _⟩ | ⟨_, z⟩
      · cases z
      · rw [z]; rfl
    exact is_prime_L8 (t := t) (by omega) (by rw [hd]; omega) he hq

theorem ok__law_is_prime {f : Addr} {fd : FuncData} (F : Fun K "_law_is_prime" "_law_is_prime" s__law_is_prime f fd)  (m_int : mg "int" = none) (m_range : mg "range" = none)    : FnOk P w K mg base CX0 1 f fd ["n"] (SpD K okH 1 M__law_is_prime) :=
  def_ok F sc__law_is_prime rfl (fun cdv A outer s H E hr =>
 (s_cons (s_set 1 sc__law_is_prime.nd d_int)
 (s_cons (s_for (vs := [2]) PassesOwn.never rfl (i_r1 m_range d_int) (g_name 2 sc__law_is_prime.nd)
 (s_cons (s_if (t_gt (d_mul (d_var 1) (d_var 1)) (d_var 0))
 (s_one s_break)
 s_nil)
 (s_cons (s_if (t_eq hr (d_mod (d_intc m_int (d_var 0)) (d_var 1)) d_int)
 (s_one (s_ret d_bl))
 s_nil)
 (s_one (s_set 1 sc__law_is_prime.nd (d_add (d_add (d_var 1) d_int) (d_intc m_int (d_gt (d_var 1) d_int))))))))
 (s_one (s_ret (d_gt (d_var 0) d_int)))))) mf__law_is_prime
/-! ### _law_prime -/
abbrev s__law_prime : Stmt := topS 30
theorem sc__law_prime : FnScope ["state", "least", "most", "n", "turn"] ["state", "least", "most"] (defScope s__law_prime) := ⟨rfl, rfl, rfl, by decide +kernel, rfl, by decide +kernel, by decide +kernel⟩
def M__law_prime : WM := fun as Q => ∃ l m : Int, as = [.hnd, .v (.int l), .v (.int m)] ∧ 5 ≤ l ∧ l ≤ m ∧ m ≤ 30000 ∧ ∀ p : Int, MB.PrimeI p → l ≤ p → (∀ q : Int, MB.PrimeI q → m ≤ q → p ≤ q) → Q (.v (.int p))

def w__law_prime : WS := (wSeq (wSet 3 (wBin fAdd (wVar 1) (wCallP 2 M__law_draw (wConsH 0 (wCons (wBin fAdd (wBin fSub (wVar 2) (wVar 1)) (wC (.int 1))) wNil)))))
 (wSeq (wFor (iR1 (wC (.int 2000))) (gN 4)
 (wSeq (wIf (wTest (wCallP 1 M__law_is_prime (wCons (wVar 3) wNil)))
 (wRet (wVar 3))
 wNx)
 (wSet 3 (wBin fAdd (wVar 3) (wC (.int 1))))))
 (wRet (wC (.int 5)))))
theorem mf__law_prime : ∀ as Q, as.length = 3 → M__law_prime as Q → w__law_prime { nx := fun _ => Q (.v .none), rt := Q } (stE as 2) := by
  rintro as Q _ ⟨l, m, rfl, l5, lm, m1, hq⟩
  refine dr (by omega) (by omega) fun r r0 r1 => ?_
  refine ⟨⟨by decide, by decide⟩, fun i env => ∃ (t : Option Sl), env = [some .hnd, some (.v (.int l)), some (.v (.int m)), some (.v (.int (l + r + i))), t] ∧ ∀ q : Int, MB.PrimeI q → l + r ≤ q → l + r + i ≤ q, ⟨none, ?_, fun q _ _ => by omega⟩, ?_, ?_⟩
  · rw [show l + r + ((0 : Nat) : Int) = l + r by omega]
    rfl
  · rintro i x env hx ⟨t, rfl, hn⟩
    obtain ⟨hi, rfl⟩ := rng_at hx
    have hi' : i < 2000 := hi
    refine ⟨rfl, rfl, l + r + i, rfl, by omega, by omega, fun b hb => ⟨fun h => hq _ (hb.mp h) (by omega) (fun q hp hq' => hn q hp (by omega)), fun h => ⟨some (.v (.int (0 + (i : Int)))), ?_, fun q hp hq' => ?_⟩⟩⟩
    · rw [show l + r + ((i + 1 : Nat) : Int) = l + r + (i : Int) + 1 by omega]
      rfl
    · have := hn q hp hq'
      refine Classical.byContradiction fun z => ?_
      have : l + r + i = q := by omega
      rw [hb.mpr (this ▸ hp)] at h
      cases h
  · rintro env ⟨t, rfl, hn⟩
    exfalso
    obtain ⟨q, hp, h1, h2⟩ := MB.near_prime (n := l + r) (by omega) (by omega)
    have := hn q hp h1
    rw [rng_len] at this
    have e : ((2000 : Int).toNat : Int) = 2000 := rfl
    omega

theorem ok__law_prime {f : Addr} {fd : FuncData} (F : Fun K "_law_prime" "_law_prime" s__law_prime f fd) (h__law_draw : Has P w K mg base okH 1 "_law_draw" 2 M__law_draw) (h__law_is_prime : Has P w K mg base okH 1 "_law_is_prime" 1 M__law_is_prime) (m_range : mg "range" = none)    : FnOk P w K mg base CX0 2 f fd ["state", "least", "most"] (SpD K okH 3 M__law_prime) :=
  def_ok F sc__law_prime rfl (fun cdv A outer s H E hr =>
 (s_cons (s_set 3 sc__law_prime.nd (d_add (d_var 1) (d_call h__law_draw hr (by decide) (a_hnd 0 (a_cons (d_add (d_sub (d_var 2) (d_var 1)) d_int) a_nil)))))
 (s_cons (s_for (vs := [4]) PassesOwn.never rfl (i_r1 m_range d_int) (g_name 4 sc__law_prime.nd)
 (s_cons (s_if (t_val (d_call h__law_is_prime hr (by decide) (a_cons (d_var 3) a_nil)))
 (s_one (s_ret (d_var 3)))
 s_nil)
 (s_one (s_set 3 sc__law_prime.nd (d_add (d_var 3) d_int)))))
 (s_one (s_ret d_int))))) mf__law_prime
/-! ### _law_inverse -/
abbrev s__law_inverse : Stmt := topS 31
theorem sc__law_inverse : FnScope ["p", "x", "old", "new", "first", "second", "turn", "times_v"] ["p", "x"] (defScope s__law_inverse) := ⟨rfl, rfl, rfl, by decide +kernel, rfl, by decide +kernel, by decide +kernel⟩
def M__law_inverse : WM := fun as Q => ∃ n v : Int, as = [.v (.int n), .v (.int v)] ∧ 0 < n ∧ n < 2 ^ 62 ∧ ∀ t : Int, 0 ≤ t → t < n → n ∣ t * v - (Int.gcd n v : Nat) → Q (.v (.int t))

def w__law_inverse_L6 : WS := (wSeq (wSet 7 (wBin fDiv (wVar 2) (wVar 3)))
 (wSeq (wPar 2 3 (wCons (wVar 3) (wCons (wBin fSub (wVar 2) (wBin fMul (wVar 7) (wVar 3))) wNil)))
 (wPar 4 5 (wCons (wVar 5) (wCons (wBin fSub (wVar 4) (wBin fMul (wVar 7) (wVar 5))) wNil)))))
def w__law_inverse_L9 : WS := (wRet (wBin fMod (wUn fInt (wVar 4)) (wVar 0)))
def w__law_inverse : WS := (wSeq (wPar 2 3 (wCons (wVar 0) (wCons (wBin fMod (wUn fInt (wVar 1)) (wVar 0)) wNil)))
 (wSeq (wAsg (wTupP (wCons (wC (.int 0)) (wCons (wC (.int 1)) wNil))) (gT 2 (gsCons (gN 4) (gsCons (gN 5) gsNil))))
 (wSeq (wFor (iR1 (wC (.int 200))) (gN 6)
 (wSeq (wIf (wTest (wBin fEq (wVar 3) (wC (.int 0))))
 wBk
 wNx)
 w__law_inverse_L6))
 w__law_inverse_L9)))
theorem euclid_half {x y : Int} (hy : 0 < y) (h : y < x) : 2 * (x % y) ≤ x := by
  have h1 := Int.emod_lt_of_pos x hy
  have h2 := Int.emod_def x y
  have h3 : 1 ≤ x / y := Int.le_ediv_of_mul_le hy (show 1 * y ≤ x by omega)
  have : y * 1 ≤ y * (x / y) := Int.mul_le_mul_of_nonneg_left h3 (by omega)
  omega
theorem mf__law_inverse : ∀ as Q, as.length = 2 → M__law_inverse as Q → w__law_inverse { nx := fun _ => Q (.v .none), rt := Q } (stE as 6) := by
  rintro as Q _ ⟨n, v, rfl, n0, n1, hq⟩
  have v0 : 0 ≤ v % n := Int.emod_nonneg _ (by omega)
  have v1 : v % n < n := Int.emod_lt_of_pos _ n0
  have fin : ∀ (a s u : Int) (t6 t7 : Option Sl), 0 < a → n ∣ s * v - a → Int.gcd a 0 = Int.gcd n v → w__law_inverse_L9 { nx := fun _ => Q (.v .none), rt := Q } [some (.v (.int n)), some (.v (.int v)), some (.v (.int a)), some (.v (.int 0)), some (.v (.int s)), some (.v (.int u)), t6, t7] := fun a s u t6 t7 a0 hs hg => by
    have ea : a = (Int.gcd n v : Nat) := by
      rw [← hg, Int.gcd_zero_right]
      omega
    refine ⟨n0, hq _ (Int.emod_nonneg _ (by omega)) (Int.emod_lt_of_pos _ n0) ?_⟩
    rw [← ea]
    obtain ⟨c1, hc1⟩ : n ∣ s - s % n := Int.dvd_self_sub_emod
    obtain ⟨c2, hc2⟩ := hs
    refine ⟨c2 - c1 * v, ?_⟩
    have : s % n * v - a = (s * v - a) - (s - s % n) * v := by grind
    rw [this, hc1, hc2]
    grind
  refine ⟨n0, rfl, lk rfl, rfl, rfl, ⟨by decide, by decide⟩, fun k env => ∃ (a b s t : Int) (t6 t7 : Option Sl), env = [some (.v (.int n)), some (.v (.int v)), some (.v (.int a)), some (.v (.int b)), some (.v (.int s)), some (.v (.int t)), t6, t7] ∧ b < a ∧ a ≤ n ∧ 0 ≤ b ∧ n ∣ s * v - a ∧ n ∣ t * v - b ∧ Int.gcd a b = Int.gcd n v ∧ a * b * 2 ^ k < 2 ^ 128, ⟨n, v % n, 0, 1, none, none, rfl, v1, Int.le_refl _, v0, ?_, ?_, MB.gcd_mod n v, ?_⟩, ?_, ?_⟩
  · rw [Int.zero_mul, Int.zero_sub]; exact Int.dvd_neg.mpr (Int.dvd_refl _)
  · rw [Int.one_mul]; exact Int.dvd_self_sub_emod
  · rw [Int.pow_zero, Int.mul_one]
    have := Int.mul_le_mul (a := n) (b := v % n) (c := 2 ^ 62) (d := 2 ^ 62) (by omega) (by omega) v0 (by decide)
    omega
  · rintro i d env hd ⟨a, b, s, t, t6, t7, rfl, ba, an, b0, hs, ht, hg, hb⟩
    obtain ⟨hi, rfl⟩ := rng_at hd
    refine ⟨fun h => ?_, fun h => onNx ?_⟩
    · have h0 : b = 0 := of_decide_eq_true h
      subst h0
      exact onBk (fin a s t (some (.v (.int (0 + (i : Int))))) t7 (by omega) hs hg)
    · have h0 : ¬ b = 0 := of_decide_eq_false h
      have bp : 0 < b := by omega
      have q0 : 0 ≤ a / b := Int.ediv_nonneg (by omega) b0
      have q1 : a / b ≤ a := Int.ediv_le_self _ (by omega)
      have cm : ∀ z : Int, CMul (a / b) z := fun z => .inl ⟨by omega, by omega⟩
      have e : a - a / b * b = a % b := by
        have := Int.emod_def a b
        rw [Int.mul_comm b] at this
        omega
      have m0 : 0 ≤ a % b := Int.emod_nonneg _ h0
      have m1 : a % b < b := Int.emod_lt_of_pos _ bp
      refine ⟨div200 bp (by omega) _, cm _, cm _, b, a % b, t, s - a / b * t, _, _, by rw [← e]; rfl, m1, by omega, m0, ht, ?_, ?_, ?_⟩
      · obtain ⟨c1, hc1⟩ := hs
        obtain ⟨c2, hc2⟩ := ht
        refine ⟨c1 - a / b * c2, ?_⟩
        rw [← e]
        have : (s - a / b * t) * v - (a - a / b * b) = (s * v - a) - a / b * (t * v - b) := by grind
        rw [this, hc1, hc2]
        grind
      · rw [← hg]
        exact MB.gcd_mod_r a b
      · have h2 := euclid_half (x := a) (y := b) bp ba
        have h3 : b * (2 * (a % b)) ≤ b * a := Int.mul_le_mul_of_nonneg_left h2 b0
        have hp : (0 : Int) ≤ 2 ^ i := Int.le_of_lt (Int.pow_pos (by decide))
        have h4 := Int.mul_le_mul_of_nonneg_right h3 hp
        rw [Int.pow_succ]
        have e1 : b * (a % b) * (2 ^ i * 2) = b * (2 * (a % b)) * 2 ^ i := by grind
        have e2 : a * b * 2 ^ i = b * a * 2 ^ i := by grind
        omega
  · rintro env ⟨a, b, s, t, t6, t7, rfl, ba, an, b0, hs, ht, hg, hb⟩
    rw [rng_len] at hb
    have : b = 0 := by
      apply Int.le_antisymm
      · apply Int.not_lt.mp
        intro z
        have h1 : 1 * 1 ≤ a * b := Int.mul_le_mul (by omega) (by omega) (by decide) (by omega)
        have h2 := Int.mul_le_mul_of_nonneg_right (c := 2 ^ (Int.toNat 200)) h1 (by decide)
        have e : (1 * 1 * 2 ^ (Int.toNat 200) : Int) = 2 ^ 200 := by decide
        omega
      · exact b0
    subst this
    exact fin a s t t6 t7 (by omega) hs hg

theorem ok__law_inverse {f : Addr} {fd : FuncData} (F : Fun K "_law_inverse" "_law_inverse" s__law_inverse f fd)  (m_int : mg "int" = none) (m_range : mg "range" = none)    : FnOk P w K mg base CX0 1 f fd ["p", "x"] (SpD K okH 2 M__law_inverse) :=
  def_ok F sc__law_inverse rfl (fun cdv A outer s H E hr =>
 (s_cons (s_par 2 3 rfl sc__law_inverse.nd (by decide) (a_cons (d_var 0) (a_cons (d_mod (d_intc m_int (d_var 1)) (d_var 0)) a_nil)))
 (s_cons (s_asg (vs := [4, 5]) (d_tup (a_cons d_int (a_cons d_int a_nil))) (g_tupN (g_cons (g_name 4 sc__law_inverse.nd) (g_cons (g_name 5 sc__law_inverse.nd) g_nil))))
 (s_cons (s_for (vs := [6]) PassesOwn.never rfl (i_r1 m_range d_int) (g_name 6 sc__law_inverse.nd)
 (s_cons (s_if (t_eq hr (d_var 3) d_int)
 (s_one s_break)
 s_nil)
 (s_cons (s_set 7 sc__law_inverse.nd (d_div (d_var 2) (d_var 3)))
 (s_cons (s_par 2 3 rfl sc__law_inverse.nd (by decide) (a_cons (d_var 3) (a_cons (d_sub (d_var 2) (d_mul (d_var 7) (d_var 3))) a_nil)))
 (s_one (s_par 4 5 rfl sc__law_inverse.nd (by decide) (a_cons (d_var 5) (a_cons (d_sub (d_var 4) (d_mul (d_var 7) (d_var 5))) a_nil))))))))
 (s_one (s_ret (d_mod (d_intc m_int (d_var 4)) (d_var 0)))))))) mf__law_inverse
/-! ### _law_curve -/
abbrev s__law_curve : Stmt := topS 32
theorem sc__law_curve : FnScope ["state", "p", "a", "b", "turn"] ["state", "p"] (defScope s__law_curve) := ⟨rfl, rfl, rfl, by decide +kernel, rfl, by decide +kernel, by decide +kernel⟩
def M__law_curve : WM := fun as Q => ∃ p : Int, as = [.hnd, .v (.int p)] ∧ MB.PrimeI p ∧ 5 ≤ p ∧ p < 2 ^ 30 ∧ ∀ a b : Int, 0 ≤ a → a < p → 0 ≤ b → b < p → (4 * a * a * a + 27 * b * b) % p ≠ 0 → Q (.v (.tuple [.int p, .int a, .int b]))

def w__law_curve_L10 : WS := (wSet 3 (wBin fMod (wUn fInt (wBin fAdd (wVar 3) (wC (.int 1)))) (wVar 1)))
def w__law_curve_L13 : WS := (wRet (wTupP (wCons (wVar 1) (wCons (wVar 2) (wCons (wVar 3) wNil)))))
def w__law_curve_L11 : WS := (wSeq (wIf (wTest (wBin fEq (wBin fMod (wUn fInt (wBin fAdd (wBin fMul (wBin fMul (wBin fMul (wC (.int 4)) (wVar 2)) (wVar 2)) (wVar 2)) (wBin fMul (wBin fMul (wC (.int 27)) (wVar 3)) (wVar 3)))) (wVar 1)) (wC (.int 0))))
 (wRet (wTupP (wCons (wVar 1) (wCons (wC (.int 1)) (wCons (wC (.int 0)) wNil)))))
 wNx)
 w__law_curve_L13)
def w__law_curve_L7 : WS := (wSeq (wFor (iR1 (wC (.int 3))) (gN 4)
 (wSeq (wIf (wTest (wBin fNe (wBin fMod (wUn fInt (wBin fAdd (wBin fMul (wBin fMul (wBin fMul (wC (.int 4)) (wVar 2)) (wVar 2)) (wVar 2)) (wBin fMul (wBin fMul (wC (.int 27)) (wVar 3)) (wVar 3)))) (wVar 1)) (wC (.int 0))))
 wBk
 wNx)
 w__law_curve_L10))
 w__law_curve_L11)
def w__law_curve : WS := (wSeq (wSet 2 (wCallP 2 M__law_draw (wConsH 0 (wCons (wVar 1) wNil))))
 (wSeq (wSet 3 (wCallP 2 M__law_draw (wConsH 0 (wCons (wVar 1) wNil))))
 (wSeq (wIf (wTest (wBin fEq (wCallP 2 M__law_draw (wConsH 0 (wCons (wC (.int 6)) wNil))) (wC (.int 0))))
 (wSet 2 (wC (.int 0)))
 (wIf (wTest (wBin fEq (wCallP 2 M__law_draw (wConsH 0 (wCons (wC (.int 6)) wNil))) (wC (.int 0))))
 (wSet 3 (wC (.int 0)))
 wNx))
 w__law_curve_L7)))
theorem lc_L13 {Q : Rt → Prop} {p a b : Int} {t4 : Option Sl} (p5 : 5 ≤ p) (p1 : p < 2 ^ 30) (ha : 0 ≤ a ∧ a < p) (hb : 0 ≤ b ∧ b < p) (hq : ∀ a b : Int, 0 ≤ a → a < p → 0 ≤ b → b < p → (4 * a * a * a + 27 * b * b) % p ≠ 0 → Q (.v (.tuple [.int p, .int a, .int b]))) :
    w__law_curve_L11 { nx := fun _ => Q (.v .none), rt := Q } [some .hnd, some (.v (.int p)), some (.v (.int a)), some (.v (.int b)), t4] := by
  have ca : ∀ z, CMul z a := fun z => .inr ⟨by omega, by omega⟩
  have cb : ∀ z, CMul z b := fun z => .inr ⟨by omega, by omega⟩
  refine ⟨ca _, ca _, ca _, cb _, cb _, by omega, fun h => ?_, fun h => onNx ?_⟩
  · refine ⟨rfl, lk rfl, hq 1 0 (by decide) (by omega) (by decide) (by omega) ?_⟩
    show (4 : Int) % p ≠ 0
    rw [Int.emod_eq_of_lt (by decide) (by omega)]
    decide
  · exact ⟨rfl, lk rfl, hq a b ha.1 ha.2 hb.1 hb.2 (of_decide_eq_false h)⟩
theorem lc_L7 {Q : Rt → Prop} {p a b : Int} {t4 : Option Sl} (p5 : 5 ≤ p) (p1 : p < 2 ^ 30) (ha : 0 ≤ a ∧ a < p) (hb : 0 ≤ b ∧ b < p) (hq : ∀ a b : Int, 0 ≤ a → a < p → 0 ≤ b → b < p → (4 * a * a * a + 27 * b * b) % p ≠ 0 → Q (.v (.tuple [.int p, .int a, .int b]))) :
    w__law_curve_L7 { nx := fun _ => Q (.v .none), rt := Q } [some .hnd, some (.v (.int p)), some (.v (.int a)), some (.v (.int b)), t4] := by
  have ca : ∀ z, CMul z a := fun z => .inr ⟨by omega, by omega⟩
  refine ⟨⟨by decide, by decide⟩, fun k env => ∃ (b : Int) (t4 : Option Sl), (0 ≤ b ∧ b < p) ∧ env = [some .hnd, some (.v (.int p)), some (.v (.int a)), some (.v (.int b)), t4], ⟨b, t4, hb, rfl⟩, ?_, ?_⟩
  · rintro k d env hd ⟨b, t4, hb, rfl⟩
    have cb : ∀ z, CMul z b := fun z => .inr ⟨by omega, by omega⟩
    refine ⟨ca _, ca _, ca _, cb _, cb _, by omega, fun h => ?_, fun h => onNx ?_⟩
    · exact onBk (lc_L13 p5 p1 ha hb hq)
    · exact ⟨by omega, (b + 1) % p, _, ⟨Int.emod_nonneg _ (by omega), Int.emod_lt_of_pos _ (by omega)⟩, rfl⟩
  · rintro env ⟨b, t4, hb, rfl⟩
    exact lc_L13 p5 p1 ha hb hq
theorem mf__law_curve : ∀ as Q, as.length = 2 → M__law_curve as Q → w__law_curve { nx := fun _ => Q (.v .none), rt := Q } (stE as 3) := by
  rintro as Q _ ⟨p, rfl, hp, p5, p1, hq⟩
  refine dr (by omega) (by omega) fun a a0 a1 => dr (by omega) (by omega) fun b b0 b1 => ?_
  refine dr (by decide) (by decide) fun r _ _ => ⟨fun _ => ?_, fun _ => dr (by decide) (by decide) fun r _ _ => ⟨fun _ => ?_, fun _ => onNx ?_⟩⟩
  · exact lc_L7 p5 p1 ⟨by decide, by omega⟩ ⟨b0, b1⟩ hq
  · exact lc_L7 p5 p1 ⟨a0, a1⟩ ⟨by decide, by omega⟩ hq
  · exact lc_L7 p5 p1 ⟨a0, a1⟩ ⟨b0, b1⟩ hq

theorem ok__law_curve {f : Addr} {fd : FuncData} (F : Fun K "_law_curve" "_law_curve" s__law_curve f fd) (h__law_draw : Has P w K mg base okH 1 "_law_draw" 2 M__law_draw) (m_int : mg "int" = none) (m_range : mg "range" = none)    : FnOk P w K mg base CX0 2 f fd ["state", "p"] (SpD K okH 2 M__law_curve) :=
  def_ok F sc__law_curve rfl (fun cdv A outer s H E hr =>
 (s_cons (s_set 2 sc__law_curve.nd (d_call h__law_draw hr (by decide) (a_hnd 0 (a_cons (d_var 1) a_nil))))
 (s_cons (s_set 3 sc__law_curve.nd (d_call h__law_draw hr (by decide) (a_hnd 0 (a_cons (d_var 1) a_nil))))
 (s_cons (s_if (t_eq hr (d_call h__law_draw hr (by decide) (a_hnd 0 (a_cons d_int a_nil))) d_int)
 (s_one (s_set 2 sc__law_curve.nd d_int))
 (s_one (s_if (t_eq hr (d_call h__law_draw hr (by decide) (a_hnd 0 (a_cons d_int a_nil))) d_int)
 (s_one (s_set 3 sc__law_curve.nd d_int))
 s_nil)))
 (s_cons (s_for (vs := [4]) PassesOwn.never rfl (i_r1 m_range d_int) (g_name 4 sc__law_curve.nd)
 (s_cons (s_if (t_ne hr (d_mod (d_intc m_int (d_add (d_mul (d_mul (d_mul d_int (d_var 2)) (d_var 2)) (d_var 2)) (d_mul (d_mul d_int (d_var 3)) (d_var 3)))) (d_var 1)) d_int)
 (s_one s_break)
 s_nil)
 (s_one (s_set 3 sc__law_curve.nd (d_mod (d_intc m_int (d_add (d_var 3) d_int)) (d_var 1))))))
 (s_cons (s_if (t_eq hr (d_mod (d_intc m_int (d_add (d_mul (d_mul (d_mul d_int (d_var 2)) (d_var 2)) (d_var 2)) (d_mul (d_mul d_int (d_var 3)) (d_var 3)))) (d_var 1)) d_int)
 (s_one (s_ret (d_tup (a_cons (d_var 1) (a_cons d_int (a_cons d_int a_nil))))))
 s_nil)
 (s_one (s_ret (d_tup (a_cons (d_var 1) (a_cons (d_var 2) (a_cons (d_var 3) a_nil)))))))))))) mf__law_curve
/-! ### _law_add -/
abbrev s__law_add : Stmt := topS 33
theorem sc__law_add : FnScope ["curve", "one", "two", "p", "a", "b", "slope_v", "x"] ["curve", "one", "two"] (defScope s__law_add) := ⟨rfl, rfl, rfl, by decide +kernel, rfl, by decide +kernel, by decide +kernel⟩
def M__law_add : WM := fun as Q => ∃ (p a b : Int) (P R : MC.Pt), as = [.v (.tuple [.int p, .int a, .int b]), .v (MC.dpt P), .v (MC.dpt R)] ∧ MC.Cu p a b ∧ p < 2 ^ 30 ∧ MC.On p a b P ∧ MC.On p a b R ∧ Q (.v (MC.dpt (MC.addP p a P R)))

def w__law_add_L12 : WS := (wSeq (wSet 7 (wBin fMod (wUn fInt (wBin fSub (wBin fSub (wBin fMul (wVar 6) (wVar 6)) (wIx (wVar 1) (wC (.int 0)))) (wIx (wVar 2) (wC (.int 0))))) (wVar 3)))
 (wRet (wTupP (wCons (wVar 7) (wCons (wBin fMod (wUn fInt (wBin fSub (wBin fMul (wVar 6) (wBin fSub (wIx (wVar 1) (wC (.int 0))) (wVar 7))) (wIx (wVar 1) (wC (.int 1))))) (wVar 3)) wNil)))))
def w__law_add_L8 : WS := (wSeq (wIf (wTest (wBin fEq (wVar 1) (wVar 2)))
 (wSet 6 (wBin fMod (wUn fInt (wBin fMul (wBin fAdd (wBin fMul (wBin fMul (wC (.int 3)) (wIx (wVar 1) (wC (.int 0)))) (wIx (wVar 1) (wC (.int 0)))) (wVar 4)) (wCallP 2 M__law_inverse (wCons (wVar 3) (wCons (wBin fMul (wC (.int 2)) (wIx (wVar 1) (wC (.int 1)))) wNil))))) (wVar 3)))
 (wSet 6 (wBin fMod (wUn fInt (wBin fMul (wBin fSub (wIx (wVar 2) (wC (.int 1))) (wIx (wVar 1) (wC (.int 1)))) (wCallP 2 M__law_inverse (wCons (wVar 3) (wCons (wBin fSub (wIx (wVar 2) (wC (.int 0))) (wIx (wVar 1) (wC (.int 0)))) wNil))))) (wVar 3))))
 w__law_add_L12)
def w__law_add_L6 : WS := (wSeq (wIf (wAndD (wTest (wBin fEq (wIx (wVar 1) (wC (.int 0))) (wIx (wVar 2) (wC (.int 0))))) (wTest (wBin fEq (wBin fMod (wUn fInt (wBin fAdd (wIx (wVar 1) (wC (.int 1))) (wIx (wVar 2) (wC (.int 1))))) (wVar 3)) (wC (.int 0)))))
 (wRet (wC .none))
 wNx)
 w__law_add_L8)
def w__law_add_L4 : WS := (wSeq (wIf (wTest (wIsN (wVar 2)))
 (wRet (wVar 1))
 wNx)
 w__law_add_L6)
def w__law_add : WS := (wSeq (wAsg (wVar 0) (gT 3 (gsCons (gN 3) (gsCons (gN 4) (gsCons (gN 5) gsNil)))))
 (wSeq (wIf (wTest (wIsN (wVar 1)))
 (wRet (wVar 2))
 wNx)
 w__law_add_L4))
theorem add_eqv (x y u v : Int) : PyData.eqv (.tuple [.int x, .int y]) (.tuple [.int u, .int v]) = decide (x = u ∧ y = v) := by
  by_cases h : x = u ∧ y = v
  · obtain ⟨rfl, rfl⟩ := h
    rw [decide_eq_true ⟨rfl, rfl⟩]
    exact eqv_self (pl_dtup 0 [x, y])
  · rw [decide_eq_false h]
    exact eqv_ne (pl_dtup 0 [x, y]) (pl_dtup 0 [u, v]) fun z => h (by injection z with z; injection z with z1 z; injection z with z2 _; injection z1 with z1; injection z2 with z2; exact ⟨z1, z2⟩)
theorem add_L12 {p a b x1 y1 x2 y2 m : Int} {Q : Rt → Prop} {t7 : Option Sl} (p0 : 0 < p) (m0 : 0 ≤ m) (m1 : m < 2 ^ 62) (hq : Q (.v (MC.dpt (some (MC.addM p m x1 y1 x2))))) :
    w__law_add_L12 { nx := fun _ => Q (.v .none), rt := Q } [some (.v (.tuple [.int p, .int a, .int b])), some (.v (.tuple [.int x1, .int y1])), some (.v (.tuple [.int x2, .int y2])), some (.v (.int p)), some (.v (.int a)), some (.v (.int b)), some (.v (.int m)), t7] := by
  have mb : ∀ z, CMul m z := fun z => .inl ⟨by omega, by omega⟩
  exact ⟨mb _, _, rfl, _, rfl, p0, _, rfl, mb _, _, rfl, p0, rfl, lk rfl, hq⟩
theorem mf__law_add : ∀ as Q, as.length = 3 → M__law_add as Q → w__law_add { nx := fun _ => Q (.v .none), rt := Q } (stE as 5) := by
  rintro as Q _ ⟨p, a, b, P, R, rfl, c, p30, h1, h2, hq⟩
  have p5 := c.p5
  have p0 : 0 < p := by omega
  refine ⟨rfl, rfl, ?_⟩
  cases P with
  | none => exact wtrue hq
  | some q =>
    obtain ⟨x1, y1⟩ := q
    refine wfalse (onNx ?_)
    cases R with
    | none => exact wtrue hq
    | some r =>
      obtain ⟨x2, y2⟩ := r
      refine wfalse (onNx ⟨_, rfl, _, rfl, decide ((y1 + y2) % p = 0), fun h => ⟨_, rfl, _, rfl, p0, rfl⟩, fun h => ?_, fun h => onNx ?_⟩)
      · have h' : (decide (x1 = x2) && decide ((y1 + y2) % p = 0)) = true := h
        rw [Bool.and_eq_true, decide_eq_true_iff, decide_eq_true_iff] at h'
        have e : MC.addP p a (some (x1, y1)) (some (x2, y2)) = none := if_pos h'
        rw [e] at hq
        exact hq
      · have h' : (decide (x1 = x2) && decide ((y1 + y2) % p = 0)) = false := h
        have hn : ¬ (x1 = x2 ∧ (y1 + y2) % p = 0) := fun z => by
          rw [decide_eq_true z.1, decide_eq_true z.2] at h'
          cases h'
        have e : MC.addP p a (some (x1, y1)) (some (x2, y2)) = some (MC.addM p (MC.slp p a x1 y1 x2 y2) x1 y1 x2) := if_neg hn
        rw [e] at hq
        have sb : 0 ≤ MC.slp p a x1 y1 x2 y2 ∧ MC.slp p a x1 y1 x2 y2 < p := by
          unfold MC.slp
          split <;> exact ⟨Int.emod_nonneg _ (by omega), Int.emod_lt_of_pos _ p0⟩
        have b1 : ∀ z, CMul z x1 := fun z => .inr ⟨by have := h1.1; omega, by have := h1.2.1; omega⟩
        refine ⟨shp (pl_dtup 0 [x1, y1]), shp (pl_dtup 0 [x2, y2]), fun h3 => ?_, fun h3 => ?_⟩
        · have h3 : PyData.eqv (.tuple [.int x1, .int y1]) (.tuple [.int x2, .int y2]) = true := h3
          rw [add_eqv, decide_eq_true_iff] at h3
          obtain ⟨hx, hy⟩ := h3
          have hy2 : 2 * y1 % p ≠ 0 := MC.two_y c.hp fun z => hn ⟨hx, by rw [← hy]; exact z⟩
          refine ⟨_, rfl, .inl ⟨by decide, by decide⟩, _, rfl, b1 _, _, rfl, .inl ⟨by decide, by decide⟩, rfl, rfl, p, _, rfl, p0, by omega, fun t t0 t1 ht => ?_⟩
          rw [MC.inv_of_gcd c.hp hy2 t0 t1 ht]
          have ib := MC.inv_bd (p := p) (v := 2 * y1) p0
          have e2 : MC.slp p a x1 y1 x2 y2 = (3 * x1 * x1 + a) * MC.inv p (2 * y1) % p := by
            have : MC.slp p a x1 y1 x2 y2 = (3 * x1 * x1 + a) * MC.inv p (2 * y1 % p) % p := if_pos hx
            rw [this, MC.inv_mod]
          rw [e2] at hq sb
          exact ⟨.inr ⟨by omega, by omega⟩, p0, add_L12 p0 sb.1 (by omega) hq⟩
        · have h3 : PyData.eqv (.tuple [.int x1, .int y1]) (.tuple [.int x2, .int y2]) = false := h3
          rw [add_eqv, decide_eq_false_iff_not] at h3
          have hx : ¬ x1 = x2 := fun z => by
            subst z
            exact h3 ⟨rfl, MC.same_y c.hp h1 h2 fun z => hn ⟨rfl, z⟩⟩
          have hd := MC.sub_ne h1.1 h1.2.1 h2.1 h2.2.1 hx
          refine ⟨_, rfl, _, rfl, _, rfl, _, rfl, rfl, rfl, p, _, rfl, p0, by omega, fun t t0 t1 ht => ?_⟩
          rw [MC.inv_of_gcd c.hp hd t0 t1 ht]
          have ib := MC.inv_bd (p := p) (v := x2 - x1) p0
          have e2 : MC.slp p a x1 y1 x2 y2 = (y2 - y1) * MC.inv p (x2 - x1) % p := by
            have : MC.slp p a x1 y1 x2 y2 = (y2 - y1) * MC.inv p ((x2 - x1) % p) % p := if_neg hx
            rw [this, MC.inv_mod]
          rw [e2] at hq sb
          exact ⟨.inr ⟨by omega, by omega⟩, p0, add_L12 p0 sb.1 (by omega) hq⟩

theorem ok__law_add {f : Addr} {fd : FuncData} (F : Fun K "_law_add" "_law_add" s__law_add f fd) (h__law_inverse : Has P w K mg base okH 1 "_law_inverse" 2 M__law_inverse) (m_int : mg "int" = none)    : FnOk P w K mg base CX0 2 f fd ["curve", "one", "two"] (SpD K okH 3 M__law_add) :=
  def_ok F sc__law_add rfl (fun cdv A outer s H E hr =>
 (s_cons (s_asg (vs := [3, 4, 5]) (d_var 0) (g_tupN (g_cons (g_name 3 sc__law_add.nd) (g_cons (g_name 4 sc__law_add.nd) (g_cons (g_name 5 sc__law_add.nd) g_nil)))))
 (s_cons (s_if (t_isN (d_var 1))
 (s_one (s_ret (d_var 2)))
 s_nil)
 (s_cons (s_if (t_isN (d_var 2))
 (s_one (s_ret (d_var 1)))
 s_nil)
 (s_cons (s_if (t_w (w_and (t_eq hr (d_ix (d_b (d_var 1)) d_int) (d_ix (d_b (d_var 2)) d_int)) (w_and1 (t_eq hr (d_mod (d_intc m_int (d_add (d_ix (d_b (d_var 1)) d_int) (d_ix (d_b (d_var 2)) d_int))) (d_var 3)) d_int))))
 (s_one (s_ret d_non))
 s_nil)
 (s_cons (s_if (t_eq hr (d_var 1) (d_var 2))
 (s_one (s_set 6 sc__law_add.nd (d_mod (d_intc m_int (d_mul (d_add (d_mul (d_mul d_int (d_ix (d_b (d_var 1)) d_int)) (d_ix (d_b (d_var 1)) d_int)) (d_var 4)) (d_call h__law_inverse hr (by decide) (a_cons (d_var 3) (a_cons (d_mul d_int (d_ix (d_b (d_var 1)) d_int)) a_nil))))) (d_var 3))))
 (s_one (s_set 6 sc__law_add.nd (d_mod (d_intc m_int (d_mul (d_sub (d_ix (d_b (d_var 2)) d_int) (d_ix (d_b (d_var 1)) d_int)) (d_call h__law_inverse hr (by decide) (a_cons (d_var 3) (a_cons (d_sub (d_ix (d_b (d_var 2)) d_int) (d_ix (d_b (d_var 1)) d_int)) a_nil))))) (d_var 3)))))
 (s_cons (s_set 7 sc__law_add.nd (d_mod (d_intc m_int (d_sub (d_sub (d_mul (d_var 6) (d_var 6)) (d_ix (d_b (d_var 1)) d_int)) (d_ix (d_b (d_var 2)) d_int))) (d_var 3)))
 (s_one (s_ret (d_tup (a_cons (d_var 7) (a_cons (d_mod (d_intc m_int (d_sub (d_mul (d_var 6) (d_sub (d_ix (d_b (d_var 1)) d_int) (d_var 7))) (d_ix (d_b (d_var 1)) d_int))) (d_var 3)) a_nil)))))))))))) mf__law_add
/-! ### _law_mul -/
abbrev s__law_mul : Stmt := topS 34
theorem sc__law_mul : FnScope ["curve", "n", "point", "found", "here", "turn"] ["curve", "n", "point"] (defScope s__law_mul) := ⟨rfl, rfl, rfl, by decide +kernel, rfl, by decide +kernel, by decide +kernel⟩
def M__law_mul : WM := fun as Q => ∃ (p a b z : Int) (P : MC.Pt), as = [.v (.tuple [.int p, .int a, .int b]), .v (.int z), .v (MC.dpt P)] ∧ MC.Cu p a b ∧ MC.Ns p a b ∧ p < 2 ^ 30 ∧ MC.On p a b P ∧ 0 ≤ z ∧ z < 2 ^ 69 ∧ Q (.v (MC.dpt (MC.mulP p a P z.toNat)))

def w__law_mul_L8 : WS := (wSeq (wSet 4 (wCallP 3 M__law_add (wCons (wVar 0) (wCons (wVar 4) (wCons (wVar 4) wNil)))))
 (wSet 1 (wBin fDiv (wVar 1) (wC (.int 2)))))
def w__law_mul_L6 : WS := (wSeq (wIf (wTest (wBin fEq (wBin fMod (wUn fInt (wVar 1)) (wC (.int 2))) (wC (.int 1))))
 (wSet 3 (wCallP 3 M__law_add (wCons (wVar 0) (wCons (wVar 3) (wCons (wVar 4) wNil)))))
 wNx)
 w__law_mul_L8)
def w__law_mul_L10 : WS := (wRet (wVar 3))
def w__law_mul : WS := (wSeq (wSet 3 (wC .none))
 (wSeq (wSet 4 (wVar 2))
 (wSeq (wFor (iR1 (wC (.int 70))) (gN 5)
 (wSeq (wIf (wTest (wBin fEq (wVar 1) (wC (.int 0))))
 wBk
 wNx)
 w__law_mul_L6))
 w__law_mul_L10)))
theorem mf__law_mul : ∀ as Q, as.length = 3 → M__law_mul as Q → w__law_mul { nx := fun _ => Q (.v .none), rt := Q } (stE as 3) := by
  rintro as Q _ ⟨p, a, b, z, P, rfl, c, hd, p1, hP, z0, hz1, hq⟩
  have p5 := c.p5
  obtain ⟨n, rfl⟩ : ∃ n : Nat, z = n := ⟨z.toNat, by omega⟩
  rw [Int.toNat_natCast] at hq
  have hn : n < 2 ^ 69 := by omega
  refine ⟨⟨by decide, by decide⟩, fun k env => ∃ t5, env = [some (.v (.tuple [.int p, .int a, .int b])), some (.v (.int ((n / 2 ^ k : Nat) : Int))), some (.v (MC.dpt P)), some (.v (MC.dpt (MC.mulP p a P (n % 2 ^ k)))), some (.v (MC.dpt (MC.mulP p a P (2 ^ k)))), t5], ⟨none, ?_⟩, ?_, ?_⟩
  · have e1 : n % 2 ^ 0 = 0 := by rw [Nat.pow_zero, Nat.mod_one]
    have e2 : n / 2 ^ 0 = n := by rw [Nat.pow_zero, Nat.div_one]
    have e3 : MC.mulP p a P (2 ^ 0) = P := rfl
    rw [e1, e2, e3]
    rfl
  · rintro k d env hdk ⟨t5, rfl⟩
    obtain ⟨hk, rfl⟩ := rng_at hdk
    have hF := hP.mul c (n % 2 ^ k)
    have hH := hP.mul c (2 ^ k)
    refine ⟨fun h => ?_, fun h => onNx ?_⟩
    · have h : ((n / 2 ^ k : Nat) : Int) = 0 := of_decide_eq_true h
      have h0 : n / 2 ^ k = 0 := by omega
      have hl : n < 2 ^ k := by
        refine Nat.not_le.mp fun z => ?_
        have := Nat.div_pos z (Nat.pow_pos (by decide))
        omega
      rw [Nat.mod_eq_of_lt hl]
      exact onBk hq
    · have ms : n % 2 ^ (k + 1) = n % 2 ^ k + 2 ^ k * (n / 2 ^ k % 2) := Nat.mod_pow_succ
      have go : ∀ (W' : WEnds) (t5 : Option Sl), W'.nx [some (.v (.tuple [.int p, .int a, .int b])), some (.v (.int ((n / 2 ^ (k + 1) : Nat) : Int))), some (.v (MC.dpt P)), some (.v (MC.dpt (MC.mulP p a P (n % 2 ^ (k + 1))))), some (.v (MC.dpt (MC.mulP p a P (2 ^ (k + 1))))), t5] →
          w__law_mul_L8 W' [some (.v (.tuple [.int p, .int a, .int b])), some (.v (.int ((n / 2 ^ k : Nat) : Int))), some (.v (MC.dpt P)), some (.v (MC.dpt (MC.mulP p a P (n % 2 ^ (k + 1))))), some (.v (MC.dpt (MC.mulP p a P (2 ^ k)))), t5] := fun W' t5 h => by
        have e1 : 2 ^ (k + 1) = 2 ^ k + 2 ^ k := by rw [Nat.pow_succ]; omega
        have e2 : n / 2 ^ (k + 1) = n / 2 ^ k / 2 := by rw [Nat.pow_succ, Nat.div_div_eq_div_mul]
        rw [e2, Int.natCast_ediv] at h
        have e3 : MC.mulP p a P (2 ^ (k + 1)) = MC.addP p a (MC.mulP p a P (2 ^ k)) (MC.mulP p a P (2 ^ k)) := by rw [e1, MC.mul_add c hd hP]
        rw [e3] at h
        exact ⟨rfl, rfl, p, a, b, _, _, rfl, c, p1, hH, hH, ⟨by decide, by decide⟩, h⟩
      by_cases hb : n / 2 ^ k % 2 = 1
      · refine ⟨by decide, fun _ => ⟨rfl, rfl, p, a, b, _, _, rfl, c, p1, hF, hH, ?_⟩, fun h => ?_⟩
        · rw [hb, Nat.mul_one] at ms
          have e : MC.addP p a (MC.mulP p a P (n % 2 ^ k)) (MC.mulP p a P (2 ^ k)) = MC.mulP p a P (n % 2 ^ (k + 1)) := by rw [ms, MC.mul_add c hd hP]
          rw [e]
          exact go _ _ ⟨_, rfl⟩
        · have h := of_decide_eq_false h
          omega
      · refine ⟨by decide, fun h => ?_, fun _ => onNx ?_⟩
        · have h := of_decide_eq_true h
          omega
        · have hz : n / 2 ^ k % 2 = 0 := by omega
          rw [hz, Nat.mul_zero] at ms
          have ms : n % 2 ^ k = n % 2 ^ (k + 1) := by rw [ms]; rfl
          rw [ms]
          exact go _ _ ⟨_, rfl⟩
  · rintro env ⟨t5, rfl⟩
    rw [rng_len]
    have : n % 2 ^ (70 : Int).toNat = n := Nat.mod_eq_of_lt (Nat.lt_trans hn (by decide))
    rw [this]
    exact hq

theorem ok__law_mul {f : Addr} {fd : FuncData} (F : Fun K "_law_mul" "_law_mul" s__law_mul f fd) (h__law_add : Has P w K mg base okH 2 "_law_add" 3 M__law_add) (m_int : mg "int" = none) (m_range : mg "range" = none)    : FnOk P w K mg base CX0 3 f fd ["curve", "n", "point"] (SpD K okH 3 M__law_mul) :=
  def_ok F sc__law_mul rfl (fun cdv A outer s H E hr =>
 (s_cons (s_set 3 sc__law_mul.nd d_non)
 (s_cons (s_set 4 sc__law_mul.nd (d_var 2))
 (s_cons (s_for (vs := [5]) PassesOwn.never rfl (i_r1 m_range d_int) (g_name 5 sc__law_mul.nd)
 (s_cons (s_if (t_eq hr (d_var 1) d_int)
 (s_one s_break)
 s_nil)
 (s_cons (s_if (t_eq hr (d_mod (d_intc m_int (d_var 1)) d_int) d_int)
 (s_one (s_set 3 sc__law_mul.nd (d_call h__law_add hr (by decide) (a_cons (d_var 0) (a_cons (d_var 3) (a_cons (d_var 4) a_nil))))))
 s_nil)
 (s_cons (s_set 4 sc__law_mul.nd (d_call h__law_add hr (by decide) (a_cons (d_var 0) (a_cons (d_var 4) (a_cons (d_var 4) a_nil)))))
 (s_one (s_set 1 sc__law_mul.nd (d_div (d_var 1) d_int)))))))
 (s_one (s_ret (d_var 3))))))) mf__law_mul
/-! ### _law_points -/
abbrev s__law_points : Stmt := topS 35
theorem sc__law_points : FnScope ["curve", "p", "a", "b", "roots", "y", "square", "found", "x"] ["curve"] (defScope s__law_points) := ⟨rfl, rfl, rfl, by decide +kernel, rfl, by decide +kernel, by decide +kernel⟩
def M__law_points : WM := fun as Q => ∃ p a b : Int, as = [.v (.tuple [.int p, .int a, .int b])] ∧ 0 < p ∧ p < 900 ∧ (0 ≤ a ∧ a < p) ∧ Q (.v (.list ((MC.ptsK p a b p.toNat).map MC.dpt)))

def w__law_points : WS := (wSeq (wAsg (wVar 0) (gT 3 (gsCons (gN 1) (gsCons (gN 2) (gsCons (gN 3) gsNil)))))
 (wSeq (wSetD 4)
 (wSeq (wFor (iR1 (wVar 1)) (gN 5)
 (wSeq (wSet 6 (wBin fMod (wUn fInt (wBin fMul (wVar 5) (wVar 5))) (wVar 1)))
 (wDPut 4 (wVar 6) (wFz (wCat (wDGet2 4 (wVar 6) (wFz (wLstP wNil))) (wFz (wLstP (wCons (wVar 5) wNil))))))))
 (wSeq (wSet 7 (wFz (wLstP (wCons (wC .none) wNil))))
 (wSeq (wFor (iR1 (wVar 1)) (gN 8)
 (wSet 7 (wFz (wCat (wVar 7) (wFz (wLc (iS (wDGet2 4 (wBin fMod (wUn fInt (wBin fAdd (wBin fAdd (wBin fMul (wBin fMul (wVar 8) (wVar 8)) (wVar 8)) (wBin fMul (wVar 2) (wVar 8))) (wVar 3))) (wVar 1)) (wFz (wLstP wNil)))) (gN 5) wYes (wTupP (wCons (wVar 8) (wCons (wVar 5) wNil))) [5]))))))
 (wRet (wVar 7)))))))
theorem mf__law_points : ∀ as Q, as.length = 1 → M__law_points as Q → w__law_points { nx := fun _ => Q (.v .none), rt := Q } (stE as 8) := by
  rintro as Q _ ⟨p, a, b, rfl, p0, p1, ha, hq⟩
  refine ⟨rfl, rfl, ⟨by omega, by omega⟩, fun k env => ∃ (kvs : List (Key × D)) (t3 t4 : Option Sl), env = [some (.v (.tuple [.int p, .int a, .int b])), some (.v (.int p)), some (.v (.int a)), some (.v (.int b)), some (.dct kvs), t3, t4, none, none] ∧ Val t3 ∧ kvs.length ≤ k ∧ ∀ s : Int, (dAt kvs (.inl s)).getD (.list []) = .list (dints (MC.rootsK p k s)), ⟨[], none, none, rfl, .inl rfl, Nat.le_refl _, fun s => rfl⟩, ?_, ?_⟩
  · rintro k d env hd ⟨kvs, t3, t4, rfl, h3, hl, hr⟩
    obtain ⟨hk, rfl⟩ := rng_at hd
    obtain ⟨y, hy⟩ : ∃ y : Int, y = 0 + (k : Int) := ⟨_, rfl⟩
    have rl := MC.rootsK_len (p := p) k (y * y % p)
    rw [← hy]
    refine ⟨.inl ⟨by omega, by omega⟩, p0, rfl, lk rfl, .inl (y * y % p), _, rfl, hr _, rfl, lk rfl, by rw [dints_len]; show _ + 1 < _; omega, _, rfl, by omega, ?_⟩
    refine ⟨dSet kvs (.inl (y * y % p)) (.list (dints (MC.rootsK p k (y * y % p)) ++ [.int y])), some (.v (.int y)), some (.v (.int (y * y % p))), rfl, .inr ⟨_, rfl⟩, by have := dSet_len kvs (.inl (y * y % p)) (.list (dints (MC.rootsK p k (y * y % p)) ++ [.int y])); omega, fun s => ?_⟩
    rw [dAt_set, MC.rootsK_succ]
    have ey : y = (k : Int) := by omega
    rw [← ey]
    by_cases hs : y * y % p = s
    · rw [if_pos hs, hs, if_pos rfl, dints_snoc]
      rfl
    · rw [if_neg hs, if_neg fun z => hs (by injection z with z; exact z.symm)]
      exact hr s
  rintro env ⟨kvs, t3, t4, rfl, h3, hl, hr⟩
  rw [rng_len] at hl hr
  refine ⟨rfl, lk rfl, ⟨by omega, by omega⟩, fun k env => ∃ (t6 : Option Sl), env = [some (.v (.tuple [.int p, .int a, .int b])), some (.v (.int p)), some (.v (.int a)), some (.v (.int b)), some (.dct kvs), t3, t4, some (.v (.list ((MC.ptsK p a b k).map MC.dpt))), t6] ∧ (MC.ptsK p a b k).length ≤ 1 + 900 * k, ⟨none, rfl, Nat.le_refl _⟩, ?_, ?_⟩
  · rintro k d env hd ⟨t6, rfl, hl'⟩
    obtain ⟨hk, rfl⟩ := rng_at hd
    obtain ⟨x, hx⟩ : ∃ x : Int, x = 0 + (k : Int) := ⟨_, rfl⟩
    have ex : x = (k : Int) := by omega
    rw [← hx]
    have rl := MC.rootsK_len (p := p) p.toNat (MC.side p a b x)
    have cx : ∀ z, CMul z x := fun z => .inr ⟨by omega, by omega⟩
    refine ⟨cx _, cx _, cx _, p0, rfl, lk rfl, .inl (MC.side p a b x), _, rfl, hr _, by rw [dints_len]; omega, ⟨valN h3, trivial⟩, fun j acc => acc = ((MC.rootsK p p.toNat (MC.side p a b x)).take j).map fun y => MC.dpt (some (x, y)), rfl, fun j d acc hd ha => ?_, fun acc ha => ?_⟩
    · obtain ⟨y, hy, rfl⟩ := dints_at hd
      refine wtrue ⟨rfl, lk rfl, ?_⟩
      show acc ++ [MC.dpt (some (x, y))] = _
      rw [ha, List.take_add_one, hy, List.map_append]
      rfl
    · rw [dints_len, List.take_length] at ha
      subst ha
      refine ⟨by rw [List.length_map, List.length_map]; omega, some (.v (.int x)), ?_, ?_⟩
      · rw [MC.ptsK_succ, List.map_append, List.map_map, ← ex]
        rfl
      · rw [MC.ptsK_succ, List.length_append, List.length_map, ← ex]
        omega
  · rintro env ⟨t6, rfl, hl'⟩
    rw [rng_len]
    exact hq

theorem ok__law_points {f : Addr} {fd : FuncData} (F : Fun K "_law_points" "_law_points" s__law_points f fd)  (m_int : mg "int" = none) (m_range : mg "range" = none)    : FnOk P w K mg base CX0 1 f fd ["curve"] (SpD K okH 1 M__law_points) :=
  def_ok F sc__law_points rfl (fun cdv A outer s H E hr =>
 (s_cons (s_asg (vs := [1, 2, 3]) (d_var 0) (g_tupN (g_cons (g_name 1 sc__law_points.nd) (g_cons (g_name 2 sc__law_points.nd) (g_cons (g_name 3 sc__law_points.nd) g_nil)))))
 (s_cons (s_setD 4 sc__law_points.nd)
 (s_cons (s_for (vs := [5]) PassesOwn.never rfl (i_r1 m_range (d_var 1)) (g_name 5 sc__law_points.nd)
 (s_cons (s_set 6 sc__law_points.nd (d_mod (d_intc m_int (d_mul (d_var 5) (d_var 5))) (d_var 1)))
 (s_one (s_dput 4 hr (d_fz (l_cat (d_b (d_dget2 4 hr (d_var 6) (d_fz (l_lst a_nil)))) (d_b (d_fz (l_lst (a_cons (d_var 5) a_nil)))))) (d_var 6)))))
 (s_cons (s_set 7 sc__law_points.nd (d_fz (l_lst (a_cons d_non a_nil))))
 (s_cons (s_for (vs := [8]) PassesOwn.never rfl (i_r1 m_range (d_var 1)) (g_name 8 sc__law_points.nd)
 (s_one (s_set 7 sc__law_points.nd (d_fz (l_cat (d_b (d_var 7)) (d_b (d_fz (l_lc (own := [("y", 5)]) rfl sc__law_points.nd (i_seq (d_dget2 4 hr (d_mod (d_intc m_int (d_add (d_add (d_mul (d_mul (d_var 8) (d_var 8)) (d_var 8)) (d_mul (d_var 2) (d_var 8))) (d_var 3))) (d_var 1)) (d_fz (l_lst a_nil)))) (blkOk_by (N := ["curve", "p", "a", "b", "roots", "y", "square", "found", "x"]) (sc := defScope s__law_points) (by decide +kernel)) ⟨(gName 5), fun _ _ _ _ _ => (pg_name (i := 5) sc__law_points.nd rfl (Or.inl rfl)), (sg_name (i := 5) (by decide))⟩ ⟨tYes, fun _ _ _ _ _ => pts_nil, st_yes⟩ ⟨(tTup (tCons (tVar 8) (tCons (tVar 5) tNil))), fun _ _ _ _ _ => (pe_tup (pa_cons (pv 8) (pa_cons (pv 5) pa_nil))), (snd_tup (snd_cons snd_var (snd_cons snd_var snd_nil)))⟩))))))))
 (s_one (s_ret (d_var 7))))))))) mf__law_points
/-! ### _law_gcd -/
abbrev s__law_gcd : Stmt := topS 38
theorem sc__law_gcd : FnScope ["x", "y", "turn"] ["x", "y"] (defScope s__law_gcd) := ⟨rfl, rfl, rfl, by decide +kernel, rfl, by decide +kernel, by decide +kernel⟩
def M__law_gcd : WM := fun as Q => ∃ x y : Int, as = [.v (.int x), .v (.int y)] ∧ 0 < x ∧ 0 ≤ y ∧ y < 2 ^ 64 ∧ Q (.v (.int (Int.gcd x y : Nat)))

def w__law_gcd : WS := (wSeq (wFor (iR1 (wC (.int 200))) (gN 2)
 (wSeq (wIf (wTest (wBin fEq (wVar 1) (wC (.int 0))))
 wBk
 wNx)
 (wPar 0 1 (wCons (wVar 1) (wCons (wBin fMod (wUn fInt (wVar 0)) (wVar 1)) wNil)))))
 (wRet (wVar 0)))
theorem gcd_half {x y : Int} (hy : 0 < y) (h : y < x) : 2 * (x % y) ≤ x := by
  have h1 := Int.emod_lt_of_pos x hy
  have h2 := Int.emod_def x y
  have h3 : 1 ≤ x / y := Int.le_ediv_of_mul_le hy (show 1 * y ≤ x by omega)
  have : y * 1 ≤ y * (x / y) := Int.mul_le_mul_of_nonneg_left h3 (by omega)
  omega
theorem mf__law_gcd : ∀ as Q, as.length = 2 → M__law_gcd as Q → w__law_gcd { nx := fun _ => Q (.v .none), rt := Q } (stE as 1) := by
  rintro as Q _ ⟨x, y, rfl, x0, y0, y1, hq⟩
  refine ⟨⟨by decide, by decide⟩, fun k env => ∃ a b t, env = [some (.v (.int a)), some (.v (.int b)), t] ∧ 0 < a ∧ 0 ≤ b ∧ Int.gcd a b = Int.gcd x y ∧ ((k = 0 ∧ b < 2 ^ 64) ∨ (0 < k ∧ b < a ∧ a * b * 2 ^ (k - 1) < 2 ^ 128)), ⟨x, y, none, rfl, x0, y0, rfl, .inl ⟨rfl, y1⟩⟩, ?_, ?_⟩
  · rintro i d env hd ⟨a, b, t, rfl, a0, b0, hg, hb⟩
    obtain ⟨hi, rfl⟩ := rng_at hd
    refine ⟨fun h => ?_, fun h => ?_⟩
    · have h0 : b = 0 := of_decide_eq_true h
      subst h0
      rw [Int.gcd_zero_right] at hg
      show Q (.v (.int a))
      rw [← hg] at hq
      rwa [show ((a.natAbs : Nat) : Int) = a by omega] at hq
    · have h0 : ¬ b = 0 := of_decide_eq_false h
      have m0 : 0 ≤ a % b := Int.emod_nonneg _ h0
      have m1 : a % b < b := Int.emod_lt_of_pos _ (by omega)
      refine ⟨by omega, b, a % b, some (.v (.int (0 + (i : Int)))), rfl, by omega, m0, by rw [MB.gcd_mod_r, hg], .inr ⟨by omega, m1, ?_⟩⟩
      rw [show i + 1 - 1 = i from rfl]
      rcases hb with ⟨rfl, hb⟩ | ⟨hk, hba, hb⟩
      · rw [Int.pow_zero, Int.mul_one]
        have := Int.mul_le_mul (a := b) (b := a % b) (c := 2 ^ 64 - 1) (d := 2 ^ 64 - 1) (by omega) (by omega) m0 (by decide)
        omega
      · have h2 := gcd_half (x := a) (y := b) (by omega) hba
        obtain ⟨j, rfl⟩ : ∃ j, i = j + 1 := ⟨i - 1, by omega⟩
        rw [Nat.add_sub_cancel] at hb
        have h3 : b * (2 * (a % b)) ≤ b * a := Int.mul_le_mul_of_nonneg_left h2 b0
        have hp : (0 : Int) ≤ 2 ^ j := Int.le_of_lt (Int.pow_pos (by decide))
        have h4 := Int.mul_le_mul_of_nonneg_right h3 hp
        rw [Int.pow_succ]
        have e1 : b * (a % b) * (2 ^ j * 2) = b * (2 * (a % b)) * 2 ^ j := by grind
        have e2 : a * b * 2 ^ j = b * a * 2 ^ j := by grind
        omega
  · rintro env ⟨a, b, t, rfl, a0, b0, hg, hb⟩
    rw [rng_len] at hb
    have : b = 0 := by
      rcases hb with ⟨h, _⟩ | ⟨_, hba, hb⟩
      · exact absurd h (by decide)
      · apply Int.le_antisymm
        · apply Int.not_lt.mp
          intro z
          have : 1 * 1 ≤ a * b := Int.mul_le_mul (by omega) (by omega) (by decide) (by omega)
          have := Int.mul_le_mul_of_nonneg_right (c := 2 ^ (Int.toNat 200 - 1)) this (by decide)
          have e : (1 * 1 * 2 ^ (Int.toNat 200 - 1) : Int) = 2 ^ 199 := by decide
          omega
        · exact b0
    subst this
    rw [Int.gcd_zero_right] at hg
    show Q (.v (.int a))
    rw [← hg] at hq
    rwa [show ((a.natAbs : Nat) : Int) = a by omega] at hq

theorem ok__law_gcd {f : Addr} {fd : FuncData} (F : Fun K "_law_gcd" "_law_gcd" s__law_gcd f fd)  (m_int : mg "int" = none) (m_range : mg "range" = none)    : FnOk P w K mg base CX0 1 f fd ["x", "y"] (SpD K okH 2 M__law_gcd) :=
  def_ok F sc__law_gcd rfl (fun cdv A outer s H E hr =>
 (s_cons (s_for (vs := [2]) PassesOwn.never rfl (i_r1 m_range d_int) (g_name 2 sc__law_gcd.nd)
 (s_cons (s_if (t_eq hr (d_var 1) d_int)
 (s_one s_break)
 s_nil)
 (s_one (s_par 0 1 rfl sc__law_gcd.nd (by decide) (a_cons (d_var 1) (a_cons (d_mod (d_intc m_int (d_var 0)) (d_var 1)) a_nil))))))
 (s_one (s_ret (d_var 0))))) mf__law_gcd
/-! ### _law_orders -/
abbrev s__law_orders : Stmt := topS 37
theorem sc__law_orders : FnScope ["curve", "points", "found", "point", "row", "here", "turn", "n", "k"] ["curve", "points"] (defScope s__law_orders) := ⟨rfl, rfl, rfl, by decide +kernel, rfl, by decide +kernel, by decide +kernel⟩
/-- each point's order in a dict -/
def Ords (p a b : Int) (kvs : List (PySem.NestedKey × D)) : Prop := ∀ P, MC.On p a b P → ∃ n : Nat, MC.IsOrd p a P n ∧ mAt kvs (MC.kpt P) = some (.int n)
def M__law_orders : WM := fun as Q => ∃ p a b : Int, as = [.v (.tuple [.int p, .int a, .int b]), .v (.list ((MC.ptsK p a b p.toNat).map MC.dpt))] ∧ MC.Cu p a b ∧ MC.Ns p a b ∧ p < 400 ∧ (MC.ptsK p a b p.toNat).length < 900 ∧ ∀ kvs, Ords p a b kvs → Q (.v (dFrz kvs))

def w__law_orders_L10 : WS := (wSeq (wApp 4 (wVar 5))
 (wSet 5 (wCallP 3 M__law_add (wCons (wVar 0) (wCons (wVar 5) (wCons (wVar 3) wNil))))))
def w__law_orders_L12 : WS := (wSeq (wSet 7 (wLen (wBor 4)))
 (wFor (iR1 (wVar 7)) (gN 8)
 (wIf (wTest (wMNin 2 (wIx (wBor 4) (wVar 8))))
 (wMPut 2 (wIx (wBor 4) (wVar 8)) (wBin fDiv (wVar 7) (wCallP 2 M__law_gcd (wCons (wVar 7) (wCons (wVar 8) wNil)))))
 wNx)))
def w__law_orders_L5 : WS := (wSeq (wSetO 4 (wLstP (wCons (wC .none) wNil)))
 (wSeq (wSet 5 (wVar 3))
 (wSeq (wFor (iR1 (wLen (wVar 1))) (gN 6)
 (wSeq (wIf (wTest (wIsN (wVar 5)))
 wBk
 wNx)
 w__law_orders_L10))
 w__law_orders_L12)))
def w__law_orders_L16 : WS := (wRetM 2)
def w__law_orders : WS := (wSeq (wSetM 2)
 (wSeq (wFor (iS (wVar 1)) (gN 3)
 (wSeq (wIf (wTest (wMIn 2 (wVar 3)))
 wCt
 wNx)
 w__law_orders_L5))
 w__law_orders_L16))
/-- so far: what is there is right -/
def OrdP (p a b : Int) (kvs : List (PySem.NestedKey × D)) : Prop := ∀ P, MC.On p a b P → mAt kvs (MC.kpt P) = none ∨ ∃ n : Nat, MC.IsOrd p a P n ∧ mAt kvs (MC.kpt P) = some (.int n)
def has (kvs : List (PySem.NestedKey × D)) (P : MC.Pt) : Prop := mAt kvs (MC.kpt P) ≠ none
theorem OrdP.put {p a b : Int} {kvs : List (PySem.NestedKey × D)} (h : OrdP p a b kvs) {R : MC.Pt} {n : Nat} (hn : MC.IsOrd p a R n) : OrdP p a b (mSet kvs (MC.kpt R) (.int n)) := fun P hP => by
  rw [mAt_set]
  by_cases e : MC.kpt P = MC.kpt R
  · rw [if_pos e, MC.kpt_inj e]
    exact .inr ⟨n, hn, rfl⟩
  · rw [if_neg e]
    exact h P hP
theorem has_put {kvs : List (PySem.NestedKey × D)} {R P : MC.Pt} {d : D} (h : has kvs P) : has (mSet kvs (MC.kpt R) d) P := by
  unfold has at *
  rw [mAt_set]
  split
  · exact fun z => (by cases z)
  · exact h
theorem has_self {kvs : List (PySem.NestedKey × D)} {R : MC.Pt} {d : D} : has (mSet kvs (MC.kpt R) d) R := by
  unfold has
  rw [mAt_set, if_pos rfl]
  exact fun z => (by cases z)
abbrev mulL (p a : Int) (P : MC.Pt) (n : Nat) : List D := (List.range n).map fun k => MC.dpt (MC.mulP p a P k)
theorem mulL_succ (p a : Int) (P : MC.Pt) (n : Nat) : mulL p a P n ++ [MC.dpt (MC.mulP p a P n)] = mulL p a P (n + 1) := by
  show _ = (List.range (n + 1)).map _
  rw [List.range_succ, List.map_append]
  rfl
theorem mulL_at {p a : Int} {P : MC.Pt} {n k : Nat} (h : k < n) {z : Int} (e : z = k) : atI (mulL p a P n) z = some (MC.dpt (MC.mulP p a P k)) := by
  refine atI_nats e ?_
  rw [List.getElem?_map, List.getElem?_range h]
  rfl
section
variable {p a b : Int} {Q : Rt → Prop}
abbrev EO (p a b : Int) (L : List D) (kvs : List (PySem.NestedKey × D)) (t3 t4 t5 t6 t7 t8 : Option Sl) : EnvD := [some (.v (.tuple [.int p, .int a, .int b])), some (.v (.list L)), some (.dcm kvs), t3, t4, t5, t6, t7, t8]
theorem orders_L12 {W : WEnds} {L : List D} {kvs : List (PySem.NestedKey × D)} {P : MC.Pt} {n : Nat} {t5 t6 t7 t8 : Option Sl} (c : MC.Cu p a b) (hd : MC.Ns p a b) (hP : MC.On p a b P) (ho : MC.IsOrd p a P n) (n1 : n < 1000) (hk : OrdP p a b kvs) (hl : kvs.length < 900000)
    (hW : ∀ kvs' t7 t8, OrdP p a b kvs' → has kvs' P → (∀ R, has kvs R → has kvs' R) → kvs'.length ≤ kvs.length + n → W.nx (EO p a b L kvs' (some (.v (MC.dpt P))) (some (.own (mulL p a P n))) t5 t6 t7 t8)) :
    w__law_orders_L12 W (EO p a b L kvs (some (.v (MC.dpt P))) (some (.own (mulL p a P n))) t5 t6 t7 t8) := by
  have n0 := ho.pos
  have ll : (mulL p a P n).length = n := by rw [List.length_map, List.length_range]
  show w__law_orders_L12 W _
  refine ⟨⟨by omega, by omega⟩, fun k env => ∃ (kvs' : List (PySem.NestedKey × D)) (t8 : Option Sl), env = EO p a b L kvs' (some (.v (MC.dpt P))) (some (.own (mulL p a P n))) t5 t6 (some (.v (.int n))) t8 ∧ OrdP p a b kvs' ∧ (∀ j, j < k → has kvs' (MC.mulP p a P j)) ∧ (∀ R, has kvs R → has kvs' R) ∧ kvs'.length ≤ kvs.length + k, ⟨kvs, t8, by rw [ll]; rfl, hk, fun j hj => absurd hj (Nat.not_lt_zero j), fun _ z => z, Nat.le_refl _⟩, ?_, ?_⟩
  · rintro k d env hdk ⟨kvs', t8, rfl, hk', hh, hg, hl'⟩
    obtain ⟨hkn, rfl⟩ := rng_at hdk
    have hkn : k < n := by omega
    have hm := ho.mul c hd hP k
    cases e : (mAt kvs' (MC.kpt (MC.mulP p a P k))).isSome with
    | true =>
      refine ⟨_, mulL_at hkn (by omega), _, true, MC.kpt_key _, e, fun z => (by cases z), fun _ => onNx ⟨kvs', _, rfl, hk', fun j hj => ?_, hg, by omega⟩⟩
      by_cases ej : j = k
      · subst ej
        exact fun z => by rw [z] at e; cases e
      · exact hh j (by omega)
    | false =>
      refine ⟨_, mulL_at hkn (by omega), _, false, MC.kpt_key _, e, fun _ => ?_, fun z => (by cases z)⟩
      have eg : ((n : Int) / (Int.gcd (n : Int) (0 + (k : Int)) : Nat)) = ((n / Nat.gcd n k : Nat) : Int) := by
        rw [Int.zero_add, Int.natCast_ediv]
        rfl
      have gp : (0 : Int) < (Int.gcd (n : Int) (0 + (k : Int)) : Nat) := by
        exact Int.natCast_pos.mpr (Int.gcd_pos_of_ne_zero_left _ (by omega))
      have gle : ((Int.gcd (n : Int) (0 + (k : Int)) : Nat) : Int) ≤ n := Int.le_of_dvd (by omega) (Int.gcd_dvd_left _ _)
      refine ⟨rfl, rfl, n, 0 + (k : Int), rfl, by omega, by omega, by omega, div200 gp (by omega) _, ?_⟩
      rw [eg]
      refine ⟨_, mulL_at hkn (by omega), _, MC.kpt_key _, by omega, ?_⟩
      refine ⟨_, _, rfl, hk'.put hm, fun j hj => ?_, fun R hR => has_put (hg R hR), ?_⟩
      · by_cases ej : j = k
        · subst ej; exact has_self
        · exact has_put (hh j (by omega))
      · have := mSet_len kvs' (MC.kpt (MC.mulP p a P k)) (.int ((n / Nat.gcd n k : Nat) : Int))
        omega
  · rintro env ⟨kvs', t8, rfl, hk', hh, hg, hl'⟩
    rw [rng_len, ll, Int.toNat_natCast] at hh hl'
    refine hW kvs' _ _ hk' ?_ hg hl'
    have : MC.mulP p a P (if n = 1 then 0 else 1) = P := by
      by_cases e : n = 1
      · rw [if_pos e]
        have := ho.zero
        rw [e] at this
        exact this.symm
      · rw [if_neg e]
        rfl
    rw [← this]
    exact hh _ (by split <;> omega)
theorem orders_L5 {W : WEnds} {kvs : List (PySem.NestedKey × D)} {P : MC.Pt} {t4 t5 t6 t7 t8 : Option Sl} (c : MC.Cu p a b) (hd : MC.Ns p a b) (p1 : p < 400) (hP : MC.On p a b P) (hL : (MC.ptsK p a b p.toNat).length < 900) (hk : OrdP p a b kvs) (hl : kvs.length < 900000)
    (hW : ∀ kvs' t4 t5 t6 t7 t8, OrdP p a b kvs' → has kvs' P → (∀ R, has kvs R → has kvs' R) → kvs'.length ≤ kvs.length + 900 → W.nx (EO p a b ((MC.ptsK p a b p.toNat).map MC.dpt) kvs' (some (.v (MC.dpt P))) t4 t5 t6 t7 t8)) :
    w__law_orders_L5 W (EO p a b ((MC.ptsK p a b p.toNat).map MC.dpt) kvs (some (.v (MC.dpt P))) t4 t5 t6 t7 t8) := by
  obtain ⟨n, ho, hn⟩ := MC.ord_ex c hd hP
  have n0 := ho.pos
  have ll : ((MC.ptsK p a b p.toNat).map MC.dpt).length = (MC.ptsK p a b p.toNat).length := List.length_map _
  have fin : ∀ W' : WEnds, W'.nx = W.nx → ∀ t5 t6, w__law_orders_L12 W' (EO p a b ((MC.ptsK p a b p.toNat).map MC.dpt) kvs (some (.v (MC.dpt P))) (some (.own (mulL p a P n))) t5 t6 t7 t8) := fun W' e t5 t6 =>
    orders_L12 c hd hP ho (by omega) hk hl fun kvs' t7 t8 h1 h2 h3 h4 => by rw [e]; exact hW kvs' _ _ _ _ _ h1 h2 h3 (by omega)
  refine ⟨rfl, lk rfl, ⟨by omega, by omega⟩, fun j env => ∃ t6, env = EO p a b ((MC.ptsK p a b p.toNat).map MC.dpt) kvs (some (.v (MC.dpt P))) (some (.own (mulL p a P (j + 1)))) (some (.v (MC.dpt (MC.mulP p a P (j + 1))))) t6 t7 t8 ∧ j < n, ⟨t6, rfl, n0⟩, ?_, ?_⟩
  · rintro j d env hdj ⟨t6, rfl, hj⟩
    obtain ⟨hjl, rfl⟩ := rng_at hdj
    by_cases e : j + 1 = n
    · have hz : MC.mulP p a P (j + 1) = none := by rw [e]; exact ho.zero
      rw [hz, e]
      exact ⟨fun _ => onBk (fin _ rfl _ _), fun h => (by cases h)⟩
    · have hnz := ho.least (j + 1) (by omega) (by omega)
      have lm : (mulL p a P (j + 1)).length = j + 1 := by rw [List.length_map, List.length_range]
      cases e2 : MC.mulP p a P (j + 1) with
      | none => exact absurd e2 hnz
      | some T =>
        refine ⟨fun h => (by cases h), fun _ => onNx ?_⟩
        have hO := hP.mul c (j + 1)
        rw [e2] at hO
        refine ⟨by omega, rfl, rfl, p, a, b, some T, P, rfl, c, by omega, hO, hP, some (.v (.int (0 + (j : Int)))), ?_, by omega⟩
        rw [← e2, mulL_succ]
        rfl
  · rintro env ⟨t6, rfl, hj⟩
    exfalso
    rw [rng_len] at hj
    omega
end
theorem mf__law_orders : ∀ as Q, as.length = 2 → M__law_orders as Q → w__law_orders { nx := fun _ => Q (.v .none), rt := Q } (stE as 7) := by
  rintro as Q _ ⟨p, a, b, rfl, c, hd, p1, hL, hq⟩
  have ll : ((MC.ptsK p a b p.toNat).map MC.dpt).length = (MC.ptsK p a b p.toNat).length := List.length_map _
  refine ⟨fun k env => ∃ (kvs : List (PySem.NestedKey × D)) (t3 t4 t5 t6 t7 t8 : Option Sl), env = EO p a b ((MC.ptsK p a b p.toNat).map MC.dpt) kvs t3 t4 t5 t6 t7 t8 ∧ OrdP p a b kvs ∧ (∀ P ∈ (MC.ptsK p a b p.toNat).take k, has kvs P) ∧ kvs.length ≤ 900 * k, ⟨[], none, none, none, none, none, none, rfl, fun P _ => .inl rfl, (fun P hP => by rw [List.take_zero] at hP; cases hP), Nat.le_refl _⟩, ?_, ?_⟩
  · rintro k d env hdk ⟨kvs, t3, t4, t5, t6, t7, t8, rfl, hk, hh, hl⟩
    rw [List.getElem?_map] at hdk
    obtain ⟨P, hP, rfl⟩ := Option.map_eq_some_iff.mp hdk
    have hkl := (List.getElem?_eq_some_iff.mp hP).1
    have hO := (MC.pts_mem c P).mp (List.mem_of_getElem? hP)
    have tk' : (MC.ptsK p a b p.toNat).take (k + 1) = (MC.ptsK p a b p.toNat).take k ++ [P] := by rw [List.take_add_one, hP]; rfl
    have hl2 : kvs.length < 900000 := by
      have : 900 * k ≤ 900 * 899 := Nat.mul_le_mul_left _ (by omega)
      omega
    cases e : (mAt kvs (MC.kpt P)).isSome with
    | true =>
      refine ⟨_, true, MC.kpt_key _, e, fun _ => ⟨kvs, _, t4, t5, t6, t7, t8, rfl, hk, fun R hR => ?_, by omega⟩, fun z => (by cases z)⟩
      rw [tk'] at hR
      rcases List.mem_append.mp hR with hR | hR
      · exact hh R hR
      · rw [List.mem_singleton.mp hR]
        exact fun z => by rw [z] at e; cases e
    | false =>
      refine ⟨_, false, MC.kpt_key _, e, fun z => (by cases z), fun _ => onNx ?_⟩
      refine orders_L5 c hd p1 hO hL hk hl2 fun kvs' t4 t5 t6 t7 t8 h1 h2 h3 h4 => ⟨kvs', _, t4, t5, t6, t7, t8, rfl, h1, fun R hR => ?_, by omega⟩
      rw [tk'] at hR
      rcases List.mem_append.mp hR with hR | hR
      · exact h3 R (hh R hR)
      · rw [List.mem_singleton.mp hR]
        exact h2
  · rintro env ⟨kvs, t3, t4, t5, t6, t7, t8, rfl, hk, hh, hl⟩
    refine hq kvs fun P hP => ?_
    have hm := (MC.pts_mem c P).mpr hP
    rw [ll, List.take_length] at hh
    rcases hk P hP with z | z
    · exact absurd z (hh P hm)
    · exact z

theorem ok__law_orders {f : Addr} {fd : FuncData} (F : Fun K "_law_orders" "_law_orders" s__law_orders f fd) (h__law_add : Has P w K mg base okH 2 "_law_add" 3 M__law_add) (h__law_gcd : Has P w K mg base okH 1 "_law_gcd" 2 M__law_gcd) (m_len : mg "len" = none) (m_range : mg "range" = none)    : FnOk P w K mg base CX0 3 f fd ["curve", "points"] (SpD K okH 2 M__law_orders) :=
  def_ok F sc__law_orders rfl (fun cdv A outer s H E hr =>
 (s_cons (s_setM 2 sc__law_orders.nd)
 (s_cons (s_for (vs := [3]) PassesOwn.never rfl (i_seq (d_var 1)) (g_name 3 sc__law_orders.nd)
 (s_cons (s_if (t_min 2 hr (d_var 3))
 (s_one s_continue)
 s_nil)
 (s_cons (s_setO 4 sc__law_orders.nd (l_lst (a_cons d_non a_nil)))
 (s_cons (s_set 5 sc__law_orders.nd (d_var 3))
 (s_cons (s_for (vs := [6]) PassesOwn.never rfl (i_r1 m_range (d_len m_len (d_b (d_var 1)))) (g_name 6 sc__law_orders.nd)
 (s_cons (s_if (t_isN (d_var 5))
 (s_one s_break)
 s_nil)
 (s_cons (s_app 4 (d_var 5))
 (s_one (s_set 5 sc__law_orders.nd (d_call h__law_add hr (by decide) (a_cons (d_var 0) (a_cons (d_var 5) (a_cons (d_var 3) a_nil)))))))))
 (s_cons (s_set 7 sc__law_orders.nd (d_len m_len (d_bor 4)))
 (s_one (s_for (vs := [8]) PassesOwn.never rfl (i_r1 m_range (d_var 7)) (g_name 8 sc__law_orders.nd)
 (s_one (s_if (t_mnin 2 hr (d_ix (d_bor 4) (d_var 8)))
 (s_one (s_mput 2 hr (d_div (d_var 7) (d_call h__law_gcd hr (by decide) (a_cons (d_var 7) (a_cons (d_var 8) a_nil)))) (d_ix (d_bor 4) (d_var 8))))
 s_nil))))))))))
 (s_one (s_retM 2))))) mf__law_orders
/-! ### _law_multiples -/
abbrev s__law_multiples : Stmt := topS 39
theorem sc__law_multiples : FnScope ["curve", "point", "n", "row", "here", "k"] ["curve", "point", "n"] (defScope s__law_multiples) := ⟨rfl, rfl, rfl, by decide +kernel, rfl, by decide +kernel, by decide +kernel⟩
abbrev mulL' (p a : Int) (P : MC.Pt) (n : Nat) : List D := (List.range n).map fun k => MC.dpt (MC.mulP p a P k)
def M__law_multiples : WM := fun as Q => ∃ (p a b : Int) (n : Nat) (P : MC.Pt), as = [.v (.tuple [.int p, .int a, .int b]), .v (MC.dpt P), .v (.int n)] ∧ MC.Cu p a b ∧ MC.Ns p a b ∧ p < 2 ^ 30 ∧ MC.On p a b P ∧ n < 900000 ∧ Q (.own (mulL' p a P n))

def w__law_multiples : WS := (wSeq (wSetO 3 (wLstP wNil))
 (wSeq (wSet 4 (wC .none))
 (wSeq (wFor (iR1 (wVar 2)) (gN 5)
 (wSeq (wApp 3 (wVar 4))
 (wSet 4 (wCallP 3 M__law_add (wCons (wVar 0) (wCons (wVar 4) (wCons (wVar 1) wNil)))))))
 (wRetV 3))))
theorem mulL'_succ (p a : Int) (P : MC.Pt) (n : Nat) : mulL' p a P n ++ [MC.dpt (MC.mulP p a P n)] = mulL' p a P (n + 1) := by
  show _ = (List.range (n + 1)).map _
  rw [List.range_succ, List.map_append]
  rfl
theorem mulL'_len (p a : Int) (P : MC.Pt) (n : Nat) : (mulL' p a P n).length = n := by rw [List.length_map, List.length_range]
theorem mf__law_multiples : ∀ as Q, as.length = 3 → M__law_multiples as Q → w__law_multiples { nx := fun _ => Q (.v .none), rt := Q } (stE as 3) := by
  rintro as Q _ ⟨p, a, b, n, P, rfl, c, hd, p1, hP, hn, hq⟩
  have p5 := c.p5
  refine ⟨rfl, lk rfl, ⟨by omega, by omega⟩, fun k env => ∃ t5, env = [some (.v (.tuple [.int p, .int a, .int b])), some (.v (MC.dpt P)), some (.v (.int n)), some (.own (mulL' p a P k)), some (.v (MC.dpt (MC.mulP p a P k))), t5], ⟨none, rfl⟩, ?_, ?_⟩
  · rintro k d env hdk ⟨t5, rfl⟩
    obtain ⟨hk, rfl⟩ := rng_at hdk
    have hl := mulL'_len p a P k
    refine ⟨by omega, rfl, rfl, p, a, b, _, P, rfl, c, p1, hP.mul c k, hP, some (.v (.int (0 + (k : Int)))), ?_⟩
    rw [← mulL'_succ]
    rfl
  · rintro env ⟨t5, rfl⟩
    rw [rng_len, Int.toNat_natCast]
    exact hq

theorem ok__law_multiples {f : Addr} {fd : FuncData} (F : Fun K "_law_multiples" "_law_multiples" s__law_multiples f fd) (h__law_add : Has P w K mg base okH 2 "_law_add" 3 M__law_add) (m_range : mg "range" = none)    : FnOk P w K mg base CX0 3 f fd ["curve", "point", "n"] (SpD K okH 3 M__law_multiples) :=
  def_ok F sc__law_multiples rfl (fun cdv A outer s H E hr =>
 (s_cons (s_setO 3 sc__law_multiples.nd (l_lst a_nil))
 (s_cons (s_set 4 sc__law_multiples.nd d_non)
 (s_cons (s_for (vs := [5]) PassesOwn.never rfl (i_r1 m_range (d_var 2)) (g_name 5 sc__law_multiples.nd)
 (s_cons (s_app 3 (d_var 4))
 (s_one (s_set 4 sc__law_multiples.nd (d_call h__law_add hr (by decide) (a_cons (d_var 0) (a_cons (d_var 4) (a_cons (d_var 1) a_nil))))))))
 (s_one (s_retV 3)))))) mf__law_multiples
/-! ### law -/
abbrev s_law : Stmt := topS 40
theorem sc_law : FnScope ["script", "state", "p", "curve", "points", "orders", "turn", "base", "row", "point", "due", "other", "apart"] ["script"] (defScope s_law) := ⟨rfl, rfl, rfl, by decide +kernel, rfl, by decide +kernel, by decide +kernel⟩

def w_law_L13 : WS := (wIf (wTest (wBin fNe (wCallP 4 M_logarithm (wCons (wVar 3) (wCons (wVar 7) (wCons (wVIx (wVar 5) (wVar 7)) (wCons (wVar 9) wNil))))) (wVar 10)))
 (wRet (wC (.bool false)))
 wNx)
def w_law_L18 : WS := (wIf (wTest (wBin fEq (wBin fMod (wUn fInt (wVIx (wVar 5) (wVar 7))) (wVIx (wVar 5) (wVar 11))) (wC (.int 0))))
 (wSeq (wSet 12 (wBin fEq (wLen (wFz (wLc (iS (wFz (wSlL (wCallP 3 M__law_multiples (wCons (wVar 3) (wCons (wVar 11) (wCons (wVIx (wVar 5) (wVar 11)) wNil)))) (woS (wC (.int 1))) woN))) (gN 9) (wTest (wIn (wVar 9) (wVar 8))) (wVar 9) [9]))) (wC (.int 0))))
 (wIf (wTest (wBin fNe (wCallP 5 M_are_independent (wCons (wVar 3) (wCons (wVar 7) (wCons (wVIx (wVar 5) (wVar 7)) (wCons (wVar 11) (wCons (wVIx (wVar 5) (wVar 11)) wNil)))))) (wVar 12)))
 (wRet (wC (.bool false)))
 wNx))
 wNx)
def w_law_L15 : WS := (wSeq (wSet 11 (wIx (wVar 4) (wCallP 2 M__law_draw (wConsH 1 (wCons (wLen (wVar 4)) wNil)))))
 (wSeq (wIf (wTest (wBin fEq (wCallP 2 M__law_draw (wConsH 1 (wCons (wC (.int 2)) wNil))) (wC (.int 0))))
 (wSet 11 (wCallP 3 M__law_mul (wCons (wVar 3) (wCons (wBin fDiv (wVIx (wVar 5) (wVar 11)) (wCallP 2 M__law_gcd (wCons (wVIx (wVar 5) (wVar 11)) (wCons (wVIx (wVar 5) (wVar 7)) wNil)))) (wCons (wVar 11) wNil)))))
 wNx)
 w_law_L18))
def w_law_L22 : WS := (wRet (wC (.bool true)))
def w_law : WS := (wSeq (wSetH okH 1 (wLstP (wCons (wVar 0) (wCons (wC (.int 0)) (wCons (wC (.int 0)) (wCons (wC (.int 1)) wNil))))))
 (wSeq (wSet 2 (wCallP 3 M__law_prime (wConsH 1 (wCons (wC (.int 5)) (wCons (wIx (wFz (wLstP (wCons (wC (.int 30)) (wCons (wC (.int 145)) wNil)))) (wCallP 2 M__law_draw (wConsH 1 (wCons (wC (.int 2)) wNil)))) wNil)))))
 (wSeq (wSet 3 (wCallP 2 M__law_curve (wConsH 1 (wCons (wVar 2) wNil))))
 (wSeq (wSet 4 (wCallP 1 M__law_points (wCons (wVar 3) wNil)))
 (wSeq (wSet 5 (wCallP 2 M__law_orders (wCons (wVar 3) (wCons (wVar 4) wNil))))
 (wSeq (wFor (iR1 (wC (.int 4))) (gN 6)
 (wSeq (wSet 7 (wIx (wVar 4) (wCallP 2 M__law_draw (wConsH 1 (wCons (wLen (wVar 4)) wNil)))))
 (wSeq (wSet 8 (wCallP 3 M__law_multiples (wCons (wVar 3) (wCons (wVar 7) (wCons (wVIx (wVar 5) (wVar 7)) wNil)))))
 (wSeq (wFor (iS (wFz (wLstP (wCons (wIx (wVar 4) (wCallP 2 M__law_draw (wConsH 1 (wCons (wLen (wVar 4)) wNil)))) (wCons (wIx (wVar 8) (wCallP 2 M__law_draw (wConsH 1 (wCons (wLen (wVar 8)) wNil)))) wNil))))) (gN 9)
 (wSeq (wSet 10 (wC .none))
 (wSeq (wIf (wTest (wIn (wVar 9) (wVar 8)))
 (wSet 10 (wIndex (wVar 8) (wVar 9)))
 wNx)
 w_law_L13)))
 w_law_L15))))
 w_law_L22))))))
section
variable {Q : Rt → Prop} {ns : List Int} {p a b : Int} {kvs : List (PySem.NestedKey × D)} {t9 t10 t11 t12 : Option Sl}
abbrev EL (ns : List Int) (p a b : Int) (kvs : List (PySem.NestedKey × D)) (t6 t7 t8 t9 t10 t11 t12 : Option Sl) : EnvD := [some (.v (scr ns)), some .hnd, some (.v (.int p)), some (.v (.tuple [.int p, .int a, .int b])), some (.v (.list ((MC.ptsK p a b p.toNat).map MC.dpt))), some (.v (dFrz kvs)), t6, t7, t8, t9, t10, t11, t12]
theorem mul_any {P T : MC.Pt} {n : Nat} : ((mulL' p a P n).any fun z => PyData.eqv z (MC.dpt T)) = decide (∃ k, k < n ∧ MC.mulP p a P k = T) := by
  rw [Bool.eq_iff_iff, List.any_eq_true, decide_eq_true_iff]
  constructor
  · rintro ⟨z, hz, he⟩
    obtain ⟨k, hk, rfl⟩ := List.mem_map.mp hz
    rw [lg_eqv, decide_eq_true_iff] at he
    exact ⟨k, List.mem_range.mp hk, he⟩
  · rintro ⟨k, hk, he⟩
    exact ⟨_, List.mem_map.mpr ⟨k, List.mem_range.mpr hk, rfl⟩, by rw [lg_eqv, he]; exact decide_eq_true rfl⟩
theorem mul_shd {P : MC.Pt} {n : Nat} : SeqAt.shaped (.list (mulL' p a P n)) = true := shp (k := 3) (List.all_eq_true.mpr fun d hd => by
  obtain ⟨k, _, rfl⟩ := List.mem_map.mp hd
  exact lg_pl _)
theorem ne_int {i j : Int} {X Y : Prop} (e : i = j) (y : Y) : fNe (.int i) (.int j) fun x => wTest (wC x) [] fun z => (z = true → X) ∧ (z = false → Y) := by
  subst e
  exact ⟨fun h => absurd h (by rw [decide_eq_true rfl]; decide), fun _ => y⟩
theorem ord_uq (c : MC.Cu p a b) (hd : MC.Ns p a b) {B T : MC.Pt} {n : Nat} (hB : MC.On p a b B) (ho : MC.IsOrd p a B n) {i j : Nat} (hi : i < n) (hj : j < n) (h1 : MC.mulP p a B i = T) (h2 : MC.mulP p a B j = T) : i = j := by
  have e : MC.zmul p a B (i : Int) = MC.zmul p a B (j : Int) := by rw [MC.zmul_nat, MC.zmul_nat, h1, h2]
  rw [ho.eqz c hd hB] at e
  have h := Int.emod_eq_zero_of_dvd e
  have : (i : Int) % n = (j : Int) % n := Int.emod_eq_emod_iff_emod_sub_eq_zero.mpr h
  rw [Int.emod_eq_of_lt (by omega) (by omega), Int.emod_eq_of_lt (by omega) (by omega)] at this
  omega
theorem red_mul (c : MC.Cu p a b) (hd : MC.Ns p a b) {B : MC.Pt} {n : Nat} (hB : MC.On p a b B) (ho : MC.IsOrd p a B n) (k : Int) : ∃ j, j < n ∧ MC.zmul p a B k = MC.mulP p a B j ∧ (j : Int) = k % n := by
  have n0 := ho.pos
  have b0 := Int.emod_nonneg k (show (n : Int) ≠ 0 by omega)
  have b1 := Int.emod_lt_of_pos k (show (0 : Int) < n by omega)
  exact ⟨(k % n).toNat, by omega, MC.zmul_mod c hd hB n0 ho.zero k, by omega⟩
theorem apart_list (c : MC.Cu p a b) (hd : MC.Ns p a b) {B R : MC.Pt} {n m : Nat} (hB : MC.On p a b B) (hR : MC.On p a b R) (h1 : MC.IsOrd p a B n) (h2 : MC.IsOrd p a R m) : MC.Apart p a B R ↔ ∀ j, j < m - 1 → ¬ ∃ k, k < n ∧ MC.mulP p a B k = MC.mulP p a R (j + 1) := by
  have m0 := h2.pos
  constructor
  · rintro h j hj ⟨k, hk, e⟩
    have := h ((j + 1 : Nat) : Int) (k : Int) (by rw [MC.zmul_nat, MC.zmul_nat, e])
    rw [MC.zmul_nat] at this
    exact h2.least (j + 1) (by omega) (by omega) this
  · intro h j k e
    obtain ⟨j', hj, e1, _⟩ := red_mul c hd hR h2 j
    obtain ⟨k', hk, e2, _⟩ := red_mul c hd hB h1 k
    refine Classical.byContradiction fun ne => ?_
    cases j' with
    | zero => exact ne e1
    | succ j' => exact h j' (by omega) ⟨k', hk, by rw [← e2, ← e1, e]⟩
theorem ne_bool {u v : Bool} {X Y : Prop} (e : u = v) (y : Y) : fNe (.bool u) (.bool v) fun x => wTest (wC x) [] fun z => (z = true → X) ∧ (z = false → Y) := by
  subst e
  cases u <;> exact ⟨rfl, rfl, fun h => absurd h (by decide), fun _ => y⟩
def NO (t : Option Sl) : Prop := match t with | some s => s.isOwn = false | none => True
theorem l13 {W : WEnds} {B T : MC.Pt} {n : Nat} {t6 t8 t11 t12 : Option Sl} (c : MC.Cu p a b) (hd : MC.Ns p a b) (hB : MC.On p a b B) (hT : MC.On p a b T) (ho : MC.IsOrd p a B n) (hn : n < 900) (hv : mAt kvs (MC.kpt B) = some (.int n)) (due : D) (hdue : (∃ k : Nat, k < n ∧ MC.mulP p a B k = T ∧ due = .int k) ∨ ((∀ k, k < n → MC.mulP p a B k ≠ T) ∧ due = .none))
    (hW : W.nx (EL ns p a b kvs t6 (some (.v (MC.dpt B))) t8 (some (.v (MC.dpt T))) (some (.v due)) t11 t12)) : w_law_L13 W (EL ns p a b kvs t6 (some (.v (MC.dpt B))) t8 (some (.v (MC.dpt T))) (some (.v due)) t11 t12) := by
  have n0 := ho.pos
  have red : ∀ k : Int, MC.zmul p a B k = T → ∃ j, j < n ∧ MC.mulP p a B j = T ∧ (0 ≤ k → k < n → (j : Int) = k) := fun k hk => by
    rw [MC.zmul_mod c hd hB n0 ho.zero] at hk
    have b0 := Int.emod_nonneg k (show (n : Int) ≠ 0 by omega)
    have b1 := Int.emod_lt_of_pos k (show (0 : Int) < n by omega)
    exact ⟨_, by omega, hk, fun h0 h1 => by rw [Int.emod_eq_of_lt h0 h1]; omega⟩
  have uq := fun i j => ord_uq c hd hB ho (T := T) (i := i) (j := j)
  refine ⟨kvs, rfl, _, _, MC.kpt_key _, hv, rfl, rfl, p, a, b, n, B, T, rfl, c, hd, hB, hT, ho, by omega, MB.easy_small (by omega) (by omega), fun k k0 k1 hk => ?_, fun hno => ?_⟩
  · obtain ⟨j, hj, e1, e2⟩ := red k hk
    rcases hdue with ⟨i, hi, e3, rfl⟩ | ⟨hno, rfl⟩
    · exact ne_int (by rw [← e2 k0 k1, uq i j hi hj e3 e1]) (onNx hW)
    · exact absurd e1 (hno j hj)
  · rcases hdue with ⟨i, hi, e3, rfl⟩ | ⟨hno', rfl⟩
    · exact absurd (by rw [MC.zmul_nat]; exact e3) (hno (i : Int))
    · exact ⟨shp (k := 0) rfl, shp (k := 0) rfl, same (k := 0) rfl rfl (onNx hW)⟩
theorem l18 {W : WEnds} {B R : MC.Pt} {n : Nat} {t6 t9 t10 t12 : Option Sl} (c : MC.Cu p a b) (hd : MC.Ns p a b) (p1 : p < 900) (hk : Ords p a b kvs) (hL : (MC.ptsK p a b p.toNat).length < 900) (hB : MC.On p a b B) (hR : MC.On p a b R) (ho : MC.IsOrd p a B n) (hv : mAt kvs (MC.kpt B) = some (.int n)) (h9 : NO t9)
    (hW : ∀ t12, W.nx (EL ns p a b kvs t6 (some (.v (MC.dpt B))) (some (.v (.list (mulL' p a B n)))) t9 t10 (some (.v (MC.dpt R))) t12)) : w_law_L18 W (EL ns p a b kvs t6 (some (.v (MC.dpt B))) (some (.v (.list (mulL' p a B n)))) t9 t10 (some (.v (MC.dpt R))) t12) := by
  obtain ⟨m, ho2, hv2⟩ := hk R hR
  have n0 := ho.pos
  have m0 := ho2.pos
  have nl := ho.le c hd hB
  have ml := ho2.le c hd hR
  have e1 : cutD (mulL' p a R m) (some 1) none = (mulL' p a R m).drop 1 := cut_lo _ 1
  refine ⟨kvs, rfl, _, _, MC.kpt_key _, hv, kvs, rfl, _, _, MC.kpt_key _, hv2, by omega, fun h => ?_, fun h => onNx (hW _)⟩
  have hmn : m ∣ n := Int.natCast_dvd_natCast.mp (Int.dvd_of_emod_eq_zero (of_decide_eq_true h))
  refine ⟨kvs, rfl, _, _, MC.kpt_key _, hv2, rfl, rfl, p, a, b, m, R, rfl, c, hd, by omega, hR, by omega, ?_⟩
  conv => whnf
  rw [e1]
  have dl : ((mulL' p a R m).drop 1).length = m - 1 := by rw [List.length_drop, mulL'_len]
  refine ⟨by omega, ⟨h9, trivial⟩, fun i acc => acc = [] ↔ ∀ j, j < i → ¬ ∃ k, k < n ∧ MC.mulP p a B k = MC.mulP p a R (j + 1), ⟨fun _ j hj => absurd hj (Nat.not_lt_zero _), fun _ => rfl⟩, ?_, ?_⟩
  · intro i d acc hdi hI
    rw [List.getElem?_drop] at hdi
    have hil := (List.getElem?_eq_some_iff.mp hdi).1
    rw [mulL'_len] at hil
    rw [List.getElem?_map, List.getElem?_range hil] at hdi
    obtain rfl : MC.dpt (MC.mulP p a R (1 + i)) = d := Option.some.inj hdi
    refine ⟨shp (lg_pl _), mul_shd, fun h => ?_, fun h => ?_⟩
    · rw [mul_any, decide_eq_true_iff, Nat.add_comm] at h
      refine ⟨fun e => ?_, fun e => absurd h (e i (Nat.lt_succ_self i))⟩
      exact absurd e (by simp)
    · rw [mul_any, decide_eq_false_iff_not, Nat.add_comm] at h
      rw [hI]
      constructor
      · intro hh j hj
        by_cases e : j = i
        · rw [e]; exact h
        · exact hh j (by omega)
      · exact fun hh j hj => hh j (by omega)
  · intro acc hI
    rw [dl, ← apart_list c hd hB hR ho ho2] at hI
    refine ⟨kvs, rfl, _, _, MC.kpt_key _, hv, kvs, rfl, _, _, MC.kpt_key _, hv2, rfl, rfl, p, a, b, n, m, B, R, rfl, c, hd, hB, hR, ho, ho2, hmn, by omega, fun v hvv => ?_⟩
    refine ne_bool ?_ (onNx (hW _))
    rw [Bool.eq_iff_iff, hvv, ← hI, decide_eq_true_iff]
    constructor
    · rintro rfl
      rfl
    · intro h
      exact List.eq_nil_of_length_eq_zero (by omega)
theorem l15 {W : WEnds} {B : MC.Pt} {n : Nat} {t6 t9 t10 t11 t12 : Option Sl} (c : MC.Cu p a b) (hd : MC.Ns p a b) (p1 : p < 900) (hk : Ords p a b kvs) (hL : (MC.ptsK p a b p.toNat).length < 900) (hL0 : 0 < (MC.ptsK p a b p.toNat).length) (hB : MC.On p a b B) (ho : MC.IsOrd p a B n) (hv : mAt kvs (MC.kpt B) = some (.int n)) (h9 : NO t9)
    (hW : ∀ t11 t12, W.nx (EL ns p a b kvs t6 (some (.v (MC.dpt B))) (some (.v (.list (mulL' p a B n)))) t9 t10 t11 t12)) : w_law_L15 W (EL ns p a b kvs t6 (some (.v (MC.dpt B))) (some (.v (.list (mulL' p a B n)))) t9 t10 t11 t12) := by
  have ll : ((MC.ptsK p a b p.toNat).map MC.dpt).length = (MC.ptsK p a b p.toNat).length := List.length_map _
  have n0 := ho.pos
  have nl := ho.le c hd hB
  refine dr (by omega) (by omega) fun r r0 r1 => ?_
  obtain ⟨i, rfl⟩ : ∃ i : Nat, r = i := ⟨r.toNat, by omega⟩
  have hi : i < (MC.ptsK p a b p.toNat).length := by omega
  have hP : (MC.ptsK p a b p.toNat)[i]? = some (MC.ptsK p a b p.toNat)[i] := List.getElem?_eq_getElem hi
  generalize (MC.ptsK p a b p.toNat)[i] = R at hP
  have hR := (MC.pts_mem c R).mp (List.mem_of_getElem? hP)
  obtain ⟨m, hm, hvm⟩ := hk R hR
  have m0 := hm.pos
  have ml := hm.le c hd hR
  refine ⟨_, atI_nats (i := i) rfl (by rw [List.getElem?_map, hP]; rfl), dr (by decide) (by decide) fun s s0 s1 => ⟨fun _ => ?_, fun _ => onNx ?_⟩⟩
  · have gp : (0 : Int) < (Int.gcd (m : Int) (n : Int) : Nat) := Int.natCast_pos.mpr (Int.gcd_pos_of_ne_zero_left _ (by omega))
    have gle : ((Int.gcd (m : Int) (n : Int) : Nat) : Int) ≤ m := Int.le_of_dvd (by omega) (Int.gcd_dvd_left _ _)
    have q0 : 0 ≤ (m : Int) / (Int.gcd (m : Int) (n : Int) : Nat) := Int.ediv_nonneg (by omega) (by omega)
    have q1 : (m : Int) / (Int.gcd (m : Int) (n : Int) : Nat) ≤ m := Int.ediv_le_self _ (by omega)
    refine ⟨kvs, rfl, _, _, MC.kpt_key _, hvm, kvs, rfl, _, _, MC.kpt_key _, hvm, kvs, rfl, _, _, MC.kpt_key _, hv, rfl, rfl, m, n, rfl, by omega, by omega, by omega, div200 gp (by omega) _, rfl, rfl, p, a, b, _, R, rfl, c, hd, by omega, hR, q0, by omega, ?_⟩
    exact l18 c hd p1 hk hL hB (hR.mul c _) ho hv h9 fun t12 => hW _ _
  · exact l18 c hd p1 hk hL hB hR ho hv h9 fun t12 => hW _ _
end
theorem mf_law : ∀ as Q, as.length = 1 → M_law as Q → w_law { nx := fun _ => Q (.v .none), rt := Q } (stE as 12) := by
  rintro as Q _ ⟨ns, rfl, hns, hq⟩
  refine ⟨rfl, lk rfl, ⟨ns, 0, 0, 1, rfl, by decide⟩, rfl, lk rfl, dr (by decide) (by decide) fun s s0 s1 => ?_⟩
  obtain ⟨M, ec, hM⟩ : ∃ M : Int, atI [PyData.int 30, PyData.int 145] s = some (.int M) ∧ (M = 30 ∨ M = 145) := by
    have : s = 0 ∨ s = 1 := by omega
    rcases this with rfl | rfl
    · exact ⟨_, rfl, .inl rfl⟩
    · exact ⟨_, rfl, .inr rfl⟩
  refine ⟨_, ec, rfl, rfl, 5, M, rfl, by decide, by omega, by omega, fun p hp p5 hle => ?_⟩
  have p149 : MB.PrimeI 149 := (MB.trialB_ok (n := 149) (m := 13) (by decide +kernel)).toI
  have p1 : p ≤ 149 := hle 149 p149 (by omega)
  refine ⟨rfl, rfl, p, rfl, hp, p5, by omega, fun a b a0 a1 b0 b1 hd => ?_⟩
  have c : MC.Cu p a b := ⟨hp, p5, by omega, a0, a1, b0, b1⟩
  have hL2 := MC.pts_few c
  have hL : (MC.ptsK p a b p.toNat).length < 900 := by omega
  have hL0 : 0 < (MC.ptsK p a b p.toNat).length := List.length_pos_of_mem ((MC.pts_mem c none).mpr trivial)
  have ll : ((MC.ptsK p a b p.toNat).map MC.dpt).length = (MC.ptsK p a b p.toNat).length := List.length_map _
  refine ⟨rfl, rfl, p, a, b, rfl, by omega, by omega, ⟨a0, a1⟩, ?_⟩
  refine ⟨rfl, rfl, p, a, b, rfl, c, hd, by omega, hL, fun kvs hk => ?_⟩
  have pick : ∀ i : Nat, i < (MC.ptsK p a b p.toNat).length → ∃ P, MC.On p a b P ∧ atI ((MC.ptsK p a b p.toNat).map MC.dpt) (i : Int) = some (MC.dpt P) := fun i hi => by
    have hP : (MC.ptsK p a b p.toNat)[i]? = some (MC.ptsK p a b p.toNat)[i] := List.getElem?_eq_getElem hi
    exact ⟨_, (MC.pts_mem c _).mp (List.getElem_mem hi), atI_nats (i := i) rfl (by rw [List.getElem?_map, hP]; rfl)⟩
  refine ⟨⟨by decide, by decide⟩, fun k env => ∃ t6 t7 t8 t9 t10 t11 t12, env = EL ns p a b kvs t6 t7 t8 t9 t10 t11 t12 ∧ NO t9, ⟨none, none, none, none, none, none, none, rfl, trivial⟩, ?_, ?_⟩
  · rintro k d env hdk ⟨t6, t7, t8, t9, t10, t11, t12, rfl, h9⟩
    obtain ⟨hk', rfl⟩ := rng_at hdk
    refine dr (by omega) (by omega) fun r r0 r1 => ?_
    obtain ⟨i, rfl⟩ : ∃ i : Nat, r = i := ⟨r.toNat, by omega⟩
    obtain ⟨B, hB, hBa⟩ := pick i (by omega)
    obtain ⟨n, ho, hv⟩ := hk B hB
    have n0 := ho.pos
    have nl := ho.le c hd hB
    have rl := mulL'_len p a B n
    refine ⟨_, hBa, kvs, rfl, _, _, MC.kpt_key _, hv, rfl, rfl, p, a, b, n, B, rfl, c, hd, by omega, hB, by omega, ?_⟩
    refine dr (by omega) (by omega) fun r r0 r1 => ?_
    obtain ⟨i, rfl⟩ : ∃ i : Nat, r = i := ⟨r.toNat, by omega⟩
    obtain ⟨T1, hT1, hT1a⟩ := pick i (by omega)
    refine ⟨_, hT1a, dr (by omega) (by omega) fun r r0 r1 => ?_⟩
    obtain ⟨j, rfl⟩ : ∃ j : Nat, r = j := ⟨r.toNat, by omega⟩
    have hT2a : atI (mulL' p a B n) (j : Int) = some (MC.dpt (MC.mulP p a B j)) := atI_nats (i := j) rfl (by rw [List.getElem?_map, List.getElem?_range (by omega)]; rfl)
    refine ⟨_, hT2a, rfl, lk rfl, fun _ env => ∃ t9 t10, env = EL ns p a b kvs (some (.v (.int (0 + (k : Int))))) (some (.v (MC.dpt B))) (some (.v (.list (mulL' p a B n)))) t9 t10 t11 t12 ∧ NO t9, ⟨t9, t10, rfl, h9⟩, ?_, ?_⟩
    · rintro z d env hdz ⟨t9, t10, rfl, h9⟩
      obtain ⟨T, hT, rfl⟩ : ∃ T, MC.On p a b T ∧ d = MC.dpt T := by
        rcases z with _ | _ | z
        · exact ⟨T1, hT1, (Option.some.inj hdz).symm⟩
        · exact ⟨_, hB.mul c j, (Option.some.inj hdz).symm⟩
        · cases hdz
      refine ⟨shp (lg_pl T), mul_shd, fun h => ?_, fun h => onNx ?_⟩
      · rw [mul_any, decide_eq_true_iff] at h
        obtain ⟨k', hk', e⟩ := h
        have hg : ∀ m, m < n → (mulL' p a B n)[m]? = some (MC.dpt (MC.mulP p a B m)) := fun m hm => by
          rw [List.getElem?_map, List.getElem?_range hm]; rfl
        refine ⟨mul_shd, shp (lg_pl T), k', _, hg k' hk', by rw [lg_eqv, e]; exact decide_eq_true rfl, fun m z' hm hz' => ?_, ?_⟩
        · rw [hg m (by omega)] at hz'
          rw [← Option.some.inj hz', lg_eqv]
          refine decide_eq_false fun e2 => ?_
          have := ord_uq c hd hB ho (by omega) hk' e2 e
          omega
        · exact l13 c hd hB hT ho (by omega) hv (.int (k' : Int)) (.inl ⟨k', hk', e, rfl⟩) ⟨_, _, rfl, rfl⟩
      · rw [mul_any, decide_eq_false_iff_not] at h
        exact l13 c hd hB hT ho (by omega) hv .none (.inr ⟨fun m hm e => h ⟨m, hm, e⟩, rfl⟩) ⟨_, _, rfl, rfl⟩
    · rintro env ⟨t9, t10, rfl, h9⟩
      exact l15 c hd (by omega) hk hL hL0 hB ho hv h9 fun t11 t12 => ⟨_, _, _, t9, _, t11, t12, rfl, h9⟩
  · rintro env ⟨t6, t7, t8, t9, t10, t11, t12, rfl, h9⟩
    exact hq

theorem ok_law {f : Addr} {fd : FuncData} (F : Fun K "law" "law" s_law f fd) (h__law_prime : Has P w K mg base okH 2 "_law_prime" 3 M__law_prime) (h__law_draw : Has P w K mg base okH 1 "_law_draw" 2 M__law_draw) (h__law_curve : Has P w K mg base okH 2 "_law_curve" 2 M__law_curve) (h__law_points : Has P w K mg base okH 1 "_law_points" 1 M__law_points) (h__law_orders : Has P w K mg base okH 3 "_law_orders" 2 M__law_orders) (h__law_multiples : Has P w K mg base okH 3 "_law_multiples" 3 M__law_multiples) (h_logarithm : Has P w K mg base okH 8 "logarithm" 4 M_logarithm) (h__law_mul : Has P w K mg base okH 3 "_law_mul" 3 M__law_mul) (h__law_gcd : Has P w K mg base okH 1 "_law_gcd" 2 M__law_gcd) (h_are_independent : Has P w K mg base okH 9 "are_independent" 5 M_are_independent) (m_int : mg "int" = none) (m_len : mg "len" = none) (m_range : mg "range" = none)    : FnOk P w K mg base CX0 10 f fd ["script"] (SpD K okH 1 M_law) :=
  def_ok F sc_law rfl (fun cdv A outer s H E hr =>
 (s_cons (s_setH 1 sc_law.nd (l_lst (a_cons (d_var 0) (a_cons d_int (a_cons d_int (a_cons d_int a_nil))))))
 (s_cons (s_set 2 sc_law.nd (d_call h__law_prime hr (by decide) (a_hnd 1 (a_cons d_int (a_cons (d_ix (d_b (d_fz (l_lst (a_cons d_int (a_cons d_int a_nil))))) (d_call h__law_draw hr (by decide) (a_hnd 1 (a_cons d_int a_nil)))) a_nil)))))
 (s_cons (s_set 3 sc_law.nd (d_call h__law_curve hr (by decide) (a_hnd 1 (a_cons (d_var 2) a_nil))))
 (s_cons (s_set 4 sc_law.nd (d_call h__law_points hr (by decide) (a_cons (d_var 3) a_nil)))
 (s_cons (s_set 5 sc_law.nd (d_call h__law_orders hr (by decide) (a_cons (d_var 3) (a_cons (d_var 4) a_nil))))
 (s_cons (s_for (vs := [6]) PassesOwn.never rfl (i_r1 m_range d_int) (g_name 6 sc_law.nd)
 (s_cons (s_set 7 sc_law.nd (d_ix (d_b (d_var 4)) (d_call h__law_draw hr (by decide) (a_hnd 1 (a_cons (d_len m_len (d_b (d_var 4))) a_nil)))))
 (s_cons (s_set 8 sc_law.nd (d_call h__law_multiples hr (by decide) (a_cons (d_var 3) (a_cons (d_var 7) (a_cons (d_vix 5 hr (d_var 7)) a_nil)))))
 (s_cons (s_for (vs := [9]) PassesOwn.never rfl (i_seq (d_fz (l_lst (a_cons (d_ix (d_b (d_var 4)) (d_call h__law_draw hr (by decide) (a_hnd 1 (a_cons (d_len m_len (d_b (d_var 4))) a_nil)))) (a_cons (d_ix (d_b (d_var 8)) (d_call h__law_draw hr (by decide) (a_hnd 1 (a_cons (d_len m_len (d_b (d_var 8))) a_nil)))) a_nil))))) (g_name 9 sc_law.nd)
 (s_cons (s_set 10 sc_law.nd d_non)
 (s_cons (s_if (t_in hr (d_var 9) (d_b (d_var 8)))
 (s_one (s_set 10 sc_law.nd (d_index hr (d_b (d_var 8)) (d_var 9))))
 s_nil)
 (s_one (s_if (t_ne hr (d_call h_logarithm hr (by decide) (a_cons (d_var 3) (a_cons (d_var 7) (a_cons (d_vix 5 hr (d_var 7)) (a_cons (d_var 9) a_nil))))) (d_var 10))
 (s_one (s_ret d_bl))
 s_nil)))))
 (s_cons (s_set 11 sc_law.nd (d_ix (d_b (d_var 4)) (d_call h__law_draw hr (by decide) (a_hnd 1 (a_cons (d_len m_len (d_b (d_var 4))) a_nil)))))
 (s_cons (s_if (t_eq hr (d_call h__law_draw hr (by decide) (a_hnd 1 (a_cons d_int a_nil))) d_int)
 (s_one (s_set 11 sc_law.nd (d_call h__law_mul hr (by decide) (a_cons (d_var 3) (a_cons (d_div (d_vix 5 hr (d_var 11)) (d_call h__law_gcd hr (by decide) (a_cons (d_vix 5 hr (d_var 11)) (a_cons (d_vix 5 hr (d_var 7)) a_nil)))) (a_cons (d_var 11) a_nil))))))
 s_nil)
 (s_one (s_if (t_eq hr (d_mod (d_intc m_int (d_vix 5 hr (d_var 7))) (d_vix 5 hr (d_var 11))) d_int)
 (s_cons (s_set 12 sc_law.nd (d_eq hr (d_len m_len (d_b (d_fz (l_lc (own := [("point", 9)]) rfl sc_law.nd (i_seq (d_fz (l_sl (d_b (d_call h__law_multiples hr (by decide) (a_cons (d_var 3) (a_cons (d_var 11) (a_cons (d_vix 5 hr (d_var 11)) a_nil))))) (o_s d_int) o_n))) (blkOk_by (N := ["script", "state", "p", "curve", "points", "orders", "turn", "base", "row", "point", "due", "other", "apart"]) (sc := defScope s_law) (by decide +kernel)) ⟨(gName 9), fun _ _ _ _ _ => (pg_name (i := 9) sc_law.nd rfl (Or.inl rfl)), (sg_name (i := 9) (by decide))⟩ ⟨(tTest (tOp (rInA K) (tVar 9) (tVar 8))), fun _ _ _ _ _ => pts_one (pt_cmpR (op_inA (units65 hr)) (pv 9) (pv 8) (by with_unfolding_all rfl)), (snd_test (snd_in snd_var (SndE.b snd_var)))⟩ ⟨(tVar 9), fun _ _ _ _ _ => (pv 9), snd_var⟩)))) d_int))
 (s_one (s_if (t_ne hr (d_call h_are_independent hr (by decide) (a_cons (d_var 3) (a_cons (d_var 7) (a_cons (d_vix 5 hr (d_var 7)) (a_cons (d_var 11) (a_cons (d_vix 5 hr (d_var 11)) a_nil)))))) (d_var 12))
 (s_one (s_ret d_bl))
 s_nil)))
 s_nil))))))))
 (s_one (s_ret d_bl))))))))) mf_law
end
theorem all_mk {l : PySem.W.OpenLaw} {w : World} {K : PySem.W.Frag} {h : Heap} {mg : Str → Option Value} {fa f0 f1 f2 f3 f4 f5 f6 f7 f8 f9 f10 f11 f12 f13 f14 f15 f16 f17 f18 f19 f20 f21 f22 f23 f24 f25 f26 f27 f28 f29 : Addr} (X : K.In h) (G : h.Ns mainGlobals mg) (hfa : mg "law" = some (.ref fa))
    {od0 an0 : Option Addr} {sl0 : Array (Option Value)} {oc0 kV0 dc0 pm0 cd0 ct0 : Value}
    (a0 : PySem.W.nsIn K mainGlobals "power" = some (some (.ref f0))) (l0 : K.lookup f0 = some ⟨oc0, od0, .func (PySem.W.fnOf "power" "power" (defArgs s_power) (defBody s_power) (defScope s_power) .none kV0 dc0 pm0 an0 cd0 ct0), sl0⟩) (c0 : PySem.W.codeIn K cd0 "power" = true) (k0 : PySem.W.keepIn K (.ref f0) = true)
    {od1 an1 : Option Addr} {sl1 : Array (Option Value)} {oc1 kV1 dc1 pm1 cd1 ct1 : Value}
    (a1 : PySem.W.nsIn K mainGlobals "common" = some (some (.ref f1))) (l1 : K.lookup f1 = some ⟨oc1, od1, .func (PySem.W.fnOf "common" "common" (defArgs s_common) (defBody s_common) (defScope s_common) .none kV1 dc1 pm1 an1 cd1 ct1), sl1⟩) (c1 : PySem.W.codeIn K cd1 "common" = true) (k1 : PySem.W.keepIn K (.ref f1) = true)
    {od2 an2 : Option Addr} {sl2 : Array (Option Value)} {oc2 kV2 dc2 pm2 cd2 ct2 : Value}
    (a2 : PySem.W.nsIn K mainGlobals "inverse_by" = some (some (.ref f2))) (l2 : K.lookup f2 = some ⟨oc2, od2, .func (PySem.W.fnOf "inverse_by" "inverse_by" (defArgs s_inverse_by) (defBody s_inverse_by) (defScope s_inverse_by) .none kV2 dc2 pm2 an2 cd2 ct2), sl2⟩) (c2 : PySem.W.codeIn K cd2 "inverse_by" = true) (k2 : PySem.W.keepIn K (.ref f2) = true)
    {od3 an3 : Option Addr} {sl3 : Array (Option Value)} {oc3 kV3 dc3 pm3 cd3 ct3 : Value}
    (a3 : PySem.W.nsIn K mainGlobals "inverse" = some (some (.ref f3))) (l3 : K.lookup f3 = some ⟨oc3, od3, .func (PySem.W.fnOf "inverse" "inverse" (defArgs s_inverse) (defBody s_inverse) (defScope s_inverse) .none kV3 dc3 pm3 an3 cd3 ct3), sl3⟩) (c3 : PySem.W.codeIn K cd3 "inverse" = true) (k3 : PySem.W.keepIn K (.ref f3) = true)
    {od4 an4 : Option Addr} {sl4 : Array (Option Value)} {oc4 kV4 dc4 pm4 cd4 ct4 : Value}
    (a4 : PySem.W.nsIn K mainGlobals "floor_root" = some (some (.ref f4))) (l4 : K.lookup f4 = some ⟨oc4, od4, .func (PySem.W.fnOf "floor_root" "floor_root" (defArgs s_floor_root) (defBody s_floor_root) (defScope s_floor_root) .none kV4 dc4 pm4 an4 cd4 ct4), sl4⟩) (c4 : PySem.W.codeIn K cd4 "floor_root" = true) (k4 : PySem.W.keepIn K (.ref f4) = true)
    {od5 an5 : Option Addr} {sl5 : Array (Option Value)} {oc5 kV5 dc5 pm5 cd5 ct5 : Value}
    (a5 : PySem.W.nsIn K mainGlobals "joined" = some (some (.ref f5))) (l5 : K.lookup f5 = some ⟨oc5, od5, .func (PySem.W.fnOf "joined" "joined" (defArgs s_joined) (defBody s_joined) (defScope s_joined) .none kV5 dc5 pm5 an5 cd5 ct5), sl5⟩) (c5 : PySem.W.codeIn K cd5 "joined" = true) (k5 : PySem.W.keepIn K (.ref f5) = true)
    {od6 an6 : Option Addr} {sl6 : Array (Option Value)} {oc6 kV6 dc6 pm6 cd6 ct6 : Value}
    (a6 : PySem.W.nsIn K mainGlobals "passes" = some (some (.ref f6))) (l6 : K.lookup f6 = some ⟨oc6, od6, .func (PySem.W.fnOf "passes" "passes" (defArgs s_passes) (defBody s_passes) (defScope s_passes) .none kV6 dc6 pm6 an6 cd6 ct6), sl6⟩) (c6 : PySem.W.codeIn K cd6 "passes" = true) (k6 : PySem.W.keepIn K (.ref f6) = true)
    {od7 an7 : Option Addr} {sl7 : Array (Option Value)} {oc7 kV7 dc7 pm7 cd7 ct7 : Value}
    (a7 : PySem.W.nsIn K mainGlobals "is_prime" = some (some (.ref f7))) (l7 : K.lookup f7 = some ⟨oc7, od7, .func (PySem.W.fnOf "is_prime" "is_prime" (defArgs s_is_prime) (defBody s_is_prime) (defScope s_is_prime) .none kV7 dc7 pm7 an7 cd7 ct7), sl7⟩) (c7 : PySem.W.codeIn K cd7 "is_prime" = true) (k7 : PySem.W.keepIn K (.ref f7) = true)
    {od8 an8 : Option Addr} {sl8 : Array (Option Value)} {oc8 kV8 dc8 pm8 cd8 ct8 : Value}
    (a8 : PySem.W.nsIn K mainGlobals "primes_of" = some (some (.ref f8))) (l8 : K.lookup f8 = some ⟨oc8, od8, .func (PySem.W.fnOf "primes_of" "primes_of" (defArgs s_primes_of) (defBody s_primes_of) (defScope s_primes_of) .none kV8 dc8 pm8 an8 cd8 ct8), sl8⟩) (c8 : PySem.W.codeIn K cd8 "primes_of" = true) (k8 : PySem.W.keepIn K (.ref f8) = true)
    {od9 an9 : Option Addr} {sl9 : Array (Option Value)} {oc9 kV9 dc9 pm9 cd9 ct9 : Value}
    (a9 : PySem.W.nsIn K mainGlobals "factors" = some (some (.ref f9))) (l9 : K.lookup f9 = some ⟨oc9, od9, .func (PySem.W.fnOf "factors" "factors" (defArgs s_factors) (defBody s_factors) (defScope s_factors) .none kV9 dc9 pm9 an9 cd9 ct9), sl9⟩) (c9 : PySem.W.codeIn K cd9 "factors" = true) (k9 : PySem.W.keepIn K (.ref f9) = true)
    {od10 an10 : Option Addr} {sl10 : Array (Option Value)} {oc10 kV10 dc10 pm10 cd10 ct10 : Value}
    (a10 : PySem.W.nsIn K mainGlobals "negative" = some (some (.ref f10))) (l10 : K.lookup f10 = some ⟨oc10, od10, .func (PySem.W.fnOf "negative" "negative" (defArgs s_negative) (defBody s_negative) (defScope s_negative) .none kV10 dc10 pm10 an10 cd10 ct10), sl10⟩) (c10 : PySem.W.codeIn K cd10 "negative" = true) (k10 : PySem.W.keepIn K (.ref f10) = true)
    {od11 an11 : Option Addr} {sl11 : Array (Option Value)} {oc11 kV11 dc11 pm11 cd11 ct11 : Value}
    (a11 : PySem.W.nsIn K mainGlobals "slope" = some (some (.ref f11))) (l11 : K.lookup f11 = some ⟨oc11, od11, .func (PySem.W.fnOf "slope" "slope" (defArgs s_slope) (defBody s_slope) (defScope s_slope) .none kV11 dc11 pm11 an11 cd11 ct11), sl11⟩) (c11 : PySem.W.codeIn K cd11 "slope" = true) (k11 : PySem.W.keepIn K (.ref f11) = true)
    {od12 an12 : Option Addr} {sl12 : Array (Option Value)} {oc12 kV12 dc12 pm12 cd12 ct12 : Value}
    (a12 : PySem.W.nsIn K mainGlobals "plus" = some (some (.ref f12))) (l12 : K.lookup f12 = some ⟨oc12, od12, .func (PySem.W.fnOf "plus" "plus" (defArgs s_plus) (defBody s_plus) (defScope s_plus) .none kV12 dc12 pm12 an12 cd12 ct12), sl12⟩) (c12 : PySem.W.codeIn K cd12 "plus" = true) (k12 : PySem.W.keepIn K (.ref f12) = true)
    {od13 an13 : Option Addr} {sl13 : Array (Option Value)} {oc13 kV13 dc13 pm13 cd13 ct13 : Value}
    (a13 : PySem.W.nsIn K mainGlobals "times" = some (some (.ref f13))) (l13 : K.lookup f13 = some ⟨oc13, od13, .func (PySem.W.fnOf "times" "times" (defArgs s_times) (defBody s_times) (defScope s_times) .none kV13 dc13 pm13 an13 cd13 ct13), sl13⟩) (c13 : PySem.W.codeIn K cd13 "times" = true) (k13 : PySem.W.keepIn K (.ref f13) = true)
    {od14 an14 : Option Addr} {sl14 : Array (Option Value)} {oc14 kV14 dc14 pm14 cd14 ct14 : Value}
    (a14 : PySem.W.nsIn K mainGlobals "small_logarithm" = some (some (.ref f14))) (l14 : K.lookup f14 = some ⟨oc14, od14, .func (PySem.W.fnOf "small_logarithm" "small_logarithm" (defArgs s_small_logarithm) (defBody s_small_logarithm) (defScope s_small_logarithm) .none kV14 dc14 pm14 an14 cd14 ct14), sl14⟩) (c14 : PySem.W.codeIn K cd14 "small_logarithm" = true) (k14 : PySem.W.keepIn K (.ref f14) = true)
    {od15 an15 : Option Addr} {sl15 : Array (Option Value)} {oc15 kV15 dc15 pm15 cd15 ct15 : Value}
    (a15 : PySem.W.nsIn K mainGlobals "prime_logarithm" = some (some (.ref f15))) (l15 : K.lookup f15 = some ⟨oc15, od15, .func (PySem.W.fnOf "prime_logarithm" "prime_logarithm" (defArgs s_prime_logarithm) (defBody s_prime_logarithm) (defScope s_prime_logarithm) .none kV15 dc15 pm15 an15 cd15 ct15), sl15⟩) (c15 : PySem.W.codeIn K cd15 "prime_logarithm" = true) (k15 : PySem.W.keepIn K (.ref f15) = true)
    {od16 an16 : Option Addr} {sl16 : Array (Option Value)} {oc16 kV16 dc16 pm16 cd16 ct16 : Value}
    (a16 : PySem.W.nsIn K mainGlobals "logarithm" = some (some (.ref f16))) (l16 : K.lookup f16 = some ⟨oc16, od16, .func (PySem.W.fnOf "logarithm" "logarithm" (defArgs s_logarithm) (defBody s_logarithm) (defScope s_logarithm) .none kV16 dc16 pm16 an16 cd16 ct16), sl16⟩) (c16 : PySem.W.codeIn K cd16 "logarithm" = true) (k16 : PySem.W.keepIn K (.ref f16) = true)
    {od17 an17 : Option Addr} {sl17 : Array (Option Value)} {oc17 kV17 dc17 pm17 cd17 ct17 : Value}
    (a17 : PySem.W.nsIn K mainGlobals "are_independent" = some (some (.ref f17))) (l17 : K.lookup f17 = some ⟨oc17, od17, .func (PySem.W.fnOf "are_independent" "are_independent" (defArgs s_are_independent) (defBody s_are_independent) (defScope s_are_independent) .none kV17 dc17 pm17 an17 cd17 ct17), sl17⟩) (c17 : PySem.W.codeIn K cd17 "are_independent" = true) (k17 : PySem.W.keepIn K (.ref f17) = true)
    {od18 an18 : Option Addr} {sl18 : Array (Option Value)} {oc18 kV18 dc18 pm18 cd18 ct18 : Value}
    (a18 : PySem.W.nsIn K mainGlobals "_law_draw" = some (some (.ref f18))) (l18 : K.lookup f18 = some ⟨oc18, od18, .func (PySem.W.fnOf "_law_draw" "_law_draw" (defArgs s__law_draw) (defBody s__law_draw) (defScope s__law_draw) .none kV18 dc18 pm18 an18 cd18 ct18), sl18⟩) (c18 : PySem.W.codeIn K cd18 "_law_draw" = true) (k18 : PySem.W.keepIn K (.ref f18) = true)
    {od19 an19 : Option Addr} {sl19 : Array (Option Value)} {oc19 kV19 dc19 pm19 cd19 ct19 : Value}
    (a19 : PySem.W.nsIn K mainGlobals "_law_is_prime" = some (some (.ref f19))) (l19 : K.lookup f19 = some ⟨oc19, od19, .func (PySem.W.fnOf "_law_is_prime" "_law_is_prime" (defArgs s__law_is_prime) (defBody s__law_is_prime) (defScope s__law_is_prime) .none kV19 dc19 pm19 an19 cd19 ct19), sl19⟩) (c19 : PySem.W.codeIn K cd19 "_law_is_prime" = true) (k19 : PySem.W.keepIn K (.ref f19) = true)
    {od20 an20 : Option Addr} {sl20 : Array (Option Value)} {oc20 kV20 dc20 pm20 cd20 ct20 : Value}
    (a20 : PySem.W.nsIn K mainGlobals "_law_prime" = some (some (.ref f20))) (l20 : K.lookup f20 = some ⟨oc20, od20, .func (PySem.W.fnOf "_law_prime" "_law_prime" (defArgs s__law_prime) (defBody s__law_prime) (defScope s__law_prime) .none kV20 dc20 pm20 an20 cd20 ct20), sl20⟩) (c20 : PySem.W.codeIn K cd20 "_law_prime" = true) (k20 : PySem.W.keepIn K (.ref f20) = true)
    {od21 an21 : Option Addr} {sl21 : Array (Option Value)} {oc21 kV21 dc21 pm21 cd21 ct21 : Value}
    (a21 : PySem.W.nsIn K mainGlobals "_law_inverse" = some (some (.ref f21))) (l21 : K.lookup f21 = some ⟨oc21, od21, .func (PySem.W.fnOf "_law_inverse" "_law_inverse" (defArgs s__law_inverse) (defBody s__law_inverse) (defScope s__law_inverse) .none kV21 dc21 pm21 an21 cd21 ct21), sl21⟩) (c21 : PySem.W.codeIn K cd21 "_law_inverse" = true) (k21 : PySem.W.keepIn K (.ref f21) = true)
    {od22 an22 : Option Addr} {sl22 : Array (Option Value)} {oc22 kV22 dc22 pm22 cd22 ct22 : Value}
    (a22 : PySem.W.nsIn K mainGlobals "_law_curve" = some (some (.ref f22))) (l22 : K.lookup f22 = some ⟨oc22, od22, .func (PySem.W.fnOf "_law_curve" "_law_curve" (defArgs s__law_curve) (defBody s__law_curve) (defScope s__law_curve) .none kV22 dc22 pm22 an22 cd22 ct22), sl22⟩) (c22 : PySem.W.codeIn K cd22 "_law_curve" = true) (k22 : PySem.W.keepIn K (.ref f22) = true)
    {od23 an23 : Option Addr} {sl23 : Array (Option Value)} {oc23 kV23 dc23 pm23 cd23 ct23 : Value}
    (a23 : PySem.W.nsIn K mainGlobals "_law_add" = some (some (.ref f23))) (l23 : K.lookup f23 = some ⟨oc23, od23, .func (PySem.W.fnOf "_law_add" "_law_add" (defArgs s__law_add) (defBody s__law_add) (defScope s__law_add) .none kV23 dc23 pm23 an23 cd23 ct23), sl23⟩) (c23 : PySem.W.codeIn K cd23 "_law_add" = true) (k23 : PySem.W.keepIn K (.ref f23) = true)
    {od24 an24 : Option Addr} {sl24 : Array (Option Value)} {oc24 kV24 dc24 pm24 cd24 ct24 : Value}
    (a24 : PySem.W.nsIn K mainGlobals "_law_mul" = some (some (.ref f24))) (l24 : K.lookup f24 = some ⟨oc24, od24, .func (PySem.W.fnOf "_law_mul" "_law_mul" (defArgs s__law_mul) (defBody s__law_mul) (defScope s__law_mul) .none kV24 dc24 pm24 an24 cd24 ct24), sl24⟩) (c24 : PySem.W.codeIn K cd24 "_law_mul" = true) (k24 : PySem.W.keepIn K (.ref f24) = true)
    {od25 an25 : Option Addr} {sl25 : Array (Option Value)} {oc25 kV25 dc25 pm25 cd25 ct25 : Value}
    (a25 : PySem.W.nsIn K mainGlobals "_law_points" = some (some (.ref f25))) (l25 : K.lookup f25 = some ⟨oc25, od25, .func (PySem.W.fnOf "_law_points" "_law_points" (defArgs s__law_points) (defBody s__law_points) (defScope s__law_points) .none kV25 dc25 pm25 an25 cd25 ct25), sl25⟩) (c25 : PySem.W.codeIn K cd25 "_law_points" = true) (k25 : PySem.W.keepIn K (.ref f25) = true)
    {od26 an26 : Option Addr} {sl26 : Array (Option Value)} {oc26 kV26 dc26 pm26 cd26 ct26 : Value}
    (a26 : PySem.W.nsIn K mainGlobals "_law_gcd" = some (some (.ref f26))) (l26 : K.lookup f26 = some ⟨oc26, od26, .func (PySem.W.fnOf "_law_gcd" "_law_gcd" (defArgs s__law_gcd) (defBody s__law_gcd) (defScope s__law_gcd) .none kV26 dc26 pm26 an26 cd26 ct26), sl26⟩) (c26 : PySem.W.codeIn K cd26 "_law_gcd" = true) (k26 : PySem.W.keepIn K (.ref f26) = true)
    {od27 an27 : Option Addr} {sl27 : Array (Option Value)} {oc27 kV27 dc27 pm27 cd27 ct27 : Value}
    (a27 : PySem.W.nsIn K mainGlobals "_law_orders" = some (some (.ref f27))) (l27 : K.lookup f27 = some ⟨oc27, od27, .func (PySem.W.fnOf "_law_orders" "_law_orders" (defArgs s__law_orders) (defBody s__law_orders) (defScope s__law_orders) .none kV27 dc27 pm27 an27 cd27 ct27), sl27⟩) (c27 : PySem.W.codeIn K cd27 "_law_orders" = true) (k27 : PySem.W.keepIn K (.ref f27) = true)
    {od28 an28 : Option Addr} {sl28 : Array (Option Value)} {oc28 kV28 dc28 pm28 cd28 ct28 : Value}
    (a28 : PySem.W.nsIn K mainGlobals "_law_multiples" = some (some (.ref f28))) (l28 : K.lookup f28 = some ⟨oc28, od28, .func (PySem.W.fnOf "_law_multiples" "_law_multiples" (defArgs s__law_multiples) (defBody s__law_multiples) (defScope s__law_multiples) .none kV28 dc28 pm28 an28 cd28 ct28), sl28⟩) (c28 : PySem.W.codeIn K cd28 "_law_multiples" = true) (k28 : PySem.W.keepIn K (.ref f28) = true)
    {od29 an29 : Option Addr} {sl29 : Array (Option Value)} {oc29 kV29 dc29 pm29 cd29 ct29 : Value}
    (a29 : PySem.W.nsIn K mainGlobals "law" = some (some (.ref f29))) (l29 : K.lookup f29 = some ⟨oc29, od29, .func (PySem.W.fnOf "law" "law" (defArgs s_law) (defBody s_law) (defScope s_law) .none kV29 dc29 pm29 an29 cd29 ct29), sl29⟩) (c29 : PySem.W.codeIn K cd29 "law" = true) (k29 : PySem.W.keepIn K (.ref f29) = true)
    (z_abs : PySem.W.nsIn K mainGlobals "abs" = some none)
    (z_all : PySem.W.nsIn K mainGlobals "all" = some none)
    (z_int : PySem.W.nsIn K mainGlobals "int" = some none)
    (z_len : PySem.W.nsIn K mainGlobals "len" = some none)
    (z_range : PySem.W.nsIn K mainGlobals "range" = some none)
    (z_sorted : PySem.W.nsIn K mainGlobals "sorted" = some none)
    {a_BASES : Addr} (q_BASES : PySem.W.nsIn K mainGlobals "BASES" = some (some (.ref a_BASES)))
    {od_BASES : _} {n_BASES : _} {sl_BASES : _} {t_BASES_0 t_BASES_1 t_BASES_2 t_BASES_3 t_BASES_4 t_BASES_5 t_BASES_6 t_BASES_7 t_BASES_8 t_BASES_9 t_BASES_10 t_BASES_11 : _} (l_BASES : K.lookup a_BASES = some ⟨.type "tuple", od_BASES, .seq #[.int 2 t_BASES_0, .int 3 t_BASES_1, .int 5 t_BASES_2, .int 7 t_BASES_3, .int 11 t_BASES_4, .int 13 t_BASES_5, .int 17 t_BASES_6, .int 19 t_BASES_7, .int 23 t_BASES_8, .int 29 t_BASES_9, .int 31 t_BASES_10, .int 37 t_BASES_11] n_BASES, sl_BASES⟩)
    : ∃ fd : FuncData, (∀ (s : Shared) (v : Value), BindsTo s fd ⟨[v], []⟩ [("script", v)]) ∧ ∀ base : Heap, K.In base → base.Ns mainGlobals mg → FnOk l.prog w K mg base CX0 10 fa fd ["script"] (SpD K okH 1 M_law) := by
  have e := hfa.symm.trans (PySem.W.mg_of X G a29)
  cases e
  have F0 := fun_mk (st := s_power) l0 c0 k0
  have b0 := F0.binds (ps := ["modulus", "x", "n"]) fun _ _ _ _ _ _ us hl => match us, hl with | [_, _, _], _ => rfl
  have F1 := fun_mk (st := s_common) l1 c1 k1
  have b1 := F1.binds (ps := ["x", "y"]) fun _ _ _ _ _ _ us hl => match us, hl with | [_, _], _ => rfl
  have F2 := fun_mk (st := s_inverse_by) l2 c2 k2
  have b2 := F2.binds (ps := ["modulus", "x"]) fun _ _ _ _ _ _ us hl => match us, hl with | [_, _], _ => rfl
  have F3 := fun_mk (st := s_inverse) l3 c3 k3
  have b3 := F3.binds (ps := ["p", "x"]) fun _ _ _ _ _ _ us hl => match us, hl with | [_, _], _ => rfl
  have F4 := fun_mk (st := s_floor_root) l4 c4 k4
  have b4 := F4.binds (ps := ["n"]) fun _ _ _ _ _ _ us hl => match us, hl with | [_], _ => rfl
  have F5 := fun_mk (st := s_joined) l5 c5 k5
  have b5 := F5.binds (ps := ["remainders", "moduli"]) fun _ _ _ _ _ _ us hl => match us, hl with | [_, _], _ => rfl
  have F6 := fun_mk (st := s_passes) l6 c6 k6
  have b6 := F6.binds (ps := ["n", "base"]) fun _ _ _ _ _ _ us hl => match us, hl with | [_, _], _ => rfl
  have F7 := fun_mk (st := s_is_prime) l7 c7 k7
  have b7 := F7.binds (ps := ["n"]) fun _ _ _ _ _ _ us hl => match us, hl with | [_], _ => rfl
  have F8 := fun_mk (st := s_primes_of) l8 c8 k8
  have b8 := F8.binds (ps := ["n"]) fun _ _ _ _ _ _ us hl => match us, hl with | [_], _ => rfl
  have F9 := fun_mk (st := s_factors) l9 c9 k9
  have b9 := F9.binds (ps := ["n"]) fun _ _ _ _ _ _ us hl => match us, hl with | [_], _ => rfl
  have F10 := fun_mk (st := s_negative) l10 c10 k10
  have b10 := F10.binds (ps := ["curve", "point"]) fun _ _ _ _ _ _ us hl => match us, hl with | [_, _], _ => rfl
  have F11 := fun_mk (st := s_slope) l11 c11 k11
  have b11 := F11.binds (ps := ["curve", "one", "two"]) fun _ _ _ _ _ _ us hl => match us, hl with | [_, _, _], _ => rfl
  have F12 := fun_mk (st := s_plus) l12 c12 k12
  have b12 := F12.binds (ps := ["curve", "one", "two"]) fun _ _ _ _ _ _ us hl => match us, hl with | [_, _, _], _ => rfl
  have F13 := fun_mk (st := s_times) l13 c13 k13
  have b13 := F13.binds (ps := ["curve", "number", "point"]) fun _ _ _ _ _ _ us hl => match us, hl with | [_, _, _], _ => rfl
  have F14 := fun_mk (st := s_small_logarithm) l14 c14 k14
  have b14 := F14.binds (ps := ["curve", "base", "order", "point"]) fun _ _ _ _ _ _ us hl => match us, hl with | [_, _, _, _], _ => rfl
  have F15 := fun_mk (st := s_prime_logarithm) l15 c15 k15
  have b15 := F15.binds (ps := ["curve", "base", "prime", "count", "point"]) fun _ _ _ _ _ _ us hl => match us, hl with | [_, _, _, _, _], _ => rfl
  have F16 := fun_mk (st := s_logarithm) l16 c16 k16
  have b16 := F16.binds (ps := ["curve", "base", "order", "point"]) fun _ _ _ _ _ _ us hl => match us, hl with | [_, _, _, _], _ => rfl
  have F17 := fun_mk (st := s_are_independent) l17 c17 k17
  have b17 := F17.binds (ps := ["curve", "one", "n", "two", "m"]) fun _ _ _ _ _ _ us hl => match us, hl with | [_, _, _, _, _], _ => rfl
  have F18 := fun_mk (st := s__law_draw) l18 c18 k18
  have b18 := F18.binds (ps := ["state", "many"]) fun _ _ _ _ _ _ us hl => match us, hl with | [_, _], _ => rfl
  have F19 := fun_mk (st := s__law_is_prime) l19 c19 k19
  have b19 := F19.binds (ps := ["n"]) fun _ _ _ _ _ _ us hl => match us, hl with | [_], _ => rfl
  have F20 := fun_mk (st := s__law_prime) l20 c20 k20
  have b20 := F20.binds (ps := ["state", "least", "most"]) fun _ _ _ _ _ _ us hl => match us, hl with | [_, _, _], _ => rfl
  have F21 := fun_mk (st := s__law_inverse) l21 c21 k21
  have b21 := F21.binds (ps := ["p", "x"]) fun _ _ _ _ _ _ us hl => match us, hl with | [_, _], _ => rfl
  have F22 := fun_mk (st := s__law_curve) l22 c22 k22
  have b22 := F22.binds (ps := ["state", "p"]) fun _ _ _ _ _ _ us hl => match us, hl with | [_, _], _ => rfl
  have F23 := fun_mk (st := s__law_add) l23 c23 k23
  have b23 := F23.binds (ps := ["curve", "one", "two"]) fun _ _ _ _ _ _ us hl => match us, hl with | [_, _, _], _ => rfl
  have F24 := fun_mk (st := s__law_mul) l24 c24 k24
  have b24 := F24.binds (ps := ["curve", "n", "point"]) fun _ _ _ _ _ _ us hl => match us, hl with | [_, _, _], _ => rfl
  have F25 := fun_mk (st := s__law_points) l25 c25 k25
  have b25 := F25.binds (ps := ["curve"]) fun _ _ _ _ _ _ us hl => match us, hl with | [_], _ => rfl
  have F26 := fun_mk (st := s__law_gcd) l26 c26 k26
  have b26 := F26.binds (ps := ["x", "y"]) fun _ _ _ _ _ _ us hl => match us, hl with | [_, _], _ => rfl
  have F27 := fun_mk (st := s__law_orders) l27 c27 k27
  have b27 := F27.binds (ps := ["curve", "points"]) fun _ _ _ _ _ _ us hl => match us, hl with | [_, _], _ => rfl
  have F28 := fun_mk (st := s__law_multiples) l28 c28 k28
  have b28 := F28.binds (ps := ["curve", "point", "n"]) fun _ _ _ _ _ _ us hl => match us, hl with | [_, _, _], _ => rfl
  have F29 := fun_mk (st := s_law) l29 c29 k29
  have m_abs := PySem.W.mg_none_of X G z_abs
  have m_all := PySem.W.mg_none_of X G z_all
  have m_int := PySem.W.mg_none_of X G z_int
  have m_len := PySem.W.mg_none_of X G z_len
  have m_range := PySem.W.mg_none_of X G z_range
  have m_sorted := PySem.W.mg_none_of X G z_sorted
  have g_BASES : GlD K mg "BASES" (.tuple [.int 2, .int 3, .int 5, .int 7, .int 11, .int 13, .int 17, .int 19, .int 23, .int 29, .int 31, .int 37]) := ⟨.ref a_BASES, ⟨_, PySem.W.mg_of X G q_BASES, rfl⟩, fun _ => .tup (xs := [V.int 2, V.int 3, V.int 5, V.int 7, V.int 11, V.int 13, V.int 17, V.int 19, V.int 23, V.int 29, V.int 31, V.int 37]) (.inr ⟨_, _, _, l_BASES, rfl, rfl, Nat.le_of_ble_eq_true rfl, (.cons ⟨_, rfl⟩ (.cons ⟨_, rfl⟩ (.cons ⟨_, rfl⟩ (.cons ⟨_, rfl⟩ (.cons ⟨_, rfl⟩ (.cons ⟨_, rfl⟩ (.cons ⟨_, rfl⟩ (.cons ⟨_, rfl⟩ (.cons ⟨_, rfl⟩ (.cons ⟨_, rfl⟩ (.cons ⟨_, rfl⟩ (.cons ⟨_, rfl⟩ .nil))))))))))))⟩) (.cons (.int _) (.cons (.int _) (.cons (.int _) (.cons (.int _) (.cons (.int _) (.cons (.int _) (.cons (.int _) (.cons (.int _) (.cons (.int _) (.cons (.int _) (.cons (.int _) (.cons (.int _) .nil))))))))))))⟩
  refine ⟨PySem.W.fnOf "law" "law" (defArgs s_law) (defBody s_law) (defScope s_law) .none kV29 dc29 pm29 an29 cd29 ct29, fun s v => .of_eq rfl, fun base _ _ => ?_⟩
  have h_power : Has l.prog w K mg base okH 1 "power" 3 M_power := ⟨⟨_, _, _, ok_power F0, PySem.W.mg_of X G a0, F0.kp, b0⟩⟩
  have h_common : Has l.prog w K mg base okH 1 "common" 2 M_common := ⟨⟨_, _, _, ok_common F1 m_abs, PySem.W.mg_of X G a1, F1.kp, b1⟩⟩
  have h_inverse_by : Has l.prog w K mg base okH 1 "inverse_by" 2 M_inverse_by := ⟨⟨_, _, _, ok_inverse_by F2, PySem.W.mg_of X G a2, F2.kp, b2⟩⟩
  have h_inverse : Has l.prog w K mg base okH 2 "inverse" 2 M_inverse := ⟨⟨_, _, _, ok_inverse F3 h_inverse_by, PySem.W.mg_of X G a3, F3.kp, b3⟩⟩
  have h_floor_root : Has l.prog w K mg base okH 1 "floor_root" 1 M_floor_root := ⟨⟨_, _, _, ok_floor_root F4, PySem.W.mg_of X G a4, F4.kp, b4⟩⟩
  have h_joined : Has l.prog w K mg base okH 2 "joined" 2 M_joined := ⟨⟨_, _, _, ok_joined F5 h_common h_inverse_by m_len m_range, PySem.W.mg_of X G a5, F5.kp, b5⟩⟩
  have h_passes : Has l.prog w K mg base okH 2 "passes" 2 M_passes := ⟨⟨_, _, _, ok_passes F6 h_power m_range, PySem.W.mg_of X G a6, F6.kp, b6⟩⟩
  have h_is_prime : Has l.prog w K mg base okH 3 "is_prime" 1 M_is_prime := ⟨⟨_, _, _, ok_is_prime F7 h_passes m_all g_BASES, PySem.W.mg_of X G a7, F7.kp, b7⟩⟩
  have h0_primes_of : Has l.prog w K mg base okH 4 "primes_of" 1 M0_primes_of := ⟨⟨_, _, _, ok0_primes_of F8 h_is_prime, PySem.W.mg_of X G a8, F8.kp, b8⟩⟩
  have h_primes_of : Has l.prog w K mg base okH 5 "primes_of" 1 M_primes_of := ⟨⟨_, _, _, ok_primes_of F8 h_is_prime h0_primes_of, PySem.W.mg_of X G a8, F8.kp, b8⟩⟩
  have h_factors : Has l.prog w K mg base okH 6 "factors" 1 M_factors := ⟨⟨_, _, _, ok_factors F9 h_primes_of m_sorted, PySem.W.mg_of X G a9, F9.kp, b9⟩⟩
  have h_negative : Has l.prog w K mg base okH 1 "negative" 2 M_negative := ⟨⟨_, _, _, ok_negative F10, PySem.W.mg_of X G a10, F10.kp, b10⟩⟩
  have h_slope : Has l.prog w K mg base okH 3 "slope" 3 M_slope := ⟨⟨_, _, _, ok_slope F11 h_inverse, PySem.W.mg_of X G a11, F11.kp, b11⟩⟩
  have h_plus : Has l.prog w K mg base okH 4 "plus" 3 M_plus := ⟨⟨_, _, _, ok_plus F12 h_slope, PySem.W.mg_of X G a12, F12.kp, b12⟩⟩
  have h0_times : Has l.prog w K mg base okH 5 "times" 3 M0_times := ⟨⟨_, _, _, ok0_times F13 h_plus, PySem.W.mg_of X G a13, F13.kp, b13⟩⟩
  have h_times : Has l.prog w K mg base okH 6 "times" 3 M_times := ⟨⟨_, _, _, ok_times F13 h_negative h_plus h0_times, PySem.W.mg_of X G a13, F13.kp, b13⟩⟩
  have h_small_logarithm : Has l.prog w K mg base okH 5 "small_logarithm" 4 M_small_logarithm := ⟨⟨_, _, _, ok_small_logarithm F14 h_floor_root h_plus h_negative m_range, PySem.W.mg_of X G a14, F14.kp, b14⟩⟩
  have h_prime_logarithm : Has l.prog w K mg base okH 7 "prime_logarithm" 5 M_prime_logarithm := ⟨⟨_, _, _, ok_prime_logarithm F15 h_times h_plus h_negative h_small_logarithm m_range, PySem.W.mg_of X G a15, F15.kp, b15⟩⟩
  have h_logarithm : Has l.prog w K mg base okH 8 "logarithm" 4 M_logarithm := ⟨⟨_, _, _, ok_logarithm F16 h_factors h_prime_logarithm h_times h_joined m_range, PySem.W.mg_of X G a16, F16.kp, b16⟩⟩
  have h_are_independent : Has l.prog w K mg base okH 9 "are_independent" 5 M_are_independent := ⟨⟨_, _, _, ok_are_independent F17 h_factors h_times h_logarithm, PySem.W.mg_of X G a17, F17.kp, b17⟩⟩
  have h__law_draw : Has l.prog w K mg base okH 1 "_law_draw" 2 M__law_draw := ⟨⟨_, _, _, ok__law_draw F18 m_abs m_int m_len, PySem.W.mg_of X G a18, F18.kp, b18⟩⟩
  have h__law_is_prime : Has l.prog w K mg base okH 1 "_law_is_prime" 1 M__law_is_prime := ⟨⟨_, _, _, ok__law_is_prime F19 m_int m_range, PySem.W.mg_of X G a19, F19.kp, b19⟩⟩
  have h__law_prime : Has l.prog w K mg base okH 2 "_law_prime" 3 M__law_prime := ⟨⟨_, _, _, ok__law_prime F20 h__law_draw h__law_is_prime m_range, PySem.W.mg_of X G a20, F20.kp, b20⟩⟩
  have h__law_inverse : Has l.prog w K mg base okH 1 "_law_inverse" 2 M__law_inverse := ⟨⟨_, _, _, ok__law_inverse F21 m_int m_range, PySem.W.mg_of X G a21, F21.kp, b21⟩⟩
  have h__law_curve : Has l.prog w K mg base okH 2 "_law_curve" 2 M__law_curve := ⟨⟨_, _, _, ok__law_curve F22 h__law_draw m_int m_range, PySem.W.mg_of X G a22, F22.kp, b22⟩⟩
  have h__law_add : Has l.prog w K mg base okH 2 "_law_add" 3 M__law_add := ⟨⟨_, _, _, ok__law_add F23 h__law_inverse m_int, PySem.W.mg_of X G a23, F23.kp, b23⟩⟩
  have h__law_mul : Has l.prog w K mg base okH 3 "_law_mul" 3 M__law_mul := ⟨⟨_, _, _, ok__law_mul F24 h__law_add m_int m_range, PySem.W.mg_of X G a24, F24.kp, b24⟩⟩
  have h__law_points : Has l.prog w K mg base okH 1 "_law_points" 1 M__law_points := ⟨⟨_, _, _, ok__law_points F25 m_int m_range, PySem.W.mg_of X G a25, F25.kp, b25⟩⟩
  have h__law_gcd : Has l.prog w K mg base okH 1 "_law_gcd" 2 M__law_gcd := ⟨⟨_, _, _, ok__law_gcd F26 m_int m_range, PySem.W.mg_of X G a26, F26.kp, b26⟩⟩
  have h__law_orders : Has l.prog w K mg base okH 3 "_law_orders" 2 M__law_orders := ⟨⟨_, _, _, ok__law_orders F27 h__law_add h__law_gcd m_len m_range, PySem.W.mg_of X G a27, F27.kp, b27⟩⟩
  have h__law_multiples : Has l.prog w K mg base okH 3 "_law_multiples" 3 M__law_multiples := ⟨⟨_, _, _, ok__law_multiples F28 h__law_add m_range, PySem.W.mg_of X G a28, F28.kp, b28⟩⟩
  exact ok_law F29 h__law_prime h__law_draw h__law_curve h__law_points h__law_orders h__law_multiples h_logarithm h__law_mul h__law_gcd h_are_independent m_int m_len m_range
end G
open PySem PySem.W PyProof.Rows
set_option maxRecDepth 100000 in
set_option maxHeartbeats 0 in
theorem PySem.Challenge.cw_curvetally_k45_logarithms_and_independen_holds : PySem.Challenge.rw_curvetally_k45_logarithms_and_independen.Holds := by
  w_on; o_law; k_head; (case hw => w_witness2)
  k_fill
  refine L2.walk_of (l := PySem.Challenge.rw_curvetally_k45_logarithms_and_independen) (n := 63) (k := 10) (x := "script") (CX := fun _ => L2.CX0) (sp := fun w => DL.SpD _ G.okH 1 DL.M_law) rfl (by decide) rfl ⟨rfl, by decide, by decide⟩ (fun w h Y => PySem.W.kIn_of Y) ?F (fun _ _ a ns hl _ hS => DL.law_sp hS hl) (fun _ _ _ _ _ h => h)
  case F =>
    intro w mg fa h KX GG hmg
    refine' G.all_mk KX GG hmg ?a0 ?l0 ?c0 ?k0 ?a1 ?l1 ?c1 ?k1 ?a2 ?l2 ?c2 ?k2 ?a3 ?l3 ?c3 ?k3 ?a4 ?l4 ?c4 ?k4 ?a5 ?l5 ?c5 ?k5 ?a6 ?l6 ?c6 ?k6 ?a7 ?l7 ?c7 ?k7 ?a8 ?l8 ?c8 ?k8 ?a9 ?l9 ?c9 ?k9 ?a10 ?l10 ?c10 ?k10 ?a11 ?l11 ?c11 ?k11 ?a12 ?l12 ?c12 ?k12 ?a13 ?l13 ?c13 ?k13 ?a14 ?l14 ?c14 ?k14 ?a15 ?l15 ?c15 ?k15 ?a16 ?l16 ?c16 ?k16 ?a17 ?l17 ?c17 ?k17 ?a18 ?l18 ?c18 ?k18 ?a19 ?l19 ?c19 ?k19 ?a20 ?l20 ?c20 ?k20 ?a21 ?l21 ?c21 ?k21 ?a22 ?l22 ?c22 ?k22 ?a23 ?l23 ?c23 ?k23 ?a24 ?l24 ?c24 ?k24 ?a25 ?l25 ?c25 ?k25 ?a26 ?l26 ?c26 ?k26 ?a27 ?l27 ?c27 ?k27 ?a28 ?l28 ?c28 ?k28 ?a29 ?l29 ?c29 ?k29 ?z_abs ?z_all ?z_int ?z_len ?z_range ?z_sorted ?q_BASES ?l_BASES
    (case a0 => k_is)
    (case l0 => k_is)
    (case c0 => k_is)
    (case k0 => k_is)
    (case a1 => k_is)
    (case l1 => k_is)
    (case c1 => k_is)
    (case k1 => k_is)
    (case a2 => k_is)
    (case l2 => k_is)
    (case c2 => k_is)
    (case k2 => k_is)
    (case a3 => k_is)
    (case l3 => k_is)
    (case c3 => k_is)
    (case k3 => k_is)
    (case a4 => k_is)
    (case l4 => k_is)
    (case c4 => k_is)
    (case k4 => k_is)
    (case a5 => k_is)
    (case l5 => k_is)
    (case c5 => k_is)
    (case k5 => k_is)
    (case a6 => k_is)
    (case l6 => k_is)
    (case c6 => k_is)
    (case k6 => k_is)
    (case a7 => k_is)
    (case l7 => k_is)
    (case c7 => k_is)
    (case k7 => k_is)
    (case a8 => k_is)
    (case l8 => k_is)
    (case c8 => k_is)
    (case k8 => k_is)
    (case a9 => k_is)
    (case l9 => k_is)
    (case c9 => k_is)
    (case k9 => k_is)
    (case a10 => k_is)
    (case l10 => k_is)
    (case c10 => k_is)
    (case k10 => k_is)
    (case a11 => k_is)
    (case l11 => k_is)
    (case c11 => k_is)
    (case k11 => k_is)
    (case a12 => k_is)
    (case l12 => k_is)
    (case c12 => k_is)
    (case k12 => k_is)
    (case a13 => k_is)
    (case l13 => k_is)
    (case c13 => k_is)
    (case k13 => k_is)
    (case a14 => k_is)
    (case l14 => k_is)
    (case c14 => k_is)
    (case k14 => k_is)
    (case a15 => k_is)
    (case l15 => k_is)
    (case c15 => k_is)
    (case k15 => k_is)
    (case a16 => k_is)
    (case l16 => k_is)
    (case c16 => k_is)
    (case k16 => k_is)
    (case a17 => k_is)
    (case l17 => k_is)
    (case c17 => k_is)
    (case k17 => k_is)
    (case a18 => k_is)
    (case l18 => k_is)
    (case c18 => k_is)
    (case k18 => k_is)
    (case a19 => k_is)
    (case l19 => k_is)
    (case c19 => k_is)
    (case k19 => k_is)
    (case a20 => k_is)
    (case l20 => k_is)
    (case c20 => k_is)
    (case k20 => k_is)
    (case a21 => k_is)
    (case l21 => k_is)
    (case c21 => k_is)
    (case k21 => k_is)
    (case a22 => k_is)
    (case l22 => k_is)
    (case c22 => k_is)
    (case k22 => k_is)
    (case a23 => k_is)
    (case l23 => k_is)
    (case c23 => k_is)
    (case k23 => k_is)
    (case a24 => k_is)
    (case l24 => k_is)
    (case c24 => k_is)
    (case k24 => k_is)
    (case a25 => k_is)
    (case l25 => k_is)
    (case c25 => k_is)
    (case k25 => k_is)
    (case a26 => k_is)
    (case l26 => k_is)
    (case c26 => k_is)
    (case k26 => k_is)
    (case a27 => k_is)
    (case l27 => k_is)
    (case c27 => k_is)
    (case k27 => k_is)
    (case a28 => k_is)
    (case l28 => k_is)
    (case c28 => k_is)
    (case k28 => k_is)
    (case a29 => k_is)
    (case l29 => k_is)
    (case c29 => k_is)
    (case k29 => k_is)
    (case z_abs => k_is)
    (case z_all => k_is)
    (case z_int => k_is)
    (case z_len => k_is)
    (case z_range => k_is)
    (case z_sorted => k_is)
    (case q_BASES => k_is)
    (case l_BASES => k_is)
