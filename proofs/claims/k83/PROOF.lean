import PyProof.Rows.All
import Wide.All
import OpenK.AllK
import Wide.FinOn
import HandS.ForMost
import HandS.Wide
import HandS.WideBits
import HandS.Walk
import HandS.SortInts
import HandS.TupAny
import PySem.Challenge.RW_curvetally_k83_words_and_pairs
set_option Elab.async false
set_option linter.all false
set_option maxRecDepth 100000
set_option maxHeartbeats 4000000
/-! DL, part a: data without a heap; slots of a frame; the relation between both. -/
namespace DL
open PySem L2

abbrev D := PyData
/-- the script: a list of ints that is read alone -/
abbrev scr (ns : List Int) : D := .dict [(.none, .list (ns.map PyData.int))]
mutual
inductive Rp (K : PySem.W.Frag) (H : Hp) : V → D → Prop
  | non : Rp K H .non .none
  | bl (b : Bool) : Rp K H (.bl b) (.bool b)
  | int (i : Int) : Rp K H (.int i) (.int i)
  | str (x : Str) : Rp K H (.str x) (.str x)
  | lst {a : Addr} {xs : List V} {ds : List D} : H a = some (.lst xs) → Rps K H xs ds → Rp K H (.ref a) (.list ds)
  | tup {a : Addr} {xs : List V} {ds : List D} : SqT K H a xs → Rps K H xs ds → Rp K H (.ref a) (.tuple ds)
  | scr {a : Addr} {ns : List Int} : SqL K H a (ns.map V.int) → Rp K H (.ref a) (scr ns)
inductive Rps (K : PySem.W.Frag) (H : Hp) : List V → List D → Prop
  | nil : Rps K H [] []
  | cons {v : V} {vs : List V} {d : D} {ds : List D} : Rp K H v d → Rps K H vs ds → Rps K H (v :: vs) (d :: ds)
end
theorem Same.tup {K : PySem.W.Frag} {H H' : Hp} {a : Addr} {xs : List V} (e : Same H H') (h : SqT K H a xs) : SqT K H' a xs := by
  rcases h with (h | ⟨o, h⟩) | h
  · exact .inl (.inl (e _ _ h))
  · exact .inl (.inr ⟨o, e _ _ h⟩)
  · exact .inr h
mutual
theorem Rp.mono {K : PySem.W.Frag} {H H' : Hp} (e : Same H H') : ∀ {v : V} {d : D}, Rp K H v d → Rp K H' v d
  | _, _, .non => .non
  | _, _, .bl b => .bl b
  | _, _, .int i => .int i
  | _, _, .str x => .str x
  | _, _, .lst h r => .lst (e _ _ h) (Rps.mono e r)
  | _, _, .tup h r => .tup (Same.tup e h) (Rps.mono e r)
  | _, _, .scr h => .scr (e.seq h)
theorem Rps.mono {K : PySem.W.Frag} {H H' : Hp} (e : Same H H') : ∀ {vs : List V} {ds : List D}, Rps K H vs ds → Rps K H' vs ds
  | _, _, .nil => .nil
  | _, _, .cons h r => .cons (Rp.mono e h) (Rps.mono e r)
end
mutual
theorem Rp.dp {K : PySem.W.Frag} {H : Hp} : ∀ {v : V} {d : D}, Rp K H v d → d.canLay0 = true → Dp K H v d
  | _, _, .non, _ => .non
  | _, _, .bl b, _ => .bl b
  | _, _, .int i, _ => .int i
  | _, _, .str x, _ => .str x
  | _, _, .lst h r, l => .lst (SqL.of h) (Rps.dp r (by simpa [PyData.canLay0] using l))
  | _, _, .tup h r, l => .tup h (Rps.dp r (by simpa [PyData.canLay0] using l))
  | _, _, .scr h, l => by simp [PyData.canLay0] at l
theorem Rps.dp {K : PySem.W.Frag} {H : Hp} : ∀ {vs : List V} {ds : List D}, Rps K H vs ds → PyData.canLayAll0 ds = true → DpAll K H vs ds
  | _, _, .nil, _ => .nil
  | _, _, .cons h r, l => by
    have l' := Bool.and_eq_true_iff.mp (by simpa [PyData.canLayAll0] using l)
    exact .cons (Rp.dp h l'.1) (Rps.dp r l'.2)
end
theorem Rp.sh {K : PySem.W.Frag} {H : Hp} {v : V} {d : D} (h : Rp K H v d) (s : SeqAt.shaped d = true) : Dp K H v d := h.dp (SeqAt.canLay_of_shaped s)
section
variable {K : PySem.W.Frag} {H : Hp} {vs ws : List V} {ds es : List D}
theorem Rps.length : ∀ {vs : List V} {ds : List D}, Rps K H vs ds → vs.length = ds.length
  | _, _, .nil => rfl
  | _, _, .cons _ r => by rw [List.length_cons, List.length_cons, Rps.length r]
theorem Rps.append : ∀ {vs ws : List V} {ds es : List D}, Rps K H vs ds → Rps K H ws es → Rps K H (vs ++ ws) (ds ++ es)
  | _, _, _, _, .nil, s => s
  | _, _, _, _, .cons h r, s => .cons h (Rps.append r s)
theorem Rps.get : ∀ {vs : List V} {ds : List D} {i : Nat} {d : D}, Rps K H vs ds → ds[i]? = some d → ∃ v, vs[i]? = some v ∧ Rp K H v d
  | _, _, _, _, .nil, e => by simp at e
  | _, _, 0, _, .cons h _, e => by simp at e; subst e; exact ⟨_, rfl, h⟩
  | _, _, i + 1, _, .cons _ r, e => by
    obtain ⟨v, h1, h2⟩ := Rps.get (i := i) r (by simpa using e)
    exact ⟨v, by simpa using h1, h2⟩
theorem Rps.getV : ∀ {vs : List V} {ds : List D} {i : Nat} {v : V}, Rps K H vs ds → vs[i]? = some v → ∃ d, ds[i]? = some d ∧ Rp K H v d
  | _, _, _, _, .nil, e => by simp at e
  | _, _, 0, _, .cons h _, e => by simp at e; subst e; exact ⟨_, rfl, h⟩
  | _, _, i + 1, _, .cons _ r, e => by
    obtain ⟨v, h1, h2⟩ := Rps.getV (i := i) r (by simpa using e)
    exact ⟨v, by simpa using h1, h2⟩
theorem Rps.set {x : V} {d : D} (h : Rp K H x d) : ∀ {vs : List V} {ds : List D} (i : Nat), Rps K H vs ds → Rps K H (vs.set i x) (ds.set i d)
  | _, _, _, .nil => .nil
  | _, _, 0, .cons _ t => .cons h t
  | _, _, i + 1, .cons q t => .cons q (Rps.set h i t)
theorem Rps.take : ∀ {vs : List V} {ds : List D} (n : Nat), Rps K H vs ds → Rps K H (vs.take n) (ds.take n)
  | _, _, 0, _ => .nil
  | _, _, _ + 1, .nil => .nil
  | _, _, n + 1, .cons r t => .cons r (Rps.take n t)
theorem Rps.drop : ∀ {vs : List V} {ds : List D} (n : Nat), Rps K H vs ds → Rps K H (vs.drop n) (ds.drop n)
  | _, _, 0, r => r
  | _, _, _ + 1, .nil => .nil
  | _, _, n + 1, .cons _ t => Rps.drop n t
theorem Rps.rev : ∀ {vs : List V} {ds : List D}, Rps K H vs ds → Rps K H vs.reverse ds.reverse
  | _, _, .nil => .nil
  | _, _, .cons h r => by
    rw [List.reverse_cons, List.reverse_cons]
    exact (Rps.rev r).append (.cons h .nil)
theorem Rps.dropLast (r : Rps K H vs ds) : Rps K H vs.dropLast ds.dropLast := by
  rw [List.dropLast_eq_take, List.dropLast_eq_take, r.length]
  exact r.take _
theorem Rps.rep (r : Rps K H vs ds) : ∀ k : Nat, Rps K H (List.replicate k vs).flatten (List.replicate k ds).flatten
  | 0 => .nil
  | k + 1 => by
    rw [List.replicate_succ, List.replicate_succ, List.flatten_cons, List.flatten_cons]
    exact r.append (Rps.rep r k)
theorem Rps.one {v : V} {d : D} (h : Rp K H v d) : Rps K H [v] [d] := .cons h .nil
theorem Rps.cons_inv {d : D} {ds : List D} {vs : List V} (h : Rps K H vs (d :: ds)) : ∃ v ws, vs = v :: ws ∧ Rp K H v d ∧ Rps K H ws ds := by
  cases h with
  | cons h r => exact ⟨_, _, rfl, h, r⟩
theorem Rps.nil_inv {vs : List V} (h : Rps K H vs []) : vs = [] := by cases h; rfl
end
/-- ints -/
abbrev dints (ns : List Int) : List D := ns.map PyData.int
theorem Rps.ints_inv {K : PySem.W.Frag} {H : Hp} : ∀ {ns : List Int} {vs : List V}, Rps K H vs (dints ns) → vs = ns.map V.int
  | [], _, h => h.nil_inv
  | n :: ns, _, h => by
    obtain ⟨v, ws, rfl, h1, h2⟩ := h.cons_inv
    cases h1
    rw [Rps.ints_inv h2]
    rfl
theorem Rps.of_ints {K : PySem.W.Frag} {H : Hp} : ∀ (ns : List Int), Rps K H (ns.map V.int) (dints ns)
  | [] => .nil
  | n :: ns => .cons (.int n) (Rps.of_ints ns)
theorem Rps.bools_inv {K : PySem.W.Frag} {H : Hp} : ∀ {ns : List Bool} {vs : List V}, Rps K H vs (ns.map PyData.bool) → vs = ns.map V.bl
  | [], _, h => h.nil_inv
  | n :: ns, _, h => by
    obtain ⟨v, ws, rfl, h1, h2⟩ := h.cons_inv
    cases h1
    rw [Rps.bools_inv h2]
    rfl

/-! ### slots -/
/-- what a slot of the frame holds: a value that no longer changes; a list of one's own; a handle (a list of one's own, its contents told by ok alone); a dict of one's own -/
inductive Sl where
  | v (d : D) | own (ds : List D) | hnd | dct (kvs : List (Key × D))
abbrev EnvD := List (Option Sl)
def Sl.isOwn : Sl → Bool
  | .v _ => false
  | _ => true
inductive Rt where
  | v (d : D) | own (ds : List D)
def Rt.val : Rt → D
  | .v d => d
  | .own ds => .list ds

structure Ctx where
  He : Hp
  H0e : Hp
  ha : Option Addr
  Kp : Hp

def KRps (K : PySem.W.Frag) (H : Hp) (ks : List (Key × V)) (es : List (Key × D)) : Prop := ks.map Prod.fst = es.map Prod.fst ∧ Rps K H (ks.map Prod.snd) (es.map Prod.snd)
section
variable (K : PySem.W.Frag) (ok : List D → Prop)
/-- a list of one's own at p: unknown to H0, its items known -/
structure OwnAt (H0 H : Hp) (p : Addr) (ds : List D) : Prop where
  n0 : H0 p = none
  ex : ∃ vs, H p = some (.lst vs) ∧ Rps K H0 vs ds
def SlotOk (C : Ctx) (H0 H : Hp) (x : Option (Option V)) : Sl → Prop
  | .v d => ∃ v, x = some (some v) ∧ Rp K H0 v d
  | .own ds => ∃ p, x = some (some (.ref p)) ∧ C.He p = none ∧ OwnAt K H0 H p ds
  | .hnd => ∃ a ds, x = some (some (.ref a)) ∧ (C.ha = some a ∨ C.He a = none) ∧ OwnAt K H0 H a ds ∧ ok ds
  | .dct kvs => ∃ p ks, x = some (some (.ref p)) ∧ C.He p = none ∧ H0 p = none ∧ H p = some (.dK ks) ∧ KRps K H0 ks kvs
structure Rel (C : Ctx) (H0 : Hp) (σ : St) (H : Hp) (env : EnvD) : Prop where
  sub : Same H0 H
  grow : Same C.H0e H0
  new : ∀ b o, H0 b = some o → C.H0e b = some o ∨ C.He b = none
  fr : ∀ b o, C.He b = some o → some b ≠ C.ha → H b = some o
  hv : ∀ a, C.ha = some a → (∃ o, C.He a = some o) ∧ ∃ ds, OwnAt K H0 H a ds ∧ ok ds
  len : σ.length = env.length
  slot : ∀ (i : Nat) s, env[i]? = some (some s) → SlotOk K ok C H0 H σ[i]? s
  dis : ∀ (i j : Nat) s t p, i ≠ j → env[i]? = some (some s) → env[j]? = some (some t) → s.isOwn = true → t.isOwn = true → σ[i]? = some (some (.ref p)) → σ[j]? ≠ some (some (.ref p))
  kp : Same C.Kp H
  kn : ∀ (i : Nat) s p, env[i]? = some (some s) → s.isOwn = true → σ[i]? = some (some (.ref p)) → C.Kp p = none
  kh : ∀ a, C.ha = some a → C.Kp a = none
  kz : ∀ b o, C.Kp b = some o → H0 b = none
end
section
variable {K : PySem.W.Frag} {ok : List D → Prop} {C : Ctx} {H0 H01 H H1 : Hp} {σ : St} {env : EnvD}
theorem OwnAt.is {p : Addr} {ds : List D} (h : OwnAt K H0 H p ds) : ∃ vs, H p = some (.lst vs) := let ⟨vs, hp, _⟩ := h.ex; ⟨vs, hp⟩
theorem KRps.mono {ks : List (Key × V)} {es : List (Key × D)} (e : Same H H1) (h : KRps K H ks es) : KRps K H1 ks es := ⟨h.1, h.2.mono e⟩
/-- an own slot's address -/
theorem Rel.own_addr (R : Rel K ok C H0 σ H env) {i : Nat} {s : Sl} (h : env[i]? = some (some s)) (o : s.isOwn = true) : ∃ p u, σ[i]? = some (some (.ref p)) ∧ H0 p = none ∧ H p = some u ∧ (C.ha = some p ∨ C.He p = none) ∧ Mut (some u) := by
  have q := R.slot i s h
  cases s with
  | v d => cases o
  | own ds => obtain ⟨p, e, n, n0, vs, hp, _⟩ := q; exact ⟨p, _, e, n0, hp, .inr n, trivial⟩
  | hnd => obtain ⟨a, ds, e, n, ⟨n0, vs, hp, _⟩, _⟩ := q; exact ⟨a, _, e, n0, hp, n, trivial⟩
  | dct kvs => obtain ⟨p, ks, e, n, n0, hp, _⟩ := q; exact ⟨p, _, e, n0, hp, .inr n, trivial⟩
/-- fresh for the whole: not tracked, so new since the entry too -/
theorem Rel.fresh (R : Rel K ok C H0 σ H env) {p : Addr} (h : H p = none) : C.He p = none := by
  cases e : C.He p with
  | none => rfl
  | some o =>
    by_cases ha : some p = C.ha
    · obtain ⟨_, ds, ⟨_, vs, hp, _⟩, _⟩ := R.hv p ha.symm
      rw [h] at hp; cases hp
    · have := R.fr p o e ha
      rw [h] at this; cases this
theorem OwnAt.keep {p : Addr} {ds : List D} (h : OwnAt K H0 H p ds) (e : Same H0 H01) (n : H01 p = none) (k : ∀ o, H p = some o → H1 p = some o) : OwnAt K H01 H1 p ds := by
  obtain ⟨_, vs, hp, r⟩ := h
  exact ⟨n, vs, k _ hp, r.mono e⟩
/-- THE STEP: all that was tracked is kept, what is known has grown by new objects -/
theorem Rel.step (R : Rel K ok C H0 σ H env) (e0 : Same H0 H01) (sub : Same H01 H1) (new : ∀ b o, H01 b = some o → H0 b = some o ∨ H b = none) (kp : Same H H1) : Rel K ok C H01 σ H1 env := by
  have non : ∀ p u, H0 p = none → H p = some u → H01 p = none := fun p u n h => by
    cases q : H01 p with
    | none => rfl
    | some o =>
      rcases new p o q with z | z
      · rw [n] at z; cases z
      · rw [h] at z; cases z
  refine ⟨sub, fun b o h => e0 _ _ (R.grow b o h), fun b o h => ?_, fun b o h n => kp _ _ (R.fr b o h n), fun a ha => ?_, R.len, fun i s h => ?_, R.dis, fun b o z => kp _ _ (R.kp b o z), R.kn, R.kh, fun b o z => non b o (R.kz b o z) (R.kp b o z)⟩
  · rcases new b o h with z | z
    · exact R.new b o z
    · exact .inr (R.fresh z)
  · obtain ⟨h1, ds, h2, h3⟩ := R.hv a ha
    obtain ⟨vs, hp⟩ := h2.is
    exact ⟨h1, ds, h2.keep e0 (non a _ h2.n0 hp) (kp a), h3⟩
  · have q := R.slot i s h
    cases s with
    | v d => obtain ⟨v, e, r⟩ := q; exact ⟨v, e, r.mono e0⟩
    | own ds =>
      obtain ⟨p, e, n, h2⟩ := q
      obtain ⟨vs, hp⟩ := h2.is
      exact ⟨p, e, n, h2.keep e0 (non p _ h2.n0 hp) (kp p)⟩
    | hnd =>
      obtain ⟨a, ds, e, n, h2, h3⟩ := q
      obtain ⟨vs, hp⟩ := h2.is
      exact ⟨a, ds, e, n, h2.keep e0 (non a _ h2.n0 hp) (kp a), h3⟩
    | dct kvs =>
      obtain ⟨p, ks, e, n, n0, hp, r⟩ := q
      exact ⟨p, ks, e, n, non p _ n0 hp, kp _ _ hp, r.mono e0⟩
theorem same_new {p : Addr} {o : HO} (h : H p = none) : Same H (upd H p o) := fun b x e => by
  rw [upd_ne (ne_of_none e h)]
  exact e
/-- a new object is laid and known -/
theorem Rel.laid (R : Rel K ok C H0 σ H env) {p : Addr} {o : HO} (h : H p = none) : Rel K ok C (upd H0 p o) σ (upd H p o) env ∧ Same H0 (upd H0 p o) := by
  have h0 : H0 p = none := R.sub.free h
  have e0 : Same H0 (upd H0 p o) := same_new h0
  refine ⟨R.step e0 (fun b x e => ?_) (fun b x e => ?_) (same_new h), e0⟩
  · by_cases hb : b = p
    · subst hb; rw [upd_same] at e ⊢; exact e
    · rw [upd_ne hb] at e ⊢; exact R.sub _ _ e
  · by_cases hb : b = p
    · subst hb; exact .inr h
    · rw [upd_ne hb] at e; exact .inl e
/-- a new object is laid, not known -/
theorem Rel.laid0 (R : Rel K ok C H0 σ H env) {p : Addr} {o : HO} (h : H p = none) : Rel K ok C H0 σ (upd H p o) env :=
  R.step (Same.refl _) (fun b x e => by rw [upd_ne (ne_of_none (R.sub b x e) h)]; exact R.sub b x e) (fun b x e => .inl e) (same_new h)
/-- what is unknown, of one's own and in no slot becomes known -/
theorem Rel.know (R : Rel K ok C H0 σ H env) {p : Addr} {o : HO} (h : H p = some o) (n0 : H0 p = none) (n : C.He p = none) (kq : C.Kp p = none) (ns : ∀ (i : Nat) s, env[i]? = some (some s) → s.isOwn = true → σ[i]? ≠ some (some (.ref p))) :
    Rel K ok C (upd H0 p o) σ H env ∧ Same H0 (upd H0 p o) := by
  have e0 : Same H0 (upd H0 p o) := same_new n0
  have non : ∀ q, q ≠ p → H0 q = none → (upd H0 p o) q = none := fun q hq z => by rw [upd_ne hq]; exact z
  refine ⟨⟨fun b x e => ?_, fun b x e => e0 _ _ (R.grow b x e), fun b x e => ?_, R.fr, fun a ha => ?_, R.len, fun i s hs => ?_, R.dis, R.kp, R.kn, R.kh, fun b x z => non b (fun y => by subst y; rw [kq] at z; cases z) (R.kz b x z)⟩, e0⟩
  · by_cases hb : b = p
    · subst hb; rw [upd_same] at e; rw [h]; exact e
    · rw [upd_ne hb] at e; exact R.sub _ _ e
  · by_cases hb : b = p
    · subst hb; exact .inr n
    · rw [upd_ne hb] at e; exact R.new _ _ e
  · obtain ⟨⟨oa, h1⟩, ds, h2, h3⟩ := R.hv a ha
    have hap : a ≠ p := fun z => by subst z; rw [n] at h1; cases h1
    exact ⟨⟨oa, h1⟩, ds, h2.keep e0 (non a hap h2.n0) (fun _ z => z), h3⟩
  · have q := R.slot i s hs
    cases s with
    | v d => obtain ⟨v, e, r⟩ := q; exact ⟨v, e, r.mono e0⟩
    | own ds =>
      obtain ⟨a, e, m, h2⟩ := q
      exact ⟨a, e, m, h2.keep e0 (non a (fun z => by subst z; exact ns i _ hs rfl e) h2.n0) (fun _ z => z)⟩
    | hnd =>
      obtain ⟨a, ds, e, m, h2, h3⟩ := q
      exact ⟨a, ds, e, m, h2.keep e0 (non a (fun z => by subst z; exact ns i _ hs rfl e) h2.n0) (fun _ z => z), h3⟩
    | dct kvs =>
      obtain ⟨a, ks, e, m, m0, hp, r⟩ := q
      exact ⟨a, ks, e, m, non a (fun z => by subst z; exact ns i _ hs rfl e) m0, hp, r.mono e0⟩
/-- what is not in any own slot: addresses that were untracked -/
theorem Rel.noslot (R : Rel K ok C H0 σ H env) {p : Addr} (h : H p = none) : ∀ (i : Nat) s, env[i]? = some (some s) → s.isOwn = true → σ[i]? ≠ some (some (.ref p)) := fun i s hs o z => by
  obtain ⟨q, u, e, _, hp, _⟩ := R.own_addr hs o
  rw [e] at z
  cases z
  rw [h] at hp; cases hp
/-- a slot is stored: a known value -/
theorem Rel.setV (R : Rel K ok C H0 σ H env) {i : Nat} {x : V} {d : D} (r : Rp K H0 x d) : Rel K ok C H0 (σ.set i (some x)) H (env.set i (some (.v d))) := by
  refine ⟨R.sub, R.grow, R.new, R.fr, R.hv, by rw [List.length_set, List.length_set]; exact R.len, fun j s hs => ?_, fun j k s t p hjk hs ht os ot => ?_, R.kp, fun j s p hs os => ?_, R.kh, R.kz⟩
  · by_cases hj : i = j
    · subst hj
      by_cases hi : i < env.length
      · rw [List.getElem?_set_self hi] at hs
        cases hs
        exact ⟨x, by rw [List.getElem?_set_self (by rw [R.len]; exact hi)], r⟩
      · rw [List.getElem?_eq_none (by rw [List.length_set]; omega)] at hs; cases hs
    · rw [List.getElem?_set_ne hj] at hs ⊢
      exact R.slot j s hs
  · have h1 : i ≠ j := fun z => by
      subst z
      by_cases hi : i < env.length
      · rw [List.getElem?_set_self hi] at hs; cases hs; cases os
      · rw [List.getElem?_eq_none (by rw [List.length_set]; omega)] at hs; cases hs
    have h2 : i ≠ k := fun z => by
      subst z
      by_cases hi : i < env.length
      · rw [List.getElem?_set_self hi] at ht; cases ht; cases ot
      · rw [List.getElem?_eq_none (by rw [List.length_set]; omega)] at ht; cases ht
    rw [List.getElem?_set_ne h1] at hs ⊢
    rw [List.getElem?_set_ne h2] at ht ⊢
    exact R.dis j k s t p hjk hs ht os ot
  · have h1 : i ≠ j := fun z => by
      subst z
      by_cases hi : i < env.length
      · rw [List.getElem?_set_self hi] at hs; cases hs; cases os
      · rw [List.getElem?_eq_none (by rw [List.length_set]; omega)] at hs; cases hs
    rw [List.getElem?_set_ne h1] at hs ⊢
    exact R.kn j s p hs os
/-- a slot is stored: a thing of one's own -/
theorem Rel.setO (R : Rel K ok C H0 σ H env) {i : Nat} {p : Addr} {s : Sl} (q : SlotOk K ok C H0 H (some (some (.ref p))) s) (os : s.isOwn = true) (kq : C.Kp p = none)
    (ns : ∀ (j : Nat) t, j ≠ i → env[j]? = some (some t) → t.isOwn = true → σ[j]? ≠ some (some (.ref p))) : Rel K ok C H0 (σ.set i (some (.ref p))) H (env.set i (some s)) := by
  refine ⟨R.sub, R.grow, R.new, R.fr, R.hv, by rw [List.length_set, List.length_set]; exact R.len, fun j t ht => ?_, fun j k t u a hjk ht hu ot ou e1 e2 => ?_, R.kp, fun j t a ht ot e1 => ?_, R.kh, R.kz⟩
  · by_cases hj : i = j
    · subst hj
      by_cases hi : i < env.length
      · rw [List.getElem?_set_self hi] at ht
        cases ht
        rw [List.getElem?_set_self (by rw [R.len]; exact hi)]
        exact q
      · rw [List.getElem?_eq_none (by rw [List.length_set]; omega)] at ht; cases ht
    · rw [List.getElem?_set_ne hj] at ht ⊢
      exact R.slot j t ht
  · have lt : ∀ {j : Nat} {t : Sl}, (env.set i (some s))[j]? = some (some t) → j < env.length := fun {j t} z => by
      have := (List.getElem?_eq_some_iff.mp z).1
      rw [List.length_set] at this
      exact this
    by_cases h1 : i = j
    · subst h1
      have h2 : i ≠ k := hjk
      rw [List.getElem?_set_ne h2] at hu e2
      rw [List.getElem?_set_self (by rw [R.len]; exact lt ht)] at e1
      cases e1
      exact ns k u (Ne.symm h2) hu ou e2
    · rw [List.getElem?_set_ne h1] at ht e1
      by_cases h2 : i = k
      · subst h2
        rw [List.getElem?_set_self (by rw [R.len]; exact lt hu)] at e2
        cases e2
        exact ns j t (Ne.symm h1) ht ot e1
      · rw [List.getElem?_set_ne h2] at hu e2
        exact R.dis j k t u a hjk ht hu ot ou e1 e2
  · by_cases h1 : i = j
    · subst h1
      by_cases hi : i < env.length
      · rw [List.getElem?_set_self (by rw [R.len]; exact hi)] at e1
        cases e1
        exact kq
      · rw [List.getElem?_eq_none (by rw [List.length_set]; omega)] at ht; cases ht
    · rw [List.getElem?_set_ne h1] at ht e1
      exact R.kn j t a ht ot e1
/-- a slot forgotten -/
theorem Rel.drop (R : Rel K ok C H0 σ H env) {i : Nat} {y : Option V} : Rel K ok C H0 (σ.set i y) H (env.set i none) := by
  refine ⟨R.sub, R.grow, R.new, R.fr, R.hv, by rw [List.length_set, List.length_set]; exact R.len, fun j s hs => ?_, fun j k s t p hjk hs ht os ot => ?_, R.kp, fun j s p hs os => ?_, R.kh, R.kz⟩
  · have hj : i ≠ j := fun z => by
      subst z
      by_cases hi : i < env.length
      · rw [List.getElem?_set_self hi] at hs; cases hs
      · rw [List.getElem?_eq_none (by rw [List.length_set]; omega)] at hs; cases hs
    rw [List.getElem?_set_ne hj] at hs ⊢
    exact R.slot j s hs
  · have ne : ∀ {j : Nat} {t : Sl}, (env.set i none)[j]? = some (some t) → i ≠ j := fun {j t} z q => by
      subst q
      by_cases hi : i < env.length
      · rw [List.getElem?_set_self hi] at z; cases z
      · rw [List.getElem?_eq_none (by rw [List.length_set]; omega)] at z; cases z
    have h1 := ne hs
    have h2 := ne ht
    rw [List.getElem?_set_ne h1] at hs ⊢
    rw [List.getElem?_set_ne h2] at ht ⊢
    exact R.dis j k s t p hjk hs ht os ot
  · have hj : i ≠ j := fun z => by
      subst z
      by_cases hi : i < env.length
      · rw [List.getElem?_set_self hi] at hs; cases hs
      · rw [List.getElem?_eq_none (by rw [List.length_set]; omega)] at hs; cases hs
    rw [List.getElem?_set_ne hj] at hs ⊢
    exact R.kn j s p hs os
/-- a thing of one's own changes -/
theorem Rel.put (R : Rel K ok C H0 σ H env) {i : Nat} {p : Addr} {s t : Sl} {o : HO} (hs : env[i]? = some (some s)) (os : s.isOwn = true) (e : σ[i]? = some (some (.ref p))) (nh : C.ha ≠ some p)
    (ot : t.isOwn = true) (q : SlotOk K ok C H0 (upd H p o) (some (some (.ref p))) t) : Rel K ok C H0 σ (upd H p o) (env.set i (some t)) := by
  obtain ⟨p', u, e', n0, hp, hn, _⟩ := R.own_addr hs os
  rw [e] at e'
  cases e'
  have hn : C.He p = none := hn.resolve_left nh
  have lt : i < env.length := (List.getElem?_eq_some_iff.mp hs).1
  have up : ∀ {b : Addr} {x : HO}, b ≠ p → H b = some x → (upd H p o) b = some x := fun {b x} hb z => by rw [upd_ne hb]; exact z
  refine ⟨fun b x z => up (fun y => by subst y; rw [n0] at z; cases z) (R.sub b x z), R.grow, R.new, fun b x z m => up (fun y => by subst y; rw [hn] at z; cases z) (R.fr b x z m), fun a ha => ?_, ?_, fun j r hr => ?_, fun j k r r' a hjk hr hr' o1 o2 e1 => ?_, fun b x z => up (fun y => by subst y; rw [R.kn i s b hs os e] at z; cases z) (R.kp b x z), fun j r a hr o' e1 => ?_, R.kh, R.kz⟩
  · obtain ⟨h1, ds, h2, h3⟩ := R.hv a ha
    have hap : a ≠ p := fun z => by subst z; exact nh ha
    exact ⟨h1, ds, h2.keep (Same.refl _) h2.n0 (fun x z => up hap z), h3⟩
  · rw [List.length_set]; exact R.len
  · by_cases hj : i = j
    · subst hj
      rw [List.getElem?_set_self lt] at hr
      cases hr
      rw [e]; exact q
    · rw [List.getElem?_set_ne hj] at hr
      have w := R.slot j r hr
      have other : ∀ {a : Addr}, r.isOwn = true → σ[j]? = some (some (.ref a)) → a ≠ p := fun {a} o' z y => by
        subst y
        exact R.dis i j s r a hj hs hr os o' e z
      cases r with
      | v d => exact w
      | own ds => obtain ⟨a, z, m, h2⟩ := w; exact ⟨a, z, m, h2.keep (Same.refl _) h2.n0 (fun x y => up (other rfl z) y)⟩
      | hnd => obtain ⟨a, ds, z, m, h2, h3⟩ := w; exact ⟨a, ds, z, m, h2.keep (Same.refl _) h2.n0 (fun x y => up (other rfl z) y), h3⟩
      | dct kvs => obtain ⟨a, ks, z, m, m0, hq, r'⟩ := w; exact ⟨a, ks, z, m, m0, up (other rfl z) hq, r'⟩
  · have old : ∀ {j : Nat} {r : Sl}, (env.set i (some t))[j]? = some (some r) → r.isOwn = true → ∃ r', env[j]? = some (some r') ∧ r'.isOwn = true := fun {j r} z o' => by
      by_cases hj : i = j
      · subst hj; exact ⟨s, hs, os⟩
      · rw [List.getElem?_set_ne hj] at z; exact ⟨r, z, o'⟩
    obtain ⟨r1, z1, y1⟩ := old hr o1
    obtain ⟨r2, z2, y2⟩ := old hr' o2
    exact R.dis j k r1 r2 a hjk z1 z2 y1 y2 e1
  · by_cases hj : i = j
    · subst hj; rw [e] at e1; cases e1; exact R.kn i s p hs os e
    · rw [List.getElem?_set_ne hj] at hr; exact R.kn j r a hr o' e1
/-- a call has run that may have changed the handle at a -/
theorem Rel.called (R : Rel K ok C H0 σ H env) {i : Nat} {a : Addr} (hs : env[i]? = some (some .hnd)) (ea : σ[i]? = some (some (.ref a))) (e0 : Same H0 H01) (sub : Same H01 H1) (new : ∀ b o, H01 b = some o → H0 b = some o ∨ H b = none)
    (kp : ∀ b o, H b = some o → b ≠ a → H1 b = some o) (na : H01 a = none) {ds' : List D} (ha' : OwnAt K H01 H1 a ds') (ok' : ok ds') : Rel K ok C H01 σ H1 env := by
  have non : ∀ p u, H0 p = none → H p = some u → H01 p = none := fun p u n h => by
    cases q : H01 p with
    | none => rfl
    | some o =>
      rcases new p o q with z | z
      · rw [n] at z; cases z
      · rw [h] at z; cases z
  obtain ⟨a', da, ea', na', ⟨na0, va, hva, _⟩, _⟩ := R.slot i .hnd hs
  rw [ea] at ea'
  cases ea'
  refine ⟨sub, fun b o h => e0 _ _ (R.grow b o h), fun b o h => ?_, fun b o h n => ?_, fun b hb => ?_, R.len, fun j s h => ?_, R.dis, fun b o z => kp _ _ (R.kp b o z) (fun y => by subst y; rw [R.kn i _ b hs rfl ea] at z; cases z), R.kn, R.kh, fun b o z => non b o (R.kz b o z) (R.kp b o z)⟩
  · rcases new b o h with z | z
    · exact R.new b o z
    · exact .inr (R.fresh z)
  · refine kp _ _ (R.fr b o h n) fun z => ?_
    subst z
    rcases na' with z | z
    · exact n z.symm
    · rw [h] at z; cases z
  · obtain ⟨h1, ds, h2, h3⟩ := R.hv b hb
    by_cases hba : b = a
    · subst hba; exact ⟨h1, ds', ha', ok'⟩
    · obtain ⟨vs, hp⟩ := h2.is
      exact ⟨h1, ds, h2.keep e0 (non b _ h2.n0 hp) (fun o z => kp b o z hba), h3⟩
  · have q := R.slot j s h
    have other : ∀ {b : Addr}, i ≠ j → s.isOwn = true → σ[j]? = some (some (.ref b)) → b ≠ a := fun {b} hij o' z y => by
      subst y
      exact R.dis i j .hnd s b hij hs h rfl o' ea z
    by_cases hij : i = j
    · subst hij
      rw [hs] at h
      cases h
      exact ⟨a, ds', ea, na', ha', ok'⟩
    · cases s with
      | v d => obtain ⟨v, e, r⟩ := q; exact ⟨v, e, r.mono e0⟩
      | own ds =>
        obtain ⟨p, e, n, h2⟩ := q
        obtain ⟨vs, hp⟩ := h2.is
        exact ⟨p, e, n, h2.keep e0 (non p _ h2.n0 hp) (fun o z => kp p o z (other hij rfl e))⟩
      | hnd =>
        obtain ⟨b, ds, e, n, h2, h3⟩ := q
        obtain ⟨vs, hp⟩ := h2.is
        exact ⟨b, ds, e, n, h2.keep e0 (non b _ h2.n0 hp) (fun o z => kp b o z (other hij rfl e)), h3⟩
      | dct kvs =>
        obtain ⟨p, ks, e, n, n0, hp, r⟩ := q
        exact ⟨p, ks, e, n, non p _ n0 hp, kp _ _ hp (other hij rfl e), r.mono e0⟩
/-- a thing that no slot holds is protected, or no longer -/
theorem Rel.guard (R : Rel K ok C H0 σ H env) {Kq : Hp} (h : Same Kq H) (ns : ∀ p o, Kq p = some o → C.Kp p = some o ∨ ((∀ (i : Nat) s, env[i]? = some (some s) → s.isOwn = true → σ[i]? ≠ some (some (.ref p))) ∧ C.ha ≠ some p ∧ H0 p = none)) : Rel K ok { C with Kp := Kq } H0 σ H env := by
  refine ⟨R.sub, R.grow, R.new, R.fr, R.hv, R.len, fun i s hs => ?_, R.dis, h, fun i s p hs os e => ?_, fun a ha => ?_, fun b o z => ?_⟩
  · have q := R.slot i s hs
    cases s <;> exact q
  · cases q : Kq p with
    | none => exact q
    | some o =>
      rcases ns p o q with z | z
      · rw [R.kn i s p hs os e] at z; cases z
      · exact absurd e (z.1 i s hs os)
  · cases q : Kq a with
    | none => exact q
    | some o =>
      rcases ns a o q with z | z
      · rw [R.kh a ha] at z; cases z
      · exact absurd ha z.2.1
  · rcases ns b o z with z | z
    · exact R.kz b o z
    · exact z.2.2
end
end DL
/-! DL, part b: expressions, tests, arguments: what is asked, without a heap; each rule sound. -/
namespace DL
open PySem L2

abbrev WE := EnvD → (D → Prop) → Prop
abbrev WL := EnvD → (List D → Prop) → Prop
abbrev WT := EnvD → (Bool → Prop) → Prop
inductive Ar where
  | v (d : D) | hnd
abbrev WA := EnvD → (List Ar → Prop) → Prop

/-- a slot by its place -/
def get : EnvD → Nat → Option Sl
  | [], _ => none
  | x :: _, 0 => x
  | _ :: r, n + 1 => get r n
theorem get_eq : ∀ {env : EnvD} {i : Nat} {s : Sl}, get env i = some s → env[i]? = some (some s)
  | [], _, _, h => by cases h
  | x :: _, 0, s, h => by
    have h' : x = some s := h
    subst h'; rfl
  | _ :: r, n + 1, s, h => by
    rw [List.getElem?_cons_succ]
    exact get_eq (env := r) h

structure FreshL (K : PySem.W.Frag) (C : Ctx) (H0 : Hp) (σ : L2.St) (H : Hp) (env : EnvD) (p : Addr) (ds : List D) : Prop where
  he : C.He p = none
  own : OwnAt K H0 H p ds
  ns : ∀ (i : Nat) s, env[i]? = some (some s) → s.isOwn = true → σ[i]? ≠ some (some (.ref p))
  kq : C.Kp p = none

def ArgR (K : PySem.W.Frag) (H0 : Hp) (σ : L2.St) (env : EnvD) : Ar → V → Prop
  | .v d, x => Rp K H0 x d
  | .hnd, x => ∃ (i : Nat) (a : Addr), env[i]? = some (some .hnd) ∧ σ[i]? = some (some (.ref a)) ∧ x = .ref a
inductive ArgsR (K : PySem.W.Frag) (H0 : Hp) (σ : L2.St) (env : EnvD) : List Ar → List V → Prop
  | nil : ArgsR K H0 σ env [] []
  | cons {a : Ar} {as : List Ar} {x : V} {xs : List V} : ArgR K H0 σ env a x → ArgsR K H0 σ env as xs → ArgsR K H0 σ env (a :: as) (x :: xs)
section
variable {K : PySem.W.Frag} {ok : List D → Prop}
theorem ArgR.mono {H0 H01 : Hp} {σ : L2.St} {env : EnvD} (e : Same H0 H01) : ∀ {a : Ar} {x : V}, ArgR K H0 σ env a x → ArgR K H01 σ env a x
  | .v _, _, h => Rp.mono e h
  | .hnd, _, h => h
theorem ArgsR.length {H0 : Hp} {σ : L2.St} {env : EnvD} : ∀ {as : List Ar} {xs : List V}, ArgsR K H0 σ env as xs → as.length = xs.length
  | _, _, .nil => rfl
  | _, _, .cons _ t => by rw [List.length_cons, List.length_cons, ArgsR.length t]
variable (K ok)
def SndE (te : TE) (we : WE) : Prop := ∀ (C : Ctx) (H0 : Hp) (σ : L2.St) (H : Hp) (env : EnvD) (Q : D → Prop) (R : VK), Rel K ok C H0 σ H env → we env Q →
  (∀ d v H1 H01, Q d → Rel K ok C H01 σ H1 env → Same H0 H01 → Rp K H01 v d → R v H1) → te σ H R
def SndL (te : TE) (wl : WL) : Prop := ∀ (C : Ctx) (H0 : Hp) (σ : L2.St) (H : Hp) (env : EnvD) (Q : List D → Prop) (R : VK), Rel K ok C H0 σ H env → wl env Q →
  (∀ ds p H1 H01, Q ds → Rel K ok C H01 σ H1 env → Same H0 H01 → FreshL K C H01 σ H1 env p ds → R (.ref p) H1) → te σ H R
def SndT (tt : TT) (wt : WT) : Prop := ∀ (C : Ctx) (H0 : Hp) (σ : L2.St) (H : Hp) (env : EnvD) (Q : Bool → Prop) (R : Bool → Hp → Prop), Rel K ok C H0 σ H env → wt env Q →
  (∀ b H1 H01, Q b → Rel K ok C H01 σ H1 env → Same H0 H01 → R b H1) → tt σ H R
def SndA (ta : TA) (wa : WA) : Prop := ∀ (C : Ctx) (H0 : Hp) (σ : L2.St) (H : Hp) (env : EnvD) (Q : List Ar → Prop) (R : List V → Hp → Prop), Rel K ok C H0 σ H env → wa env Q →
  (∀ as vs H1 H01, Q as → Rel K ok C H01 σ H1 env → Same H0 H01 → ArgsR K H01 σ env as vs → R vs H1) → ta σ H R
/-- borrowed: a known value, or a list of one's own that stands while the slots do -/
def Bor (H0 H : Hp) (v : V) (d : D) : Prop := Rp K H0 v d ∨ ∃ p ds, v = .ref p ∧ d = .list ds ∧ OwnAt K H0 H p ds
def SndB (te : TE) (wb : WE) : Prop := ∀ (C : Ctx) (H0 : Hp) (σ : L2.St) (H : Hp) (env : EnvD) (Q : D → Prop) (R : VK), Rel K ok C H0 σ H env → wb env Q →
  (∀ d v H1 H01, Q d → Rel K ok C H01 σ H1 env → Same H0 H01 → (∀ H2 H02, Rel K ok C H02 σ H2 env → Same H01 H02 → Bor K H02 H2 v d) → R v H1) → te σ H R
end
section
variable (X : Cx) (ok : List D → Prop)
def PDE (e : Expr) (we : WE) : Prop := ∃ te, PE X e te ∧ SndE X.K ok te we
def PDL (e : Expr) (wl : WL) : Prop := ∃ te, PE X e te ∧ SndL X.K ok te wl
def PDB (e : Expr) (wb : WE) : Prop := ∃ te, PE X e te ∧ SndB X.K ok te wb
def PDT (e : Expr) (wt : WT) : Prop := ∃ tt, PT X e tt ∧ SndT X.K ok tt wt
def PDW (e : Expr) (wt : WT) : Prop := ∃ tt, PW X e tt ∧ SndT X.K ok tt wt
def PDA (es : List Expr) (wa : WA) : Prop := ∃ ta, PA X es ta ∧ SndA X.K ok ta wa
end

/-! ### what is asked -/
def wC (d : D) : WE := fun _ Q => Q d
def wVar (i : Nat) : WE := fun env Q => match get env i with
  | some (.v d) => Q d
  | _ => False
/-- a name as it stands, also a list of one's own -/
def wBor (i : Nat) : WE := fun env Q => match get env i with
  | some (.v d) => Q d
  | some (.own ds) => Q (.list ds)
  | _ => False
def wBin (f : D → D → (D → Prop) → Prop) (a b : WE) : WE := fun env Q => a env fun x => b env fun y => f x y Q
def wUn (f : D → (D → Prop) → Prop) (a : WE) : WE := fun env Q => a env fun x => f x Q
def fI (g : Int → Int → Int) : D → D → (D → Prop) → Prop := fun d e Q => match d, e with
  | .int i, .int j => Q (.int (g i j))
  | _, _ => False
def fIC (c : Int → Int → Prop) (g : Int → Int → Int) : D → D → (D → Prop) → Prop := fun d e Q => match d, e with
  | .int i, .int j => c i j ∧ Q (.int (g i j))
  | _, _ => False
def fB (g : Int → Int → Bool) : D → D → (D → Prop) → Prop := fun d e Q => match d, e with
  | .int i, .int j => Q (.bool (g i j))
  | _, _ => False
def fAdd : D → D → (D → Prop) → Prop := fun d e Q => match d, e with
  | .int i, .int j => Q (.int (i + j))
  | _, _ => False
def fSub : D → D → (D → Prop) → Prop := fun d e Q => match d, e with
  | .int i, .int j => Q (.int (i - j))
  | _, _ => False
def fMul : D → D → (D → Prop) → Prop := fun d e Q => match d, e with
  | .int i, .int j => CMul i j ∧ Q (.int (i * j))
  | _, _ => False
def fMulX : D → D → (D → Prop) → Prop := fun d e Q => match d, e with
  | .int i, .int j => CMulX i j ∧ Q (.int (i * j))
  | _, _ => False
def fMod : D → D → (D → Prop) → Prop := fun d e Q => match d, e with
  | .int i, .int j => 0 < j ∧ Q (.int (i % j))
  | _, _ => False
def fDiv : D → D → (D → Prop) → Prop := fun d e Q => match d, e with
  | .int i, .int j => CDivW i j ∧ Q (.int (i / j))
  | _, _ => False
def fShl : D → D → (D → Prop) → Prop := fun d e Q => match d, e with
  | .int i, .int j => CPow i j ∧ Q (.int (i * 2 ^ j.toNat))
  | _, _ => False
def fPow : D → D → (D → Prop) → Prop := fun d e Q => match d, e with
  | .int i, .int j => CPow i j ∧ Q (.int (i ^ j.toNat))
  | _, _ => False
def fMax2 : D → D → (D → Prop) → Prop := fun d e Q => match d, e with
  | .int i, .int j => Q (.int (if j > i then j else i))
  | _, _ => False
def fMin2 : D → D → (D → Prop) → Prop := fun d e Q => match d, e with
  | .int i, .int j => Q (.int (if j < i then j else i))
  | _, _ => False
def fLt : D → D → (D → Prop) → Prop := fun d e Q => match d, e with
  | .int i, .int j => Q (.bool (decide (i < j)))
  | _, _ => False
def fLe : D → D → (D → Prop) → Prop := fun d e Q => match d, e with
  | .int i, .int j => Q (.bool (decide (i ≤ j)))
  | _, _ => False
def fGt : D → D → (D → Prop) → Prop := fun d e Q => match d, e with
  | .int i, .int j => Q (.bool (decide (j < i)))
  | _, _ => False
def fGe : D → D → (D → Prop) → Prop := fun d e Q => match d, e with
  | .int i, .int j => Q (.bool (decide (j ≤ i)))
  | _, _ => False
def fEq : D → D → (D → Prop) → Prop := fun d e Q => match d, e with
  | .int i, .int j => Q (.bool (decide (i = j)))
  | d, e => SeqAt.shaped d = true ∧ SeqAt.shaped e = true ∧ Q (.bool (PyData.eqv d e))
def fNe : D → D → (D → Prop) → Prop := fun d e Q => match d, e with
  | .int i, .int j => Q (.bool (!decide (i = j)))
  | d, e => SeqAt.shaped d = true ∧ SeqAt.shaped e = true ∧ Q (.bool (!PyData.eqv d e))
def isNone : D → Bool
  | .none => true
  | _ => false
def fNeg : D → (D → Prop) → Prop := fun d Q => match d with
  | .int i => Q (.int (-i))
  | _ => False
def wIsN (a : WE) : WE := fun env Q => a env fun x => Q (.bool (isNone x))
def wNotN (a : WE) : WE := fun env Q => a env fun x => Q (.bool (!isNone x))
def wTest (a : WE) : WT := fun env Q => a env fun x => match x with
  | .bool b => Q b
  | _ => False
def wNot (t : WT) : WT := fun env Q => t env fun b => Q (!b)
/-- both ways -/
def wAnd (t u : WT) : WT := fun env Q => t env fun b => (b = true → u env Q) ∧ (b = false → Q false)
def wOr (t u : WT) : WT := fun env Q => t env fun b => (b = true → Q true) ∧ (b = false → u env Q)
/-- by a told answer of the second -/
def wAndD (t u : WT) : WT := fun env Q => t env fun b => ∃ c : Bool, (b = true → u env fun d => d = c) ∧ Q (b && c)
def wOrD (t u : WT) : WT := fun env Q => t env fun b => ∃ c : Bool, (b = false → u env fun d => d = c) ∧ Q (b || c)
/-- as values -/
def wBl (t : WT) : WE := fun env Q => t env fun b => Q (.bool b)
def wIfE (t : WT) (a b : WE) : WE := fun env Q => t env fun c => (c = true → a env Q) ∧ (c = false → b env Q)
def wNil : WA := fun _ Q => Q []
def wCons (a : WE) (r : WA) : WA := fun env Q => a env fun x => r env fun xs => Q (.v x :: xs)
def wConsH (i : Nat) (r : WA) : WA := fun env Q => match get env i with
  | some .hnd => r env fun xs => Q (.hnd :: xs)
  | _ => False
def vals : List Ar → List D
  | [] => []
  | .v d :: r => d :: vals r
  | .hnd :: r => vals r
def wTup (a : WA) : WE := fun env Q => a env fun as => as.length ≤ 1000 ∧ Q (.tuple (vals as))
def wLst (a : WA) : WL := fun env Q => a env fun as => as.length ≤ 1000 ∧ Q (vals as)
/-- a new list as a value -/
def wFz (l : WL) : WE := fun env Q => l env fun ds => Q (.list ds)
def fIx : D → D → (D → Prop) → Prop := fun d e Q => match d, e with
  | .list ds, .int i => ∃ x, atI ds i = some x ∧ Q x
  | .tuple ds, .int i => ∃ x, atI ds i = some x ∧ Q x
  | .dict [(.none, .list ds)], .int i => ∃ x, atI ds i = some x ∧ Q x
  | _, _ => False
def wIx (a b : WE) : WE := fun env Q => a env fun x => b env fun y => fIx x y Q
def wLen (a : WE) : WE := fun env Q => a env fun x => match x with
  | .list ds => Q (.int ds.length)
  | .tuple ds => Q (.int ds.length)
  | .dict [(.none, .list ds)] => Q (.int ds.length)
  | _ => False
abbrev WM := List Ar → (Rt → Prop) → Prop
def wCall (n : Nat) (M : WM) (a : WA) : WE := fun env Q => a env fun as => as.length = n ∧ M as fun r => Q r.val
def wCallO (n : Nat) (M : WM) (a : WA) : WL := fun env Q => a env fun as => as.length = n ∧ M as fun r => match r with
  | .own ds => Q ds
  | .v _ => False

/-! ### soundness -/
section
variable {K : PySem.W.Frag} {ok : List D → Prop} {ta tb te : TE} {wa wb we : WE} {t u : TT} {wt wu : WT}
theorem SndE.b (h : SndE K ok te we) : SndB K ok te we := fun C H0 σ H env Q R rel hw k => h C H0 σ H env Q R rel hw fun d v H1 H01 q r e x => k d v H1 H01 q r e fun H2 H02 _ e2 => .inl (x.mono e2)
theorem SndL.fz {wl : WL} (h : SndL K ok te wl) : SndE K ok te (wFz wl) := fun C H0 σ H env Q R rel hw k => h C H0 σ H env _ R rel hw fun ds p H1 H01 q r e f => by
  obtain ⟨n0, vs, hp, hr⟩ := f.own
  obtain ⟨r2, e2⟩ := r.know hp n0 f.he f.kq f.ns
  exact k _ _ H1 _ q r2 (e.trans e2) (.lst upd_same (hr.mono e2))
theorem snd_c {v : V} {d : D} (h : ∀ H, Rp K H v d) : SndE K ok (tC v) (wC d) := fun C H0 σ H env Q R rel hw k => k d v H H0 hw rel (Same.refl _) (h _)
theorem snd_var {i : Nat} : SndE K ok (tVar i) (wVar i) := fun C H0 σ H env Q R rel hw k => by
  unfold wVar at hw
  split at hw
  · rename_i d hd
    obtain ⟨v, e, r⟩ := rel.slot i _ (get_eq hd)
    exact ⟨v, e, k d v H H0 hw rel (Same.refl _) r⟩
  · exact hw.elim
theorem snd_bor {i : Nat} : SndB K ok (tVar i) (wBor i) := fun C H0 σ H env Q R rel hw k => by
  unfold wBor at hw
  split at hw
  · rename_i d hd
    obtain ⟨v, e, r⟩ := rel.slot i _ (get_eq hd)
    exact ⟨v, e, k d v H H0 hw rel (Same.refl _) fun H2 H02 _ e2 => .inl (r.mono e2)⟩
  · rename_i ds hd
    obtain ⟨p, e, n, o⟩ := rel.slot i _ (get_eq hd)
    refine ⟨_, e, k _ _ H H0 hw rel (Same.refl _) fun H2 H02 r2 e2 => .inr ⟨p, ds, rfl, rfl, ?_⟩⟩
    obtain ⟨p', e', n', o'⟩ := r2.slot i _ (get_eq hd)
    rw [e] at e'
    cases e'
    exact o'
  · exact hw.elim
/-- an operation on values that leaves the heap -/
def OpD (K : PySem.W.Frag) (r : R2) (f : D → D → (D → Prop) → Prop) : Prop := ∀ (H0 H : Hp) (x y : V) (d e : D) (Q : D → Prop) (R : VK), Same H0 H → Rp K H0 x d → Rp K H0 y e → f d e Q → (∀ z v, Q z → Rp K H0 v z → R v H) → r x y H R
theorem snd_bin {r : R2} {f : D → D → (D → Prop) → Prop} (hr : OpD K r f) (ha : SndE K ok ta wa) (hb : SndE K ok tb wb) : SndE K ok (tOp r ta tb) (wBin f wa wb) := fun C H0 σ H env Q R rel hw k =>
  ha C H0 σ H env _ _ rel hw fun d v H1 H01 q r1 e1 x1 => hb C H01 σ H1 env _ _ r1 q fun e u H2 H02 q2 r2 e2 x2 =>
    hr H02 H2 v u d e Q R r2.sub (x1.mono e2) x2 q2 fun z w qz rz => k z w H2 H02 qz r2 (e1.trans e2) rz
theorem opd_I0 {g : Int → Int → Int} : OpD K (rI0 fun i j => .int (g i j)) (fI g) := fun H0 H x y d e Q R _ hx hy h k => by
  unfold fI at h
  split at h
  · cases hx; cases hy
    exact ⟨_, _, rfl, rfl, k _ _ h (.int _)⟩
  · exact h.elim
theorem opd_I {c : Int → Int → Prop} {g : Int → Int → Int} : OpD K (rI c fun i j => .int (g i j)) (fIC c g) := fun H0 H x y d e Q R _ hx hy h k => by
  unfold fIC at h
  split at h
  · cases hx; cases hy
    exact ⟨_, _, rfl, rfl, h.1, k _ _ h.2 (.int _)⟩
  · exact h.elim
theorem opd_B0 {g : Int → Int → Bool} : OpD K (rI0 fun i j => .bl (g i j)) (fB g) := fun H0 H x y d e Q R _ hx hy h k => by
  unfold fB at h
  split at h
  · cases hx; cases hy
    exact ⟨_, _, rfl, rfl, k _ _ h (.bl _)⟩
  · exact h.elim
theorem opd_add : OpD K (rI0 fun i j => .int (i + j)) fAdd := fun H0 H x y d e Q R _ hx hy h k => by
  unfold fAdd at h
  split at h
  · cases hx; cases hy
    exact ⟨_, _, rfl, rfl, k _ _ h (.int _)⟩
  · exact h.elim
theorem opd_sub : OpD K (rI0 fun i j => .int (i - j)) fSub := fun H0 H x y d e Q R _ hx hy h k => by
  unfold fSub at h
  split at h
  · cases hx; cases hy
    exact ⟨_, _, rfl, rfl, k _ _ h (.int _)⟩
  · exact h.elim
theorem opd_mul : OpD K (rI CMul fun i j => .int (i * j)) fMul := fun H0 H x y d e Q R _ hx hy h k => by
  unfold fMul at h
  split at h
  · cases hx; cases hy
    exact ⟨_, _, rfl, rfl, h.1, k _ _ h.2 (.int _)⟩
  · exact h.elim
theorem opd_mulX : OpD K (rI CMulX fun i j => .int (i * j)) fMulX := fun H0 H x y d e Q R _ hx hy h k => by
  unfold fMulX at h
  split at h
  · cases hx; cases hy
    exact ⟨_, _, rfl, rfl, h.1, k _ _ h.2 (.int _)⟩
  · exact h.elim
theorem opd_mod : OpD K (rI (fun _ j => 0 < j) fun i j => .int (i % j)) fMod := fun H0 H x y d e Q R _ hx hy h k => by
  unfold fMod at h
  split at h
  · cases hx; cases hy
    exact ⟨_, _, rfl, rfl, h.1, k _ _ h.2 (.int _)⟩
  · exact h.elim
theorem opd_div : OpD K (rI CDivW fun i j => .int (i / j)) fDiv := fun H0 H x y d e Q R _ hx hy h k => by
  unfold fDiv at h
  split at h
  · cases hx; cases hy
    exact ⟨_, _, rfl, rfl, h.1, k _ _ h.2 (.int _)⟩
  · exact h.elim
theorem opd_shl : OpD K (rI CPow fun i j => .int (i * 2 ^ j.toNat)) fShl := fun H0 H x y d e Q R _ hx hy h k => by
  unfold fShl at h
  split at h
  · cases hx; cases hy
    exact ⟨_, _, rfl, rfl, h.1, k _ _ h.2 (.int _)⟩
  · exact h.elim
theorem opd_pow : OpD K (rI CPow fun i j => .int (i ^ j.toNat)) fPow := fun H0 H x y d e Q R _ hx hy h k => by
  unfold fPow at h
  split at h
  · cases hx; cases hy
    exact ⟨_, _, rfl, rfl, h.1, k _ _ h.2 (.int _)⟩
  · exact h.elim
theorem opd_lt : OpD K (rI0 fun i j => .bl (decide (i < j))) fLt := fun H0 H x y d e Q R _ hx hy h k => by
  unfold fLt at h
  split at h
  · cases hx; cases hy
    exact ⟨_, _, rfl, rfl, k _ _ h (.bl _)⟩
  · exact h.elim
theorem opd_le : OpD K (rI0 fun i j => .bl (decide (i ≤ j))) fLe := fun H0 H x y d e Q R _ hx hy h k => by
  unfold fLe at h
  split at h
  · cases hx; cases hy
    exact ⟨_, _, rfl, rfl, k _ _ h (.bl _)⟩
  · exact h.elim
theorem opd_gt : OpD K (rI0 fun i j => .bl (decide (j < i))) fGt := fun H0 H x y d e Q R _ hx hy h k => by
  unfold fGt at h
  split at h
  · cases hx; cases hy
    exact ⟨_, _, rfl, rfl, k _ _ h (.bl _)⟩
  · exact h.elim
theorem opd_ge : OpD K (rI0 fun i j => .bl (decide (j ≤ i))) fGe := fun H0 H x y d e Q R _ hx hy h k => by
  unfold fGe at h
  split at h
  · cases hx; cases hy
    exact ⟨_, _, rfl, rfl, k _ _ h (.bl _)⟩
  · exact h.elim
theorem eqv_int (i j : Int) : PyData.eqv (.int i) (.int j) = decide (i = j) := by
  rw [PyData.eqv]
  by_cases h : i = j <;> simp [h]
theorem shaped_int (i : Int) : SeqAt.shaped (.int i) = true := by simp [SeqAt.shaped, PyData.canLay0, PyData.depth]
theorem opd_eq : OpD K (rEqD K) fEq := fun H0 H x y d e Q R s hx hy h k => by
  unfold fEq at h
  split at h
  · refine ⟨_, _, (hx.mono s).sh (shaped_int _), (hy.mono s).sh (shaped_int _), shaped_int _, shaped_int _, ?_⟩
    rw [eqv_int]
    exact k _ _ h (.bl _)
  · exact ⟨_, _, (hx.mono s).sh h.1, (hy.mono s).sh h.2.1, h.1, h.2.1, k _ _ h.2.2 (.bl _)⟩
theorem opd_ne : OpD K (rNeD K) fNe := fun H0 H x y d e Q R s hx hy h k => by
  unfold fNe at h
  split at h
  · refine ⟨_, _, (hx.mono s).sh (shaped_int _), (hy.mono s).sh (shaped_int _), shaped_int _, shaped_int _, ?_⟩
    rw [eqv_int]
    exact k _ _ h (.bl _)
  · exact ⟨_, _, (hx.mono s).sh h.1, (hy.mono s).sh h.2.1, h.1, h.2.1, k _ _ h.2.2 (.bl _)⟩
theorem Rp.isNone {H : Hp} {v : V} {d : D} (h : Rp K H v d) : decide (v = .non) = isNone d := by cases h <;> rfl
theorem snd_isN (ha : SndE K ok ta wa) : SndE K ok (tIsN ta) (wIsN wa) := fun C H0 σ H env Q R rel hw k => ha C H0 σ H env _ _ rel hw fun d v H1 H01 q r1 e1 x1 => by
  rw [x1.isNone]
  exact k _ _ H1 H01 q r1 e1 (.bl _)
theorem snd_notN (ha : SndE K ok ta wa) : SndE K ok (tNotN ta) (wNotN wa) := fun C H0 σ H env Q R rel hw k => ha C H0 σ H env _ _ rel hw fun d v H1 H01 q r1 e1 x1 => by
  rw [x1.isNone]
  exact k _ _ H1 H01 q r1 e1 (.bl _)
theorem snd_neg (ha : SndE K ok ta wa) : SndE K ok (tUn (rU fun i => .int (-i)) ta) (wUn fNeg wa) := fun C H0 σ H env Q R rel hw k => ha C H0 σ H env _ _ rel hw fun d v H1 H01 q r1 e1 x1 => by
  unfold fNeg at q
  split at q
  · cases x1
    exact ⟨_, rfl, k _ _ H1 H01 q r1 e1 (.int _)⟩
  · exact q.elim
theorem snd_test (ha : SndE K ok ta wa) : SndT K ok (tTest ta) (wTest wa) := fun C H0 σ H env Q R rel hw k => ha C H0 σ H env _ _ rel hw fun d v H1 H01 q r1 e1 x1 => by
  try dsimp only at q
  split at q
  · cases x1
    exact ⟨_, rfl, k _ H1 H01 q r1 e1⟩
  · exact q.elim
theorem snd_tB (ha : SndE K ok ta wa) : SndT K ok (tB ta) (wTest wa) := snd_test ha
theorem snd_not (h : SndT K ok t wt) : SndT K ok (tNot t) (wNot wt) := fun C H0 σ H env Q R rel hw k => h C H0 σ H env _ _ rel hw fun b H1 H01 q r1 e1 => k _ H1 H01 q r1 e1
theorem snd_and (h : SndT K ok t wt) (h2 : SndT K ok u wu) : SndT K ok (tAnd t u) (wAnd wt wu) := fun C H0 σ H env Q R rel hw k => h C H0 σ H env _ _ rel hw fun b H1 H01 q r1 e1 => by
  cases b with
  | true =>
    refine iteT (h2 C H01 σ H1 env _ _ r1 (q.1 rfl) fun c H2 H02 q2 r2 e2 => k c H2 H02 q2 r2 (e1.trans e2))
  | false => exact iteF (k _ H1 H01 (q.2 rfl) r1 e1)
theorem snd_or (h : SndT K ok t wt) (h2 : SndT K ok u wu) : SndT K ok (tOr t u) (wOr wt wu) := fun C H0 σ H env Q R rel hw k => h C H0 σ H env _ _ rel hw fun b H1 H01 q r1 e1 => by
  cases b with
  | false =>
    refine iteF (h2 C H01 σ H1 env _ _ r1 (q.2 rfl) fun c H2 H02 q2 r2 e2 => k c H2 H02 q2 r2 (e1.trans e2))
  | true => exact iteT (k _ H1 H01 (q.1 rfl) r1 e1)
theorem snd_andD (h : SndT K ok t wt) (h2 : SndT K ok u wu) : SndT K ok (tAnd t u) (wAndD wt wu) := fun C H0 σ H env Q R rel hw k => h C H0 σ H env _ _ rel hw fun b H1 H01 q r1 e1 => by
  obtain ⟨c, q1, q2⟩ := q
  cases b with
  | true => exact iteT (h2 C H01 σ H1 env _ _ r1 (q1 rfl) fun d H2 H02 q3 r2 e2 => by subst q3; exact k _ H2 H02 q2 r2 (e1.trans e2))
  | false => exact iteF (k _ H1 H01 q2 r1 e1)
theorem snd_orD (h : SndT K ok t wt) (h2 : SndT K ok u wu) : SndT K ok (tOr t u) (wOrD wt wu) := fun C H0 σ H env Q R rel hw k => h C H0 σ H env _ _ rel hw fun b H1 H01 q r1 e1 => by
  obtain ⟨c, q1, q2⟩ := q
  cases b with
  | false => exact iteF (h2 C H01 σ H1 env _ _ r1 (q1 rfl) fun d H2 H02 q3 r2 e2 => by subst q3; exact k _ H2 H02 q2 r2 (e1.trans e2))
  | true => exact iteT (k _ H1 H01 q2 r1 e1)
/-- and, or as values of truth values -/
theorem snd_andV (h : SndE K ok ta wa) (h2 : SndE K ok tb wb) : SndE K ok (tAndV ta tb) (wBl (wAndD (wTest wa) (wTest wb))) := fun C H0 σ H env Q R rel hw k => h C H0 σ H env _ _ rel hw fun d v H1 H01 q r1 e1 x1 => by
  try dsimp only at q
  split at q
  · rename_i b
    cases x1
    obtain ⟨c, q1, q2⟩ := q
    refine ⟨b, rfl, ?_⟩
    cases b with
    | true =>
      refine iteT (h2 C H01 σ H1 env _ _ r1 (q1 rfl) fun d v H2 H02 q3 r2 e2 x2 => ?_)
      dsimp only at q3
      split at q3
      · subst q3; cases x2; exact k _ _ H2 H02 q2 r2 (e1.trans e2) (.bl _)
      · exact q3.elim
    | false => exact iteF (k _ _ H1 H01 q2 r1 e1 (.bl _))
  · exact q.elim
theorem snd_orV (h : SndE K ok ta wa) (h2 : SndE K ok tb wb) : SndE K ok (tOrV ta tb) (wBl (wOrD (wTest wa) (wTest wb))) := fun C H0 σ H env Q R rel hw k => h C H0 σ H env _ _ rel hw fun d v H1 H01 q r1 e1 x1 => by
  try dsimp only at q
  split at q
  · rename_i b
    cases x1
    obtain ⟨c, q1, q2⟩ := q
    refine ⟨b, rfl, ?_⟩
    cases b with
    | false =>
      refine iteF (h2 C H01 σ H1 env _ _ r1 (q1 rfl) fun d v H2 H02 q3 r2 e2 x2 => ?_)
      dsimp only at q3
      split at q3
      · subst q3; cases x2; exact k _ _ H2 H02 q2 r2 (e1.trans e2) (.bl _)
      · exact q3.elim
    | true => exact iteT (k _ _ H1 H01 q2 r1 e1 (.bl _))
  · exact q.elim
theorem snd_notV (h : SndE K ok ta wa) : SndE K ok (tNotV ta) (wBl (wNot (wTest wa))) := fun C H0 σ H env Q R rel hw k => h C H0 σ H env _ _ rel hw fun d v H1 H01 q r1 e1 x1 => by
  try dsimp only at q
  split at q
  · cases x1
    exact ⟨_, rfl, k _ _ H1 H01 q r1 e1 (.bl _)⟩
  · exact q.elim
theorem snd_ifE (h : SndT K ok t wt) (ha : SndE K ok ta wa) (hb : SndE K ok tb wb) : SndE K ok (tIf t ta tb) (wIfE wt wa wb) := fun C H0 σ H env Q R rel hw k => h C H0 σ H env _ _ rel hw fun b H1 H01 q r1 e1 => by
  cases b with
  | true => exact iteT (ha C H01 σ H1 env _ _ r1 (q.1 rfl) fun d v H2 H02 q2 r2 e2 x => k d v H2 H02 q2 r2 (e1.trans e2) x)
  | false => exact iteF (hb C H01 σ H1 env _ _ r1 (q.2 rfl) fun d v H2 H02 q2 r2 e2 x => k d v H2 H02 q2 r2 (e1.trans e2) x)
theorem snd_nil : SndA K ok tNil wNil := fun C H0 σ H env Q R rel hw k => k _ _ H H0 hw rel (Same.refl _) .nil
theorem ArgsR.mono {H0 H01 : Hp} {σ : L2.St} {env : EnvD} (e : Same H0 H01) : ∀ {as : List Ar} {xs : List V}, ArgsR K H0 σ env as xs → ArgsR K H01 σ env as xs
  | _, _, .nil => .nil
  | _, _, .cons h t => .cons (ArgR.mono e h) (ArgsR.mono e t)
theorem snd_cons {tr : TA} {wr : WA} (ha : SndE K ok ta wa) (hr : SndA K ok tr wr) : SndA K ok (tCons ta tr) (wCons wa wr) := fun C H0 σ H env Q R rel hw k =>
  ha C H0 σ H env _ _ rel hw fun d v H1 H01 q r1 e1 x1 => hr C H01 σ H1 env _ _ r1 q fun as vs H2 H02 q2 r2 e2 x2 => k _ _ H2 H02 q2 r2 (e1.trans e2) (.cons (show ArgR K H02 σ env (.v d) v from x1.mono e2) x2)
theorem snd_consH {i : Nat} {tr : TA} {wr : WA} (hr : SndA K ok tr wr) : SndA K ok (tCons (tVar i) tr) (wConsH i wr) := fun C H0 σ H env Q R rel hw k => by
  unfold wConsH at hw
  split at hw
  · rename_i hd
    obtain ⟨a, ds, e, _, _, _⟩ := rel.slot i _ (get_eq hd)
    exact ⟨_, e, hr C H0 σ H env _ _ rel hw fun as vs H2 H02 q2 r2 e2 x2 => k _ _ H2 H02 q2 r2 e2 (.cons (show ArgR K H02 σ env .hnd (.ref a) from ⟨i, a, get_eq hd, e, rfl⟩) x2)⟩
  · exact hw.elim
/-- no handle among the arguments -/
def plainA : List Ar → Bool
  | [] => true
  | .v _ :: r => plainA r
  | .hnd :: _ => false
theorem ArgsR.vals {H0 : Hp} {σ : L2.St} {env : EnvD} : ∀ {as : List Ar} {xs : List V}, ArgsR K H0 σ env as xs → plainA as = true → Rps K H0 xs (DL.vals as) ∧ xs.length = as.length
  | _, _, .nil, _ => ⟨.nil, rfl⟩
  | .v d :: _, _, .cons h t, p => let ⟨a, b⟩ := ArgsR.vals t p; ⟨.cons h a, by rw [List.length_cons, List.length_cons, b]⟩
  | .hnd :: _, _, .cons _ _, p => by cases p
end
/-- displays: items that are no handles -/
def wTupP (a : WA) : WE := fun env Q => a env fun as => plainA as = true ∧ as.length ≤ 1000 ∧ Q (.tuple (vals as))
def wLstP (a : WA) : WL := fun env Q => a env fun as => plainA as = true ∧ as.length ≤ 1000 ∧ Q (vals as)
section
variable {K : PySem.W.Frag} {ok : List D → Prop} {ta tb te : TE} {wa wb we : WE} {t u : TT} {wt wu : WT}
theorem le1000 {n : Nat} (h : n ≤ 1000) : n ≤ sizeLine := Nat.le_trans h (by decide)
theorem snd_tup {tr : TA} {wr : WA} (hr : SndA K ok tr wr) : SndE K ok (tTup tr) (wTupP wr) := fun C H0 σ H env Q R rel hw k =>
  hr C H0 σ H env _ _ rel hw fun as vs H1 H01 q r1 e1 x1 => by
    obtain ⟨q1, q2, q3⟩ := q
    obtain ⟨x2, l⟩ := x1.vals q1
    refine ⟨by rw [l]; exact le1000 q2, fun p hp => ?_⟩
    obtain ⟨r2, e2⟩ := r1.laid (o := .tup vs) hp
    exact k _ _ _ _ q3 r2 (e1.trans e2) (.tup (SqT.of upd_same) (x2.mono e2))
theorem snd_lst {tr : TA} {wr : WA} (hr : SndA K ok tr wr) : SndL K ok (tLst tr) (wLstP wr) := fun C H0 σ H env Q R rel hw k =>
  hr C H0 σ H env _ _ rel hw fun as vs H1 H01 q r1 e1 x1 => by
    obtain ⟨q1, q2, q3⟩ := q
    obtain ⟨x2, l⟩ := x1.vals q1
    refine ⟨by rw [l]; exact le1000 q2, fun p hp => ?_⟩
    exact k _ _ _ _ q3 (r1.laid0 hp) e1 ⟨r1.fresh hp, ⟨r1.sub.free hp, vs, upd_same, x2⟩, r1.noslot hp, r1.kp.free hp⟩
/-- a borrowed list or tuple as it is read -/
theorem Bor.seq {H0 H : Hp} {v : V} {d : D} (s : Same H0 H) (h : Bor K H0 H v d) {ds : List D} (e : d = .list ds ∨ d = .tuple ds) : ∃ p vs, v = .ref p ∧ Rps K H0 vs ds ∧ ((d = .list ds ∧ H p = some (.lst vs)) ∨ (d = .tuple ds ∧ SqT K H p vs)) := by
  rcases h with h | ⟨p, es, rfl, rfl, _, vs, hp, r⟩
  · rcases e with rfl | rfl
    · cases h with
      | lst h r => exact ⟨_, _, rfl, r, .inl ⟨rfl, s _ _ h⟩⟩
    · cases h with
      | tup h r => exact ⟨_, _, rfl, r, .inr ⟨rfl, Same.tup s h⟩⟩
  · rcases e with e | e
    · cases e; exact ⟨p, vs, rfl, r, .inl ⟨rfl, hp⟩⟩
    · cases e
theorem atI_rel {H0 : Hp} {vs : List V} {ds : List D} {i : Int} {d : D} (r : Rps K H0 vs ds) (h : atI ds i = some d) : ∃ v, atI vs i = some v ∧ Rp K H0 v d := by
  unfold atI at h ⊢
  rw [r.length]
  cases e : ixN ds.length i with
  | none => rw [e] at h; cases h
  | some j =>
    rw [e] at h
    exact r.get h
theorem snd_ix (ha : SndB K ok ta wa) (hb : SndE K ok tb wb) : SndE K ok (tOp (rIx K) ta tb) (wIx wa wb) := fun C H0 σ H env Q R rel hw k =>
  ha C H0 σ H env _ _ rel hw fun d v H1 H01 q r1 e1 x1 => hb C H01 σ H1 env _ _ r1 q fun e u H2 H02 q2 r2 e2 x2 => by
    unfold fIx at q2
    split at q2
    · rename_i ds i
      obtain ⟨x, hx, q3⟩ := q2
      obtain ⟨p, vs, rfl, r, h⟩ := (x1 H2 H02 r2 e2).seq r2.sub (.inl rfl)
      obtain ⟨w, hw, rw'⟩ := atI_rel r hx
      cases x2
      rcases h with ⟨_, h⟩ | ⟨h, _⟩
      · exact .inl ⟨p, vs, i, w, rfl, rfl, SqL.of h, hw, k _ _ H2 H02 q3 r2 (e1.trans e2) rw'⟩
      · cases h
    · rename_i ds i
      obtain ⟨x, hx, q3⟩ := q2
      obtain ⟨p, vs, rfl, r, h⟩ := (x1 H2 H02 r2 e2).seq r2.sub (.inr rfl)
      obtain ⟨w, hw, rw'⟩ := atI_rel r hx
      cases x2
      rcases h with ⟨h, _⟩ | ⟨_, h⟩
      · cases h
      · exact .inr (.inl ⟨p, vs, i, w, rfl, rfl, h, hw, k _ _ H2 H02 q3 r2 (e1.trans e2) rw'⟩)
    · rename_i ds i
      obtain ⟨x, hx, q3⟩ := q2
      rcases x1 H2 H02 r2 e2 with h | ⟨_, _, _, h, _⟩
      · cases h with
        | @scr a ns h =>
          obtain ⟨w, hw, rw'⟩ := atI_rel (K := K) (H0 := H02) (Rps.of_ints ns) hx
          cases x2
          exact .inl ⟨a, _, i, w, rfl, rfl, r2.sub.seq h, hw, k _ _ H2 H02 q3 r2 (e1.trans e2) rw'⟩
      · cases h
    · exact q2.elim
/-- a call of one argument that is read at once -/
theorem snd_len (ha : SndB K ok ta wa) : SndE K ok (tCB (fun xs H Q => ∃ p ys, xs = [.ref p] ∧ (SqL K H p ys ∨ SqT K H p ys) ∧ Q (.int ys.length) H) (tCons ta tNil)) (wLen wa) := fun C H0 σ H env Q R rel hw k =>
  ha C H0 σ H env _ _ rel hw fun d v H1 H01 q r1 e1 x1 => by
    have b := x1 H1 H01 r1 (Same.refl _)
    try dsimp only at q
    split at q
    · rename_i ds
      obtain ⟨p, vs, rfl, r, h⟩ := b.seq r1.sub (.inl rfl)
      rcases h with ⟨_, h⟩ | ⟨h, _⟩
      · refine ⟨p, vs, rfl, .inl (SqL.of h), k _ _ H1 H01 ?_ r1 e1 (.int _)⟩
        rw [r.length]; exact q
      · cases h
    · rename_i ds
      obtain ⟨p, vs, rfl, r, h⟩ := b.seq r1.sub (.inr rfl)
      rcases h with ⟨h, _⟩ | ⟨_, h⟩
      · cases h
      · refine ⟨p, vs, rfl, .inr h, k _ _ H1 H01 ?_ r1 e1 (.int _)⟩
        rw [r.length]; exact q
    · rename_i ds
      rcases b with h | ⟨_, _, _, h, _⟩
      · cases h with
        | @scr a ns h =>
          refine ⟨a, _, rfl, .inl (r1.sub.seq h), k _ _ H1 H01 ?_ r1 e1 (.int _)⟩
          rw [List.length_map] at q ⊢
          exact q
      · cases h
    · exact q.elim
end
/-! ### the promise of a def -/
def HndArgs (as : List Ar) : Nat := (as.filter fun a => match a with | .hnd => true | _ => false).length
inductive ArgsOk (K : PySem.W.Frag) (H0 : Hp) (ha : Option Addr) : List V → List Ar → Prop
  | nil : ArgsOk K H0 ha [] []
  | cons {x : V} {d : D} {xs : List V} {as : List Ar} : Rp K H0 x d → ArgsOk K H0 ha xs as → ArgsOk K H0 ha (x :: xs) (.v d :: as)
  | hnd {a : Addr} {xs : List V} {as : List Ar} : ha = some a → ArgsOk K H0 ha xs as → ArgsOk K H0 ha (.ref a :: xs) (.hnd :: as)
def RetOk (K : PySem.W.Frag) (He H0 H : Hp) (v : V) : Rt → Prop
  | .v d => Rp K H0 v d
  | .own ds => ∃ p, v = .ref p ∧ He p = none ∧ OwnAt K H0 H p ds
structure PostOk (K : PySem.W.Frag) (ok : List D → Prop) (H0 H : Hp) (ha : Option Addr) (v : V) (H' : Hp) (r : Rt) (H01 : Hp) : Prop where
  grow : Same H0 H01
  sub : Same H01 H'
  new : ∀ b o, H01 b = some o → H0 b = some o ∨ H b = none
  fr : ∀ b o, H b = some o → some b ≠ ha → H' b = some o
  hv : ∀ a, ha = some a → ∃ ds, OwnAt K H01 H' a ds ∧ ok ds
  res : RetOk K H H01 H' v r
/-- at most one handle -/
def oneH : List Ar → Bool
  | [] => true
  | .v _ :: r => oneH r
  | .hnd :: r => plainA r
/-- at a call: H0, the known part; ha: the handle that is handed in -/
def SpD (K : PySem.W.Frag) (ok : List D → Prop) (n : Nat) (M : WM) : Sp := fun vs H Q _ => ∃ (H0 : Hp) (ha : Option Addr) (as : List Ar) (Q' : Rt → Prop), as.length = n ∧ vs.length = n ∧ oneH as = true ∧ Same H0 H ∧ ArgsOk K H0 ha vs as ∧
  (∀ a, ha = some a → ∃ ds, OwnAt K H0 H a ds ∧ ok ds) ∧ M as Q' ∧ ∀ v H' r H01, Q' r → PostOk K ok H0 H ha v H' r H01 → Q v H'
section
variable {K : PySem.W.Frag} {ok : List D → Prop}
theorem argsOk_plain {H0 : Hp} {σ : L2.St} {env : EnvD} {ha : Option Addr} : ∀ {as : List Ar} {xs : List V}, ArgsR K H0 σ env as xs → plainA as = true → ArgsOk K H0 ha xs as
  | _, _, .nil, _ => .nil
  | .v d :: _, _, .cons h t, p => .cons h (argsOk_plain t p)
  | .hnd :: _, _, .cons _ _, p => by cases p
theorem argsOk_one {H0 : Hp} {σ : L2.St} {env : EnvD} : ∀ {as : List Ar} {xs : List V}, ArgsR K H0 σ env as xs → oneH as = true →
    (plainA as = true ∧ ArgsOk K H0 none xs as) ∨ ∃ (i : Nat) (a : Addr), env[i]? = some (some .hnd) ∧ σ[i]? = some (some (.ref a)) ∧ ArgsOk K H0 (some a) xs as
  | _, _, .nil, _ => .inl ⟨rfl, .nil⟩
  | .v d :: _, _, .cons h t, p => by
    rcases argsOk_one t p with ⟨p', h'⟩ | ⟨i, a, e1, e2, h'⟩
    · exact .inl ⟨p', .cons h h'⟩
    · exact .inr ⟨i, a, e1, e2, .cons h h'⟩
  | .hnd :: _, _, .cons h t, p => by
    obtain ⟨i, a, e1, e2, rfl⟩ := h
    exact .inr ⟨i, a, e1, e2, .hnd rfl (argsOk_plain t p)⟩
/-- what a call does, for the caller -/
theorem call_core {n : Nat} {M : WM} {C : Ctx} {H0 : Hp} {σ : L2.St} {H : Hp} {env : EnvD} {as : List Ar} {vs : List V} {Q' : Rt → Prop} {R : VK} (rel : Rel K ok C H0 σ H env) (ha : ArgsR K H0 σ env as vs) (h1 : oneH as = true) (hn : as.length = n) (hM : M as Q')
    (k : ∀ v r H1 H01, Q' r → Rel K ok C H01 σ H1 env → Same H0 H01 → (match r with | .v d => Rp K H01 v d | .own ds => ∃ p, v = .ref p ∧ FreshL K C H01 σ H1 env p ds) → R v H1) : SpD K ok n M vs H R fun _ _ _ => False := by
  have hl : vs.length = n := by rw [← ha.length]; exact hn
  have fin : ∀ {ha' : Option Addr} {v : V} {H' : Hp} {r : Rt} {H01 : Hp}, Q' r → PostOk K ok H0 H ha' v H' r H01 → Rel K ok C H01 σ H' env → R v H' := fun {ha' v H' r H01} q P r2 => k v r H' H01 q r2 P.grow (by
    have z := P.res
    cases r with
    | v d => exact z
    | own ds =>
      obtain ⟨p, e, n1, o⟩ := z
      exact ⟨p, e, rel.fresh n1, o, rel.noslot n1, rel.kp.free n1⟩)
  rcases argsOk_one ha h1 with ⟨_, h'⟩ | ⟨i, a, e1, e2, h'⟩
  · exact ⟨H0, none, as, Q', hn, hl, h1, rel.sub, h', fun a z => (by cases z), hM, fun v H' r H01 q P => fin q P (rel.step P.grow P.sub P.new fun b o z => P.fr b o z (by simp))⟩
  · obtain ⟨a', da, ea', _, o1, k1⟩ := rel.slot i _ e1
    rw [e2] at ea'
    cases ea'
    refine ⟨H0, some a, as, Q', hn, hl, h1, rel.sub, h', fun b z => (by cases z; exact ⟨da, o1, k1⟩), hM, fun v H' r H01 q P => fin q P ?_⟩
    obtain ⟨ds', o2, k2⟩ := P.hv a rfl
    exact rel.called e1 e2 P.grow P.sub P.new (fun b o z hb => P.fr b o z (by simpa using hb)) o2.n0 o2 k2
theorem SpD.exc {n : Nat} {M : WM} {vs : List V} {H : Hp} {Q : VK} {E E' : XK} (h : SpD K ok n M vs H Q E) : SpD K ok n M vs H Q E' := h
end
def wCallP (n : Nat) (M : WM) (a : WA) : WE := fun env Q => a env fun as => oneH as = true ∧ as.length = n ∧ M as fun r => Q r.val
def wCallOP (n : Nat) (M : WM) (a : WA) : WL := fun env Q => a env fun as => oneH as = true ∧ as.length = n ∧ M as fun r => match r with
  | .own ds => Q ds
  | .v _ => False
section
variable {K : PySem.W.Frag} {ok : List D → Prop}
theorem snd_call {n : Nat} {M : WM} {tr : TA} {wr : WA} {E : XK} (hr : SndA K ok tr wr) : SndE K ok (tCall (SpD K ok n M) [] E tr) (wCallP n M wr) := fun C H0 σ H env Q R rel hw k =>
  hr C H0 σ H env _ _ rel hw fun as vs H1 H01 q r1 e1 x1 => by
    obtain ⟨q1, q2, q3⟩ := q
    show SpD K ok n M (vs ++ []) H1 R E
    rw [List.append_nil]
    refine SpD.exc (call_core r1 x1 q1 q2 q3 fun v r H2 H02 hq r2 e2 z => ?_)
    cases r with
    | v d => exact k _ _ H2 H02 hq r2 (e1.trans e2) z
    | own ds =>
      obtain ⟨p, rfl, f⟩ := z
      obtain ⟨n0, ws, hp, hr'⟩ := f.own
      obtain ⟨r3, e3⟩ := r2.know hp n0 f.he f.kq f.ns
      exact k _ _ H2 _ hq r3 ((e1.trans e2).trans e3) (.lst upd_same (hr'.mono e3))
theorem snd_callO {n : Nat} {M : WM} {tr : TA} {wr : WA} {E : XK} (hr : SndA K ok tr wr) : SndL K ok (tCall (SpD K ok n M) [] E tr) (wCallOP n M wr) := fun C H0 σ H env Q R rel hw k =>
  hr C H0 σ H env _ _ rel hw fun as vs H1 H01 q r1 e1 x1 => by
    obtain ⟨q1, q2, q3⟩ := q
    show SpD K ok n M (vs ++ []) H1 R E
    rw [List.append_nil]
    refine SpD.exc (call_core r1 x1 q1 q2 q3 fun v r H2 H02 hq r2 e2 z => ?_)
    cases r with
    | v d => exact hq.elim
    | own ds =>
      obtain ⟨p, rfl, f⟩ := z
      exact k _ _ H2 H02 hq r2 (e1.trans e2) f
end
end DL
/-! DL, part c: statements, loops, comprehensions, defs. -/
namespace DL
open PySem L2

structure WEnds where
  nx : EnvD → Prop
  rt : Rt → Prop
  bk : EnvD → Prop := fun _ => False
  ct : EnvD → Prop := fun _ => False
abbrev WS := WEnds → EnvD → Prop
abbrev WI := EnvD → (List D → Prop) → Prop
abbrev WG := D → EnvD → (EnvD → Prop) → Prop
structure EndsOk (K : PySem.W.Frag) (ok : List D → Prop) (C : Ctx) (H0 : Hp) (E : Ends) (W : WEnds) : Prop where
  nx : ∀ env σ H H01, Same H0 H01 → Rel K ok C H01 σ H env → W.nx env → E.nx σ H
  rt : ∀ r v σ H H01 env, Same H0 H01 → Rel K ok C H01 σ H env → W.rt r → RetOk K C.He H01 H v r → E.rt v H
  bk : ∀ env σ H H01, Same H0 H01 → Rel K ok C H01 σ H env → W.bk env → E.bk σ H
  ct : ∀ env σ H H01, Same H0 H01 → Rel K ok C H01 σ H env → W.ct env → E.ct σ H
def SndS (K : PySem.W.Frag) (ok : List D → Prop) (ts : TS) (ws : WS) : Prop := ∀ (C : Ctx) (H0 : Hp) (σ : L2.St) (H : Hp) (env : EnvD) (E : Ends) (W : WEnds), Rel K ok C H0 σ H env → ws W env → EndsOk K ok C H0 E W → ts E σ H
/-- what is walked: as many turns as ds has items -/
structure WalkD (K : PySem.W.Frag) (J : It) (ds : List D) (H01 : Hp) : Prop where
  goes : ∀ i H, i < ds.length → Same H01 H → J.go i H
  stops : ∀ H, Same H01 H → J.stop ds.length H
  yields : ∀ i H x H', i < ds.length → Same H01 H → J.yld i H x H' → ∃ d, ds[i]? = some d ∧ ((H' = H ∧ Rp K H01 x d) ∨ ∃ T xs es, x = .ref T ∧ H T = none ∧ H' = upd H T (.tup xs) ∧ d = .tuple es ∧ Rps K H01 xs es)
def SndI (K : PySem.W.Frag) (ok : List D → Prop) (ti : TI) (wi : WI) : Prop := ∀ (C : Ctx) (H0 : Hp) (σ : L2.St) (H : Hp) (env : EnvD) (Q : List D → Prop) (R : It → Hp → Prop), Rel K ok C H0 σ H env → wi env Q →
  (∀ ds J H1 H01, Q ds → Rel K ok C H01 σ H1 env → Same H0 H01 → WalkD K J ds H01 → R J H1) → ti σ H R
def wpE (env : EnvD) : List Nat → EnvD
  | [] => env
  | v :: vs => (wpE env vs).set v none
def SndG (K : PySem.W.Frag) (ok : List D → Prop) (vs : List Nat) (g : TG) (wg : WG) : Prop := ∀ (C : Ctx) (H0 : Hp) (σ : L2.St) (H : Hp) (env : EnvD) (x : V) (d : D) (Q : EnvD → Prop) (R : L2.St → Hp → Prop), Rel K ok C H0 σ H env → Rp K H0 x d → wg d env Q →
  (∀ env' σ', Rel K ok C H0 σ' H env' → Q env' → wipe σ' vs = wipe σ vs ∧ wpE env' vs = wpE env vs → R σ' H) → g x σ H R

/-! ### what is asked -/
def wSeq (a b : WS) : WS := fun W env => a { W with nx := b W } env
def wNx : WS := fun W env => W.nx env
def wBk : WS := fun W env => W.bk env
def wCt : WS := fun W env => W.ct env
def wNever : WS := fun _ _ => False
def wSet (i : Nat) (a : WE) : WS := fun W env => a env fun d => W.nx (env.set i (some (.v d)))
def wSetO (i : Nat) (a : WL) : WS := fun W env => a env fun ds => W.nx (env.set i (some (.own ds)))
def wSetH (ok : List D → Prop) (i : Nat) (a : WL) : WS := fun W env => a env fun ds => ok ds ∧ W.nx (env.set i (some .hnd))
def wDrop (a : WE) : WS := fun W env => a env fun _ => W.nx env
def wRet (a : WE) : WS := fun W env => a env fun d => W.rt (.v d)
def wRetO (a : WL) : WS := fun W env => a env fun ds => W.rt (.own ds)
def wRetV (i : Nat) : WS := fun W env => match get env i with
  | some (.v d) => W.rt (.v d)
  | some (.own ds) => W.rt (.own ds)
  | _ => False
def wRetN : WS := fun W _ => W.rt (.v .none)
def wIf (t : WT) (a b : WS) : WS := fun W env => t env fun c => (c = true → a W env) ∧ (c = false → b W env)
def frz (i : Nat) (env : EnvD) : EnvD := match get env i with
  | some (.own ds) => env.set i (some (.v (.list ds)))
  | _ => env
def wFrz (i : Nat) (s : WS) : WS := fun W env => s W (frz i env)
def wApp (i : Nat) (a : WE) : WS := fun W env => match get env i with
  | some (.own ds) => a env fun d => ds.length < 1000000 ∧ W.nx (env.set i (some (.own (ds ++ [d]))))
  | _ => False
def wExt (i : Nat) (a : WE) : WS := fun W env => match get env i with
  | some (.own ds) => a env fun d => match d with
    | .list es => ds.length + es.length < 1000000 ∧ W.nx (env.set i (some (.own (ds ++ es))))
    | _ => False
  | _ => False
def wPop (i : Nat) : WS := fun W env => match get env i with
  | some (.own ds) => ds ≠ [] ∧ W.nx (env.set i (some (.own ds.dropLast)))
  | _ => False
def wPut (i : Nat) (k a : WE) : WS := fun W env => match get env i with
  | some (.own ds) => a env fun d => k env fun j => match j with
    | .int z => ∃ n, ixN ds.length z = some n ∧ W.nx (env.set i (some (.own (ds.set n d))))
    | _ => False
  | _ => False
def wPar (i j : Nat) (a : WA) : WS := fun W env => a env fun as => match as with
  | [.v x, .v y] => W.nx ((env.set i (some (.v x))).set j (some (.v y)))
  | _ => False
def wWhile (t : WT) (b : WS) : WS := fun W env => ∃ I : Nat → EnvD → Prop, (∃ m, I m env) ∧ ∀ m env, I m env → t env fun c =>
  (c = true → ∃ N : EnvD → Prop, (∀ e, N e → ∃ m', m' < m ∧ I m' e) ∧ b { W with nx := N, ct := N, bk := W.nx } env) ∧ (c = false → W.nx env)
def wFor (wi : WI) (wg : WG) (b : WS) : WS := fun W env => wi env fun ds => ∃ I : Nat → EnvD → Prop, I 0 env ∧
  (∀ i d env, ds[i]? = some d → I i env → wg d env fun env2 => b { W with nx := I (i + 1), ct := I (i + 1), bk := W.nx } env2) ∧ ∀ env, I ds.length env → W.nx env
def wAsg (a : WE) (g : WG) : WS := fun W env => a env fun d => g d env W.nx
def gN (i : Nat) : WG := fun d env Q => Q (env.set i (some (.v d)))
abbrev WGs := List D → EnvD → (EnvD → Prop) → Prop
def gsNil : WGs := fun ds env Q => ds = [] ∧ Q env
def gsCons (a : WG) (r : WGs) : WGs := fun ds env Q => match ds with
  | d :: es => a d env fun env' => r es env' Q
  | [] => False
def gT (n : Nat) (r : WGs) : WG := fun d env Q => match d with
  | .tuple ds => ds.length = n ∧ r ds env Q
  | _ => False
def iL (a : WE) : WI := fun env Q => a env fun d => match d with
  | .list ds => Q ds
  | _ => False
def iT (a : WE) : WI := fun env Q => a env fun d => match d with
  | .tuple ds => Q ds
  | _ => False
/-- lo, lo + 1, .. (n of them) -/
def rng (lo : Int) (n : Nat) : List D := (List.range n).map fun i : Nat => PyData.int (lo + i)
def iR1 (a : WE) : WI := fun env Q => a env fun d => match d with
  | .int j => (-(2 ^ 62) ≤ j ∧ j < 2 ^ 62) ∧ Q (rng 0 j.toNat)
  | _ => False
def iR2 (a b : WE) : WI := fun env Q => a env fun d => b env fun e => match d, e with
  | .int i, .int j => (-(2 ^ 62) ≤ i ∧ i < 2 ^ 62 ∧ -(2 ^ 62) ≤ j ∧ j < 2 ^ 62) ∧ Q (rng i (j - i).toNat)
  | _, _ => False
/-- i, i + c, .. as long as it is short of j -/
def rngC (lo c : Int) (n : Nat) : List D := (List.range n).map fun i : Nat => PyData.int (lo + i * c)
def iR3 (a b c : WE) : WI := fun env Q => a env fun d => b env fun e => c env fun s => match d, e, s with
  | .int i, .int j, .int k => ∃ n, RgC i j k n ∧ Q (rngC i k n)
  | _, _, _ => False
def iRev (a : WE) : WI := fun env Q => a env fun d => match d with
  | .list ds => Q ds.reverse
  | _ => False
def wYes : WT := fun _ Q => Q true
def wLc (wi : WI) (wg : WG) (wt : WT) (we : WE) (vs : List Nat) : WL := fun env Q => wi env fun ds => ds.length < 1000000 ∧ wpE env vs = env ∧ ∃ I : Nat → List D → Prop, I 0 [] ∧
  (∀ i d acc, ds[i]? = some d → I i acc → wg d env fun env2 => wt env2 fun b => (b = true → we env2 fun y => I (i + 1) (acc ++ [y])) ∧ (b = false → I (i + 1) acc)) ∧ ∀ acc, I ds.length acc → Q acc

/-! ### soundness -/
section
variable {K : PySem.W.Frag} {ok : List D → Prop} {C : Ctx} {H0 H01 : Hp} {E : Ends} {W : WEnds}
theorem EndsOk.mono (h : EndsOk K ok C H0 E W) (e : Same H0 H01) : EndsOk K ok C H01 E W :=
  ⟨fun a b c d s => h.nx a b c d (e.trans s), fun a b c d x y s => h.rt a b c d x y (e.trans s), fun a b c d s => h.bk a b c d (e.trans s), fun a b c d s => h.ct a b c d (e.trans s)⟩
variable {t u : TS} {a b : WS} {te : TE} {we : WE} {wl : WL} {tt : TT} {wt : WT}
theorem ss_seq (ha : SndS K ok t a) (hb : SndS K ok u b) : SndS K ok (tSeq t u) (wSeq a b) := fun C H0 σ H env E W rel hw h =>
  ha C H0 σ H env _ { W with nx := b W } rel hw ⟨fun env' σ' H' H01 s r q => hb C H01 σ' H' env' E W r q (h.mono s), h.rt, h.bk, h.ct⟩
theorem ss_nx : SndS K ok tNext wNx := fun C H0 σ H env E W rel hw h => h.nx env σ H H0 (Same.refl _) rel hw
theorem ss_bk : SndS K ok tBreak wBk := fun C H0 σ H env E W rel hw h => h.bk env σ H H0 (Same.refl _) rel hw
theorem ss_ct : SndS K ok tCont wCt := fun C H0 σ H env E W rel hw h => h.ct env σ H H0 (Same.refl _) rel hw
theorem ss_never : SndS K ok tNever wNever := fun C H0 σ H env E W rel hw h => hw.elim
theorem ss_set {i : Nat} (he : SndE K ok te we) : SndS K ok (tAsg te (gName i)) (wSet i we) := fun C H0 σ H env E W rel hw h =>
  he C H0 σ H env _ _ rel hw fun d v H1 H01 q r e x => h.nx _ _ _ H01 e (r.setV x) q
theorem ss_setO {i : Nat} (he : SndL K ok te wl) : SndS K ok (tAsg te (gName i)) (wSetO i wl) := fun C H0 σ H env E W rel hw h =>
  he C H0 σ H env _ _ rel hw fun ds p H1 H01 q r e f => h.nx _ _ _ H01 e (r.setO (s := .own ds) ⟨p, rfl, f.he, f.own⟩ rfl f.kq fun j t _ ht ot => f.ns j t ht ot) q
theorem ss_setH {i : Nat} (he : SndL K ok te wl) : SndS K ok (tAsg te (gName i)) (wSetH ok i wl) := fun C H0 σ H env E W rel hw h =>
  he C H0 σ H env _ _ rel hw fun ds p H1 H01 q r e f => h.nx _ _ _ H01 e (r.setO (s := .hnd) ⟨p, ds, rfl, .inr f.he, f.own, q.1⟩ rfl f.kq fun j t _ ht ot => f.ns j t ht ot) q.2
theorem ss_drop (he : SndE K ok te we) : SndS K ok (tDrop te) (wDrop we) := fun C H0 σ H env E W rel hw h =>
  he C H0 σ H env _ _ rel hw fun d v H1 H01 q r e x => h.nx _ _ _ H01 e r q
theorem ss_ret (he : SndE K ok te we) : SndS K ok (tRet te) (wRet we) := fun C H0 σ H env E W rel hw h =>
  he C H0 σ H env _ _ rel hw fun d v H1 H01 q r e x => h.rt (.v d) v σ H1 H01 env e r q x
theorem ss_retO (he : SndL K ok te wl) : SndS K ok (tRet te) (wRetO wl) := fun C H0 σ H env E W rel hw h =>
  he C H0 σ H env _ _ rel hw fun ds p H1 H01 q r e f => h.rt (.own ds) _ σ H1 H01 env e r q ⟨p, rfl, f.he, f.own⟩
theorem ss_retV {i : Nat} : SndS K ok (tRet (tVar i)) (wRetV i) := fun C H0 σ H env E W rel hw h => by
  unfold wRetV at hw
  split at hw
  · rename_i d hd
    obtain ⟨v, e, x⟩ := rel.slot i _ (get_eq hd)
    exact ⟨v, e, h.rt _ v σ H H0 env (Same.refl _) rel hw x⟩
  · rename_i ds hd
    obtain ⟨p, e, n, o⟩ := rel.slot i _ (get_eq hd)
    exact ⟨_, e, h.rt (.own ds) _ σ H H0 env (Same.refl _) rel hw ⟨p, rfl, n, o⟩⟩
  · exact hw.elim
theorem ss_retN : SndS K ok tRetN wRetN := fun C H0 σ H env E W rel hw h => h.rt (.v .none) .non σ H H0 env (Same.refl _) rel hw .non
theorem ss_if (hc : SndT K ok tt wt) (ha : SndS K ok t a) (hb : SndS K ok u b) : SndS K ok (tIfS tt t u) (wIf wt a b) := fun C H0 σ H env E W rel hw h =>
  hc C H0 σ H env _ _ rel hw fun c H1 H01 q r e => by
    cases c with
    | true => exact iteT (ha C H01 σ H1 env E W r (q.1 rfl) (h.mono e))
    | false => exact iteF (hb C H01 σ H1 env E W r (q.2 rfl) (h.mono e))
theorem ss_frz {i : Nat} (ha : SndS K ok t a) : SndS K ok t (wFrz i a) := fun C H0 σ H env E W rel hw h => by
  unfold wFrz frz at hw
  split at hw
  · rename_i ds hd
    have he := get_eq hd
    obtain ⟨p, e, n, n0, vs, hp, hr⟩ := rel.slot i _ he
    -- the slot is forgotten, then the list becomes known, then the slot holds it
    have r1 : Rel K ok C H0 σ H (env.set i none) := by
      have q := rel.drop (i := i) (y := some (.ref p))
      have es : σ.set i (some (.ref p)) = σ := by
        apply List.ext_getElem?
        intro j
        by_cases hj : i = j
        · subst hj
          rw [e]
          have lt : i < σ.length := by rw [rel.len]; exact (List.getElem?_eq_some_iff.mp he).1
          rw [List.getElem?_set_self lt]
        · rw [List.getElem?_set_ne hj]
      rw [es] at q
      exact q
    obtain ⟨r2, e2⟩ := r1.know hp n0 n (rel.kn i _ p he rfl e) (fun j s hs os z => by
      have hj : i ≠ j := fun y => by
        subst y
        rw [List.getElem?_set_self (List.getElem?_eq_some_iff.mp he).1] at hs; cases hs
      rw [List.getElem?_set_ne hj] at hs
      exact rel.dis i j _ s p hj he hs rfl os e z)
    have r3 := r2.setV (i := i) (x := .ref p) (d := .list ds) (.lst upd_same (hr.mono e2))
    have es : σ.set i (some (.ref p)) = σ := by
      apply List.ext_getElem?
      intro j
      by_cases hj : i = j
      · subst hj
        rw [e]
        have lt : i < σ.length := by rw [rel.len]; exact (List.getElem?_eq_some_iff.mp he).1
        rw [List.getElem?_set_self lt]
      · rw [List.getElem?_set_ne hj]
    rw [es, List.set_set] at r3
    exact ha C _ σ H _ E W r3 hw (h.mono e2)
  · exact ha C H0 σ H env E W rel hw h
theorem lt_size {n : Nat} (h : n < 1000000) : n < sizeLine := Nat.lt_trans h (by decide)
/-- an own slot's list is changed -/
theorem Rel.putL {σ : L2.St} {H : Hp} {env : EnvD} (rel : Rel K ok C H0 σ H env) {i : Nat} {p : Addr} {ds es : List D} {ws : List V} (he : env[i]? = some (some (.own ds))) (e : σ[i]? = some (some (.ref p))) (n : C.He p = none) (n0 : H0 p = none) (hr : Rps K H0 ws es) :
    Rel K ok C H0 σ (upd H p (.lst ws)) (env.set i (some (.own es))) :=
  rel.put (s := .own ds) (t := .own es) he rfl e (fun z => by obtain ⟨⟨o, y⟩, _⟩ := rel.hv p z; rw [n] at y; cases y) rfl ⟨p, rfl, n, n0, ws, upd_same, hr⟩
theorem ss_app {i : Nat} (he : SndE K ok te we) : SndS K ok (tDrop (tBM K "list" rAppend (tVar i) (tCons te tNil))) (wApp i we) := fun C H0 σ H env E W rel hw h => by
  unfold wApp at hw
  split at hw
  · rename_i ds hd
    obtain ⟨p, e, n, n0, vs0, hp0, hr0⟩ := rel.slot i _ (get_eq hd)
    refine ⟨.ref p, e, .inl ⟨rfl, vs0, SqL.of hp0⟩, ?_⟩
    refine he C H0 σ H env _ _ rel hw fun d v H1 H01 q r e1 x => ?_
    obtain ⟨p', e', n, n0, vs, hp, hr⟩ := r.slot i _ (get_eq hd)
    rw [e] at e'
    cases e'
    refine ⟨p, vs, v, rfl, rfl, hp, by rw [hr.length]; exact lt_size q.1, ?_⟩
    exact h.nx _ _ _ H01 e1 (r.putL (get_eq hd) e n n0 (hr.append (.one x))) q.2
  · exact hw.elim
theorem ss_ext {i : Nat} (he : SndE K ok te we) : SndS K ok (tDrop (tBM K "list" rExtend (tVar i) (tCons te tNil))) (wExt i we) := fun C H0 σ H env E W rel hw h => by
  unfold wExt at hw
  split at hw
  · rename_i ds hd
    obtain ⟨p, e, n, n0, vs0, hp0, hr0⟩ := rel.slot i _ (get_eq hd)
    refine ⟨.ref p, e, .inl ⟨rfl, vs0, SqL.of hp0⟩, ?_⟩
    refine he C H0 σ H env _ _ rel hw fun d v H1 H01 q r e1 x => ?_
    obtain ⟨p', e', n, n0, vs, hp, hr⟩ := r.slot i _ (get_eq hd)
    rw [e] at e'
    cases e'
    try dsimp only at q
    split at q
    · cases x with
      | lst hb rb =>
        refine ⟨p, _, vs, _, rfl, rfl, hp, r.sub _ _ hb, by rw [hr.length, rb.length]; exact Nat.le_of_lt (lt_size q.1), ?_⟩
        exact h.nx _ _ _ H01 e1 (r.putL (get_eq hd) e n n0 (hr.append rb)) q.2
    · exact q.elim
  · exact hw.elim
theorem ss_pop {i : Nat} : SndS K ok (tDrop (tBM0 K "list" rPop (tVar i))) (wPop i) := fun C H0 σ H env E W rel hw h => by
  unfold wPop at hw
  split at hw
  · rename_i ds hd
    obtain ⟨p, e, n, n0, vs, hp, hr⟩ := rel.slot i _ (get_eq hd)
    have lt : vs.length - 1 < vs.length := by
      have := hr.length
      have : ds.length ≠ 0 := fun z => hw.1 (List.eq_nil_of_length_eq_zero z)
      omega
    refine ⟨.ref p, e, .inl ⟨rfl, vs, SqL.of hp⟩, p, vs, vs[vs.length - 1], rfl, rfl, hp, List.getElem?_eq_getElem lt, ?_⟩
    exact h.nx _ _ _ H0 (Same.refl _) (rel.putL (get_eq hd) e n n0 hr.dropLast) hw.2
  · exact hw.elim
theorem ss_put {i : Nat} {tk : TE} {wk : WE} (he : SndE K ok te we) (hk : SndE K ok tk wk) : SndS K ok (tAsg te (gSub (tVar i) tk rSetL)) (wPut i wk we) := fun C H0 σ H env E W rel hw h => by
  unfold wPut at hw
  split at hw
  · rename_i ds hd
    refine he C H0 σ H env _ _ rel hw fun d v H1 H01 q r e1 x => ?_
    obtain ⟨p, e, n, n0, vs0, hp0, hr0⟩ := r.slot i _ (get_eq hd)
    refine ⟨.ref p, e, hk C H01 σ H1 env _ _ r q fun j u H2 H02 q2 r2 e2 y => ?_⟩
    try dsimp only at q2
    split at q2
    · cases y
      obtain ⟨m, hm, q3⟩ := q2
      obtain ⟨p', e', n, n0, vs, hp, hr⟩ := r2.slot i _ (get_eq hd)
      rw [e] at e'
      cases e'
      refine ⟨p, vs, _, m, rfl, rfl, hp, by rw [hr.length]; exact hm, ?_⟩
      exact h.nx _ _ _ H02 (e1.trans e2) (r2.putL (get_eq hd) e n n0 (hr.set (x.mono e2) m)) q3
    · exact q2.elim
  · exact hw.elim
theorem ss_par {i j : Nat} {ta : TA} {wa : WA} (ha : SndA K ok ta wa) : SndS K ok (tPar i j ta) (wPar i j wa) := fun C H0 σ H env E W rel hw h =>
  ha C H0 σ H env _ _ rel hw fun as vs H1 H01 q r e x => by
    try dsimp only at q
    split at q
    · cases x with
      | cons x1 x =>
        cases x with
        | cons x2 x =>
          cases x
          refine ⟨_, _, rfl, ?_⟩
          exact h.nx _ _ _ H01 e ((r.setV (show Rp K H01 _ _ from x1)).setV (show Rp K H01 _ _ from x2)) q
    · exact q.elim
theorem ss_while (hc : SndT K ok tt wt) (hb : SndS K ok t a) : SndS K ok (tWhile tt t) (wWhile wt a) := fun C H0 σ H env E W rel hw h => by
  obtain ⟨I, ⟨m0, i0⟩, turn⟩ := hw
  refine ⟨fun m σ H => ∃ env H01, Same H0 H01 ∧ Rel K ok C H01 σ H env ∧ I m env, ⟨m0, env, H0, Same.refl _, rel, i0⟩, ?_⟩
  rintro m σ1 H1 ⟨env1, H01, e1, r1, i1⟩
  refine hc C H01 σ1 H1 env1 _ _ r1 (turn m env1 i1) fun c H2 H02 q r2 e2 => ?_
  cases c with
  | true =>
    refine iteT ?_
    obtain ⟨N, hN, q⟩ := q.1 rfl
    refine ⟨fun σ' H' => ∃ env' H03, Same H0 H03 ∧ Rel K ok C H03 σ' H' env' ∧ N env', fun σ' H' ⟨env', H03, e3, r3, n3⟩ => ?_, ?_⟩
    · obtain ⟨m', hm, i'⟩ := hN env' n3
      exact ⟨m', hm, env', H03, e3, r3, i'⟩
    · exact hb C H02 σ1 H2 env1 _ _ r2 q ⟨fun env' σ' H' H03 s r n => ⟨env', H03, (e1.trans e2).trans s, r, n⟩, fun r v σ' H' H03 env' s => h.rt r v σ' H' H03 env' ((e1.trans e2).trans s),
        fun env' σ' H' H03 s r n => h.nx env' σ' H' H03 ((e1.trans e2).trans s) r n, fun env' σ' H' H03 s r n => ⟨env', H03, (e1.trans e2).trans s, r, n⟩⟩
  | false => exact iteF (h.nx _ _ _ H02 (e1.trans e2) r2 (q.2 rfl))
/-- what the walk gives at a turn: the item known -/
theorem WalkD.item {J : It} {ds : List D} {H01 H02 : Hp} {σ : L2.St} {H H' : Hp} {env : EnvD} {i : Nat} {x : V} (w : WalkD K J ds H01) (e : Same H01 H02) (r : Rel K ok C H02 σ H env) (hi : i < ds.length) (y : J.yld i H x H') :
    ∃ d H03, ds[i]? = some d ∧ Rel K ok C H03 σ H' env ∧ Same H02 H03 ∧ Rp K H03 x d ∧ Same H H' := by
  obtain ⟨d, hd, z⟩ := w.yields i H x H' hi (e.trans r.sub) y
  rcases z with ⟨rfl, z⟩ | ⟨T, xs, es, rfl, nT, rfl, rfl, z⟩
  · exact ⟨d, H02, hd, r, Same.refl _, z.mono e, Same.refl _⟩
  · obtain ⟨r2, e2⟩ := r.laid (o := .tup xs) nT
    exact ⟨_, _, hd, r2, e2, .tup (SqT.of upd_same) ((z.mono e).mono e2), same_new nT⟩
theorem ss_for {vs : List Nat} {ti : TI} {wi : WI} {g : TG} {wg : WG} (hi : SndI K ok ti wi) (hg : SndG K ok vs g wg) (hb : SndS K ok t a) : SndS K ok (tFor ti g t) (wFor wi wg a) := fun C H0 σ H env E W rel hw h =>
  hi C H0 σ H env _ _ rel hw fun ds J H1 H01 q r1 e1 w => by
    obtain ⟨I, i0, turn, fin⟩ := q
    refine ⟨fun i m σ H => m = ds.length - i ∧ i ≤ ds.length ∧ ∃ env H02, Same H01 H02 ∧ Rel K ok C H02 σ H env ∧ I i env, ⟨ds.length, by simp, Nat.zero_le _, env, H01, Same.refl _, r1, i0⟩, ?_⟩
    rintro i m σ2 H2 ⟨rfl, hil, env2, H02, e2, r2, i2⟩
    by_cases hlt : i < ds.length
    · refine .inr ⟨w.goes i H2 hlt (e2.trans r2.sub), fun σ' H' => ∃ env' H04, Same H01 H04 ∧ Rel K ok C H04 σ' H' env' ∧ I (i + 1) env', fun σ' H' ⟨env', H04, z⟩ => ⟨ds.length - (i + 1), by omega, rfl, hlt, env', H04, z⟩, fun x H' y => ?_⟩
      obtain ⟨d, H03, hd, r3, e3, x3, _⟩ := w.item e2 r2 hlt y
      have e03 := (e1.trans e2).trans e3
      refine hg C H03 σ2 H' env2 x d _ _ r3 x3 (turn i d env2 hd i2) fun env4 σ4 r4 q4 _ => ?_
      exact hb C H03 σ4 H' env4 _ _ r4 q4 ⟨fun env' σ' H' H04 s r n => ⟨env', H04, (e2.trans e3).trans s, r, n⟩, fun r v σ' H' H04 env' s => h.rt r v σ' H' H04 env' (e03.trans s),
        fun env' σ' H' H04 s r n => h.nx env' σ' H' H04 (e03.trans s) r n, fun env' σ' H' H04 s r n => ⟨env', H04, (e2.trans e3).trans s, r, n⟩⟩
    · have hi' : i = ds.length := by omega
      subst hi'
      exact .inl ⟨w.stops H2 (e2.trans r2.sub), h.nx env2 σ2 H2 H02 (e1.trans e2) r2 (fin env2 i2)⟩
theorem ss_asg {vs : List Nat} {g : TG} {wg : WG} (he : SndE K ok te we) (hg : SndG K ok vs g wg) : SndS K ok (tAsg te g) (wAsg we wg) := fun C H0 σ H env E W rel hw h =>
  he C H0 σ H env _ _ rel hw fun d v H1 H01 q r e x => hg C H01 σ H1 env v d _ _ r x q fun env' σ' r' q' _ => h.nx env' σ' H1 H01 e r' q'
/-! targets -/
theorem wipe_get {σ : L2.St} {j : Nat} : ∀ {vs : List Nat}, (wipe σ vs)[j]? = if j ∈ vs then (if j < σ.length then some none else none) else σ[j]?
  | [] => by simp [wipe]
  | v :: vs => by
    unfold wipe
    by_cases hj : v = j
    · subst hj
      rw [if_pos List.mem_cons_self]
      by_cases hl : v < σ.length
      · rw [if_pos hl, List.getElem?_set_self (by rw [wipe_length]; exact hl)]
      · rw [if_neg hl, List.getElem?_eq_none (by rw [List.length_set, wipe_length]; omega)]
    · rw [List.getElem?_set_ne hj, wipe_get]
      have : (j ∈ v :: vs) ↔ j ∈ vs := by simp [Ne.symm hj]
      simp only [this]
theorem wipe_set {σ : L2.St} {i : Nat} {x : Option V} {vs : List Nat} (h : i ∈ vs) : wipe (σ.set i x) vs = wipe σ vs := by
  apply List.ext_getElem?
  intro j
  rw [wipe_get, wipe_get, List.length_set]
  by_cases hj : j ∈ vs
  · rw [if_pos hj, if_pos hj]
  · rw [if_neg hj, if_neg hj, List.getElem?_set_ne (fun z => hj (by subst z; exact h))]
theorem wpE_len {env : EnvD} : ∀ vs : List Nat, (wpE env vs).length = env.length
  | [] => rfl
  | v :: vs => by unfold wpE; rw [List.length_set, wpE_len vs]
theorem wpE_get {env : EnvD} {j : Nat} : ∀ {vs : List Nat}, (wpE env vs)[j]? = if j ∈ vs then (if j < env.length then some none else none) else env[j]?
  | [] => by simp [wpE]
  | v :: vs => by
    unfold wpE
    by_cases hj : v = j
    · subst hj
      rw [if_pos List.mem_cons_self]
      by_cases hl : v < env.length
      · rw [if_pos hl, List.getElem?_set_self (by rw [wpE_len]; exact hl)]
      · rw [if_neg hl, List.getElem?_eq_none (by rw [List.length_set, wpE_len]; omega)]
    · rw [List.getElem?_set_ne hj, wpE_get]
      have : (j ∈ v :: vs) ↔ j ∈ vs := by simp [Ne.symm hj]
      simp only [this]
theorem wpE_set {env : EnvD} {i : Nat} {x : Option Sl} {vs : List Nat} (h : i ∈ vs) : wpE (env.set i x) vs = wpE env vs := by
  apply List.ext_getElem?
  intro j
  rw [wpE_get, wpE_get, List.length_set]
  by_cases hj : j ∈ vs
  · rw [if_pos hj, if_pos hj]
  · rw [if_neg hj, if_neg hj, List.getElem?_set_ne (fun z => hj (by subst z; exact h))]
theorem sg_name {i : Nat} {vs : List Nat} (h : i ∈ vs) : SndG K ok vs (gName i) (gN i) := fun C H0 σ H env x d Q R rel hx q k => k _ _ (rel.setV hx) q ⟨wipe_set h, wpE_set h⟩
def SndGs (K : PySem.W.Frag) (ok : List D → Prop) (vs : List Nat) (g : TGs) (wg : WGs) : Prop := ∀ (C : Ctx) (H0 : Hp) (σ : L2.St) (H : Hp) (env : EnvD) (xs : List V) (ds : List D) (Q : EnvD → Prop) (R : L2.St → Hp → Prop), Rel K ok C H0 σ H env → Rps K H0 xs ds → wg ds env Q →
  (∀ env' σ', Rel K ok C H0 σ' H env' → Q env' → wipe σ' vs = wipe σ vs ∧ wpE env' vs = wpE env vs → R σ' H) → g xs σ H R
theorem sgs_nil {vs : List Nat} : SndGs K ok vs gNil gsNil := fun C H0 σ H env xs ds Q R rel hx q k => by
  obtain ⟨rfl, q⟩ := q
  exact ⟨hx.nil_inv, k env σ rel q ⟨rfl, rfl⟩⟩
theorem sgs_cons {vs : List Nat} {g : TG} {wg : WG} {gs : TGs} {wgs : WGs} (h1 : SndG K ok vs g wg) (h2 : SndGs K ok vs gs wgs) : SndGs K ok vs (gCons g gs) (gsCons wg wgs) := fun C H0 σ H env xs ds Q R rel hx q k => by
  cases ds with
  | nil => exact q.elim
  | cons d es =>
    obtain ⟨v, ws, rfl, x1, x2⟩ := hx.cons_inv
    exact ⟨v, ws, rfl, h1 C H0 σ H env v d _ _ rel x1 q fun env' σ' r' q' w' => h2 C H0 σ' H env' ws es _ _ r' x2 q' fun env2 σ2 r2 q2 w2 => k env2 σ2 r2 q2 ⟨w2.1.trans w'.1, w2.2.trans w'.2⟩⟩
theorem sg_tup {vs : List Nat} {n : Nat} {gs : TGs} {wgs : WGs} (h : SndGs K ok vs gs wgs) : SndG K ok vs (gTup K n gs) (gT n wgs) := fun C H0 σ H env x d Q R rel hx q k => by
  unfold gT at q
  split at q
  · cases hx with
    | tup ha hr => exact ⟨_, _, rfl, Same.tup rel.sub ha, by rw [hr.length]; exact q.1, h C H0 σ H env _ _ _ _ rel hr q.2 k⟩
  · exact q.elim
/-! what is walked -/
theorem si_list (he : SndE K ok te we) : SndI K ok (iList K te) (iL we) := fun C H0 σ H env Q R rel hw k => he C H0 σ H env _ _ rel hw fun d v H1 H01 q r e x => by
  try dsimp only at q
  split at q
  · cases x with
    | lst ha hr =>
      rename_i a xs
      refine ⟨a, rfl, ⟨xs, SqL.of (r.sub _ _ ha)⟩, k _ _ _ H01 q r e ⟨fun i H2 hi s => ?_, fun H2 s => ⟨xs, SqL.of (s _ _ ha), by rw [hr.length]; exact Nat.le_refl _⟩, fun i H2 x H3 hi s y => ?_⟩⟩
      · have hi' : i < xs.length := by rw [hr.length]; exact hi
        exact ⟨xs, xs[i], SqL.of (s _ _ ha), List.getElem?_eq_getElem hi'⟩
      · obtain ⟨rfl, y⟩ := y
        obtain ⟨d, hd, x'⟩ := hr.getV (y xs (SqL.of (s _ _ ha)))
        exact ⟨d, hd, .inl ⟨rfl, x'⟩⟩
  · exact q.elim
theorem si_tup (he : SndE K ok te we) : SndI K ok (iTup K te) (iT we) := fun C H0 σ H env Q R rel hw k => he C H0 σ H env _ _ rel hw fun d v H1 H01 q r e x => by
  try dsimp only at q
  split at q
  · cases x with
    | tup ha hr =>
      rename_i a xs
      refine ⟨a, rfl, ⟨xs, Same.tup r.sub ha⟩, k _ _ _ H01 q r e ⟨fun i H2 hi s => ?_, fun H2 s => ⟨xs, Same.tup s ha, by rw [hr.length]; exact Nat.le_refl _⟩, fun i H2 x H3 hi s y => ?_⟩⟩
      · have hi' : i < xs.length := by rw [hr.length]; exact hi
        exact ⟨xs, xs[i], Same.tup s ha, List.getElem?_eq_getElem hi'⟩
      · obtain ⟨rfl, y⟩ := y
        obtain ⟨d, hd, x'⟩ := hr.getV (y xs (Same.tup s ha))
        exact ⟨d, hd, .inl ⟨rfl, x'⟩⟩
  · exact q.elim
theorem rng_get {lo : Int} {n i : Nat} (h : i < n) : (rng lo n)[i]? = some (.int (lo + i)) := by
  unfold rng
  rw [List.getElem?_map, List.getElem?_range h]
  rfl
theorem rng_len {lo : Int} {n : Nat} : (rng lo n).length = n := by unfold rng; rw [List.length_map, List.length_range]
theorem walk_rng {lo : Int} {n : Nat} {H01 : Hp} : WalkD K (Itr lo n) (rng lo n) H01 := by
  refine ⟨fun i H hi s => by rw [rng_len] at hi; exact hi, fun H s => by rw [rng_len]; exact Nat.le_refl _, fun i H x H' hi s y => ?_⟩
  obtain ⟨rfl, rfl⟩ := y
  rw [rng_len] at hi
  exact ⟨_, rng_get hi, .inl ⟨rfl, .int _⟩⟩
theorem si_r1 (he : SndE K ok te we) : SndI K ok (iRng1 (tCons te tNil)) (iR1 we) := fun C H0 σ H env Q R rel hw k => he C H0 σ H env _ _ rel hw fun d v H1 H01 q r e x => by
  try dsimp only at q
  split at q
  · cases x
    exact ⟨_, rfl, q.1.1, q.1.2, k _ _ _ H01 q.2 r e walk_rng⟩
  · exact q.elim
theorem si_r2 {tf : TE} {wf : WE} (he : SndE K ok te we) (hf : SndE K ok tf wf) : SndI K ok (iRng2 (tCons te (tCons tf tNil))) (iR2 we wf) := fun C H0 σ H env Q R rel hw k => he C H0 σ H env _ _ rel hw fun d v H1 H01 q r e x =>
  hf C H01 σ H1 env _ _ r q fun d2 v2 H2 H02 q2 r2 e2 x2 => by
    try dsimp only at q2
    split at q2
    · cases x; cases x2
      exact ⟨_, _, rfl, q2.1, k _ _ _ H02 q2.2 r2 (e.trans e2) walk_rng⟩
    · exact q2.elim
/-! comprehensions -/
theorem st_yes : SndT K ok tYes wYes := fun C H0 σ H env Q R rel hw k => k true H H0 hw rel (Same.refl _)
theorem Rel.wipe {σ : L2.St} {H : Hp} {env : EnvD} (rel : Rel K ok C H0 σ H env) : ∀ vs : List Nat, Rel K ok C H0 (L2.wipe σ vs) H (wpE env vs)
  | [] => rel
  | v :: vs => (Rel.wipe rel vs).drop
theorem Rel.unwipe {σ : L2.St} {H : Hp} {env : EnvD} {vs : List Nat} (rel : Rel K ok C H0 (L2.wipe σ vs) H env) (h : wpE env vs = env) : Rel K ok C H0 σ H env := by
  have key : ∀ {i : Nat} {s : Sl}, env[i]? = some (some s) → (L2.wipe σ vs)[i]? = σ[i]? := fun {i s} hs => by
    have hi : i ∉ vs := fun z => by
      rw [← h, wpE_get, if_pos z] at hs
      split at hs <;> cases hs
    rw [wipe_get, if_neg hi]
  refine ⟨rel.sub, rel.grow, rel.new, rel.fr, rel.hv, by rw [← rel.len, wipe_length], fun i s hs => ?_, fun i j s t p hij hs ht os ot e1 => ?_, rel.kp, fun i s p hs os e1 => ?_, rel.kh, rel.kz⟩
  · have q := rel.slot i s hs
    rw [key hs] at q
    exact q
  · rw [← key hs] at e1
    rw [← key ht]
    exact rel.dis i j s t p hij hs ht os ot e1
  · rw [← key hs] at e1
    exact rel.kn i s p hs os e1
theorem sl_lc {vs : List Nat} {ti : TI} {wi : WI} {g : TG} {wg : WG} (hi : SndI K ok ti wi) (hg : SndG K ok vs g wg) (ht : SndT K ok tt wt) (he : SndE K ok te we) : SndL K ok (tLc ti g tt te vs) (wLc wi wg wt we vs) := fun C H0 σ H env Q R rel hw k =>
  hi C H0 σ H env _ _ rel hw fun ds J H1 H01 q r1 e1 w => by
    obtain ⟨hlen, hwp, I, i0, turn, fin⟩ := q
    intro A hA
    have hA0 : C.Kp A = none := r1.kp.free hA
    -- the list at A is no slot's; the block's context protects it
    have out : ∀ {vs' : List V} {H2 H02 : Hp} {env2 : EnvD} {σ2 : L2.St}, Rel K ok { C with Kp := upd C.Kp A (.lst vs') } H02 σ2 H2 env2 → Rel K ok C H02 σ2 H2 env2 := fun {vs' H2 H02 env2 σ2} r =>
      (r.guard (Kq := C.Kp) (fun b o z => r.kp b o (by rw [show ({ C with Kp := upd C.Kp A (.lst vs') } : Ctx).Kp = upd C.Kp A (.lst vs') from rfl, upd_ne (ne_of_none z hA0)]; exact z)) fun p o z => .inl (by
        show upd C.Kp A (.lst vs') p = some o
        rw [upd_ne (ne_of_none z hA0)]; exact z))
    let Pv : Nat → Hp → Prop := fun i H => ∃ acc vs' H02, Same H01 H02 ∧ Rel K ok { C with Kp := upd C.Kp A (.lst vs') } H02 σ H env ∧ H A = some (.lst vs') ∧ H02 A = none ∧ Rps K H02 vs' acc ∧ acc.length ≤ i ∧ I i acc
    have nsl : ∀ {vs' : List V} {H2 H02 : Hp} {σ2 : L2.St} {env2 : EnvD}, Rel K ok { C with Kp := upd C.Kp A (.lst vs') } H02 σ2 H2 env2 → ∀ (i : Nat) s, env2[i]? = some (some s) → s.isOwn = true → σ2[i]? ≠ some (some (.ref A)) := fun {vs' H2 H02 σ2 env2} r i s hs os z => by
      have y := r.kn i s A hs os z
      have y2 : upd C.Kp A (.lst vs') A = none := y
      rw [upd_same] at y2; cases y2
    have hCA : C.He A = none := r1.fresh hA
    have nha : C.ha ≠ some A := fun z => by obtain ⟨⟨o, y⟩, _⟩ := r1.hv A z; rw [hCA] at y; cases y
    -- the list at A changes
    have change : ∀ {vs' ws : List V} {H2 H02 : Hp} {env2 : EnvD} {σ2 : L2.St}, Rel K ok { C with Kp := upd C.Kp A (.lst vs') } H02 σ2 H2 env2 → H02 A = none → Rel K ok { C with Kp := upd C.Kp A (.lst ws) } H02 σ2 (upd H2 A (.lst ws)) env2 := fun {vs' ws H2 H02 env2 σ2} r n0 => by
      have up : ∀ {b : Addr} {x : HO}, b ≠ A → H2 b = some x → (upd H2 A (.lst ws)) b = some x := fun {b x} hb z => by rw [upd_ne hb]; exact z
      have ns := nsl r
      refine ⟨fun b o z => up (ne_of_none z n0) (r.sub b o z), r.grow, r.new, fun b o z m => up (ne_of_none z hCA) (r.fr b o z m), fun a ha => ?_, r.len, fun i s hs => ?_, r.dis, fun b o z => ?_, fun i s p hs os e => ?_, fun a ha => ?_, fun b o z => ?_⟩
      · obtain ⟨h1, dd, h2, h3⟩ := r.hv a ha
        exact ⟨h1, dd, h2.keep (Same.refl _) h2.n0 (fun o z => up (fun y => by subst y; exact nha ha) z), h3⟩
      · have q := r.slot i s hs
        have other : ∀ {a : Addr}, s.isOwn = true → σ2[i]? = some (some (.ref a)) → a ≠ A := fun {a} o' z y => by subst y; exact ns i s hs o' z
        cases s with
        | v d => exact q
        | own dd => obtain ⟨p, e, m, h2⟩ := q; exact ⟨p, e, m, h2.keep (Same.refl _) h2.n0 (fun o z => up (other rfl e) z)⟩
        | hnd => obtain ⟨p, dd, e, m, h2, h3⟩ := q; exact ⟨p, dd, e, m, h2.keep (Same.refl _) h2.n0 (fun o z => up (other rfl e) z), h3⟩
        | dct kvs => obtain ⟨p, ks, e, m, m0, hp, r'⟩ := q; exact ⟨p, ks, e, m, m0, up (other rfl e) hp, r'⟩
      · have z' : upd C.Kp A (.lst ws) b = some o := z
        by_cases hb : b = A
        · subst hb; rw [upd_same] at z' ⊢; exact z'
        · rw [upd_ne hb] at z'
          exact up hb (r.kp b o (by show upd C.Kp A (.lst vs') b = some o; rw [upd_ne hb]; exact z'))
      · have y : upd C.Kp A (.lst vs') p = none := r.kn i s p hs os e
        show upd C.Kp A (.lst ws) p = none
        by_cases hb : p = A
        · subst hb; rw [upd_same] at y; cases y
        · rw [upd_ne hb] at y ⊢; exact y
      · have y : upd C.Kp A (.lst vs') a = none := r.kh a ha
        show upd C.Kp A (.lst ws) a = none
        by_cases hb : a = A
        · subst hb; rw [upd_same] at y; cases y
        · rw [upd_ne hb] at y ⊢; exact y
      · have z' : upd C.Kp A (.lst ws) b = some o := z
        by_cases hb : b = A
        · subst hb; exact n0
        · rw [upd_ne hb] at z'
          exact r.kz b o (by show upd C.Kp A (.lst vs') b = some o; rw [upd_ne hb]; exact z')
    refine ⟨fun i m H => m = ds.length - i ∧ i ≤ ds.length ∧ Pv i H, ⟨ds.length, by simp, Nat.zero_le _, [], [], H01, Same.refl _, ?_, upd_same, r1.sub.free hA, .nil, Nat.zero_le _, i0⟩, ?_⟩
    · refine (r1.laid0 (o := .lst []) hA).guard (fun b o z => ?_) fun p o z => ?_
      · by_cases hb : b = A
        · subst hb; rw [upd_same] at z ⊢; exact z
        · rw [upd_ne hb] at z ⊢; exact r1.kp b o z
      · by_cases hb : p = A
        · subst hb; exact .inr ⟨r1.noslot hA, nha, r1.sub.free hA⟩
        · rw [upd_ne hb] at z; exact .inl z
    rintro i m H2 ⟨rfl, hil, acc, vs', H02, e2, r2, hpA, nA, hr, hacc, i2⟩
    by_cases hlt : i < ds.length
    · refine .inr ⟨w.goes i H2 hlt (e2.trans r2.sub), Pv (i + 1), fun H' p' => ⟨ds.length - (i + 1), by omega, rfl, hlt, p'⟩, fun x H' y => ?_⟩
      obtain ⟨d, H03, hd, r3, e3, x3, kp3⟩ := w.item e2 r2 hlt y
      have r3' : Rel K ok { C with Kp := upd C.Kp A (.lst vs') } H03 (L2.wipe σ vs) H' env := by
        have z := r3.wipe vs
        rw [hwp] at z
        exact z
      refine hg _ H03 _ H' _ x d _ _ r3' x3 (turn i d acc hd i2) fun env4 σ4 r4 q4 w4 => ⟨?_, ?_⟩
      · rw [w4.1]
        apply List.ext_getElem?
        intro j
        rw [wipe_get, wipe_get, wipe_length]
        by_cases hj : j ∈ vs
        · rw [if_pos hj, if_pos hj]
        · rw [if_neg hj, if_neg hj]
      -- the frame of the block aside: σ and env as they were
      have outer : ∀ {vs2 : List V} {Hn H0n : Hp}, Rel K ok { C with Kp := upd C.Kp A (.lst vs2) } H0n σ4 Hn env4 → Rel K ok { C with Kp := upd C.Kp A (.lst vs2) } H0n σ Hn env := by
        intro vs2 Hn H0n rn
        have z := rn.wipe vs
        rw [w4.1, w4.2, hwp] at z
        have e3 : L2.wipe (L2.wipe σ vs) vs = L2.wipe σ vs := by
          apply List.ext_getElem?
          intro j
          rw [wipe_get, wipe_get, wipe_length]
          by_cases hj : j ∈ vs
          · rw [if_pos hj, if_pos hj]
          · rw [if_neg hj, if_neg hj]
        rw [e3] at z
        exact z.unwipe hwp
      have atA : ∀ {Hn H0n : Hp}, Rel K ok { C with Kp := upd C.Kp A (.lst vs') } H0n σ4 Hn env4 → Hn A = some (.lst vs') := fun {Hn H0n} rn => rn.kp A _ upd_same
      have noA : ∀ {Hn H0n : Hp}, Rel K ok { C with Kp := upd C.Kp A (.lst vs') } H0n σ4 Hn env4 → Same H03 H0n → H0n A = none := fun {Hn H0n} rn _ => rn.kz A _ upd_same
      refine ht _ H03 σ4 H' env4 _ _ r4 q4 fun b H5 H05 q5 r5 e5 => ?_
      cases b with
      | true =>
        refine iteT (he _ H05 σ4 H5 env4 _ _ r5 (q5.1 rfl) fun z v H6 H06 q6 r6 e6 x6 => ?_)
        have n6 := noA r6 (e5.trans e6)
        refine ⟨vs', atA r6, by rw [hr.length]; exact Nat.lt_of_le_of_lt hacc (Nat.lt_trans hlt (lt_size hlen)), acc ++ [z], vs' ++ [v], H06, ((e2.trans e3).trans e5).trans e6, change (outer r6) n6, upd_same, n6, ((hr.mono ((e3.trans e5).trans e6)).append (.one x6)), by rw [List.length_append, List.length_singleton]; omega, q6⟩
      | false =>
        exact iteF ⟨acc, vs', H05, (e2.trans e3).trans e5, outer r5, atA r5, noA r5 e5, hr.mono (e3.trans e5), Nat.le_succ_of_le hacc, q5.2 rfl⟩
    · have hi' : i = ds.length := by omega
      subst hi'
      refine .inl ⟨w.stops H2 (e2.trans r2.sub), k acc A H2 H02 (fin acc i2) (out r2) (e1.trans e2) ⟨hCA, ⟨nA, vs', hpA, hr⟩, nsl r2, hA0⟩⟩
end
end DL
/-! DL, part d: the rules by syntax; defs and their calls. -/
namespace DL
open PySem L2

section
variable (X : Cx) (ok : List D → Prop)
def PDS (st : Stmt) (ws : WS) : Prop := ∃ ts, PS X st ts ∧ SndS X.K ok ts ws
def PDSs (st : List Stmt) (ws : WS) : Prop := ∃ ts, PSs X st ts ∧ SndS X.K ok ts ws
def PDG (vs : List Nat) (tg : Expr) (wg : WG) : Prop := ∃ g, PG X tg g ∧ SndG X.K ok vs g wg
def PDGs (vs : List Nat) (tgs : List Expr) (wg : WGs) : Prop := ∃ g, PGs X tgs g ∧ SndGs X.K ok vs g wg
def PDI (tg iter : Expr) (wi : WI) : Prop := ∃ ti, PI X tg iter ti ∧ SndI X.K ok ti wi
end
/-- a def of the module, as a caller sees it -/
structure Has (P : Program) (w : World) (K : PySem.W.Frag) (mg : Str → Option Value) (base : Heap) (ok : List D → Prop) (k : Nat) (x : Str) (n : Nat) (M : WM) : Prop where
  ex : ∃ f fd ps, FnOk P w K mg base CX0 k f fd ps (SpD K ok n M) ∧ mg x = some (.ref f) ∧ PySem.W.keepIn K (.ref f) = true ∧ Binds K fd ps []
section
variable {X : Cx} {ok : List D → Prop} {a b c e : Expr} {es : List Expr} {wa wb wc we : WE} {wr : WA} {wl : WL} {wt wu : WT} {pos p apos : Pos} {x : Str}
/-! ### expressions -/
theorem d_int {i j} : PDE X ok (.Constant (.int i) j pos) (wC (.int i)) := ⟨_, pe_int, snd_c fun H => .int i⟩
theorem d_bl {i j} : PDE X ok (.Constant (.bool i) j pos) (wC (.bool i)) := ⟨_, pe_bl, snd_c fun H => .bl i⟩
theorem d_non {j} : PDE X ok (.Constant .none j pos) (wC .none) := ⟨_, pe_non, snd_c fun H => .non⟩
theorem d_str {i j} : PDE X ok (.Constant (.str i) j pos) (wC (.str i)) := ⟨_, pe_str, snd_c fun H => .str i⟩
theorem d_var (i : Nat) (hN : X.N[i]? = some x := by rfl) (hv : Vis X.env.scope x := by first | exact Or.inl rfl | exact Or.inr (Or.inl rfl) | exact Or.inr (Or.inr rfl)) (hd : (x == ("__debug__" : Str)) = false := by decide)
    (hcd : (x == ("__classdict__" : Str)) = false := by decide) : PDE X ok (.Name x pos) (wVar i) := ⟨_, pe_var hN hv hd hcd, snd_var⟩
theorem d_bor (i : Nat) (hN : X.N[i]? = some x := by rfl) (hv : Vis X.env.scope x := by first | exact Or.inl rfl | exact Or.inr (Or.inl rfl) | exact Or.inr (Or.inr rfl)) (hd : (x == ("__debug__" : Str)) = false := by decide)
    (hcd : (x == ("__classdict__" : Str)) = false := by decide) : PDB X ok (.Name x pos) (wBor i) := ⟨_, pe_var hN hv hd hcd, snd_bor⟩
theorem d_b (h : PDE X ok e we) : PDB X ok e we := let ⟨t, h1, h2⟩ := h; ⟨t, h1, h2.b⟩
theorem d_fz (h : PDL X ok e wl) : PDE X ok e (wFz wl) := let ⟨t, h1, h2⟩ := h; ⟨t, h1, h2.fz⟩
/-- a name of the module that holds a written value -/
theorem d_glob {v : V} {d : D} {u : Value} (hm : X.mg x = some u) (r : RelV v u) (hd : ∀ H, Rp X.K H v d) (hg : Gl X x := by rfl) (hdd : (x == ("__debug__" : Str)) = false := by decide) : PDE X ok (.Name x pos) (wC d) := ⟨_, pe_glob hg hm r hdd, snd_c hd⟩
theorem d_op {op : Operator} {r : R2} {f : D → D → (D → Prop) → Prop} (ho : OpR X (binaryOp op) r) (hf : OpD X.K r f) (ha : PDE X ok a wa) (hb : PDE X ok b wb) : PDE X ok (.BinOp a op b pos) (wBin f wa wb) :=
  let ⟨_, a1, a2⟩ := ha; let ⟨_, b1, b2⟩ := hb; ⟨_, pe_op ho a1 b1, snd_bin hf a2 b2⟩
theorem d_add (ha : PDE X ok a wa) (hb : PDE X ok b wb) : PDE X ok (.BinOp a .Add b pos) (wBin fAdd wa wb) := d_op op_add opd_add ha hb
theorem d_sub (ha : PDE X ok a wa) (hb : PDE X ok b wb) : PDE X ok (.BinOp a .Sub b pos) (wBin fSub wa wb) := d_op op_sub opd_sub ha hb
theorem d_mul (ha : PDE X ok a wa) (hb : PDE X ok b wb) : PDE X ok (.BinOp a .Mult b pos) (wBin fMul wa wb) := d_op op_mul opd_mul ha hb
theorem d_mulX (ha : PDE X ok a wa) (hb : PDE X ok b wb) : PDE X ok (.BinOp a .Mult b pos) (wBin fMulX wa wb) := d_op op_mulX opd_mulX ha hb
theorem d_mod (ha : PDE X ok a wa) (hb : PDE X ok b wb) : PDE X ok (.BinOp a .Mod b pos) (wBin fMod wa wb) := d_op op_mod opd_mod ha hb
theorem d_div (ha : PDE X ok a wa) (hb : PDE X ok b wb) : PDE X ok (.BinOp a .FloorDiv b pos) (wBin fDiv wa wb) := d_op op_fdivW opd_div ha hb
theorem d_shl (ha : PDE X ok a wa) (hb : PDE X ok b wb) : PDE X ok (.BinOp a .LShift b pos) (wBin fShl wa wb) := d_op op_shl opd_shl ha hb
theorem d_pow (ha : PDE X ok a wa) (hb : PDE X ok b wb) : PDE X ok (.BinOp a .Pow b pos) (wBin fPow wa wb) := d_op op_pow opd_pow ha hb
theorem d_neg (ha : PDE X ok a wa) : PDE X ok (.UnaryOp .USub a pos) (wUn fNeg wa) := let ⟨_, a1, a2⟩ := ha; ⟨_, pe_un un_neg a1, snd_neg a2⟩
theorem d_cmp {op : CmpOp} {r : R2} {f : D → D → (D → Prop) → Prop} (ho : OpR X (compareOp op) r) (hf : OpD X.K r f) (hm : behindInMarks op b = false) (ha : PDE X ok a wa) (hb : PDE X ok b wb) : PDE X ok (.Compare a [op] [b] pos) (wBin f wa wb) :=
  let ⟨_, a1, a2⟩ := ha; let ⟨_, b1, b2⟩ := hb; ⟨_, pe_cmpR ho a1 b1 hm, snd_bin hf a2 b2⟩
theorem t_cmp {op : CmpOp} {r : R2} {f : D → D → (D → Prop) → Prop} (ho : OpR X (compareOp op) r) (hf : OpD X.K r f) (hm : behindInMarks op b = false) (ha : PDE X ok a wa) (hb : PDE X ok b wb) : PDT X ok (.Compare a [op] [b] pos) (wTest (wBin f wa wb)) :=
  let ⟨_, a1, a2⟩ := ha; let ⟨_, b1, b2⟩ := hb; ⟨_, pt_cmpR ho a1 b1 hm, snd_test (snd_bin hf a2 b2)⟩
theorem d_lt (ha : PDE X ok a wa) (hb : PDE X ok b wb) : PDE X ok (.Compare a [.Lt] [b] pos) (wBin fLt wa wb) := d_cmp op_lt opd_lt (nomark _) ha hb
theorem d_le (ha : PDE X ok a wa) (hb : PDE X ok b wb) : PDE X ok (.Compare a [.LtE] [b] pos) (wBin fLe wa wb) := d_cmp op_le opd_le (nomark _) ha hb
theorem d_gt (ha : PDE X ok a wa) (hb : PDE X ok b wb) : PDE X ok (.Compare a [.Gt] [b] pos) (wBin fGt wa wb) := d_cmp op_gt opd_gt (nomark _) ha hb
theorem d_ge (ha : PDE X ok a wa) (hb : PDE X ok b wb) : PDE X ok (.Compare a [.GtE] [b] pos) (wBin fGe wa wb) := d_cmp op_ge opd_ge (nomark _) ha hb
theorem t_lt (ha : PDE X ok a wa) (hb : PDE X ok b wb) : PDT X ok (.Compare a [.Lt] [b] pos) (wTest (wBin fLt wa wb)) := t_cmp op_lt opd_lt (nomark _) ha hb
theorem t_le (ha : PDE X ok a wa) (hb : PDE X ok b wb) : PDT X ok (.Compare a [.LtE] [b] pos) (wTest (wBin fLe wa wb)) := t_cmp op_le opd_le (nomark _) ha hb
theorem t_gt (ha : PDE X ok a wa) (hb : PDE X ok b wb) : PDT X ok (.Compare a [.Gt] [b] pos) (wTest (wBin fGt wa wb)) := t_cmp op_gt opd_gt (nomark _) ha hb
theorem t_ge (ha : PDE X ok a wa) (hb : PDE X ok b wb) : PDT X ok (.Compare a [.GtE] [b] pos) (wTest (wBin fGe wa wb)) := t_cmp op_ge opd_ge (nomark _) ha hb
theorem d_eq {k : Nat} (hr : Room k X.A) (ha : PDE X ok a wa) (hb : PDE X ok b wb) : PDE X ok (.Compare a [.Eq] [b] pos) (wBin fEq wa wb) := d_cmp (op_eqD hr.units) opd_eq (nomark _) ha hb
theorem d_ne {k : Nat} (hr : Room k X.A) (ha : PDE X ok a wa) (hb : PDE X ok b wb) : PDE X ok (.Compare a [.NotEq] [b] pos) (wBin fNe wa wb) := d_cmp (op_neD hr.units) opd_ne (nomark _) ha hb
theorem t_eq {k : Nat} (hr : Room k X.A) (ha : PDE X ok a wa) (hb : PDE X ok b wb) : PDT X ok (.Compare a [.Eq] [b] pos) (wTest (wBin fEq wa wb)) := t_cmp (op_eqD hr.units) opd_eq (nomark _) ha hb
theorem t_ne {k : Nat} (hr : Room k X.A) (ha : PDE X ok a wa) (hb : PDE X ok b wb) : PDT X ok (.Compare a [.NotEq] [b] pos) (wTest (wBin fNe wa wb)) := t_cmp (op_neD hr.units) opd_ne (nomark _) ha hb
theorem d_isN {j pos'} (ha : PDE X ok a wa) : PDE X ok (.Compare a [.Is] [.Constant .none j pos'] pos) (wIsN wa) := let ⟨_, a1, a2⟩ := ha; ⟨_, pe_cmp (pc_isN a1) rfl, snd_isN a2⟩
theorem d_notN {j pos'} (ha : PDE X ok a wa) : PDE X ok (.Compare a [.IsNot] [.Constant .none j pos'] pos) (wNotN wa) := let ⟨_, a1, a2⟩ := ha; ⟨_, pe_cmp (pc_notN a1) rfl, snd_notN a2⟩
theorem t_isN {j pos'} (ha : PDE X ok a wa) : PDT X ok (.Compare a [.Is] [.Constant .none j pos'] pos) (wTest (wIsN wa)) := let ⟨_, a1, a2⟩ := ha; ⟨_, pt_cmp (pc_isN a1) rfl, snd_tB (snd_isN a2)⟩
theorem t_notN {j pos'} (ha : PDE X ok a wa) : PDT X ok (.Compare a [.IsNot] [.Constant .none j pos'] pos) (wTest (wNotN wa)) := let ⟨_, a1, a2⟩ := ha; ⟨_, pt_cmp (pc_notN a1) rfl, snd_tB (snd_notN a2)⟩
/-- a chain of two comparisons of ints -/
def wChn (f f' : D → D → (D → Prop) → Prop) (a b c : WE) : WE := fun env Q => a env fun x => b env fun y => f x y fun z => match z with
  | .bool k => ∃ d : Bool, (k = true → c env fun w => f' y w fun z' => z' = .bool d) ∧ Q (.bool (k && d))
  | _ => False
theorem snd_chn {K : PySem.W.Frag} {r r' : R2} {f f' : D → D → (D → Prop) → Prop} {ta tb tc : TE} (hr : OpD K r f) (hr' : OpD K r' f') (ha : SndE K ok ta wa) (hb : SndE K ok tb wb) (hc : SndE K ok tc wc) : SndE K ok (tChain r r' ta tb tc) (wChn f f' wa wb wc) := fun C H0 σ H env Q R rel hw k =>
  ha C H0 σ H env _ _ rel hw fun d v H1 H01 q r1 e1 x1 => hb C H01 σ H1 env _ _ r1 q fun e u H2 H02 q2 r2 e2 x2 =>
    hr H02 H2 v u d e _ _ r2.sub (x1.mono e2) x2 q2 fun z w qz rz => by
      try dsimp only at qz
      split at qz
      · rename_i k'
        cases rz
        obtain ⟨d', q3, q4⟩ := qz
        refine ⟨k', rfl, ?_⟩
        cases k' with
        | true => exact iteT (hc C H02 σ H2 env _ _ r2 (q3 rfl) fun e3 u3 H3 H03 q5 r3 e3' x3 => hr' H03 H3 u u3 e e3 _ _ r3.sub (x2.mono e3') x3 q5 fun z2 w2 qz2 rz2 => by
            subst qz2
            exact k _ _ H3 H03 q4 r3 ((e1.trans e2).trans e3') rz2)
        | false => exact iteF (k _ _ H2 H02 q4 r2 (e1.trans e2) (.bl _))
      · exact qz.elim
theorem d_chn {op op' : CmpOp} {r r' : R2} {f f' : D → D → (D → Prop) → Prop} (ho : OpR X (compareOp op) r) (hf : OpD X.K r f) (ho' : OpR X (compareOp op') r') (hf' : OpD X.K r' f') (ha : PDE X ok a wa) (hb : PDE X ok b wb) (hc : PDE X ok c wc)
    (hm : lastMarks [op, op'] [b, c] = false := by with_unfolding_all rfl) : PDE X ok (.Compare a [op, op'] [b, c] pos) (wChn f f' wa wb wc) :=
  let ⟨_, a1, a2⟩ := ha; let ⟨_, b1, b2⟩ := hb; let ⟨_, c1, c2⟩ := hc; ⟨_, pe_chain ho ho' a1 b1 c1 hm, snd_chn hf hf' a2 b2 c2⟩
theorem t_chn {op op' : CmpOp} {r r' : R2} {f f' : D → D → (D → Prop) → Prop} (ho : OpR X (compareOp op) r) (hf : OpD X.K r f) (ho' : OpR X (compareOp op') r') (hf' : OpD X.K r' f') (ha : PDE X ok a wa) (hb : PDE X ok b wb) (hc : PDE X ok c wc)
    (hm : lastMarks [op, op'] [b, c] = false := by with_unfolding_all rfl) : PDT X ok (.Compare a [op, op'] [b, c] pos) (wTest (wChn f f' wa wb wc)) :=
  let ⟨_, a1, a2⟩ := ha; let ⟨_, b1, b2⟩ := hb; let ⟨_, c1, c2⟩ := hc; ⟨_, pt_chain ho ho' a1 b1 c1 hm, snd_test (snd_chn hf hf' a2 b2 c2)⟩
/-! ### tests -/
theorem t_val (ha : PDE X ok a wa) (he : ∀ whole, isTrue a X.env whole = (do let v ← whole; standAt a.pos; holding [v] (truthy v)) := by intro _; rfl) : PDT X ok a (wTest wa) := let ⟨_, a1, a2⟩ := ha; ⟨_, pt_val a1 he, snd_tB a2⟩
theorem t_not (h : PDT X ok a wt) : PDT X ok (.UnaryOp .Not a pos) (wNot wt) := let ⟨_, a1, a2⟩ := h; ⟨_, pt_not a1, snd_not a2⟩
theorem t_w (h : PDW X ok a wt) : PDT X ok a wt := let ⟨_, a1, a2⟩ := h; ⟨_, a1.pt, a2⟩
theorem w_and1 (h : PDT X ok a wt) : PDW X ok (.BoolOp .And [a] pos) wt := let ⟨_, a1, a2⟩ := h; ⟨_, pw_and1 a1, a2⟩
theorem w_or1 (h : PDT X ok a wt) : PDW X ok (.BoolOp .Or [a] pos) wt := let ⟨_, a1, a2⟩ := h; ⟨_, pw_or1 a1, a2⟩
theorem w_and (h : PDT X ok a wt) (h2 : PDW X ok (.BoolOp .And (b :: es) pos) wu) : PDW X ok (.BoolOp .And (a :: b :: es) pos) (wAndD wt wu) := let ⟨_, a1, a2⟩ := h; let ⟨_, b1, b2⟩ := h2; ⟨_, pw_and a1 b1, snd_andD a2 b2⟩
theorem w_or (h : PDT X ok a wt) (h2 : PDW X ok (.BoolOp .Or (b :: es) pos) wu) : PDW X ok (.BoolOp .Or (a :: b :: es) pos) (wOrD wt wu) := let ⟨_, a1, a2⟩ := h; let ⟨_, b1, b2⟩ := h2; ⟨_, pw_or a1 b1, snd_orD a2 b2⟩
theorem w_andB (h : PDT X ok a wt) (h2 : PDW X ok (.BoolOp .And (b :: es) pos) wu) : PDW X ok (.BoolOp .And (a :: b :: es) pos) (wAnd wt wu) := let ⟨_, a1, a2⟩ := h; let ⟨_, b1, b2⟩ := h2; ⟨_, pw_and a1 b1, snd_and a2 b2⟩
theorem w_orB (h : PDT X ok a wt) (h2 : PDW X ok (.BoolOp .Or (b :: es) pos) wu) : PDW X ok (.BoolOp .Or (a :: b :: es) pos) (wOr wt wu) := let ⟨_, a1, a2⟩ := h; let ⟨_, b1, b2⟩ := h2; ⟨_, pw_or a1 b1, snd_or a2 b2⟩
theorem d_one {op} (h : PDE X ok a wa) : PDE X ok (.BoolOp op [a] pos) wa := let ⟨_, a1, a2⟩ := h; ⟨_, pe_one a1, a2⟩
theorem d_and (h : PDE X ok a wa) (h2 : PDE X ok (.BoolOp .And (b :: es) pos) wb) : PDE X ok (.BoolOp .And (a :: b :: es) pos) (wBl (wAndD (wTest wa) (wTest wb))) := let ⟨_, a1, a2⟩ := h; let ⟨_, b1, b2⟩ := h2; ⟨_, pe_and a1 b1, snd_andV a2 b2⟩
theorem d_or (h : PDE X ok a wa) (h2 : PDE X ok (.BoolOp .Or (b :: es) pos) wb) : PDE X ok (.BoolOp .Or (a :: b :: es) pos) (wBl (wOrD (wTest wa) (wTest wb))) := let ⟨_, a1, a2⟩ := h; let ⟨_, b1, b2⟩ := h2; ⟨_, pe_or a1 b1, snd_orV a2 b2⟩
theorem d_not (h : PDE X ok a wa) : PDE X ok (.UnaryOp .Not a pos) (wBl (wNot (wTest wa))) := let ⟨_, a1, a2⟩ := h; ⟨_, pe_not a1, snd_notV a2⟩
theorem d_ifE (h : PDT X ok c wt) (ha : PDE X ok a wa) (hb : PDE X ok b wb) : PDE X ok (.IfExp c a b pos) (wIfE wt wa wb) := let ⟨_, c1, c2⟩ := h; let ⟨_, a1, a2⟩ := ha; let ⟨_, b1, b2⟩ := hb; ⟨_, pe_ifExp c1 a1 b1, snd_ifE c2 a2 b2⟩
/-! ### arguments, displays, calls -/
theorem a_nil : PDA X ok [] wNil := ⟨_, pa_nil, snd_nil⟩
theorem a_cons (ha : PDE X ok e we) (hr : PDA X ok es wr) (hs : starEach (e :: es) X.env = (false, eval e X.env) :: starEach es X.env := by rfl) : PDA X ok (e :: es) (wCons we wr) := let ⟨_, a1, a2⟩ := ha; let ⟨_, b1, b2⟩ := hr; ⟨_, pa_cons a1 b1 hs, snd_cons a2 b2⟩
theorem a_hnd (i : Nat) (hr : PDA X ok es wr) (hN : X.N[i]? = some x := by rfl) (hv : Vis X.env.scope x := by first | exact Or.inl rfl | exact Or.inr (Or.inl rfl) | exact Or.inr (Or.inr rfl)) (hd : (x == ("__debug__" : Str)) = false := by decide)
    (hcd : (x == ("__classdict__" : Str)) = false := by decide) (hs : starEach (.Name x pos :: es) X.env = (false, eval (.Name x pos) X.env) :: starEach es X.env := by rfl) : PDA X ok (.Name x pos :: es) (wConsH i wr) := let ⟨_, b1, b2⟩ := hr; ⟨_, pa_cons (pe_var hN hv hd hcd) b1 hs, snd_consH b2⟩
theorem d_tup {x1} (h : PDA X ok es wr) : PDE X ok (.Tuple es x1 pos) (wTupP wr) := let ⟨_, a1, a2⟩ := h; ⟨_, pe_tup a1, snd_tup a2⟩
theorem l_lst (h : PDA X ok es wr) : PDL X ok (.List es pos) (wLstP wr) := let ⟨_, a1, a2⟩ := h; ⟨_, pe_lst a1, snd_lst a2⟩
theorem d_ix (ha : PDB X ok a wa) (hb : PDE X ok b wb) (hs : PlainIx b := by exact fun _ _ => rfl) : PDE X ok (.Subscript a b pos) (wIx wa wb) := let ⟨_, a1, a2⟩ := ha; let ⟨_, b1, b2⟩ := hb; ⟨_, pe_ix ix_seq a1 b1 hs, snd_ix a2 b2⟩
theorem d_len (hm : X.mg "len" = none) (ha : PDB X ok a wa) (hg : Gl X "len" := by rfl) (hs : starEach [a] X.env = (false, eval a X.env) :: starEach [] X.env := by rfl) (hpl : (backTo pos (starEach [] X.env)).any (·.1) = false := by rfl) :
    PDE X ok (.Call (.Name "len" p) [a] [] pos) (wLen wa) := let ⟨_, a1, a2⟩ := ha; ⟨_, pe_callB call_len_seq hg hm PySem.boot_len (pa_cons a1 pa_nil hs) (by decide) (by decide) hs hpl, snd_len a2⟩
theorem d_call {k j n : Nat} {M : WM} (h : Has X.prog X.w X.K X.mg X.base ok k x n M) (hr : Room j X.A) (hk : k ≤ j) (ha : PDA X ok (e :: es) wr) (hg : Gl X x := by rfl) (hdb : (x == ("__debug__" : Str)) = false := by decide)
    (he : starEach (e :: es) X.env = (false, eval e X.env) :: starEach es X.env := by rfl) (hpl : (backTo pos (starEach es X.env)).any (·.1) = false := by rfl) : PDE X ok (.Call (.Name x p) (e :: es) [] pos) (wCallP n M wr) :=
  let ⟨f, fd, ps, G, hm, kp, bs⟩ := h.ex; let ⟨_, a1, a2⟩ := ha; ⟨_, pe_call G (hr.mono hk) hg hm kp bs .nil pass0 a1 hdb he hpl, snd_call a2⟩
theorem l_call {k j n : Nat} {M : WM} (h : Has X.prog X.w X.K X.mg X.base ok k x n M) (hr : Room j X.A) (hk : k ≤ j) (ha : PDA X ok (e :: es) wr) (hg : Gl X x := by rfl) (hdb : (x == ("__debug__" : Str)) = false := by decide)
    (he : starEach (e :: es) X.env = (false, eval e X.env) :: starEach es X.env := by rfl) (hpl : (backTo pos (starEach es X.env)).any (·.1) = false := by rfl) : PDL X ok (.Call (.Name x p) (e :: es) [] pos) (wCallOP n M wr) :=
  let ⟨f, fd, ps, G, hm, kp, bs⟩ := h.ex; let ⟨_, a1, a2⟩ := ha; ⟨_, pe_call G (hr.mono hk) hg hm kp bs .nil pass0 a1 hdb he hpl, snd_callO a2⟩
end
/-! ### built-in calls on values -/
/-- a call of a built-in of one argument, the value read off known data -/
def CallD1 (K : PySem.W.Frag) (r : List V → Hp → VK → Prop) (f : D → (D → Prop) → Prop) : Prop := ∀ (H0 H : Hp) (x : V) (d : D) (Q : D → Prop) (R : VK), Same H0 H → Rp K H0 x d → f d Q → (∀ z v, Q z → Rp K H0 v z → R v H) → r [x] H R
def CallD2 (K : PySem.W.Frag) (r : List V → Hp → VK → Prop) (f : D → D → (D → Prop) → Prop) : Prop := ∀ (H0 H : Hp) (x y : V) (d e : D) (Q : D → Prop) (R : VK), Same H0 H → Rp K H0 x d → Rp K H0 y e → f d e Q → (∀ z v, Q z → Rp K H0 v z → R v H) → r [x, y] H R
section
variable {K : PySem.W.Frag} {ok : List D → Prop} {ta tb : TE} {wa wb : WE}
theorem snd_c1 {r : List V → Hp → VK → Prop} {f : D → (D → Prop) → Prop} (hr : CallD1 K r f) (ha : SndE K ok ta wa) : SndE K ok (tCB r (tCons ta tNil)) (wUn f wa) := fun C H0 σ H env Q R rel hw k =>
  ha C H0 σ H env _ _ rel hw fun d v H1 H01 q r1 e1 x1 => hr H01 H1 v d Q R r1.sub x1 q fun z w qz rz => k z w H1 H01 qz r1 e1 rz
theorem snd_c2 {r : List V → Hp → VK → Prop} {f : D → D → (D → Prop) → Prop} (hr : CallD2 K r f) (ha : SndE K ok ta wa) (hb : SndE K ok tb wb) : SndE K ok (tCB r (tCons ta (tCons tb tNil))) (wBin f wa wb) := fun C H0 σ H env Q R rel hw k =>
  ha C H0 σ H env _ _ rel hw fun d v H1 H01 q r1 e1 x1 => hb C H01 σ H1 env _ _ r1 q fun e u H2 H02 q2 r2 e2 x2 => hr H02 H2 v u d e Q R r2.sub (x1.mono e2) x2 q2 fun z w qz rz => k z w H2 H02 qz r2 (e1.trans e2) rz
def fAbs : D → (D → Prop) → Prop := fun d Q => match d with
  | .int i => Q (.int (if i < 0 then -i else i))
  | _ => False
def fInt : D → (D → Prop) → Prop := fun d Q => match d with
  | .int i => Q (.int i)
  | .bool k => Q (.int (if k then 1 else 0))
  | _ => False
theorem cd_abs : CallD1 K (fun xs H Q => ∃ i, xs = [.int i] ∧ Q (.int (if i < 0 then -i else i)) H) fAbs := fun H0 H x d Q R s hx q k => by
  unfold fAbs at q
  split at q
  · cases hx; exact ⟨_, rfl, k _ _ q (.int _)⟩
  · exact q.elim
theorem cd_int : CallD1 K (fun xs H Q => (∃ i, xs = [.int i] ∧ Q (.int i) H) ∨ ∃ k, xs = [.bl k] ∧ Q (.int (if k then 1 else 0)) H) fInt := fun H0 H x d Q R s hx q k => by
  unfold fInt at q
  split at q
  · cases hx; exact .inl ⟨_, rfl, k _ _ q (.int _)⟩
  · cases hx; exact .inr ⟨_, rfl, k _ _ q (.int _)⟩
  · exact q.elim
theorem cd_max2 : CallD2 K (fun xs H Q => ∃ i j, xs = [.int i, .int j] ∧ Q (.int (if j > i then j else i)) H) fMax2 := fun H0 H x y d e Q R s hx hy q k => by
  unfold fMax2 at q
  split at q
  · cases hx; cases hy; exact ⟨_, _, rfl, k _ _ q (.int _)⟩
  · exact q.elim
theorem cd_min2 : CallD2 K (fun xs H Q => ∃ i j, xs = [.int i, .int j] ∧ Q (.int (if j < i then j else i)) H) fMin2 := fun H0 H x y d e Q R s hx hy q k => by
  unfold fMin2 at q
  split at q
  · cases hx; cases hy; exact ⟨_, _, rfl, k _ _ q (.int _)⟩
  · exact q.elim
end
section
variable {X : Cx} {ok : List D → Prop} {a b c e : Expr} {es : List Expr} {wa wb wc we : WE} {wr : WA} {wl : WL} {wt wu : WT} {pos p apos : Pos} {x : Str}
theorem d_B1 {id : String} {r : List V → Hp → VK → Prop} {f : D → (D → Prop) → Prop} (hc : CallR X (.builtin id) r) (hf : CallD1 X.K r f) (hv : bootBuiltins x = some (.builtin id)) (hm : X.mg x = none) (ha : PDE X ok a wa) (hn : x ≠ "__name__" := by decide) (hdb : (x == ("__debug__" : Str)) = false := by decide) (hg : Gl X x := by rfl) (hs : starEach [a] X.env = (false, eval a X.env) :: starEach [] X.env := by rfl)
    (hpl : (backTo pos (starEach [] X.env)).any (·.1) = false := by rfl) : PDE X ok (.Call (.Name x p) [a] [] pos) (wUn f wa) := let ⟨_, a1, a2⟩ := ha; ⟨_, pe_callB hc hg hm hv (pa_cons a1 pa_nil hs) hn hdb hs hpl, snd_c1 hf a2⟩
theorem d_T1 {T : String} {r : List V → Hp → VK → Prop} {f : D → (D → Prop) → Prop} (hc : CallR X (.type T) r) (hf : CallD1 X.K r f) (hv : bootBuiltins x = some (.type T)) (hm : X.mg x = none) (ha : PDE X ok a wa) (hn : x ≠ "__name__" := by decide) (hdb : (x == ("__debug__" : Str)) = false := by decide) (hg : Gl X x := by rfl) (hs : starEach [a] X.env = (false, eval a X.env) :: starEach [] X.env := by rfl)
    (hpl : (backTo pos (starEach [] X.env)).any (·.1) = false := by rfl) : PDE X ok (.Call (.Name x p) [a] [] pos) (wUn f wa) := let ⟨_, a1, a2⟩ := ha; ⟨_, pe_callTy hc hg hm hv (pa_cons a1 pa_nil hs) hn hdb hs hpl, snd_c1 hf a2⟩
theorem d_B2 {id : String} {r : List V → Hp → VK → Prop} {f : D → D → (D → Prop) → Prop} (hc : CallR X (.builtin id) r) (hf : CallD2 X.K r f) (hv : bootBuiltins x = some (.builtin id)) (hm : X.mg x = none) (ha : PDE X ok a wa) (hb : PDE X ok b wb) (hn : x ≠ "__name__" := by decide) (hdb : (x == ("__debug__" : Str)) = false := by decide) (hg : Gl X x := by rfl)
    (hs : starEach [a, b] X.env = (false, eval a X.env) :: starEach [b] X.env := by rfl) (hs2 : starEach [b] X.env = (false, eval b X.env) :: starEach [] X.env := by rfl) (hpl : (backTo pos (starEach [b] X.env)).any (·.1) = false := by rfl) : PDE X ok (.Call (.Name x p) [a, b] [] pos) (wBin f wa wb) :=
  let ⟨_, a1, a2⟩ := ha; let ⟨_, b1, b2⟩ := hb; ⟨_, pe_callB hc hg hm hv (pa_cons a1 (pa_cons b1 pa_nil hs2) hs) hn hdb hs hpl, snd_c2 hf a2 b2⟩
/-! ### statements -/
theorem s_nil : PDSs X ok [] wNx := ⟨_, pss_nil, ss_nx⟩
theorem s_one {st : Stmt} {ws : WS} (h : PDS X ok st ws) : PDSs X ok [st] ws := let ⟨_, a, b⟩ := h; ⟨_, pss_one a, b⟩
theorem s_cons {st : Stmt} {sts : List Stmt} {ws wr : WS} (h : PDS X ok st ws) (h2 : PDSs X ok sts wr) : PDSs X ok (st :: sts) (wSeq ws wr) := let ⟨_, a, b⟩ := h; let ⟨_, c, d⟩ := h2; ⟨_, pss_cons a c, ss_seq b d⟩
theorem s_never {sts : List Stmt} : PDSs X ok sts wNever := ⟨_, pss_never, ss_never⟩
theorem s_frz (i : Nat) {st : Stmt} {ws : WS} (h : PDS X ok st ws) : PDS X ok st (wFrz i ws) := let ⟨_, a, b⟩ := h; ⟨_, a, ss_frz b⟩
theorem s_pass : PDS X ok (.Pass pos) wNx := ⟨_, ps_pass, ss_nx⟩
theorem s_break : PDS X ok (.Break pos) wBk := ⟨_, ps_break, ss_bk⟩
theorem s_continue : PDS X ok (.Continue pos) wCt := ⟨_, ps_continue, ss_ct⟩
theorem s_no {st : Stmt} : PDS X ok st wNever := ⟨_, ps_never, ss_never⟩
theorem s_set (i : Nat) {pos' : Pos} (hN : X.N.Nodup) (he : PDE X ok e we) (hi : X.N[i]? = some x := by rfl) (hx : Loc X.env.scope x := by first | exact Or.inl rfl | exact Or.inr rfl) (hs : swapsWith e (some (.Name x pos')) pos.line X.env = pure false := by rfl) (hf : X.fn x = true ∨ X.env.scope.names.lookup x = some .local := by first | exact .inl rfl | exact .inr rfl) :
    PDS X ok (.Assign [.Name x pos'] e pos) (wSet i we) := let ⟨_, a, b⟩ := he; ⟨_, ps_set hN hi hx a hs hf, ss_set b⟩
theorem s_setO (i : Nat) {pos' : Pos} (hN : X.N.Nodup) (he : PDL X ok e wl) (hi : X.N[i]? = some x := by rfl) (hx : Loc X.env.scope x := by first | exact Or.inl rfl | exact Or.inr rfl) (hs : swapsWith e (some (.Name x pos')) pos.line X.env = pure false := by rfl) (hf : X.fn x = true ∨ X.env.scope.names.lookup x = some .local := by first | exact .inl rfl | exact .inr rfl) :
    PDS X ok (.Assign [.Name x pos'] e pos) (wSetO i wl) := let ⟨_, a, b⟩ := he; ⟨_, ps_set hN hi hx a hs hf, ss_setO b⟩
theorem s_setH (i : Nat) {pos' : Pos} (hN : X.N.Nodup) (he : PDL X ok e wl) (hi : X.N[i]? = some x := by rfl) (hx : Loc X.env.scope x := by first | exact Or.inl rfl | exact Or.inr rfl) (hs : swapsWith e (some (.Name x pos')) pos.line X.env = pure false := by rfl) (hf : X.fn x = true ∨ X.env.scope.names.lookup x = some .local := by first | exact .inl rfl | exact .inr rfl) :
    PDS X ok (.Assign [.Name x pos'] e pos) (wSetH ok i wl) := let ⟨_, a, b⟩ := he; ⟨_, ps_set hN hi hx a hs hf, ss_setH b⟩
theorem s_expr (he : PDE X ok e we) (hs : swapsWith e none pos.line X.env = pure false := by rfl) : PDS X ok (.Expr e pos) (wDrop we) := let ⟨_, a, b⟩ := he; ⟨_, ps_expr a hs, ss_drop b⟩
theorem s_ret (he : PDE X ok e we) : PDS X ok (.Return (some e) pos) (wRet we) := let ⟨_, a, b⟩ := he; ⟨_, ps_ret a, ss_ret b⟩
theorem s_retO (he : PDL X ok e wl) : PDS X ok (.Return (some e) pos) (wRetO wl) := let ⟨_, a, b⟩ := he; ⟨_, ps_ret a, ss_retO b⟩
theorem s_retV (i : Nat) {pos' : Pos} (hN : X.N[i]? = some x := by rfl) (hv : Vis X.env.scope x := by first | exact Or.inl rfl | exact Or.inr (Or.inl rfl) | exact Or.inr (Or.inr rfl)) (hd : (x == ("__debug__" : Str)) = false := by decide)
    (hcd : (x == ("__classdict__" : Str)) = false := by decide) : PDS X ok (.Return (some (.Name x pos')) pos) (wRetV i) := ⟨_, ps_ret (pe_var hN hv hd hcd), ss_retV⟩
theorem s_retN : PDS X ok (.Return none pos) wRetN := ⟨_, ps_retN, ss_retN⟩
theorem s_if {sa sb : List Stmt} {wsa wsb : WS} (hc : PDT X ok c wt) (ha : PDSs X ok sa wsa) (hb : PDSs X ok sb wsb) : PDS X ok (.If c sa sb pos) (wIf wt wsa wsb) := let ⟨_, c1, c2⟩ := hc; let ⟨_, a1, a2⟩ := ha; let ⟨_, b1, b2⟩ := hb; ⟨_, ps_if c1 a1 b1, ss_if c2 a2 b2⟩
theorem s_while {body : List Stmt} {ws : WS} (hp : PassesOwn (model X.prog X.w) X.A X.env X.xe) (hc : PDT X ok c wt) (hb : PDSs X ok body ws) : PDS X ok (.While c body [] pos) (wWhile wt ws) := let ⟨_, c1, c2⟩ := hc; let ⟨_, b1, b2⟩ := hb; ⟨_, ps_while hp c1 b1, ss_while c2 b2⟩
theorem s_for {vs : List Nat} {tg iter : Expr} {body : List Stmt} {wi : WI} {wg : WG} {ws : WS} (hp : PassesOwn (model X.prog X.w) X.A X.env X.xe) (hc : X.calm = true) (hi : PDI X ok tg iter wi) (hg : PDG X ok vs tg wg) (hb : PDSs X ok body ws) (hs : ∀ x, foldedSetIterable iter X.env x = pure x := by intro _; rfl) :
    PDS X ok (.For tg iter body [] pos) (wFor wi wg ws) := let ⟨_, i1, i2⟩ := hi; let ⟨_, g1, g2⟩ := hg; let ⟨_, b1, b2⟩ := hb; ⟨_, ps_for hp hc i1 g1 b1 hs, ss_for i2 g2 b2⟩
theorem s_app (i : Nat) {mp : Pos} (hpe : PDE X ok e we) (hN : X.N[i]? = some x := by rfl) (hv : Vis X.env.scope x := by first | exact Or.inl rfl | exact Or.inr (Or.inl rfl) | exact Or.inr (Or.inr rfl)) (hd : (x == ("__debug__" : Str)) = false := by decide) (hcd : (x == ("__classdict__" : Str)) = false := by decide)
    (hbase : attributeBase (.Name x mp) "append" X.env (eval (.Name x mp) X.env) = eval (.Name x mp) X.env := by rfl)
    (hfew : ((backTo p (starEach [e] X.env)).all (fun x => !x.1) && (backToKw p (keywordEach [] X.env)).all (fun x => x.1.isSome) && decide ([e].length + ([] : List Keyword).length + (if ([] : List Keyword).isEmpty then 0 else 1) < 30)) = true := by rfl)
    (hline : (apos.endLine == p.line) = true := by rfl) (hs : starEach [e] X.env = (false, eval e X.env) :: starEach [] X.env := by rfl) (hplain : (backTo p (starEach [] X.env)).any (·.1) = false := by rfl)
    (hsw : swapsWith (.Call (.Attribute (.Name x mp) "append" apos) [e] [] p) none pos.line X.env = pure false := by rfl) :
    PDS X ok (.Expr (.Call (.Attribute (.Name x mp) "append" apos) [e] [] p) pos) (wApp i we) := let ⟨_, a, b⟩ := hpe; ⟨_, ps_expr (pe_bm PySem.F.plainAttrs_list PySem.F.slot_list_append PySem.F.type_list_append mt_append (pe_var hN hv hd hcd) (pa_cons a pa_nil hs) hbase hfew hline hs hplain) hsw, ss_app b⟩
theorem s_ext (i : Nat) {mp : Pos} (hpe : PDE X ok e we) (hN : X.N[i]? = some x := by rfl) (hv : Vis X.env.scope x := by first | exact Or.inl rfl | exact Or.inr (Or.inl rfl) | exact Or.inr (Or.inr rfl)) (hd : (x == ("__debug__" : Str)) = false := by decide) (hcd : (x == ("__classdict__" : Str)) = false := by decide)
    (hbase : attributeBase (.Name x mp) "extend" X.env (eval (.Name x mp) X.env) = eval (.Name x mp) X.env := by rfl)
    (hfew : ((backTo p (starEach [e] X.env)).all (fun x => !x.1) && (backToKw p (keywordEach [] X.env)).all (fun x => x.1.isSome) && decide ([e].length + ([] : List Keyword).length + (if ([] : List Keyword).isEmpty then 0 else 1) < 30)) = true := by rfl)
    (hline : (apos.endLine == p.line) = true := by rfl) (hs : starEach [e] X.env = (false, eval e X.env) :: starEach [] X.env := by rfl) (hplain : (backTo p (starEach [] X.env)).any (·.1) = false := by rfl)
    (hsw : swapsWith (.Call (.Attribute (.Name x mp) "extend" apos) [e] [] p) none pos.line X.env = pure false := by rfl) :
    PDS X ok (.Expr (.Call (.Attribute (.Name x mp) "extend" apos) [e] [] p) pos) (wExt i we) := let ⟨_, a, b⟩ := hpe; ⟨_, ps_expr (pe_bm PySem.F.plainAttrs_list PySem.F.slot_list_extend PySem.F.type_list_extend mt_extend (pe_var hN hv hd hcd) (pa_cons a pa_nil hs) hbase hfew hline hs hplain) hsw, ss_ext b⟩
theorem s_pop (i : Nat) {mp : Pos} (hN : X.N[i]? = some x := by rfl) (hv : Vis X.env.scope x := by first | exact Or.inl rfl | exact Or.inr (Or.inl rfl) | exact Or.inr (Or.inr rfl)) (hd : (x == ("__debug__" : Str)) = false := by decide) (hcd : (x == ("__classdict__" : Str)) = false := by decide)
    (hbase : attributeBase (.Name x mp) "pop" X.env (eval (.Name x mp) X.env) = eval (.Name x mp) X.env := by rfl) (hline : (apos.endLine == p.line) = true := by rfl)
    (hsw : swapsWith (.Call (.Attribute (.Name x mp) "pop" apos) [] [] p) none pos.line X.env = pure false := by rfl) :
    PDS X ok (.Expr (.Call (.Attribute (.Name x mp) "pop" apos) [] [] p) pos) (wPop i) := ⟨_, ps_expr (pe_bm0 PySem.F.plainAttrs_list PySem.F.slot_list_pop PySem.F.type_list_pop mt_pop (pe_var hN hv hd hcd) hbase hline) hsw, ss_pop⟩
theorem s_put (i : Nat) {tp : Pos} {ix : Expr} {mp : Pos} (he : PDE X ok e we) (hk : PDE X ok ix wa) (hN : X.N[i]? = some x := by rfl) (hv : Vis X.env.scope x := by first | exact Or.inl rfl | exact Or.inr (Or.inl rfl) | exact Or.inr (Or.inr rfl)) (hd : (x == ("__debug__" : Str)) = false := by decide) (hcd : (x == ("__classdict__" : Str)) = false := by decide)
    (hg : ∀ (to tk : TE), PE X (.Name x mp) to → PE X ix tk → PG X (.Subscript (.Name x mp) ix tp) (gSub to tk rSetL) := by exact fun _ _ h1 h2 => pg_sub h1 h2 set_list)
    (hs : swapsWithSole [.Subscript (.Name x mp) ix tp] e pos.line X.env = pure false := by rfl) (hw : swappedStores [.Subscript (.Name x mp) ix tp] e X.env = pure none := by rfl) :
    PDS X ok (.Assign [.Subscript (.Name x mp) ix tp] e pos) (wPut i wa we) := let ⟨_, e1, e2⟩ := he; let ⟨_, k1, k2⟩ := hk; ⟨_, ps_asg e1 (hg _ _ (pe_var hN hv hd hcd) k1) hs hw, ss_put e2 k2⟩
theorem s_par (i j : Nat) {y : Str} {px py pt : Pos} {kt k2 pt2} (hc : X.calm = true) (hN : X.N.Nodup) (hij : i ≠ j) (ha : PDA X ok [a, b] wr) (hi : X.N[i]? = some x := by rfl) (hj : X.N[j]? = some y := by rfl)
    (hx : X.env.scope.names.lookup x = some .local := by rfl) (hy : X.env.scope.names.lookup y = some .local := by rfl)
    (hw : swappedStores [.Tuple [.Name x px, .Name y py] kt pt] (.Tuple [a, b] k2 pt2) X.env = pure (some [x, y]) := by rfl)
    (hs : swapsWithSole [.Tuple [.Name x px, .Name y py] kt pt] (.Tuple [a, b] k2 pt2) pos.line X.env = pure false := by rfl) :
    PDS X ok (.Assign [.Tuple [.Name x px, .Name y py] kt pt] (.Tuple [a, b] k2 pt2) pos) (wPar i j wr) := let ⟨_, a1, a2⟩ := ha; ⟨_, ps_par hc hN hi hj hij hx hy a1 hw hs, ss_par a2⟩
theorem s_asg {vs : List Nat} {tg : Expr} {wg : WG} (he : PDE X ok e we) (hg : PDG X ok vs tg wg) (hs : swapsWithSole [tg] e pos.line X.env = pure false := by rfl) (hw : swappedStores [tg] e X.env = pure none := by rfl) (h1 : (assignEach [tg] X.env).map (·.2) = [assign tg X.env] := by rfl) :
    PDS X ok (.Assign [tg] e pos) (wAsg we wg) := let ⟨_, a1, a2⟩ := he; let ⟨_, b1, b2⟩ := hg; ⟨_, ps_asg a1 b1 hs hw h1, ss_asg a2 b2⟩
/-! ### targets, what is walked, comprehensions -/
theorem g_name (i : Nat) {vs : List Nat} (hN : X.N.Nodup) (hm : i ∈ vs := by decide) (hi : X.N[i]? = some x := by rfl) (hx : Loc X.env.scope x := by first | exact Or.inl rfl | exact Or.inr rfl) (hf : X.fn x = true ∨ X.env.scope.names.lookup x = some .local := by first | exact .inl rfl | exact .inr rfl) :
    PDG X ok vs (.Name x pos) (gN i) := ⟨_, pg_name hN hi hx hf, sg_name hm⟩
theorem g_tup {vs : List Nat} {k : Nat} {n : Nat} {wg : WGs} (hc : X.calm = true) (h : PDGs X ok vs es wg) (hg : ∀ t, PGs X es t → PG X (.Tuple es k pos) (gTup X.K n t)) : PDG X ok vs (.Tuple es k pos) (gT n wg) := let ⟨_, a, b⟩ := h; ⟨_, hg _ a, sg_tup b⟩
theorem g_nil {vs : List Nat} : PDGs X ok vs [] gsNil := ⟨_, pgs_nil, sgs_nil⟩
theorem i_list {tg : Expr} (h : PDE X ok e we) : PDI X ok tg e (iL we) := let ⟨_, a, b⟩ := h; ⟨_, pi_list a, si_list b⟩
theorem i_tup {tg : Expr} (h : PDE X ok e we) : PDI X ok tg e (iT we) := let ⟨_, a, b⟩ := h; ⟨_, pi_tup a, si_tup b⟩
theorem i_r1 {tg : Expr} (hm : X.mg "range" = none) (h : PDE X ok a wa) (hg : Gl X "range" := by rfl) (hs : starEach [a] X.env = [(false, eval a X.env)] := by rfl) : PDI X ok tg (.Call (.Name "range" p) [a] [] pos) (iR1 wa) := let ⟨_, a1, a2⟩ := h; ⟨_, pi_range1 hg hm (pa_cons a1 pa_nil (by exact hs)) hs, si_r1 a2⟩
theorem i_r2 {tg : Expr} (hm : X.mg "range" = none) (h : PDE X ok a wa) (h2 : PDE X ok b wb) (hg : Gl X "range" := by rfl) (hs : starEach [a, b] X.env = [(false, eval a X.env), (false, eval b X.env)] := by rfl) (hs2 : starEach [b] X.env = [(false, eval b X.env)] := by rfl) :
    PDI X ok tg (.Call (.Name "range" p) [a, b] [] pos) (iR2 wa wb) := let ⟨_, a1, a2⟩ := h; let ⟨_, b1, b2⟩ := h2; ⟨_, pi_range2 hg hm (pa_cons a1 (pa_cons b1 pa_nil (by exact hs2)) (by rw [hs2]; exact hs)) hs hs2, si_r2 a2 b2⟩
theorem l_lc {tg iter elt : Expr} {ifs : List Expr} {scope : Scope} {own : List (Str × Nat)} {wi : WI} {wg : WG} {wt : WT} {we : WE} (hc : X.calm = true) (hN : X.N.Nodup) (hi : PDI X ok tg iter wi) (ok' : BlkOk X.N X.env.scope scope own)
    (hg : ∃ g, (∀ (s : Shared) (H : Hp) (C : Addr) (cl : List (Str × Addr)) (fp : List Addr), PG (X.blk s H scope (compEnvC scope cl C X.env) fp) tg g) ∧ SndG X.K ok (own.map (·.2)) g wg)
    (ht : ∃ tt, (∀ (s : Shared) (H : Hp) (C : Addr) (cl : List (Str × Addr)) (fp : List Addr), PTs (X.blk s H scope (compEnvC scope cl C X.env) fp) ifs tt) ∧ SndT X.K ok tt wt)
    (he : ∃ te, (∀ (s : Shared) (H : Hp) (C : Addr) (cl : List (Str × Addr)) (fp : List Addr), PE (X.blk s H scope (compEnvC scope cl C X.env) fp) elt te) ∧ SndE X.K ok te we)
    (hs : ∀ x, foldedSetIterable iter X.env x = pure x := by intro _; rfl) : PDL X ok (.ListComp elt [⟨tg, iter, ifs, 0⟩] scope pos) (wLc wi wg wt we (own.map (·.2))) :=
  let ⟨_, i1, i2⟩ := hi; let ⟨_, g1, g2⟩ := hg; let ⟨_, t1, t2⟩ := ht; let ⟨_, e1, e2⟩ := he; ⟨_, pe_lc hc hN i1 ok' g1 t1 e1 hs, sl_lc i2 g2 t2 e2⟩
theorem s_setLc (i : Nat) {py spos : Pos} {y : Str} {tg iter elt : Expr} {ifs : List Expr} {scope : Scope} {own : List (Str × Nat)} {wi : WI} {wg : WG} {wt : WT} {we : WE} (hc : X.calm = true) (hN : X.N.Nodup) (hi : PDI X ok tg iter wi) (ok' : BlkOk X.N X.env.scope scope own)
    (hg : ∃ g, (∀ (s : Shared) (H : Hp) (C : Addr) (cl : List (Str × Addr)) (fp : List Addr), PG (X.blk s H scope (compEnvC scope cl C X.env) fp) tg g) ∧ SndG X.K ok (own.map (·.2)) g wg)
    (ht : ∃ tt, (∀ (s : Shared) (H : Hp) (C : Addr) (cl : List (Str × Addr)) (fp : List Addr), PTs (X.blk s H scope (compEnvC scope cl C X.env) fp) ifs tt) ∧ SndT X.K ok tt wt)
    (he : ∃ te, (∀ (s : Shared) (H : Hp) (C : Addr) (cl : List (Str × Addr)) (fp : List Addr), PE (X.blk s H scope (compEnvC scope cl C X.env) fp) elt te) ∧ SndE X.K ok te we)
    (hsw : swapsWith (.ListComp elt [⟨tg, iter, ifs, 0⟩] scope pos) (some (.Name y py)) spos.line X.env = pure true) (hy : X.N[i]? = some y := by rfl) (hyl : X.env.scope.names.lookup y = some .local := by rfl)
    (hs : ∀ x, foldedSetIterable iter X.env x = pure x := by intro _; rfl) : PDS X ok (.Assign [.Name y py] (.ListComp elt [⟨tg, iter, ifs, 0⟩] scope pos) spos) (wSetO i (wLc wi wg wt we (own.map (·.2)))) :=
  let ⟨_, i1, i2⟩ := hi; let ⟨_, g1, g2⟩ := hg; let ⟨_, t1, t2⟩ := ht; let ⟨_, e1, e2⟩ := he; ⟨_, ps_setLc hc hN hy hyl hsw i1 ok' g1 t1 e1 hs, ss_setO (sl_lc i2 g2 t2 e2)⟩
end
/-! ### defs -/
/-- the frame at the entry: the arguments, then nothing -/
def stE : List Ar → Nat → EnvD
  | [], m => List.replicate m none
  | .v d :: r, m => some (.v d) :: stE r m
  | .hnd :: r, m => some .hnd :: stE r m
section
variable {K : PySem.W.Frag} {ok : List D → Prop}
theorem stE_len : ∀ (as : List Ar) (m : Nat), (stE as m).length = as.length + m
  | [], m => by show (List.replicate m none).length = 0 + m; rw [List.length_replicate, Nat.zero_add]
  | .v d :: r, m => by show (stE r m).length + 1 = r.length + 1 + m; rw [stE_len r m]; omega
  | .hnd :: r, m => by show (stE r m).length + 1 = r.length + 1 + m; rw [stE_len r m]; omega
theorem rep_none {m i : Nat} {s : Sl} (h : (List.replicate m (none : Option Sl))[i]? = some (some s)) : False := by
  rw [List.getElem?_replicate] at h
  split at h <;> cases h
theorem stE_slot {H0 : Hp} {ha : Option Addr} : ∀ {as : List Ar} {vs : List V} {m : Nat} {i : Nat} {s : Sl}, ArgsOk K H0 ha vs as → (stE as m)[i]? = some (some s) →
    ∃ x, vs[i]? = some x ∧ ((∃ d, s = .v d ∧ Rp K H0 x d) ∨ ∃ a, s = .hnd ∧ ha = some a ∧ x = .ref a)
  | [], _, m, i, s, _, e => (rep_none e).elim
  | .v d :: r, _, m, 0, s, .cons h _, e => by
    have e' : some (some (Sl.v d)) = some (some s) := e
    cases e'
    exact ⟨_, rfl, .inl ⟨d, rfl, h⟩⟩
  | .v d :: r, _, m, i + 1, s, .cons _ t, e => by
    obtain ⟨x, h1, h2⟩ := stE_slot (m := m) (i := i) t (by have z : (stE r m)[i]? = some (some s) := (List.getElem?_cons_succ).symm.trans e; exact z)
    exact ⟨x, by rw [List.getElem?_cons_succ]; exact h1, h2⟩
  | .hnd :: r, _, m, 0, s, .hnd h _, e => by
    have e' : some (some Sl.hnd) = some (some s) := e
    cases e'
    exact ⟨_, rfl, .inr ⟨_, rfl, h, rfl⟩⟩
  | .hnd :: r, _, m, i + 1, s, .hnd _ t, e => by
    obtain ⟨x, h1, h2⟩ := stE_slot (m := m) (i := i) t (by have z : (stE r m)[i]? = some (some s) := (List.getElem?_cons_succ).symm.trans e; exact z)
    exact ⟨x, by rw [List.getElem?_cons_succ]; exact h1, h2⟩
/-- at most one handle among the parameters: asked of the arguments -/
theorem stE_plain : ∀ {as : List Ar} {m i : Nat}, plainA as = true → (stE as m)[i]? ≠ some (some .hnd)
  | [], m, i, _ => fun e => rep_none e
  | .v d :: r, m, 0, _ => fun e => by have e' : some (some (Sl.v d)) = some (some Sl.hnd) := e; cases e'
  | .v d :: r, m, i + 1, p => fun e => stE_plain (as := r) (m := m) (i := i) p ((List.getElem?_cons_succ).symm.trans e)
  | .hnd :: r, m, i, p => by cases p
theorem stE_one : ∀ {as : List Ar} {m i j : Nat}, oneH as = true → (stE as m)[i]? = some (some .hnd) → (stE as m)[j]? = some (some .hnd) → i = j
  | [], m, i, j, _, e, _ => (rep_none e).elim
  | .v d :: r, m, 0, _, _, e, _ => by have e' : some (some (Sl.v d)) = some (some Sl.hnd) := e; cases e'
  | .v d :: r, m, i + 1, 0, _, _, e => by have e' : some (some (Sl.v d)) = some (some Sl.hnd) := e; cases e'
  | .v d :: r, m, i + 1, j + 1, p, e, f => by rw [stE_one (as := r) (m := m) (i := i) (j := j) p ((List.getElem?_cons_succ).symm.trans e) ((List.getElem?_cons_succ).symm.trans f)]
  | .hnd :: r, m, 0, 0, _, _, _ => rfl
  | .hnd :: r, m, i + 1, _, p, e, _ => (stE_plain (as := r) (m := m) (i := i) p ((List.getElem?_cons_succ).symm.trans e)).elim
  | .hnd :: r, m, 0, j + 1, p, _, e => (stE_plain (as := r) (m := m) (i := j) p ((List.getElem?_cons_succ).symm.trans e)).elim
end
section
variable {P : Program} {w : World} {K : PySem.W.Frag} {mg : Str → Option Value} {base : Heap} {ok : List D → Prop}
theorem rel_start {H0 H : Hp} {ha : Option Addr} {as : List Ar} {vs : List V} {m : Nat} (s0 : Same H0 H) (h : ArgsOk K H0 ha vs as) (hl : vs.length = as.length) (h1 : oneH as = true) (hv : ∀ a, ha = some a → ∃ ds, OwnAt K H0 H a ds ∧ ok ds) :
    Rel K ok ⟨H, H0, ha, fun _ => none⟩ H0 (vs.map some ++ List.replicate m none) H (stE as m) := by
  have look : ∀ {i : Nat} {x : V}, vs[i]? = some x → (vs.map some ++ List.replicate m none)[i]? = some (some x) := fun {i x} e => by
    have lt := (List.getElem?_eq_some_iff.mp e).1
    rw [List.getElem?_append_left (by rw [List.length_map]; exact lt), List.getElem?_map, e]
    rfl
  refine ⟨s0, Same.refl _, fun b o e => .inl e, fun b o e _ => e, fun a z => ?_, ?_, fun i s e => ?_, fun i j s t p hij hs ht os ot e1 e2 => ?_, fun b o z => (nomatch z), fun _ _ _ _ _ _ => rfl, fun _ _ => rfl, fun b o z => (nomatch z)⟩
  · obtain ⟨ds, o, k⟩ := hv a z
    obtain ⟨ws, hp⟩ := o.is
    exact ⟨⟨_, hp⟩, ds, o, k⟩
  · rw [stE_len, List.length_append, List.length_map, List.length_replicate, hl]
  · obtain ⟨x, h1, h2⟩ := stE_slot h e
    rw [look h1]
    rcases h2 with ⟨d, rfl, r⟩ | ⟨a, rfl, z, rfl⟩
    · exact ⟨x, rfl, r⟩
    · obtain ⟨ds, o, k⟩ := hv a z
      exact ⟨a, ds, rfl, .inl z, o, k⟩
  · obtain ⟨x, x1, x2⟩ := stE_slot h hs
    obtain ⟨y, y1, y2⟩ := stE_slot h ht
    rcases x2 with ⟨d, rfl, _⟩ | ⟨a, rfl, _, _⟩
    · cases os
    rcases y2 with ⟨d, rfl, _⟩ | ⟨a', rfl, _, _⟩
    · cases ot
    exact hij (stE_one h1 hs ht)
/-- THE RULE for a def: its body by the rules; what the body asks follows from the promise -/
theorem def_ok {x qual : Str} {st : Stmt} {f : Addr} {fd : FuncData} {N ps : List Str} {k n : Nat} {M : WM} {ws : WS} (F : Fun K x qual st f fd) (S : FnScope N ps (defScope st)) (hn : ps.length = n)
    (hb : ∀ (cdv : Value) (A : Around) (outer : List Env) (s : Shared) (H : Hp) (E : XK), Room k (A.deeper (PyProof.Rows.envOfC qual (defScope st) s.heap.objs.size f cdv)) → PDSs (cxOf CX0 P w K mg base N qual (defScope st) f cdv A outer s H E).nox ok (defBody st) ws)
    (hM : ∀ as Q, as.length = n → M as Q → ws { nx := fun _ => Q (.v .none), rt := Q } (stE as (N.length - n))) : FnOk P w K mg base CX0 (k + 1) f fd ps (SpD K ok n M) := by
  refine F.ok S (fun vs H Q E h => ?_) (fun cdv A outer s H vs Q E hr h => ?_)
  · obtain ⟨H0, ha, as, Q', h1, h2, _⟩ := h
    rw [h2, hn]
  · obtain ⟨H0, ha, as, Q', h1, h2, one, s0, hargs, hv, hMQ, k0⟩ := h
    obtain ⟨ts, p, snd⟩ := hb cdv A outer s H E hr
    refine ⟨ts, p, ?_⟩
    have rel : Rel K ok ⟨H, H0, ha, fun _ => none⟩ H0 (L2.start N vs) H (stE as (N.length - n)) := by
      have z := rel_start (ok := ok) (m := N.length - n) s0 hargs (by rw [h2, h1]) one hv
      unfold L2.start
      rw [h2]
      exact z
    have post : ∀ {r : Rt} {v : V} {σ' : L2.St} {H' H01 : Hp} {env' : EnvD}, Rel K ok ⟨H, H0, ha, fun _ => none⟩ H01 σ' H' env' → Q' r → RetOk K H H01 H' v r → Q v H' := fun {r v σ' H' H01 env'} R q rr =>
      k0 v H' r H01 q ⟨R.grow, R.sub, R.new, R.fr, fun a z => (R.hv a z).2, rr⟩
    exact snd _ H0 _ H _ _ _ rel (hM as Q' h1 hMQ) ⟨fun env' σ' H' H01 e R q => post (r := .v .none) R q .non, fun r v σ' H' H01 env' e R q rr => post R q rr, fun _ _ _ _ _ _ q => q.elim, fun _ _ _ _ _ _ q => q.elim⟩
end
end DL
/-! DL, part e: lists and tuples: sums, products, slices, sorted, sum, all, any, truth. -/
namespace DL
open PySem L2

abbrev WO := EnvD → (Option Int → Prop) → Prop
def SndO (K : PySem.W.Frag) (ok : List D → Prop) (to : TO) (wo : WO) : Prop := ∀ (C : Ctx) (H0 : Hp) (σ : L2.St) (H : Hp) (env : EnvD) (Q : Option Int → Prop) (R : Option Int → Hp → Prop), Rel K ok C H0 σ H env → wo env Q →
  (∀ o H1 H01, Q o → Rel K ok C H01 σ H1 env → Same H0 H01 → R o H1) → to σ H R
def PDO (X : Cx) (ok : List D → Prop) (e : Option Expr) (wo : WO) : Prop := ∃ to, PO X e to ∧ SndO X.K ok to wo
def woN : WO := fun _ Q => Q none
def woS (a : WE) : WO := fun env Q => a env fun x => match x with
  | .int i => Q (some i)
  | _ => False
def cutD {α : Type} (xs : List α) (lo hi : Option Int) : List α := (xs.drop (HT.sIx xs.length 0 lo)).take (HT.sIx xs.length xs.length hi - HT.sIx xs.length 0 lo)
/-- xs[a:b], a list -/
def wSlL (a : WE) (lo hi : WO) : WL := fun env Q => a env fun x => lo env fun l => hi env fun u => match x with
  | .list ds => Q (cutD ds l u)
  | _ => False
def wSlT (a : WE) (lo hi : WO) : WE := fun env Q => a env fun x => lo env fun l => hi env fun u => match x with
  | .tuple ds => Q (.tuple (cutD ds l u))
  | _ => False
def wCat (a b : WE) : WL := fun env Q => a env fun x => b env fun y => match x, y with
  | .list ds, .list es => ds.length + es.length < 1000000 ∧ Q (ds ++ es)
  | _, _ => False
def wRep (a b : WE) : WL := fun env Q => a env fun x => b env fun y => match x, y with
  | .list ds, .int k => k < 1000000 ∧ -1000000 < k ∧ ds.length * k.toNat < 1000000 ∧ Q (List.replicate k.toNat ds).flatten
  | _, _ => False
def wCatT (a b : WE) : WE := fun env Q => a env fun x => b env fun y => match x, y with
  | .tuple ds, .tuple es => ds.length + es.length < 1000000 ∧ Q (.tuple (ds ++ es))
  | _, _ => False
/-- list(x) -/
def wListOf (a : WE) : WL := fun env Q => a env fun x => match x with
  | .list ds => Q ds
  | .tuple ds => Q ds
  | .dict [(.none, .list ds)] => Q ds
  | _ => False
def wTupOf (a : WE) : WE := fun env Q => a env fun x => match x with
  | .list ds => Q (.tuple ds)
  | .tuple ds => Q (.tuple ds)
  | _ => False
/-- sum, max, min, sorted of a list of ints; all, any of a list of truth values: the ints told -/
def wSum (a : WE) : WE := fun env Q => a env fun x => ∃ ns, x = .list (dints ns) ∧ Q (.int ns.sum)
def wAll (a : WE) : WE := fun env Q => a env fun x => ∃ bs : List Bool, x = .list (bs.map PyData.bool) ∧ Q (.bool (bs.all id))
def wAny (a : WE) : WE := fun env Q => a env fun x => ∃ bs : List Bool, x = .list (bs.map PyData.bool) ∧ Q (.bool (bs.any id))
def wMaxL (a : WE) : WE := fun env Q => a env fun x => ∃ ns : List Int, x = .list (dints ns) ∧ 0 < ns.length ∧ ∀ m, m ∈ ns → (∀ y, y ∈ ns → y ≤ m) → Q (.int m)
def wMinL (a : WE) : WE := fun env Q => a env fun x => ∃ ns : List Int, x = .list (dints ns) ∧ 0 < ns.length ∧ ∀ m, m ∈ ns → (∀ y, y ∈ ns → m ≤ y) → Q (.int m)
def wSortI (a : WE) : WL := fun env Q => a env fun x => ∃ ns : List Int, x = .list (dints ns) ∧ ∀ ns' : List Int, ns'.Perm ns → ns'.Pairwise (· ≤ ·) → Q (dints ns')
/-- truth of a value: None, a truth value, an int, a list, a tuple -/
def wTru (a : WE) : WT := fun env Q => a env fun x => match x with
  | .none => Q false
  | .bool b => Q b
  | .int i => Q (i != 0)
  | .list ds => Q (!ds.isEmpty)
  | .tuple ds => Q (!ds.isEmpty)
  | _ => False
section
variable {K : PySem.W.Frag} {ok : List D → Prop} {ta tb te : TE} {wa wb we : WE} {t u : TT} {wt wu : WT}
theorem so_n : SndO K ok tNoPart woN := fun C H0 σ H env Q R rel hw k => k _ H H0 hw rel (Same.refl _)
theorem so_s (ha : SndE K ok ta wa) : SndO K ok (tPart ta) (woS wa) := fun C H0 σ H env Q R rel hw k => ha C H0 σ H env _ _ rel hw fun d v H1 H01 q r1 e1 x1 => by
  try dsimp only at q
  split at q
  · cases x1; exact ⟨_, rfl, k _ H1 H01 q r1 e1⟩
  · exact q.elim
theorem Rps.cut {H : Hp} {vs : List V} {ds : List D} {lo hi : Option Int} (r : Rps K H vs ds) : Rps K H (cutV vs lo hi) (cutD ds lo hi) := by
  unfold cutV cutD
  rw [r.length]
  exact (r.drop _).take _
theorem sl_sl {tl th : TO} {lo hi : WO} (ha : SndB K ok ta wa) (hl : SndO K ok tl lo) (hh : SndO K ok th hi) : SndL K ok (tSl (rSlL K) ta tl th) (wSlL wa lo hi) := fun C H0 σ H env Q R rel hw k =>
  ha C H0 σ H env _ _ rel hw fun d v H1 H01 q r1 e1 x1 => hl C H01 σ H1 env _ _ r1 q fun l H2 H02 q2 r2 e2 => hh C H02 σ H2 env _ _ r2 q2 fun u H3 H03 q3 r3 e3 => by
    try dsimp only at q3
    split at q3
    · rename_i ds
      obtain ⟨p, vs, rfl, r, h⟩ := (x1 H3 H03 r3 (e2.trans e3)).seq r3.sub (.inl rfl)
      rcases h with ⟨_, h⟩ | ⟨h, _⟩
      · exact ⟨p, vs, rfl, SqL.of h, fun p' np => k _ _ _ _ q3 (r3.laid0 np) ((e1.trans e2).trans e3) ⟨r3.fresh np, ⟨r3.sub.free np, _, upd_same, r.cut⟩, r3.noslot np, r3.kp.free np⟩⟩
      · cases h
    · exact q3.elim
theorem cut_whole {α : Type} {xs : List α} {lo hi : Option Int} (h : HT.sIx xs.length 0 lo = 0 ∧ HT.sIx xs.length xs.length hi = xs.length) : cutD xs lo hi = xs := by
  unfold cutD
  rw [h.1, h.2]
  simp
theorem se_slT {tl th : TO} {lo hi : WO} (ha : SndE K ok ta wa) (hl : SndO K ok tl lo) (hh : SndO K ok th hi) : SndE K ok (tSl (rSlA K) ta tl th) (wSlT wa lo hi) := fun C H0 σ H env Q R rel hw k =>
  ha C H0 σ H env _ _ rel hw fun d v H1 H01 q r1 e1 x1 => hl C H01 σ H1 env _ _ r1 q fun l H2 H02 q2 r2 e2 => hh C H02 σ H2 env _ _ r2 q2 fun u H3 H03 q3 r3 e3 => by
    try dsimp only at q3
    split at q3
    · cases x1 with
      | tup h r =>
        rename_i a xs
        have r' := r.mono (e2.trans e3)
        refine ⟨a, xs, rfl, Same.tup (Same.trans (Same.trans e2 e3) r3.sub) h, fun hw => ?_, fun hw p np => ?_⟩
        · refine k _ _ H3 H03 q3 r3 ((e1.trans e2).trans e3) (.tup (Same.tup (e2.trans e3) h) ?_)
          rw [r.length] at hw
          rw [cut_whole hw]
          exact r'
        · obtain ⟨r4, e4⟩ := r3.laid (o := .tup (cutV xs l u)) np
          exact k _ _ _ _ q3 r4 (((e1.trans e2).trans e3).trans e4) (.tup (SqT.of upd_same) ((r'.cut).mono e4))
    · exact q3.elim
theorem Bor.lst {H0 H : Hp} {v : V} {ds : List D} (s : Same H0 H) (h : Bor K H0 H v (.list ds)) : ∃ p vs, v = .ref p ∧ Rps K H0 vs ds ∧ H p = some (.lst vs) := by
  obtain ⟨p, vs, e, r, h⟩ := h.seq s (.inl rfl)
  rcases h with ⟨_, h⟩ | ⟨h, _⟩
  · exact ⟨p, vs, e, r, h⟩
  · cases h
theorem sl_cat (ha : SndB K ok ta wa) (hb : SndB K ok tb wb) : SndL K ok (tOp rCat ta tb) (wCat wa wb) := fun C H0 σ H env Q R rel hw k =>
  ha C H0 σ H env _ _ rel hw fun d v H1 H01 q r1 e1 x1 => hb C H01 σ H1 env _ _ r1 q fun e u H2 H02 q2 r2 e2 x2 => by
    try dsimp only at q2
    split at q2
    · obtain ⟨p, vs, rfl, r, h⟩ := (x1 H2 H02 r2 e2).lst r2.sub
      obtain ⟨p', vs', rfl, r', h'⟩ := (x2 H2 H02 r2 (Same.refl _)).lst r2.sub
      exact ⟨p, p', vs, vs', rfl, rfl, h, h', by rw [r.length, r'.length]; exact Nat.le_of_lt (lt_size q2.1), fun q np => k _ _ _ _ q2.2 (r2.laid0 np) (e1.trans e2) ⟨r2.fresh np, ⟨r2.sub.free np, _, upd_same, r.append r'⟩, r2.noslot np, r2.kp.free np⟩⟩
    · exact q2.elim
theorem sl_rep (ha : SndB K ok ta wa) (hb : SndE K ok tb wb) : SndL K ok (tOp rRep ta tb) (wRep wa wb) := fun C H0 σ H env Q R rel hw k =>
  ha C H0 σ H env _ _ rel hw fun d v H1 H01 q r1 e1 x1 => hb C H01 σ H1 env _ _ r1 q fun e u H2 H02 q2 r2 e2 x2 => by
    try dsimp only at q2
    split at q2
    · obtain ⟨p, vs, rfl, r, h⟩ := (x1 H2 H02 r2 e2).lst r2.sub
      cases x2
      exact ⟨p, _, vs, rfl, rfl, h, by omega, by omega, by rw [r.length]; exact Nat.le_of_lt (lt_size q2.2.2.1), fun q np => k _ _ _ _ q2.2.2.2 (r2.laid0 np) (e1.trans e2) ⟨r2.fresh np, ⟨r2.sub.free np, _, upd_same, r.rep _⟩, r2.noslot np, r2.kp.free np⟩⟩
    · exact q2.elim
theorem se_catT (ha : SndE K ok ta wa) (hb : SndE K ok tb wb) : SndE K ok (tOp (rCatA K) ta tb) (wCatT wa wb) := fun C H0 σ H env Q R rel hw k =>
  ha C H0 σ H env _ _ rel hw fun d v H1 H01 q r1 e1 x1 => hb C H01 σ H1 env _ _ r1 q fun e u H2 H02 q2 r2 e2 x2 => by
    try dsimp only at q2
    split at q2
    · cases x1 with
      | tup h r =>
        cases x2 with
        | tup h' r' =>
          have h2 := Same.tup e2 h
          have rr := r.mono e2
          refine ⟨_, _, _, _, rfl, rfl, Same.tup r2.sub h2, Same.tup r2.sub h', by rw [r.length, r'.length]; exact Nat.le_of_lt (lt_size q2.1), fun z => ?_, fun z z2 => ?_, fun _ _ p np => ?_⟩
          · subst z
            refine k _ _ H2 H02 q2.2 r2 (e1.trans e2) (.tup h' ?_)
            have l := r.length
            rw [List.eq_nil_of_length_eq_zero l.symm]
            exact r'
          · subst z2
            refine k _ _ H2 H02 q2.2 r2 (e1.trans e2) (.tup h2 ?_)
            have l := r'.length
            rw [List.eq_nil_of_length_eq_zero l.symm, List.append_nil]
            exact rr
          · obtain ⟨r4, e4⟩ := r2.laid (o := .tup (_ ++ _)) np
            exact k _ _ _ _ q2.2 r4 ((e1.trans e2).trans e4) (.tup (SqT.of upd_same) ((rr.append r').mono e4))
    · exact q2.elim
theorem sl_listOf (ha : SndB K ok ta wa) : SndL K ok (tCB (fun xs H Q => ∃ p ys, xs = [.ref p] ∧ (SqL K H p ys ∨ SqT K H p ys) ∧ ∀ l, H l = none → Q (.ref l) (upd H l (.lst ys))) (tCons ta tNil)) (wListOf wa) := fun C H0 σ H env Q R rel hw k =>
  ha C H0 σ H env _ _ rel hw fun d v H1 H01 q r1 e1 x1 => by
    have b := x1 H1 H01 r1 (Same.refl _)
    try dsimp only at q
    split at q
    · obtain ⟨p, vs, rfl, r, h⟩ := b.lst r1.sub
      exact ⟨p, vs, rfl, .inl (SqL.of h), fun l nl => k _ _ _ _ q (r1.laid0 nl) e1 ⟨r1.fresh nl, ⟨r1.sub.free nl, _, upd_same, r⟩, r1.noslot nl, r1.kp.free nl⟩⟩
    · obtain ⟨p, vs, rfl, r, h⟩ := b.seq r1.sub (.inr rfl)
      rcases h with ⟨h, _⟩ | ⟨_, h⟩
      · cases h
      · exact ⟨p, vs, rfl, .inr h, fun l nl => k _ _ _ _ q (r1.laid0 nl) e1 ⟨r1.fresh nl, ⟨r1.sub.free nl, _, upd_same, r⟩, r1.noslot nl, r1.kp.free nl⟩⟩
    · rcases b with h | ⟨_, _, _, h, _⟩
      · cases h with
        | @scr a ns h => exact ⟨a, _, rfl, .inl (r1.sub.seq h), fun l nl => k _ _ _ _ q (r1.laid0 nl) e1 ⟨r1.fresh nl, ⟨r1.sub.free nl, _, upd_same, Rps.of_ints ns⟩, r1.noslot nl, r1.kp.free nl⟩⟩
      · cases h
    · exact q.elim
theorem se_tupOf (ha : SndB K ok ta wa) : SndE K ok (tCB (fun xs H Q => ∃ p ys, xs = [.ref p] ∧ ((SqL K H p ys ∧ ∀ l, H l = none → Q (.ref l) (upd H l (.tup ys))) ∨ (SqT K H p ys ∧ Q (.ref p) H))) (tCons ta tNil)) (wTupOf wa) := fun C H0 σ H env Q R rel hw k =>
  ha C H0 σ H env _ _ rel hw fun d v H1 H01 q r1 e1 x1 => by
    have b := x1 H1 H01 r1 (Same.refl _)
    try dsimp only at q
    split at q
    · obtain ⟨p, vs, rfl, r, h⟩ := b.lst r1.sub
      refine ⟨p, vs, rfl, .inl ⟨SqL.of h, fun l nl => ?_⟩⟩
      obtain ⟨r4, e4⟩ := r1.laid (o := .tup vs) nl
      exact k _ _ _ _ q r4 (e1.trans e4) (.tup (SqT.of upd_same) (r.mono e4))
    · rcases b with h | ⟨_, _, _, h, _⟩
      · cases h with
        | tup h r => exact ⟨_, _, rfl, .inr ⟨Same.tup r1.sub h, k _ _ _ _ q r1 e1 (.tup h r)⟩⟩
      · cases h
    · exact q.elim
theorem Bor.ints {H0 H : Hp} {v : V} {ns : List Int} (s : Same H0 H) (h : Bor K H0 H v (.list (dints ns))) : ∃ p, v = .ref p ∧ SqL K H p (ns.map V.int) := by
  obtain ⟨p, vs, e, r, h⟩ := h.lst s
  rw [r.ints_inv] at h
  exact ⟨p, e, SqL.of h⟩
theorem se_sum (ha : SndB K ok ta wa) : SndE K ok (tCB (rSum K) (tCons ta tNil)) (wSum wa) := fun C H0 σ H env Q R rel hw k =>
  ha C H0 σ H env _ _ rel hw fun d v H1 H01 q r1 e1 x1 => by
    obtain ⟨ns, rfl, q⟩ := q
    obtain ⟨p, rfl, h⟩ := (x1 H1 H01 r1 (Same.refl _)).ints r1.sub
    exact ⟨p, ns, rfl, h, k _ _ _ _ q r1 e1 (.int _)⟩
theorem se_maxL (ha : SndB K ok ta wa) : SndE K ok (tCB (rMax K) (tCons ta tNil)) (wMaxL wa) := fun C H0 σ H env Q R rel hw k =>
  ha C H0 σ H env _ _ rel hw fun d v H1 H01 q r1 e1 x1 => by
    obtain ⟨ns, rfl, l, q⟩ := q
    obtain ⟨p, rfl, h⟩ := (x1 H1 H01 r1 (Same.refl _)).ints r1.sub
    exact ⟨p, ns, rfl, h, l, fun m hm hl => k _ _ _ _ (q m hm hl) r1 e1 (.int _)⟩
theorem se_minL (ha : SndB K ok ta wa) : SndE K ok (tCB (rMin K) (tCons ta tNil)) (wMinL wa) := fun C H0 σ H env Q R rel hw k =>
  ha C H0 σ H env _ _ rel hw fun d v H1 H01 q r1 e1 x1 => by
    obtain ⟨ns, rfl, l, q⟩ := q
    obtain ⟨p, rfl, h⟩ := (x1 H1 H01 r1 (Same.refl _)).ints r1.sub
    exact ⟨p, ns, rfl, h, l, fun m hm hl => k _ _ _ _ (q m hm hl) r1 e1 (.int _)⟩
theorem sl_sortI (ha : SndB K ok ta wa) : SndL K ok (tCB (rSortedI K) (tCons ta tNil)) (wSortI wa) := fun C H0 σ H env Q R rel hw k =>
  ha C H0 σ H env _ _ rel hw fun d v H1 H01 q r1 e1 x1 => by
    obtain ⟨ns, rfl, q⟩ := q
    obtain ⟨p, rfl, h⟩ := (x1 H1 H01 r1 (Same.refl _)).ints r1.sub
    exact ⟨p, ns, rfl, h, fun ns' l hp hs nl => k _ _ _ _ (q ns' hp hs) (r1.laid0 nl) e1 ⟨r1.fresh nl, ⟨r1.sub.free nl, _, upd_same, Rps.of_ints ns'⟩, r1.noslot nl, r1.kp.free nl⟩⟩
theorem se_all (ha : SndB K ok ta wa) : SndE K ok (tCB (rAll K) (tCons ta tNil)) (wAll wa) := fun C H0 σ H env Q R rel hw k =>
  ha C H0 σ H env _ _ rel hw fun d v H1 H01 q r1 e1 x1 => by
    obtain ⟨bs, rfl, q⟩ := q
    obtain ⟨p, vs, rfl, r, h⟩ := (x1 H1 H01 r1 (Same.refl _)).lst r1.sub
    rw [r.bools_inv] at h
    exact ⟨p, bs, rfl, SqL.of h, k _ _ _ _ q r1 e1 (.bl _)⟩
theorem se_any (ha : SndB K ok ta wa) : SndE K ok (tCB (rAny K) (tCons ta tNil)) (wAny wa) := fun C H0 σ H env Q R rel hw k =>
  ha C H0 σ H env _ _ rel hw fun d v H1 H01 q r1 e1 x1 => by
    obtain ⟨bs, rfl, q⟩ := q
    obtain ⟨p, vs, rfl, r, h⟩ := (x1 H1 H01 r1 (Same.refl _)).lst r1.sub
    rw [r.bools_inv] at h
    exact ⟨p, bs, rfl, SqL.of h, k _ _ _ _ q r1 e1 (.bl _)⟩
theorem st_tru (ha : SndB K ok ta wa) : SndT K ok (fun σ H Q => ta σ H fun x H' => ∃ k, TruV K x H' k ∧ Q k H') (wTru wa) := fun C H0 σ H env Q R rel hw k =>
  ha C H0 σ H env _ _ rel hw fun d v H1 H01 q r1 e1 x1 => by
    have b := x1 H1 H01 r1 (Same.refl _)
    have simple : ∀ {d : D}, (∀ ds, d ≠ .list ds) → Bor K H01 H1 v d → Rp K H01 v d := fun {d} n b => by
      rcases b with h | ⟨_, ds, _, h, _⟩
      · exact h
      · exact (n ds h).elim
    try dsimp only at q
    split at q
    · cases simple (fun _ => by simp) b; exact ⟨false, rfl, k _ H1 H01 q r1 e1⟩
    · cases simple (fun _ => by simp) b; exact ⟨_, rfl, k _ H1 H01 q r1 e1⟩
    · cases simple (fun _ => by simp) b; exact ⟨_, rfl, k _ H1 H01 q r1 e1⟩
    · rename_i ds
      obtain ⟨p, vs, rfl, r, h⟩ := b.lst r1.sub
      refine ⟨!ds.isEmpty, .inl ⟨vs, SqL.of h, ?_⟩, k _ H1 H01 q r1 e1⟩
      have l := r.length
      cases vs <;> cases ds <;> first | rfl | (simp at l)
    · rename_i ds
      cases simple (fun _ => by simp) b with
      | @tup a vs _ h r =>
        refine ⟨!ds.isEmpty, .inr (.inl ⟨vs, Same.tup r1.sub h, ?_⟩), k _ H1 H01 q r1 e1⟩
        have l := r.length
        cases vs <;> cases ds <;> first | rfl | (simp at l)
    · exact q.elim
end
section
variable {X : Cx} {ok : List D → Prop} {a b c e : Expr} {es : List Expr} {wa wb wc we : WE} {wr : WA} {wl : WL} {wt wu : WT} {pos p p2 apos : Pos} {x : Str}
theorem o_n : PDO X ok none woN := ⟨_, po_none, so_n⟩
theorem o_s (h : PDE X ok e we) : PDO X ok (some e) (woS we) := let ⟨_, a, b⟩ := h; ⟨_, po_some a, so_s b⟩
theorem l_sl {lo hi : Option Expr} {wlo whi : WO} (ha : PDB X ok a wa) (hl : PDO X ok lo wlo) (hh : PDO X ok hi whi) : PDL X ok (.Subscript a (.Slice lo hi none p2) pos) (wSlL wa wlo whi) := let ⟨_, a1, a2⟩ := ha; let ⟨_, b1, b2⟩ := hl; let ⟨_, c1, c2⟩ := hh; ⟨_, pe_slice sl_list a1 b1 c1, sl_sl a2 b2 c2⟩
theorem d_slT {lo hi : Option Expr} {wlo whi : WO} (ha : PDE X ok a wa) (hl : PDO X ok lo wlo) (hh : PDO X ok hi whi) : PDE X ok (.Subscript a (.Slice lo hi none p2) pos) (wSlT wa wlo whi) := let ⟨_, a1, a2⟩ := ha; let ⟨_, b1, b2⟩ := hl; let ⟨_, c1, c2⟩ := hh; ⟨_, pe_slice sl_tupA a1 b1 c1, se_slT a2 b2 c2⟩
theorem l_cat (ha : PDB X ok a wa) (hb : PDB X ok b wb) : PDL X ok (.BinOp a .Add b pos) (wCat wa wb) := let ⟨_, a1, a2⟩ := ha; let ⟨_, b1, b2⟩ := hb; ⟨_, pe_op op_cat a1 b1, sl_cat a2 b2⟩
theorem l_rep (ha : PDB X ok a wa) (hb : PDE X ok b wb) : PDL X ok (.BinOp a .Mult b pos) (wRep wa wb) := let ⟨_, a1, a2⟩ := ha; let ⟨_, b1, b2⟩ := hb; ⟨_, pe_op op_rep a1 b1, sl_rep a2 b2⟩
theorem d_catT (ha : PDE X ok a wa) (hb : PDE X ok b wb) : PDE X ok (.BinOp a .Add b pos) (wCatT wa wb) := let ⟨_, a1, a2⟩ := ha; let ⟨_, b1, b2⟩ := hb; ⟨_, pe_op op_catA a1 b1, se_catT a2 b2⟩
theorem t_tru (ha : PDB X ok a wa) (he : ∀ whole, isTrue a X.env whole = (do let v ← whole; standAt a.pos; holding [v] (truthy v)) := by intro _; rfl) : PDT X ok a (wTru wa) := let ⟨_, a1, a2⟩ := ha; ⟨_, pt_truth a1 he, st_tru a2⟩
theorem l_listOf (hm : X.mg "list" = none) (ha : PDB X ok a wa) (hg : Gl X "list" := by rfl) (hs : starEach [a] X.env = (false, eval a X.env) :: starEach [] X.env := by rfl) (hpl : (backTo pos (starEach [] X.env)).any (·.1) = false := by rfl) :
    PDL X ok (.Call (.Name "list" p) [a] [] pos) (wListOf wa) := let ⟨_, a1, a2⟩ := ha; ⟨_, pe_callTy call_list_of hg hm (by decide +kernel) (pa_cons a1 pa_nil hs) (by decide) (by decide) hs hpl, sl_listOf a2⟩
theorem d_tupOf (hm : X.mg "tuple" = none) (ha : PDB X ok a wa) (hg : Gl X "tuple" := by rfl) (hs : starEach [a] X.env = (false, eval a X.env) :: starEach [] X.env := by rfl) (hpl : (backTo pos (starEach [] X.env)).any (·.1) = false := by rfl) :
    PDE X ok (.Call (.Name "tuple" p) [a] [] pos) (wTupOf wa) := let ⟨_, a1, a2⟩ := ha; ⟨_, pe_callTy call_tuple_of hg hm (by decide +kernel) (pa_cons a1 pa_nil hs) (by decide) (by decide) hs hpl, se_tupOf a2⟩
theorem d_sum (hc : X.calm = true) (hm : X.mg "sum" = none) (ha : PDB X ok a wa) (hg : Gl X "sum" := by rfl) (hs : starEach [a] X.env = (false, eval a X.env) :: starEach [] X.env := by rfl) (hpl : (backTo pos (starEach [] X.env)).any (·.1) = false := by rfl) :
    PDE X ok (.Call (.Name "sum" p) [a] [] pos) (wSum wa) := let ⟨_, a1, a2⟩ := ha; ⟨_, pe_callB (cr_sum hc) hg hm (by decide +kernel) (pa_cons a1 pa_nil hs) (by decide) (by decide) hs hpl, se_sum a2⟩
theorem d_maxL (hc : X.calm = true) (hm : X.mg "max" = none) (ha : PDB X ok a wa) (hg : Gl X "max" := by rfl) (hs : starEach [a] X.env = (false, eval a X.env) :: starEach [] X.env := by rfl) (hpl : (backTo pos (starEach [] X.env)).any (·.1) = false := by rfl) :
    PDE X ok (.Call (.Name "max" p) [a] [] pos) (wMaxL wa) := let ⟨_, a1, a2⟩ := ha; ⟨_, pe_callB (cr_max hc) hg hm (by decide +kernel) (pa_cons a1 pa_nil hs) (by decide) (by decide) hs hpl, se_maxL a2⟩
theorem d_minL (hc : X.calm = true) (hm : X.mg "min" = none) (ha : PDB X ok a wa) (hg : Gl X "min" := by rfl) (hs : starEach [a] X.env = (false, eval a X.env) :: starEach [] X.env := by rfl) (hpl : (backTo pos (starEach [] X.env)).any (·.1) = false := by rfl) :
    PDE X ok (.Call (.Name "min" p) [a] [] pos) (wMinL wa) := let ⟨_, a1, a2⟩ := ha; ⟨_, pe_callB (cr_min hc) hg hm (by decide +kernel) (pa_cons a1 pa_nil hs) (by decide) (by decide) hs hpl, se_minL a2⟩
theorem d_all (hc : X.calm = true) (hm : X.mg "all" = none) (ha : PDB X ok a wa) (hg : Gl X "all" := by rfl) (hs : starEach [a] X.env = (false, eval a X.env) :: starEach [] X.env := by rfl) (hpl : (backTo pos (starEach [] X.env)).any (·.1) = false := by rfl) :
    PDE X ok (.Call (.Name "all" p) [a] [] pos) (wAll wa) := let ⟨_, a1, a2⟩ := ha; ⟨_, pe_callB (cr_all hc) hg hm (by decide +kernel) (pa_cons a1 pa_nil hs) (by decide) (by decide) hs hpl, se_all a2⟩
theorem d_any (hc : X.calm = true) (hm : X.mg "any" = none) (ha : PDB X ok a wa) (hg : Gl X "any" := by rfl) (hs : starEach [a] X.env = (false, eval a X.env) :: starEach [] X.env := by rfl) (hpl : (backTo pos (starEach [] X.env)).any (·.1) = false := by rfl) :
    PDE X ok (.Call (.Name "any" p) [a] [] pos) (wAny wa) := let ⟨_, a1, a2⟩ := ha; ⟨_, pe_callB (cr_any hc) hg hm (by decide +kernel) (pa_cons a1 pa_nil hs) (by decide) (by decide) hs hpl, se_any a2⟩
theorem l_sortI (hm : X.mg "sorted" = none) (ha : PDB X ok a wa) (hg : Gl X "sorted" := by rfl) (hs : starEach [a] X.env = (false, eval a X.env) :: starEach [] X.env := by rfl) (hpl : (backTo pos (starEach [] X.env)).any (·.1) = false := by rfl) :
    PDL X ok (.Call (.Name "sorted" p) [a] [] pos) (wSortI wa) := let ⟨_, a1, a2⟩ := ha; ⟨_, pe_callB cr_sortedI hg hm (by decide +kernel) (pa_cons a1 pa_nil hs) (by decide) (by decide) hs hpl, sl_sortI a2⟩
theorem d_abs (hm : X.mg "abs" = none) (ha : PDE X ok a wa) (hg : Gl X "abs" := by rfl) (hs : starEach [a] X.env = (false, eval a X.env) :: starEach [] X.env := by rfl) (hpl : (backTo pos (starEach [] X.env)).any (·.1) = false := by rfl) :
    PDE X ok (.Call (.Name "abs" p) [a] [] pos) (wUn fAbs wa) := d_B1 call_abs cd_abs (by decide +kernel) hm ha (by decide) (by decide) hg hs hpl
theorem d_intc (hm : X.mg "int" = none) (ha : PDE X ok a wa) (hg : Gl X "int" := by rfl) (hs : starEach [a] X.env = (false, eval a X.env) :: starEach [] X.env := by rfl) (hpl : (backTo pos (starEach [] X.env)).any (·.1) = false := by rfl) :
    PDE X ok (.Call (.Name "int" p) [a] [] pos) (wUn fInt wa) := d_T1 call_int1 cd_int (by decide +kernel) hm ha (by decide) (by decide) hg hs hpl
theorem d_max2 (hc : X.calm = true) (hm : X.mg "max" = none) (ha : PDE X ok a wa) (hb : PDE X ok b wb) (hg : Gl X "max" := by rfl) (hs : starEach [a, b] X.env = (false, eval a X.env) :: starEach [b] X.env := by rfl) (hs2 : starEach [b] X.env = (false, eval b X.env) :: starEach [] X.env := by rfl)
    (hpl : (backTo pos (starEach [b] X.env)).any (·.1) = false := by rfl) : PDE X ok (.Call (.Name "max" p) [a, b] [] pos) (wBin fMax2 wa wb) := d_B2 (call_max2 hc) cd_max2 (by decide +kernel) hm ha hb (by decide) (by decide) hg hs hs2 hpl
theorem d_min2 (hc : X.calm = true) (hm : X.mg "min" = none) (ha : PDE X ok a wa) (hb : PDE X ok b wb) (hg : Gl X "min" := by rfl) (hs : starEach [a, b] X.env = (false, eval a X.env) :: starEach [b] X.env := by rfl) (hs2 : starEach [b] X.env = (false, eval b X.env) :: starEach [] X.env := by rfl)
    (hpl : (backTo pos (starEach [b] X.env)).any (·.1) = false := by rfl) : PDE X ok (.Call (.Name "min" p) [a, b] [] pos) (wBin fMin2 wa wb) := d_B2 (call_min2 hc) cd_min2 (by decide +kernel) hm ha hb (by decide) (by decide) hg hs hs2 hpl
/-- n.bit_length() -/
def fBits : D → (D → Prop) → Prop := fun d Q => match d with
  | .int i => Q (.int (Builtin.Int.intBits i : Nat))
  | _ => False
theorem snd_bits {K : PySem.W.Frag} {ta : TE} (ha : SndE K ok ta wa) : SndE K ok (tBits ta) (wUn fBits wa) := fun C H0 σ H env Q R rel hw k => ha C H0 σ H env _ _ rel hw fun d v H1 H01 q r1 e1 x1 => by
  unfold fBits at q
  split at q
  · cases x1; exact ⟨_, rfl, k _ _ H1 H01 q r1 e1 (.int _)⟩
  · exact q.elim
theorem d_bits (ha : PDE X ok a wa) (hbase : attributeBase a "bit_length" X.env (eval a X.env) = eval a X.env := by rfl) (hline : (apos.endLine == pos.line) = true := by rfl) : PDE X ok (.Call (.Attribute a "bit_length" apos) [] [] pos) (wUn fBits wa) := let ⟨_, a1, a2⟩ := ha; ⟨_, pe_bits a1 hbase hline, snd_bits a2⟩
end
end DL
/-! DL, part f1: the first family of draws: state = [script, place, rest, mix]. -/
namespace DL
open PySem L2

def okF1 (ds : List D) : Prop := ∃ (ns : List Int) (place rest mix : Int), ds = [scr ns, .int place, .int rest, .int mix] ∧ 0 ≤ place
/-- _law_draw(state, many): some number from 0 to many - 1 -/
def M_draw : WM := fun as Q => ∃ n : Int, as = [.hnd, .v (.int n)] ∧ 0 < n ∧ n < 2 ^ 200 ∧ ∀ r : Int, 0 ≤ r → r < n → Q (.v (.int r))
theorem div200 {n : Int} (h0 : 0 < n) (h : n < 2 ^ 200) : ∀ i : Int, CDivW i n := fun i => wide_div (b := 200) h0 (by omega) (by decide) (by decide)
def rInt : List V → Hp → VK → Prop := fun xs H Q => (∃ i, xs = [.int i] ∧ Q (.int i) H) ∨ ∃ k, xs = [.bl k] ∧ Q (.int (if k then 1 else 0)) H
def rLen1 (K : PySem.W.Frag) : List V → Hp → VK → Prop := fun xs H Q => ∃ p ys, xs = [.ref p] ∧ (SqL K H p ys ∨ SqT K H p ys) ∧ Q (.int ys.length) H
def rAbs1 : List V → Hp → VK → Prop := fun xs H Q => ∃ i, xs = [.int i] ∧ Q (.int (if i < 0 then -i else i)) H
abbrev tPlus := tOp (rI0 fun i j => .int (i + j))
abbrev tTimes := tOp (rI CMul fun i j => .int (i * j))
abbrev tModu := tOp (rI (fun _ j => 0 < j) fun i j => .int (i % j))
abbrev tDivi := tOp (rI CDivW fun i j => .int (i / j))
abbrev tAt (K : PySem.W.Frag) (i : Int) : TE := tOp (rIx K) (tVar 0) (tC (.int i))
abbrev tIn (t : TE) : TE := tCB rInt (tCons t tNil)
abbrev gAt (i : Int) : TG := gSub (tVar 0) (tC (.int i)) rSetL
abbrev tdEnd (K : PySem.W.Frag) : TS := tSeq (tAsg (tModu (tIn (tAt K 2)) (tVar 1)) (gName 6)) (tSeq (tAsg (tDivi (tIn (tAt K 2)) (tVar 1)) (gAt 2)) (tRet (tVar 6)))
abbrev tdLast (K : PySem.W.Frag) : TS := tAsg (tModu (tIn (tPlus (tTimes (tAt K 3) (tC (.int 31))) (tVar 3))) (tC (.int 1000003))) (gAt 3)
abbrev tdYes (K : PySem.W.Frag) : TS := tSeq (tAsg (tModu (tIn (tPlus (tPlus (tTimes (tVar 3) (tC (.int 48271))) (tTimes (tVar 2) (tC (.int 69621)))) (tAt K 3))) (tC (.int 2147483647))) (gName 4))
  (tSeq (tAsg (tModu (tIn (tPlus (tPlus (tTimes (tVar 4) (tC (.int 16807))) (tVar 3)) (tC (.int 11)))) (tC (.int 2147483629))) (gName 5)) (tAsg (tPlus (tTimes (tVar 4) (tC (.int 2147483629))) (tVar 5)) (gAt 2)))
abbrev tdNo : TS := tAsg (tCB rAbs1 (tCons (tVar 3) tNil)) (gAt 2)
abbrev tdCell (K : PySem.W.Frag) : TS := tSeq (tIfS (tTest (tChain (rI0 fun i j => .bl (decide (i ≤ j))) (rI0 fun i j => .bl (decide (i < j))) (tC (.int 0)) (tVar 3) (tC (.int 1000000000000000000)))) (tdYes K) tdNo) (tdLast K)
abbrev tdBody (K : PySem.W.Frag) : TS := tSeq (tIfS (tTest (tOp (rI0 fun i j => .bl (decide (i ≤ j))) (tAt K 2) (tC (.int 0))))
    (tSeq (tAsg (tAt K 1) (gName 2)) (tSeq (tAsg (tPlus (tVar 2) (tC (.int 1))) (gAt 1)) (tSeq (tAsg (tPlus (tTimes (tVar 2) (tC (.int 7919))) (tC (.int 13))) (gName 3))
      (tSeq (tIfS (tTest (tOp (rI0 fun i j => .bl (decide (i < j))) (tVar 2) (tCB (rLen1 K) (tCons (tAt K 0) tNil)))) (tAsg (tOp (rIx K) (tAt K 0) (tVar 2)) (gName 3)) tNext) (tdCell K))))) tNext) (tdEnd K)
theorem dints_inj : ∀ {ns ms : List Int}, ns.map PyData.int = ms.map PyData.int → ns = ms
  | [], [], _ => rfl
  | [], _ :: _, h => by simp at h
  | _ :: _, [], h => by simp at h
  | a :: ns, b :: ms, h => by
    simp only [List.map_cons, List.cons.injEq, PyData.int.injEq] at h
    rw [h.1, dints_inj h.2]
theorem scr_inv {K : PySem.W.Frag} {H : Hp} {v : V} {ns : List Int} (h : Rp K H v (scr ns)) : ∃ a, v = .ref a ∧ SqL K H a (ns.map V.int) := by
  generalize hd : scr ns = d at h
  cases h with
  | scr h =>
    have e := PyData.dict.inj hd
    simp only [List.cons.injEq, Prod.mk.injEq, PyData.list.injEq, and_true, true_and] at e
    rw [dints_inj e]
    exact ⟨_, rfl, h⟩
  | _ => cases hd
section
variable {P : Program} {w : World} {K : PySem.W.Frag} {mg : Str → Option Value} {base : Heap}
theorem draw_ok {st : Stmt} {f : Addr} {fd : FuncData} {k : Nat} (F : Fun K "_law_draw" "_law_draw" st f fd) (S : FnScope ["state", "many", "place", "cell", "one", "two", "taken"] ["state", "many"] (defScope st))
    (hder : ∀ (cdv : Value) (A : Around) (outer : List Env) (s : Shared) (H : Hp) (E : XK), PSs (cxOf CX0 P w K mg base ["state", "many", "place", "cell", "one", "two", "taken"] "_law_draw" (defScope st) f cdv A outer s H E).nox (defBody st) (tdBody K)) :
    FnOk P w K mg base CX0 (k + 1) f fd ["state", "many"] (SpD K okF1 2 M_draw) := by
  refine F.ok S (fun vs H Q E h => ?_) (fun cdv A outer s H vs Q E hr h => ⟨_, hder cdv A outer s H E, ?_⟩)
  · obtain ⟨H0, ha, as, Q', h1, h2, _⟩ := h
    rw [h2]
    rfl
  obtain ⟨H0, ha, as, Q', h1, h2, one, s0, hargs, hv, ⟨n, rfl, n0, n1, hq⟩, k0⟩ := h
  obtain ⟨a, rfl, rfl⟩ : ∃ a, ha = some a ∧ vs = [.ref a, .int n] := by
    cases hargs with
    | hnd e t =>
      cases t with
      | cons r t =>
        cases t
        cases r
        exact ⟨_, e, rfl⟩
  obtain ⟨ds, ⟨na, vs0, hp0, hr0⟩, ns, place, rest, mix, rfl, hpl⟩ := hv a rfl
  obtain ⟨v0, ws, rfl, x0, hr1⟩ := hr0.cons_inv
  obtain ⟨v1, ws, rfl, x1, hr2⟩ := hr1.cons_inv
  obtain ⟨v2, ws, rfl, x2, hr3⟩ := hr2.cons_inv
  obtain ⟨v3, ws, rfl, x3, hr4⟩ := hr3.cons_inv
  rw [hr4.nil_inv] at hp0
  cases x1; cases x2; cases x3
  obtain ⟨sc, rfl, hsc⟩ : ∃ sc, v0 = .ref sc ∧ SqL K H0 sc (ns.map V.int) := scr_inv x0
  let D0 : Ends := { nx := fun _ H' => Q .non H', rt := Q }
  have fin : ∀ (H1 : Hp) (i1 i2 i3 : Int) (y2 y3 y4 y5 : Option V), (∀ b o, H b = some o → b ≠ a → H1 b = some o) → H1 a = some (.lst [.ref sc, .int i1, .int i2, .int i3]) → 0 ≤ i1 →
      tdEnd K D0 [some (.ref a), some (.int n), y2, y3, y4, y5, none] H1 := by
    intro H1 i1 i2 i3 y2 y3 y4 y5 fr1 hp1 hi1
    refine ⟨_, rfl, .inl ⟨a, _, 2, .int i2, rfl, rfl, SqL.of hp1, rfl, .inl ⟨i2, rfl, _, rfl, i2, n, rfl, rfl, n0, ?_⟩⟩⟩
    refine ⟨_, rfl, .inl ⟨a, _, 2, .int i2, rfl, rfl, SqL.of hp1, rfl, .inl ⟨i2, rfl, _, rfl, i2, n, rfl, rfl, div200 n0 n1 i2, ?_⟩⟩⟩
    refine ⟨_, rfl, a, _, 2, 2, rfl, rfl, hp1, rfl, ?_⟩
    refine ⟨_, rfl, k0 _ _ (.v (.int (i2 % n))) H0 (hq _ (Int.emod_nonneg _ (by omega)) (Int.emod_lt_of_pos _ n0)) ?_⟩
    refine ⟨Same.refl _, fun b o e => ?_, fun b o e => .inl e, fun b o e ne => ?_, fun b e => ?_, .int _⟩
    · rw [upd_ne (ne_of_none e na)]
      exact fr1 b o (s0 b o e) (ne_of_none e na)
    · have hb : b ≠ a := fun z => ne (by rw [z])
      rw [upd_ne hb]
      exact fr1 b o e hb
    · cases e
      exact ⟨[scr ns, .int i1, .int (i2 / n), .int i3], ⟨na, _, upd_same, .cons (.scr hsc) (.cons (.int _) (.cons (.int _) (.cons (.int _) .nil)))⟩, ns, i1, i2 / n, i3, rfl, hi1⟩
  have scH : ∀ {H1 : Hp}, (∀ b o, H b = some o → b ≠ a → H1 b = some o) → SqL K H1 sc (ns.map V.int) := fun {H1} fr1 => by
    have e1 : Same H0 H1 := fun b o e => fr1 b o (s0 b o e) (ne_of_none e na)
    exact e1.seq hsc
  refine ⟨_, rfl, .inl ⟨a, _, 2, .int rest, rfl, rfl, SqL.of hp0, rfl, _, _, rfl, rfl, _, rfl, ite2 (fun _ => ?_) (fun _ => ?_)⟩⟩
  · refine ⟨_, rfl, .inl ⟨a, _, 1, .int place, rfl, rfl, SqL.of hp0, rfl, ?_⟩⟩
    refine ⟨_, rfl, _, _, rfl, rfl, _, rfl, a, _, 1, 1, rfl, rfl, hp0, rfl, ?_⟩
    refine ⟨_, rfl, _, _, rfl, rfl, .inr ⟨by decide, by decide⟩, _, _, rfl, rfl, ?_⟩
    have hp1 : (upd H a (.lst [.ref sc, .int (place + 1), .int rest, .int mix])) a = some (.lst [.ref sc, .int (place + 1), .int rest, .int mix]) := upd_same
    have fr1 : ∀ b o, H b = some o → b ≠ a → (upd H a (.lst [.ref sc, .int (place + 1), .int rest, .int mix])) b = some o := fun b o e hb => by rw [upd_ne hb]; exact e
    have next : ∀ cell : Int, tdCell K { D0 with nx := tdEnd K D0 } [some (.ref a), some (.int n), some (.int place), some (.int cell), none, none, none] (upd H a (.lst [.ref sc, .int (place + 1), .int rest, .int mix])) := by
      intro cell
      have last : ∀ (H2 : Hp) (z : Int) (y4 y5 : Option V), (∀ b o, H b = some o → b ≠ a → H2 b = some o) → H2 a = some (.lst [.ref sc, .int (place + 1), .int z, .int mix]) →
          tdLast K { D0 with nx := tdEnd K D0 } [some (.ref a), some (.int n), some (.int place), some (.int cell), y4, y5, none] H2 := by
        intro H2 z y4 y5 fr2 hp2
        refine ⟨_, rfl, .inl ⟨a, _, 3, .int mix, rfl, rfl, SqL.of hp2, rfl, _, _, rfl, rfl, .inr ⟨by decide, by decide⟩, _, rfl, _, _, rfl, rfl, .inl ⟨_, rfl, _, _, rfl, rfl, (by show (0 : Int) < 1000003; decide), ?_⟩⟩⟩
        refine ⟨_, rfl, a, _, 3, 3, rfl, rfl, hp2, rfl, ?_⟩
        exact fin _ (place + 1) z _ _ _ _ _ (fun b o e hb => by rw [upd_ne hb]; exact fr2 b o e hb) upd_same (by omega)
      have yes : tdYes K { D0 with nx := tdLast K { D0 with nx := tdEnd K D0 } } [some (.ref a), some (.int n), some (.int place), some (.int cell), none, none, none] (upd H a (.lst [.ref sc, .int (place + 1), .int rest, .int mix])) := by
        refine ⟨_, rfl, _, _, rfl, rfl, .inr ⟨by decide, by decide⟩, _, rfl, _, _, rfl, rfl, .inr ⟨by decide, by decide⟩, _, _, rfl, rfl, _, rfl, .inl ⟨a, _, 3, .int mix, rfl, rfl, SqL.of hp1, rfl, _, _, rfl, rfl, .inl ⟨_, rfl, _, _, rfl, rfl, (by show (0 : Int) < 2147483647; decide), ?_⟩⟩⟩
        refine ⟨_, rfl, _, _, rfl, rfl, .inr ⟨by decide, by decide⟩, _, rfl, _, _, rfl, rfl, _, _, rfl, rfl, .inl ⟨_, rfl, _, _, rfl, rfl, (by show (0 : Int) < 2147483629; decide), ?_⟩⟩
        refine ⟨_, rfl, _, _, rfl, rfl, .inr ⟨by decide, by decide⟩, _, rfl, _, _, rfl, rfl, _, rfl, a, _, 2, 2, rfl, rfl, hp1, rfl, ?_⟩
        exact last _ _ _ _ (fun b o e hb => by rw [upd_ne hb]; exact fr1 b o e hb) upd_same
      have no : tdNo { D0 with nx := tdLast K { D0 with nx := tdEnd K D0 } } [some (.ref a), some (.int n), some (.int place), some (.int cell), none, none, none] (upd H a (.lst [.ref sc, .int (place + 1), .int rest, .int mix])) := by
        refine ⟨_, rfl, _, rfl, _, rfl, a, _, 2, 2, rfl, rfl, hp1, rfl, ?_⟩
        exact last _ _ _ _ (fun b o e hb => by rw [upd_ne hb]; exact fr1 b o e hb) upd_same
      refine ⟨_, rfl, _, _, rfl, rfl, _, rfl, ?_⟩
      exact ite2 (fun _ => ⟨_, _, rfl, rfl, ⟨_, rfl, ite2 (fun _ => yes) (fun _ => no)⟩⟩) (fun _ => ⟨false, rfl, iteF no⟩)
    refine ⟨_, rfl, _, rfl, .inl ⟨a, _, 0, .ref sc, rfl, rfl, SqL.of hp1, rfl, sc, _, rfl, .inl (scH fr1), _, _, rfl, rfl, _, rfl, ite2 (fun h => ?_) (fun _ => next _)⟩⟩
    have hlt : place.toNat < ns.length := by
      have := of_decide_eq_true h
      rw [List.length_map] at this
      omega
    have hat : atI (ns.map V.int) place = some (.int (ns[place.toNat])) := by
      have e : place = ((place.toNat : Nat) : Int) := by omega
      have z := atI_nat (xs := ns.map V.int) (j := place.toNat) (v := .int (ns[place.toNat])) (by rw [List.getElem?_map, List.getElem?_eq_getElem hlt]; rfl)
      rw [← e] at z
      exact z
    exact ⟨_, rfl, .inl ⟨a, _, 0, .ref sc, rfl, rfl, SqL.of hp1, rfl, _, rfl, .inl ⟨sc, _, place, _, rfl, rfl, scH fr1, hat, next _⟩⟩⟩
  · exact fin H place rest mix none none none none (fun _ _ e _ => e) hp0 hpl
end
end DL
/-! DL, part g: what the printer leans on besides. -/
namespace DL
open PySem L2

/-- a name of the module that holds written data -/
structure GlD (K : PySem.W.Frag) (mg : Str → Option Value) (x : Str) (d : D) where
  v : V
  ex : ∃ u, mg x = some u ∧ RelV v u
  rp : ∀ H, Rp K H v d
section
variable {X : Cx} {ok : List D → Prop} {a b c e : Expr} {es : List Expr} {wa wb wc we : WE} {wr : WA} {wl : WL} {wt wu : WT} {pos p p2 apos : Pos} {x : Str}
theorem pe_gl {d : D} (g : GlD X.K X.mg x d) (hg : Gl X x := by rfl) (hdd : (x == ("__debug__" : Str)) = false := by decide) : PE X (.Name x pos) (tC g.v) := let ⟨u, h1, h2⟩ := g.ex; pe_glob hg h1 h2 hdd
theorem snd_gl {K : PySem.W.Frag} {mg : Str → Option Value} {d : D} (g : GlD K mg x d) : SndE K ok (tC g.v) (wC d) := snd_c g.rp
theorem d_gl {d : D} (g : GlD X.K X.mg x d) (hg : Gl X x := by rfl) (hdd : (x == ("__debug__" : Str)) = false := by decide) : PDE X ok (.Name x pos) (wC d) := ⟨_, pe_gl g hg hdd, snd_gl g⟩
theorem pe_has {k j n : Nat} {M : WM} {t : TA} (h : Has X.prog X.w X.K X.mg X.base ok k x n M) (hr : Room j X.A) (hk : k ≤ j) (ha : PA X (e :: es) t) (hg : Gl X x := by rfl) (hdb : (x == ("__debug__" : Str)) = false := by decide)
    (he : starEach (e :: es) X.env = (false, eval e X.env) :: starEach es X.env := by rfl) (hpl : (backTo pos (starEach es X.env)).any (·.1) = false := by rfl) : PE X (.Call (.Name x p) (e :: es) [] pos) (tCall (SpD X.K ok n M) [] E0 t) :=
  let ⟨f, fd, ps, G, hm, kp, bs⟩ := h.ex; pe_call G (hr.mono hk) hg hm kp bs .nil pass0 ha hdb he hpl
theorem g_cons {vs : List Nat} {wg : WG} {wgs : WGs} (h1 : PDG X ok vs e wg) (h2 : PDGs X ok vs es wgs)
    (hg : ∀ (t : TG) (u : TGs), PG X e t → PGs X es u → PGs X (e :: es) (gCons t u) := by exact fun _ _ h1 h2 => pgs_cons h1 h2) : PDGs X ok vs (e :: es) (gsCons wg wgs) := let ⟨_, a, b⟩ := h1; let ⟨_, c, d⟩ := h2; ⟨_, hg _ _ a c, sgs_cons b d⟩
theorem g_tupN {vs : List Nat} {k n : Nat} {wg : WGs} (h : PDGs X ok vs es wg) (hg : ∀ t, PGs X es t → PG X (.Tuple es k pos) (gTup X.K n t) := by exact fun _ h => pg_tup rfl h) : PDG X ok vs (.Tuple es k pos) (gT n wg) := let ⟨_, a, b⟩ := h; ⟨_, hg _ a, sg_tup b⟩
def rMax2 : List V → Hp → VK → Prop := fun xs H Q => ∃ i j, xs = [.int i, .int j] ∧ Q (.int (if j > i then j else i)) H
def rMin2 : List V → Hp → VK → Prop := fun xs H Q => ∃ i j, xs = [.int i, .int j] ∧ Q (.int (if j < i then j else i)) H
def rListOf (K : PySem.W.Frag) : List V → Hp → VK → Prop := fun xs H Q => ∃ p ys, xs = [.ref p] ∧ (SqL K H p ys ∨ SqT K H p ys) ∧ ∀ l, H l = none → Q (.ref l) (upd H l (.lst ys))
/-- a new list at a name, known at once -/
def wSetF (i : Nat) (a : WL) : WS := fun W env => a env fun ds => W.nx (env.set i (some (.v (.list ds))))
theorem ss_setF {K : PySem.W.Frag} {te : TE} {i : Nat} (he : SndL K ok te wl) : SndS K ok (tAsg te (gName i)) (wSetF i wl) := ss_set he.fz
theorem s_setLcF (i : Nat) {py spos : Pos} {y : Str} {tg iter elt : Expr} {ifs : List Expr} {scope : Scope} {own : List (Str × Nat)} {wi : WI} {wg : WG} {wt : WT} {we : WE} (hc : X.calm = true) (hN : X.N.Nodup) (hi : PDI X ok tg iter wi) (ok' : BlkOk X.N X.env.scope scope own)
    (hg : ∃ g, (∀ (s : Shared) (H : Hp) (C : Addr) (cl : List (Str × Addr)) (fp : List Addr), PG (X.blk s H scope (compEnvC scope cl C X.env) fp) tg g) ∧ SndG X.K ok (own.map (·.2)) g wg)
    (ht : ∃ tt, (∀ (s : Shared) (H : Hp) (C : Addr) (cl : List (Str × Addr)) (fp : List Addr), PTs (X.blk s H scope (compEnvC scope cl C X.env) fp) ifs tt) ∧ SndT X.K ok tt wt)
    (he : ∃ te, (∀ (s : Shared) (H : Hp) (C : Addr) (cl : List (Str × Addr)) (fp : List Addr), PE (X.blk s H scope (compEnvC scope cl C X.env) fp) elt te) ∧ SndE X.K ok te we)
    (hsw : swapsWith (.ListComp elt [⟨tg, iter, ifs, 0⟩] scope pos) (some (.Name y py)) spos.line X.env = pure true) (hy : X.N[i]? = some y := by rfl) (hyl : X.env.scope.names.lookup y = some .local := by rfl)
    (hs : ∀ x, foldedSetIterable iter X.env x = pure x := by intro _; rfl) : PDS X ok (.Assign [.Name y py] (.ListComp elt [⟨tg, iter, ifs, 0⟩] scope pos) spos) (wSetF i (wLc wi wg wt we (own.map (·.2)))) :=
  let ⟨_, i1, i2⟩ := hi; let ⟨_, g1, g2⟩ := hg; let ⟨_, t1, t2⟩ := ht; let ⟨_, e1, e2⟩ := he; ⟨_, ps_setLc hc hN hy hyl hsw i1 ok' g1 t1 e1 hs, ss_setF (sl_lc i2 g2 t2 e2)⟩
end
/-- the law's own promise -/
def M_law : WM := fun as Q => ∃ ns : List Int, as = [.v (scr ns)] ∧ ns.length ≤ 63 ∧ Q (.v (.bool true))
theorem law_sp {K : PySem.W.Frag} {ok : List D → Prop} {H : Hp} {a : Addr} {ns : List Int} {E : XK} (h : SqL K H a (ns.map V.int)) (hl : ns.length ≤ 63) : SpD K ok 1 M_law [.ref a] H (fun v _ => v = .bl true) E := by
  refine ⟨H, none, [.v (scr ns)], fun r => r = .v (.bool true), rfl, rfl, rfl, Same.refl _, .cons (.scr h) .nil, fun _ e => (nomatch e), ⟨ns, rfl, hl, rfl⟩, fun v H' r H01 q P => ?_⟩
  subst q
  cases P.res
  rfl
end DL
/-! DL, part f3: draws of the third family (a list of numbers and a place). -/
namespace DL
open PySem L2
def okF3 (ds : List D) : Prop := ∃ k : Int, ds = [.int k] ∧ 0 ≤ k
/-- _law_next(draws, at, many) -/
def M_next : WM := fun as Q => ∃ (ms : List Int) (n : Int), as = [.v (.list (dints ms)), .hnd, .v (.int n)] ∧ 0 < n ∧ ∀ r : Int, 0 ≤ r → r < n → Q (.v (.int r))
abbrev tnBody (K : PySem.W.Frag) : TS := tSeq (tAsg (tOp (rIx K) (tVar 1) (tC (.int 0))) (gName 3)) (tSeq (tAsg (tPlus (tVar 3) (tC (.int 1))) (gSub (tVar 1) (tC (.int 0)) rSetL))
  (tSeq (tIfS (tTest (tOp (rI0 fun i j => .bl (decide (i < j))) (tVar 3) (tCB (rLen1 K) (tCons (tVar 0) tNil)))) (tRet (tModu (tIn (tOp (rIx K) (tVar 0) (tVar 3))) (tVar 2))) tNext) (tRet (tC (.int 0)))))
theorem list_inv {K : PySem.W.Frag} {H : Hp} {v : V} {ns : List Int} (h : Rp K H v (.list (dints ns))) : ∃ a, v = .ref a ∧ SqL K H a (ns.map V.int) := by
  generalize hd : PyData.list (dints ns) = d at h
  cases h with
  | lst h r =>
    cases hd
    rw [r.ints_inv] at h
    exact ⟨_, rfl, SqL.of h⟩
  | _ => cases hd
section
variable {P : Program} {w : World} {K : PySem.W.Frag} {mg : Str → Option Value} {base : Heap}
theorem next_ok {st : Stmt} {f : Addr} {fd : FuncData} {k : Nat} (F : Fun K "_law_next" "_law_next" st f fd) (S : FnScope ["draws", "at", "many", "index"] ["draws", "at", "many"] (defScope st))
    (hder : ∀ (cdv : Value) (A : Around) (outer : List Env) (s : Shared) (H : Hp) (E : XK), PSs (cxOf CX0 P w K mg base ["draws", "at", "many", "index"] "_law_next" (defScope st) f cdv A outer s H E).nox (defBody st) (tnBody K)) :
    FnOk P w K mg base CX0 (k + 1) f fd ["draws", "at", "many"] (SpD K okF3 3 M_next) := by
  refine F.ok S (fun vs H Q E h => ?_) (fun cdv A outer s H vs Q E hr h => ⟨_, hder cdv A outer s H E, ?_⟩)
  · obtain ⟨H0, ha, as, Q', h1, h2, _⟩ := h
    rw [h2]
    rfl
  obtain ⟨H0, ha, as, Q', h1, h2, one, s0, hargs, hv, ⟨ms, n, rfl, n0, hq⟩, k0⟩ := h
  obtain ⟨a, dv, rfl, rfl, rd⟩ : ∃ a dv, ha = some a ∧ vs = [dv, .ref a, .int n] ∧ Rp K H0 dv (.list (dints ms)) := by
    cases hargs with
    | cons rd t =>
      cases t with
      | hnd e t =>
        cases t with
        | cons r t =>
          cases t
          cases r
          exact ⟨_, _, e, rfl, rd⟩
  obtain ⟨da, rfl, hda⟩ := list_inv rd
  obtain ⟨ds, ⟨na, vs0, hp0, hr0⟩, kk, rfl, hk⟩ := hv a rfl
  obtain ⟨v0, ws, rfl, x0, hr1⟩ := hr0.cons_inv
  rw [hr1.nil_inv] at hp0
  cases x0
  let D0 : Ends := { nx := fun _ H' => Q .non H', rt := Q }
  let H1 : Hp := upd H a (.lst [.int (kk + 1)])
  have fin : ∀ r : Int, 0 ≤ r → r < n → Q (.int r) H1 := fun r r0 r1 => by
    refine k0 _ _ (.v (.int r)) H0 (hq r r0 r1) ?_
    refine ⟨Same.refl _, fun b o e => ?_, fun b o e => .inl e, fun b o e ne => ?_, fun b e => ?_, .int _⟩
    · show (upd H a _) b = some o
      rw [upd_ne (ne_of_none e na)]
      exact s0 b o e
    · have hb : b ≠ a := fun z => ne (by rw [z])
      show (upd H a _) b = some o
      rw [upd_ne hb]
      exact e
    · cases e
      exact ⟨[.int (kk + 1)], ⟨na, _, upd_same, .cons (.int _) .nil⟩, kk + 1, rfl, by omega⟩
  have hda1 : SqL K H1 da (ms.map V.int) := Same.seq (fun b o e => by
    show (upd H a _) b = some o
    rw [upd_ne (ne_of_none e na)]
    exact s0 b o e) hda
  refine ⟨_, rfl, .inl ⟨a, _, 0, .int kk, rfl, rfl, SqL.of hp0, rfl, ?_⟩⟩
  refine ⟨_, rfl, _, _, rfl, rfl, _, rfl, a, _, 0, 0, rfl, rfl, hp0, rfl, ?_⟩
  refine ⟨_, rfl, _, rfl, da, _, rfl, .inl hda1, _, _, rfl, rfl, _, rfl, ite2 (fun h => ?_) (fun _ => fin 0 (Int.le_refl 0) n0)⟩
  have hlt : kk.toNat < ms.length := by
    have := of_decide_eq_true h
    rw [List.length_map] at this
    omega
  have hat : atI (ms.map V.int) kk = some (.int (ms[kk.toNat])) := by
    have e : kk = ((kk.toNat : Nat) : Int) := by omega
    have z := atI_nat (xs := ms.map V.int) (j := kk.toNat) (v := .int (ms[kk.toNat])) (by rw [List.getElem?_map, List.getElem?_eq_getElem hlt]; rfl)
    rw [← e] at z
    exact z
  refine ⟨_, rfl, _, rfl, .inl ⟨da, _, kk, _, rfl, rfl, hda1, hat, .inl ⟨_, rfl, _, rfl, _, _, rfl, rfl, n0, ?_⟩⟩⟩
  exact fin _ (Int.emod_nonneg _ (by omega)) (Int.emod_lt_of_pos _ n0)
end
end DL
/-! DL, part f2: draws of the second family (a pool). -/
namespace DL
open PySem L2
def okF2 (ds : List D) : Prop := ∃ (a : Int) (ns : List Int) (c : Int), ds = [.int a, .list (dints ns), .int c] ∧ -1 ≤ c
/-- _law_wide(script, k) -/
def M_wide : WM := fun as Q => ∃ (ns : List Int) (k : Int), as = [.v (.list (dints ns)), .v (.int k)] ∧ 0 ≤ k ∧ ∀ r : Int, Q (.v (.int r))
/-- _law_take(pool, most) -/
def M_take : WM := fun as Q => ∃ n : Int, as = [.hnd, .v (.int n)] ∧ 0 < n ∧ n < 2 ^ 200 ∧ ∀ r : Int, 0 ≤ r → r < n → Q (.v (.int r))
/-- _law_pool(script) -/
def M_pool : WM := fun as Q => ∃ ns : List Int, as = [.v (scr ns)] ∧ Q (.own [.int 0, .list (dints ns), .int (-1)])
abbrev ttEnd (K : PySem.W.Frag) : TS := tSeq (tAsg (tModu (tIn (tAt K 0)) (tVar 1)) (gName 2)) (tSeq (tAsg (tDivi (tAt K 0) (tVar 1)) (gAt 0)) (tRet (tVar 2)))
abbrev ttNew (K : PySem.W.Frag) : TS := tSeq (tAsg (tPlus (tAt K 2) (tC (.int 1))) (gAt 2)) (tAsg (tCall (SpD K okF2 2 M_wide) [] E0 (tCons (tAt K 1) (tCons (tAt K 2) tNil))) (gAt 0))
abbrev ttBody (K : PySem.W.Frag) : TS := tSeq (tIfS (tTest (tOp (rI0 fun i j => .bl (decide (i < j))) (tAt K 0) (tC (.int 1000)))) (ttNew K) tNext) (ttEnd K)
section
variable {P : Program} {w : World} {K : PySem.W.Frag} {mg : Str → Option Value} {base : Heap}
theorem take_ok {st : Stmt} {f : Addr} {fd : FuncData} {k : Nat} (F : Fun K "_law_take" "_law_take" st f fd) (S : FnScope ["pool", "most", "taken"] ["pool", "most"] (defScope st))
    (hder : ∀ (cdv : Value) (A : Around) (outer : List Env) (s : Shared) (H : Hp) (E : XK) (hr : Room k (A.deeper (PyProof.Rows.envOfC "_law_take" (defScope st) s.heap.objs.size f cdv))), PSs (cxOf CX0 P w K mg base ["pool", "most", "taken"] "_law_take" (defScope st) f cdv A outer s H E).nox (defBody st) (ttBody K)) :
    FnOk P w K mg base CX0 (k + 1) f fd ["pool", "most"] (SpD K okF2 2 M_take) := by
  refine F.ok S (fun vs H Q E h => ?_) (fun cdv A outer s H vs Q E hr h => ⟨_, hder cdv A outer s H E hr, ?_⟩)
  · obtain ⟨H0, ha, as, Q', h1, h2, _⟩ := h
    rw [h2]
    rfl
  obtain ⟨H0, ha, as, Q', h1, h2, one, s0, hargs, hv, ⟨n, rfl, n0, n1, hq⟩, k0⟩ := h
  obtain ⟨a, rfl, rfl⟩ : ∃ a, ha = some a ∧ vs = [.ref a, .int n] := by
    cases hargs with
    | hnd e t =>
      cases t with
      | cons r t =>
        cases t
        cases r
        exact ⟨_, e, rfl⟩
  obtain ⟨ds, ⟨na, vs0, hp0, hr0⟩, rest, ns, c, rfl, hc⟩ := hv a rfl
  obtain ⟨v0, ws, rfl, x0, hr1⟩ := hr0.cons_inv
  obtain ⟨v1, ws, rfl, x1, hr2⟩ := hr1.cons_inv
  obtain ⟨v2, ws, rfl, x2, hr3⟩ := hr2.cons_inv
  rw [hr3.nil_inv] at hp0
  cases x0; cases x2
  let D0 : Ends := { nx := fun _ H' => Q .non H', rt := Q }
  -- the end, from any state that has kept the frame
  have fin : ∀ (H1 H01 : Hp) (i0 i2 : Int), Same H0 H01 → Same H01 H1 → (∀ b o, H01 b = some o → H0 b = some o ∨ H b = none) → (∀ b o, H b = some o → b ≠ a → H1 b = some o) → H01 a = none → H1 a = some (.lst [.int i0, v1, .int i2]) → -1 ≤ i2 →
      ttEnd K D0 [some (.ref a), some (.int n), none] H1 := by
    intro H1 H01 i0 i2 g1 g2 g3 fr1 na1 hp1 hi
    refine ⟨_, rfl, .inl ⟨a, _, 0, .int i0, rfl, rfl, SqL.of hp1, rfl, .inl ⟨i0, rfl, _, rfl, i0, n, rfl, rfl, n0, ?_⟩⟩⟩
    refine ⟨_, rfl, .inl ⟨a, _, 0, .int i0, rfl, rfl, SqL.of hp1, rfl, _, rfl, i0, n, rfl, rfl, div200 n0 n1 i0, ?_⟩⟩
    refine ⟨_, rfl, a, _, 0, 0, rfl, rfl, hp1, rfl, ?_⟩
    refine ⟨_, rfl, k0 _ _ (.v (.int (i0 % n))) H01 (hq _ (Int.emod_nonneg _ (by omega)) (Int.emod_lt_of_pos _ n0)) ?_⟩
    refine ⟨g1, fun b o e => ?_, g3, fun b o e ne => ?_, fun b e => ?_, .int _⟩
    · rw [upd_ne (ne_of_none e na1)]
      exact g2 b o e
    · have hb : b ≠ a := fun z => ne (by rw [z])
      rw [upd_ne hb]
      exact fr1 b o e hb
    · cases e
      exact ⟨[.int (i0 / n), .list (dints ns), .int i2], ⟨na1, _, upd_same, .cons (.int _) (.cons (x1.mono g1) (.cons (.int _) .nil))⟩, i0 / n, ns, i2, rfl, hi⟩
  refine ⟨_, rfl, .inl ⟨a, _, 0, .int rest, rfl, rfl, SqL.of hp0, rfl, _, _, rfl, rfl, _, rfl, ite2 (fun _ => ?_) (fun _ => fin H H0 rest c (Same.refl _) s0 (fun b o e => .inl e) (fun _ _ e _ => e) na hp0 hc)⟩⟩
  refine ⟨_, rfl, .inl ⟨a, _, 2, .int c, rfl, rfl, SqL.of hp0, rfl, _, _, rfl, rfl, ?_⟩⟩
  refine ⟨_, rfl, a, _, 2, 2, rfl, rfl, hp0, rfl, ?_⟩
  let H1 : Hp := upd H a (.lst [.int rest, v1, .int (c + 1)])
  have hp1 : H1 a = some (.lst [.int rest, v1, .int (c + 1)]) := upd_same
  have s1 : Same H0 H1 := fun b o e => by
    show (upd H a _) b = some o
    rw [upd_ne (ne_of_none e na)]
    exact s0 b o e
  refine ⟨_, rfl, .inl ⟨a, _, 1, v1, rfl, rfl, SqL.of hp1, rfl, _, rfl, .inl ⟨a, _, 2, .int (c + 1), rfl, rfl, SqL.of hp1, rfl, ?_⟩⟩⟩
  refine ⟨H0, none, [.v (.list (dints ns)), .v (.int (c + 1))], fun r => ∃ i, r = .v (.int i), rfl, rfl, rfl, s1, .cons x1 (.cons (.int _) .nil), fun _ e => (nomatch e), ⟨ns, c + 1, rfl, by omega, fun r => ⟨r, rfl⟩⟩, fun v H' r H01 q P => ?_⟩
  obtain ⟨i, rfl⟩ := q
  cases P.res
  have hpa : H' a = some (.lst [.int rest, v1, .int (c + 1)]) := P.fr a _ hp1 (by simp)
  refine ⟨_, rfl, a, _, 0, 0, rfl, rfl, hpa, rfl, ?_⟩
  have na1 : H01 a = none := by
    cases e : H01 a with
    | none => rfl
    | some o =>
      rcases P.new a o e with h | h
      · rw [na] at h; cases h
      · have z : H1 a = none := h
        rw [hp1] at z; cases z
  have nw : ∀ b, H1 b = none → H b = none := fun b e => by
    have hb : b ≠ a := fun z => by rw [z, hp1] at e; cases e
    have e' : (upd H a (.lst [.int rest, v1, .int (c + 1)])) b = none := e
    rw [upd_ne hb] at e'
    exact e'
  refine fin _ H01 i (c + 1) P.grow (fun b o e => ?_) (fun b o e => ?_) (fun b o e hb => ?_) na1 upd_same (by omega)
  · rw [upd_ne (ne_of_none e na1)]
    exact P.sub b o e
  · rcases P.new b o e with h | h
    · exact .inl h
    · exact .inr (nw b h)
  · rw [upd_ne hb]
    refine P.fr b o ?_ (by simp)
    show (upd H a _) b = some o
    rw [upd_ne hb]
    exact e
end
end DL
/-! mathematics: remainders and powers. -/
namespace MB
theorem emod_mul_l (a b m : Int) : (a % m) * b % m = a * b % m := by
  rw [Int.mul_emod, Int.emod_emod_of_dvd _ (Int.dvd_refl m), ← Int.mul_emod]
theorem emod_mul_r (a b m : Int) : a * (b % m) % m = a * b % m := by
  rw [Int.mul_emod, Int.emod_emod_of_dvd _ (Int.dvd_refl m), ← Int.mul_emod]
theorem emod_pow (a m : Int) (k : Nat) : (a % m) ^ k % m = a ^ k % m := by
  induction k with
  | zero => rw [Int.pow_zero, Int.pow_zero]
  | succ k ih =>
    rw [Int.pow_succ, Int.pow_succ, emod_mul_r, Int.mul_emod, ih, ← Int.mul_emod]
theorem cong_mul {a b c d m : Int} (h : a % m = b % m) (k : c % m = d % m) : a * c % m = b * d % m := by
  rw [Int.mul_emod, h, k, ← Int.mul_emod]
theorem cong_add {a b c d m : Int} (h : a % m = b % m) (k : c % m = d % m) : (a + c) % m = (b + d) % m := by
  rw [Int.add_emod, h, k, ← Int.add_emod]
theorem cong_pow {a b m : Int} (h : a % m = b % m) (k : Nat) : a ^ k % m = b ^ k % m := by
  rw [← emod_pow, h, emod_pow]
/-- one turn of the ladder -/
theorem ladder_odd (r b m : Int) {j : Int} (h0 : 0 ≤ j) (h : j % 2 = 1) : (r * b % m) * (b * b % m) ^ (j / 2).toNat % m = r * b ^ j.toNat % m := by
  have e : j.toNat = (j / 2).toNat + (j / 2).toNat + 1 := by omega
  rw [emod_mul_l, ← emod_mul_r, emod_pow, emod_mul_r, e, Int.pow_succ, Int.pow_add, Int.mul_pow]
  congr 1
  grind
theorem ladder_even (r b m : Int) {j : Int} (h0 : 0 ≤ j) (h : ¬ j % 2 = 1) : r * (b * b % m) ^ (j / 2).toNat % m = r * b ^ j.toNat % m := by
  have e : j.toNat = (j / 2).toNat + (j / 2).toNat := by omega
  rw [← emod_mul_r, emod_pow, emod_mul_r, e, Int.pow_add, Int.mul_pow]
theorem two_pow_cast (k : Nat) : ((2 ^ k : Nat) : Int) = 2 ^ k := by rw [Int.natCast_pow]; rfl
theorem sq_nonneg (a : Int) : 0 ≤ a * a := by
  rcases Int.le_total 0 a with h | h
  · exact Int.mul_nonneg h h
  · have := Int.mul_nonneg (a := -a) (b := -a) (by omega) (by omega)
    rwa [Int.neg_mul_neg] at this
end MB
namespace DL
open PySem L2
theorem rng_at {lo : Int} {n i : Nat} {d : D} (h : (rng lo n)[i]? = some d) : i < n ∧ d = .int (lo + i) := by
  by_cases hi : i < n
  · rw [rng_get hi] at h
    exact ⟨hi, (Option.some.inj h).symm⟩
  · rw [List.getElem?_eq_none (by rw [rng_len]; omega)] at h
    cases h
theorem dr {n : Int} {Q : Rt → Prop} (h0 : 0 < n) (h : n < 2 ^ 200) (hq : ∀ r : Int, 0 ≤ r → r < n → Q (.v (.int r))) : oneH [.hnd, .v (.int n)] = true ∧ [Ar.hnd, Ar.v (.int n)].length = 2 ∧ M_draw [.hnd, .v (.int n)] Q := ⟨rfl, rfl, n, rfl, h0, h, hq⟩
theorem lk {n : Nat} (h : Nat.ble n 1000 = true) : n ≤ 1000 := Nat.le_of_ble_eq_true h
theorem no_ne {i j : Int} (e : i = j) : (!decide (i = j)) = false := by rw [decide_eq_true e]; rfl
theorem pass {i j : Int} {P Q : Prop} (e : i = j) (q : Q) : ((!decide (i = j)) = true → P) ∧ ((!decide (i = j)) = false → Q) := ⟨fun h => (by rw [no_ne e] at h; cases h), fun _ => q⟩
end DL
/-! plain data: no dict, no truth value, at most k deep. Equality of such data is being alike. -/
namespace DL
open PySem L2
def pl : Nat → D → Bool
  | _, .none => true
  | _, .int _ => true
  | 0, _ => false
  | k + 1, .list ds => ds.all (pl k)
  | k + 1, .tuple ds => ds.all (pl k)
  | _, _ => false
theorem pl_none (k : Nat) : pl k .none = true := by cases k <;> rfl
theorem pl_int (k : Nat) (i : Int) : pl k (.int i) = true := by cases k <;> rfl
theorem pl_ints (k : Nat) (ns : List Int) : (dints ns).all (pl k) = true := by
  rw [List.all_eq_true]
  intro x hx
  obtain ⟨i, _, rfl⟩ := List.mem_map.mp hx
  exact pl_int k i
theorem pl_dlist (k : Nat) (ns : List Int) : pl (k + 1) (.list (dints ns)) = true := pl_ints k ns
theorem pl_dtup (k : Nat) (ns : List Int) : pl (k + 1) (.tuple (dints ns)) = true := pl_ints k ns
theorem canAll {k : Nat} (ih : ∀ d : D, pl k d = true → d.canLay0 = true ∧ d.depth ≤ k) : ∀ ds : List D, ds.all (pl k) = true → PyData.canLayAll0 ds = true ∧ PyData.depthAll ds ≤ k
  | [], _ => ⟨rfl, Nat.zero_le _⟩
  | d :: ds, h => by
    rw [List.all_cons, Bool.and_eq_true] at h
    have h1 := ih d h.1
    have h2 := canAll ih ds h.2
    refine ⟨?_, ?_⟩
    · show (_ && _) = true
      rw [h1.1, h2.1]
      rfl
    · show max _ _ ≤ k
      omega
theorem pl_can : ∀ (k : Nat) (d : D), pl k d = true → d.canLay0 = true ∧ d.depth ≤ k
  | k, .none, _ => ⟨rfl, Nat.zero_le _⟩
  | k, .int _, _ => ⟨rfl, Nat.zero_le _⟩
  | 0, .bool _, h => by cases h
  | 0, .str _, h => by cases h
  | 0, .list _, h => by cases h
  | 0, .tuple _, h => by cases h
  | 0, .dict _, h => by cases h
  | k + 1, .bool _, h => by cases h
  | k + 1, .str _, h => by cases h
  | k + 1, .dict _, h => by cases h
  | k + 1, .list ds, h => by
    have := canAll (pl_can k) ds h
    exact ⟨this.1, Nat.succ_le_succ this.2⟩
  | k + 1, .tuple ds, h => by
    have := canAll (pl_can k) ds h
    exact ⟨this.1, Nat.succ_le_succ this.2⟩
theorem shp {k : Nat} {d : D} (h : pl k d = true) (hk : k ≤ 64 := by decide) : SeqAt.shaped d = true := by
  have := pl_can k d h
  unfold SeqAt.shaped
  rw [this.1, Bool.true_and, decide_eq_true_iff]
  omega
theorem eqvAll_iff {k : Nat} (ih : ∀ d e : D, pl k d = true → pl k e = true → (PyData.eqv d e = true ↔ d = e)) : ∀ ds es : List D, ds.all (pl k) = true → es.all (pl k) = true → (PyData.eqvAll ds es = true ↔ ds = es)
  | [], [], _, _ => ⟨fun _ => rfl, fun _ => rfl⟩
  | [], _ :: _, _, _ => ⟨(nomatch ·), (nomatch ·)⟩
  | _ :: _, [], _, _ => ⟨(nomatch ·), (nomatch ·)⟩
  | d :: ds, e :: es, h1, h2 => by
    rw [List.all_cons, Bool.and_eq_true] at h1 h2
    show (_ && _) = true ↔ _
    rw [Bool.and_eq_true, ih d e h1.1 h2.1, eqvAll_iff ih ds es h1.2 h2.2, List.cons.injEq]
theorem eqv_iff : ∀ (k : Nat) (d e : D), pl k d = true → pl k e = true → (PyData.eqv d e = true ↔ d = e)
  | k, .none, .none, _, _ => ⟨fun _ => rfl, fun _ => rfl⟩
  | k, .int i, .int j, _, _ => by
    show (i == j) = true ↔ _
    rw [beq_iff_eq, PyData.int.injEq]
  | k, .none, .int _, _, _ => ⟨(nomatch ·), (nomatch ·)⟩
  | k, .int _, .none, _, _ => ⟨(nomatch ·), (nomatch ·)⟩
  | k + 1, .list ds, .list es, h1, h2 => by
    show PyData.eqvAll ds es = true ↔ _
    rw [eqvAll_iff (eqv_iff k) ds es h1 h2, PyData.list.injEq]
  | k + 1, .tuple ds, .tuple es, h1, h2 => by
    show PyData.eqvAll ds es = true ↔ _
    rw [eqvAll_iff (eqv_iff k) ds es h1 h2, PyData.tuple.injEq]
  | k + 1, .none, .list _, _, _ => ⟨(nomatch ·), (nomatch ·)⟩
  | k + 1, .none, .tuple _, _, _ => ⟨(nomatch ·), (nomatch ·)⟩
  | k + 1, .int _, .list _, _, _ => ⟨(nomatch ·), (nomatch ·)⟩
  | k + 1, .int _, .tuple _, _, _ => ⟨(nomatch ·), (nomatch ·)⟩
  | k + 1, .list _, .none, _, _ => ⟨(nomatch ·), (nomatch ·)⟩
  | k + 1, .tuple _, .none, _, _ => ⟨(nomatch ·), (nomatch ·)⟩
  | k + 1, .list _, .int _, _, _ => ⟨(nomatch ·), (nomatch ·)⟩
  | k + 1, .tuple _, .int _, _, _ => ⟨(nomatch ·), (nomatch ·)⟩
  | k + 1, .list _, .tuple _, _, _ => ⟨(nomatch ·), (nomatch ·)⟩
  | k + 1, .tuple _, .list _, _, _ => ⟨(nomatch ·), (nomatch ·)⟩
  | 0, .bool _, _, h, _ => by cases h
  | 0, .str _, _, h, _ => by cases h
  | 0, .list _, _, h, _ => by cases h
  | 0, .tuple _, _, h, _ => by cases h
  | 0, .dict _, _, h, _ => by cases h
  | k + 1, .bool _, _, h, _ => by cases h
  | k + 1, .str _, _, h, _ => by cases h
  | k + 1, .dict _, _, h, _ => by cases h
  | 0, _, .bool _, _, h => by cases h
  | 0, _, .str _, _, h => by cases h
  | 0, _, .list _, _, h => by cases h
  | 0, _, .tuple _, _, h => by cases h
  | 0, _, .dict _, _, h => by cases h
  | k + 1, _, .bool _, _, h => by cases h
  | k + 1, _, .str _, _, h => by cases h
  | k + 1, _, .dict _, _, h => by cases h
theorem eqv_self {k : Nat} {d : D} (h : pl k d = true) : PyData.eqv d d = true := (eqv_iff k d d h h).mpr rfl
theorem eqv_ne {k : Nat} {d e : D} (h : pl k d = true) (h2 : pl k e = true) (n : d ≠ e) : PyData.eqv d e = false := by
  cases hh : PyData.eqv d e with
  | false => rfl
  | true => exact absurd ((eqv_iff k d e h h2).mp hh) n
theorem eqv_dec {k : Nat} {d e : D} [Decidable (d = e)] (h : pl k d = true) (h2 : pl k e = true) : PyData.eqv d e = decide (d = e) := by
  by_cases n : d = e
  · rw [decide_eq_true n, (eqv_iff k d e h h2).mpr n]
  · rw [decide_eq_false n, eqv_ne h h2 n]
/-- a comparison that answers: alike -/
theorem same {k : Nat} {d e : D} {P Q : Prop} (h : pl k d = true) (he : d = e) (q : Q) : ((!PyData.eqv d e) = true → P) ∧ ((!PyData.eqv d e) = false → Q) := by
  subst he
  rw [eqv_self h]
  exact ⟨fun h => (by cases h), fun _ => q⟩
theorem tk {n : Int} {Q : Rt → Prop} (h0 : 0 < n) (h : n < 2 ^ 200) (hq : ∀ r : Int, 0 ≤ r → r < n → Q (.v (.int r))) : oneH [.hnd, .v (.int n)] = true ∧ [Ar.hnd, Ar.v (.int n)].length = 2 ∧ M_take [.hnd, .v (.int n)] Q := ⟨rfl, rfl, n, rfl, h0, h, hq⟩
theorem nxt {ms : List Int} {n : Int} {Q : Rt → Prop} (h0 : 0 < n) (hq : ∀ r : Int, 0 ≤ r → r < n → Q (.v (.int r))) : oneH [.v (.list (dints ms)), .hnd, .v (.int n)] = true ∧ [Ar.v (.list (dints ms)), Ar.hnd, Ar.v (.int n)].length = 3 ∧ M_next [.v (.list (dints ms)), .hnd, .v (.int n)] Q := ⟨rfl, rfl, ms, n, rfl, h0, hq⟩
end DL
namespace DL
open PySem L2
theorem cut_lo {α : Type} (xs : List α) (k : Nat) : cutD xs (some (k : Int)) none = xs.drop k := by
  unfold cutD
  rw [HT.sIx_nat, HT.sIx_none]
  by_cases h : k ≤ xs.length
  · rw [Nat.min_eq_left h, List.take_of_length_le (by rw [List.length_drop]; omega)]
  · rw [Nat.min_eq_right (by omega), List.drop_of_length_le (by omega), List.drop_of_length_le (by omega), List.take_nil]
theorem cut_hi {α : Type} (xs : List α) (k : Nat) : cutD xs none (some (k : Int)) = xs.take k := by
  unfold cutD
  rw [HT.sIx_nat, HT.sIx_none, List.drop_zero, Nat.sub_zero]
  by_cases h : k ≤ xs.length
  · rw [Nat.min_eq_left h]
  · rw [Nat.min_eq_right (by omega), List.take_of_length_le (by omega), List.take_of_length_le (by omega)]
theorem cut_no {α : Type} (xs : List α) : cutD xs none none = xs := by
  unfold cutD
  rw [HT.sIx_none, HT.sIx_none, List.drop_zero, Nat.sub_zero, List.take_length]
theorem cut_mid {α : Type} (xs : List α) (k m : Nat) (h : k ≤ m) (hm : m ≤ xs.length) : cutD xs (some (k : Int)) (some (m : Int)) = (xs.drop k).take (m - k) := by
  unfold cutD
  rw [HT.sIx_nat, HT.sIx_nat, Nat.min_eq_left (by omega), Nat.min_eq_left (by omega)]
/-- f 0, .. f (n - 1) -/
abbrev tab (n : Nat) (f : Nat → Int) : List Int := (List.range n).map f
theorem tab_len (n : Nat) (f : Nat → Int) : (tab n f).length = n := by rw [List.length_map, List.length_range]
theorem dtab_len (n : Nat) (f : Nat → Int) : (dints (tab n f)).length = n := by rw [List.length_map, tab_len]
theorem tab_succ (n : Nat) (f : Nat → Int) : dints (tab (n + 1) f) = dints (tab n f) ++ [.int (f n)] := by
  unfold tab
  rw [List.range_succ, List.map_append]
  show ((List.range n).map f ++ [f n]).map PyData.int = _
  rw [List.map_append]
  rfl
theorem tab_get {n i : Nat} {f : Nat → Int} (h : i < n) : (dints (tab n f))[i]? = some (.int (f i)) := by
  rw [List.getElem?_map, List.getElem?_map, List.getElem?_range h]
  rfl
theorem tab_at {n i : Nat} {f : Nat → Int} {d : D} (h : (dints (tab n f))[i]? = some d) : i < n ∧ d = .int (f i) := by
  by_cases hi : i < n
  · rw [tab_get hi] at h
    exact ⟨hi, (Option.some.inj h).symm⟩
  · rw [List.getElem?_eq_none (by rw [dtab_len]; omega)] at h
    cases h
theorem tab_atI {n i : Nat} {f : Nat → Int} {j : Int} (e : j = i) (h : i < n) : atI (dints (tab n f)) j = some (.int (f i)) := by
  rw [e]
  exact atI_nat (tab_get h)
theorem tab_drop {n k : Nat} {f : Nat → Int} (h : k ≤ n) : (dints (tab n f)).drop k = dints (tab (n - k) fun i => f (k + i)) := by
  apply List.ext_getElem?
  intro i
  rw [List.getElem?_drop]
  by_cases hi : i < n - k
  · rw [tab_get hi, tab_get (by omega)]
  · rw [List.getElem?_eq_none (by rw [dtab_len]; omega), List.getElem?_eq_none (by rw [dtab_len]; omega)]
theorem tab_take {n k : Nat} {f : Nat → Int} (h : k ≤ n) : (dints (tab n f)).take k = dints (tab k f) := by
  apply List.ext_getElem?
  intro i
  by_cases hi : i < k
  · rw [List.getElem?_take_of_lt hi, tab_get hi, tab_get (by omega)]
  · rw [List.getElem?_eq_none (by rw [List.length_take, dtab_len]; omega), List.getElem?_eq_none (by rw [dtab_len]; omega)]
theorem atI_nats {α : Type} {xs : List α} {j : Int} {i : Nat} {v : α} (e : j = i) (h : xs[i]? = some v) : atI xs j = some v := by
  rw [e]
  exact atI_nat h
/-- an item of a list of ints, told by its bounds -/
theorem atI_ints {xs : List Int} {j : Int} (h0 : 0 ≤ j) (h : j < xs.length) : ∃ v, atI (dints xs) j = some (.int v) ∧ v ∈ xs := by
  obtain ⟨i, rfl⟩ : ∃ i : Nat, j = i := ⟨j.toNat, by omega⟩
  have hi : i < xs.length := by omega
  refine ⟨xs[i], atI_nat ?_, List.getElem_mem hi⟩
  rw [List.getElem?_map, List.getElem?_eq_getElem hi]
  rfl
theorem wtrue {P Q : Prop} (p : P) : ((true : Bool) = true → P) ∧ ((true : Bool) = false → Q) := ⟨fun _ => p, (nomatch ·)⟩
theorem wfalse {P Q : Prop} (q : Q) : ((false : Bool) = true → P) ∧ ((false : Bool) = false → Q) := ⟨(nomatch ·), fun _ => q⟩
end DL
/-! primes, by divisors -/
namespace MB
def PrimeI (p : Int) : Prop := 2 ≤ p ∧ ∀ d : Int, 2 ≤ d → d < p → p % d ≠ 0
theorem prime_of_trial {p : Int} (m : Int) (h2 : 2 ≤ p) (hp : p < m * m) (hm : 0 < m) (h : ∀ d : Int, 2 ≤ d → d < m → d * d ≤ p → p % d ≠ 0) : PrimeI p := by
  refine ⟨h2, fun d d2 dp e => ?_⟩
  obtain ⟨q, hq⟩ := Int.dvd_of_emod_eq_zero e
  have q0 : 0 < q := by
    apply Int.not_le.mp
    intro z
    have := Int.mul_nonpos_of_nonneg_of_nonpos (a := d) (b := q) (by omega) z
    omega
  have q1 : q ≠ 1 := fun z => by rw [z, Int.mul_one] at hq; omega
  have lt : ∀ x : Int, 0 ≤ x → x * x ≤ p → x < m := fun x x0 hx => by
    apply Int.not_le.mp
    intro z
    have := Int.mul_le_mul z z (by omega) x0
    omega
  rcases Int.le_total d q with l | l
  · have := Int.mul_le_mul_of_nonneg_left l (by omega : 0 ≤ d)
    exact h d d2 (lt d (by omega) (by omega)) (by omega) e
  · have := Int.mul_le_mul_of_nonneg_right l (by omega : 0 ≤ q)
    exact h q (by omega) (lt q (by omega) (by omega)) (by omega) (by rw [hq]; exact Int.mul_emod_left _ _)
end MB
namespace G
open PySem L2 DL
def topS (i : Nat) : Stmt := PySem.Challenge.pw_curvetally_k83_words_and_pairs.main.body.getD i (.Pass ⟨0, 0, 0, 0⟩)
abbrev okH : List D → Prop := okF2
section
variable {P : Program} {w : World} {K : PySem.W.Frag} {mg : Str → Option Value} {base : Heap}
/-! ### words -/
abbrev s_words : Stmt := topS 5
theorem sc_words : FnScope ["seed", "number", "found", "state", "k"] ["seed", "number"] (defScope s_words) := ⟨rfl, rfl, rfl, by decide +kernel, rfl, by decide +kernel, by decide +kernel⟩
/-- the states of the row of drawn words -/
def lcg (s : Int) : Nat → Int
  | 0 => s
  | k + 1 => (lcg s k * 6364136223846793005 + 1442695040888963407) % 18446744073709551616
def word (s : Int) (k : Nat) : Int := lcg s (k + 1) / 4294967296
def M_words : WM := fun as Q => ∃ s n : Int, as = [.v (.int s), .v (.int n)] ∧ 0 ≤ n ∧ n < 1000 ∧ Q (.own (dints (tab n.toNat (word s))))

def w_words : WS := (wSeq (wSetO 2 (wLstP wNil))
 (wSeq (wSet 3 (wVar 0))
 (wSeq (wFor (iR1 (wVar 1)) (gN 4)
 (wSeq (wSet 3 (wBin fMod (wBin fAdd (wBin fMul (wVar 3) (wC (.int 6364136223846793005))) (wC (.int 1442695040888963407))) (wC (.int 18446744073709551616))))
 (wApp 2 (wBin fDiv (wVar 3) (wC (.int 4294967296))))))
 (wRetV 2))))
theorem mf_words : ∀ as Q, as.length = 2 → M_words as Q → w_words { nx := fun _ => Q (.v .none), rt := Q } (stE as 3) := by
  rintro as Q _ ⟨s, n, rfl, n0, n1, hq⟩
  refine ⟨rfl, lk rfl, ⟨by omega, by omega⟩, fun k env => ∃ t, env = [some (.v (.int s)), some (.v (.int n)), some (.own (dints (tab k (word s)))), some (.v (.int (lcg s k))), t], ⟨_, rfl⟩, ?_, ?_⟩
  · rintro i d env hd ⟨t, rfl⟩
    obtain ⟨hi, rfl⟩ := rng_at hd
    refine ⟨.inr ⟨by decide, by decide⟩, (by decide : (0 : Int) < 18446744073709551616), div200 (by decide) (by decide) _, ?_, some (.v (.int (0 + (i : Int)))), ?_⟩
    · rw [dtab_len]; omega
    · rw [tab_succ]
      rfl
  · rintro env ⟨t, rfl⟩
    rw [rng_len]
    exact hq

theorem ok_words {f : Addr} {fd : FuncData} (F : Fun K "words" "words" s_words f fd)  (m_range : mg "range" = none) (g_ADDED : GlD K mg "ADDED" (.int 1442695040888963407)) (g_FACTOR : GlD K mg "FACTOR" (.int 6364136223846793005)) (g_HALF : GlD K mg "HALF" (.int 4294967296)) (g_STATES : GlD K mg "STATES" (.int 18446744073709551616)) : FnOk P w K mg base CX0 1 f fd ["seed", "number"] (SpD K okH 2 M_words) :=
  def_ok F sc_words rfl (fun cdv A outer s H E hr =>
 (s_cons (s_setO 2 sc_words.nd (l_lst a_nil))
 (s_cons (s_set 3 sc_words.nd (d_var 0))
 (s_cons (s_for (vs := [4]) PassesOwn.never rfl (i_r1 m_range (d_var 1)) (g_name 4 sc_words.nd)
 (s_cons (s_set 3 sc_words.nd (d_mod (d_add (d_mul (d_var 3) (d_gl g_FACTOR)) (d_gl g_ADDED)) (d_gl g_STATES)))
 (s_one (s_app 2 (d_div (d_var 3) (d_gl g_HALF))))))
 (s_one (s_retV 2)))))) mf_words
/-! ### drawn_number -/
abbrev s_drawn_number : Stmt := topS 6
theorem sc_drawn_number : FnScope ["p", "three"] ["p", "three"] (defScope s_drawn_number) := ⟨rfl, rfl, rfl, by decide +kernel, rfl, by decide +kernel, by decide +kernel⟩
def M_drawn_number : WM := fun as Q => ∃ (p a b c : Int) (r : List D), as = [.v (.int p), .v (.list (.int a :: .int b :: .int c :: r))] ∧ 0 < p ∧ Q (.v (.int (((a * 4294967296 + b) * 4294967296 + c) % p)))

def w_drawn_number : WS := (wRet (wBin fMod (wBin fAdd (wBin fMul (wBin fAdd (wBin fMul (wIx (wVar 1) (wC (.int 0))) (wC (.int 4294967296))) (wIx (wVar 1) (wC (.int 1)))) (wC (.int 4294967296))) (wIx (wVar 1) (wC (.int 2)))) (wVar 0)))
theorem mf_drawn_number : ∀ as Q, as.length = 2 → M_drawn_number as Q → w_drawn_number { nx := fun _ => Q (.v .none), rt := Q } (stE as 0) := by
  rintro as Q _ ⟨p, a, b, c, r, rfl, p0, hq⟩
  have h (i : Nat) (v : D) (e : (.int a :: .int b :: .int c :: r : List D)[i]? = some v) := atI_nat e
  exact ⟨_, h 0 _ rfl, .inr ⟨by decide, by decide⟩, _, h 1 _ rfl, .inr ⟨by decide, by decide⟩, _, h 2 _ rfl, p0, hq⟩

theorem ok_drawn_number {f : Addr} {fd : FuncData} (F : Fun K "drawn_number" "drawn_number" s_drawn_number f fd)   (g_HALF : GlD K mg "HALF" (.int 4294967296)) : FnOk P w K mg base CX0 1 f fd ["p", "three"] (SpD K okH 2 M_drawn_number) :=
  def_ok F sc_drawn_number rfl (fun cdv A outer s H E hr =>
 (s_one (s_ret (d_mod (d_add (d_mul (d_add (d_mul (d_ix (d_b (d_var 1)) d_int) (d_gl g_HALF)) (d_ix (d_b (d_var 1)) d_int)) (d_gl g_HALF)) (d_ix (d_b (d_var 1)) d_int)) (d_var 0))))) mf_drawn_number
/-! ### drawn_pair -/
abbrev s_drawn_pair : Stmt := topS 7
theorem sc_drawn_pair : FnScope ["p", "seed", "index", "row"] ["p", "seed", "index"] (defScope s_drawn_pair) := ⟨rfl, rfl, rfl, by decide +kernel, rfl, by decide +kernel, by decide +kernel⟩
def drawnN (p s : Int) (k : Nat) : Int := ((word s k * 4294967296 + word s (k + 1)) * 4294967296 + word s (k + 2)) % p
def M_drawn_pair : WM := fun as Q => ∃ p s j : Int, as = [.v (.int p), .v (.int s), .v (.int j)] ∧ 0 < p ∧ 0 ≤ j ∧ j < 100 ∧ Q (.v (.tuple [.int (drawnN p s (6 * j.toNat)), .int (drawnN p s (6 * j.toNat + 3))]))

def w_drawn_pair : WS := (wSeq (wSet 3 (wFz (wSlL (wFz (wCallOP 2 M_words (wCons (wVar 1) (wCons (wBin fAdd (wBin fMul (wC (.int 6)) (wVar 2)) (wC (.int 6))) wNil)))) (woS (wBin fMul (wC (.int 6)) (wVar 2))) woN)))
 (wRet (wTupP (wCons (wCallP 2 M_drawn_number (wCons (wVar 0) (wCons (wFz (wSlL (wVar 3) woN (woS (wC (.int 3))))) wNil))) (wCons (wCallP 2 M_drawn_number (wCons (wVar 0) (wCons (wFz (wSlL (wVar 3) (woS (wC (.int 3))) woN)) wNil))) wNil)))))
theorem mf_drawn_pair : ∀ as Q, as.length = 3 → M_drawn_pair as Q → w_drawn_pair { nx := fun _ => Q (.v .none), rt := Q } (stE as 1) := by
  rintro as Q _ ⟨p, s, j, rfl, p0, j0, j1, hq⟩
  obtain ⟨n, rfl⟩ : ∃ n : Nat, j = n := ⟨j.toNat, by omega⟩
  refine ⟨.inr ⟨by omega, by omega⟩, rfl, rfl, _, _, rfl, by omega, by omega, ⟨.inr ⟨by omega, by omega⟩, ?_⟩⟩
  have e : cutD (dints (tab (6 * (n : Int) + 6).toNat (word s))) (some (6 * (n : Int))) none = dints (tab 6 fun i => word s (6 * n + i)) := by
    have := cut_lo (dints (tab (6 * (n : Int) + 6).toNat (word s))) (6 * n)
    rw [show ((6 * n : Nat) : Int) = 6 * (n : Int) by omega] at this
    rw [this, tab_drop (by omega), show (6 * (n : Int) + 6).toNat - 6 * n = 6 by omega]
  conv => whnf
  rw [e]
  refine ⟨rfl, rfl, p, _, _, _, _, rfl, p0, rfl, rfl, p, _, _, _, _, rfl, p0, rfl, lk rfl, ?_⟩
  rw [Int.toNat_natCast] at hq
  exact hq

theorem ok_drawn_pair {f : Addr} {fd : FuncData} (F : Fun K "drawn_pair" "drawn_pair" s_drawn_pair f fd) (h_words : Has P w K mg base okH 1 "words" 2 M_words) (h_drawn_number : Has P w K mg base okH 1 "drawn_number" 2 M_drawn_number)   : FnOk P w K mg base CX0 2 f fd ["p", "seed", "index"] (SpD K okH 3 M_drawn_pair) :=
  def_ok F sc_drawn_pair rfl (fun cdv A outer s H E hr =>
 (s_cons (s_set 3 sc_drawn_pair.nd (d_fz (l_sl (d_b (d_fz (l_call h_words hr (by decide) (a_cons (d_var 1) (a_cons (d_add (d_mul d_int (d_var 2)) d_int) a_nil))))) (o_s (d_mul d_int (d_var 2))) o_n)))
 (s_one (s_ret (d_tup (a_cons (d_call h_drawn_number hr (by decide) (a_cons (d_var 0) (a_cons (d_fz (l_sl (d_b (d_var 3)) o_n (o_s d_int))) a_nil))) (a_cons (d_call h_drawn_number hr (by decide) (a_cons (d_var 0) (a_cons (d_fz (l_sl (d_b (d_var 3)) (o_s d_int) o_n)) a_nil))) a_nil))))))) mf_drawn_pair
/-! ### _law_wide -/
abbrev s__law_wide : Stmt := topS 9
theorem sc__law_wide : FnScope ["script", "k", "cell", "mixed"] ["script", "k"] (defScope s__law_wide) := ⟨rfl, rfl, rfl, by decide +kernel, rfl, by decide +kernel, by decide +kernel⟩
abbrev M__law_wide : WM := M_wide

def w__law_wide : WS := (wSeq (wSet 2 (wC (.int 0)))
 (wSeq (wIf (wTest (wBin fLt (wVar 1) (wLen (wVar 0))))
 (wSet 2 (wUn fAbs (wIx (wVar 0) (wVar 1))))
 wNx)
 (wSeq (wIf (wTest (wBin fGe (wVar 2) (wC (.int 1000000000000000000))))
 (wRet (wVar 2))
 wNx)
 (wSeq (wSet 3 (wBin fMod (wUn fInt (wBin fAdd (wBin fMul (wBin fAdd (wVar 2) (wC (.int 1))) (wC (.int 6364136223846793005))) (wBin fMul (wBin fAdd (wVar 1) (wC (.int 1))) (wC (.int 1442695040888963407))))) (wC (.int 2305843009213693951))))
 (wRet (wBin fMod (wUn fInt (wBin fAdd (wBin fMul (wVar 3) (wC (.int 3202034522624059733))) (wBin fDiv (wVar 3) (wC (.int 1000003))))) (wC (.int 2305843009213693951))))))))
theorem mf__law_wide : ∀ as Q, as.length = 2 → M__law_wide as Q → w__law_wide { nx := fun _ => Q (.v .none), rt := Q } (stE as 2) := by
  rintro as Q _ ⟨ns, k, rfl, k0, hq⟩
  have next : ∀ cell : Int, ∃ (c : Int → Prop), True := fun _ => ⟨fun _ => True, trivial⟩
  have h0 : (0 : Int) < 2305843009213693951 := by decide
  refine ⟨fun h => ?_, fun h => ?_⟩
  · have hk : k < (dints ns).length := of_decide_eq_true h
    rw [List.length_map] at hk
    obtain ⟨v, hv, _⟩ := atI_ints k0 hk
    refine ⟨_, hv, ⟨fun _ => hq _, fun _ => ?_⟩⟩
    refine ⟨.inr ⟨by decide, by decide⟩, .inr ⟨by decide, by decide⟩, h0, .inr ⟨by decide, by decide⟩, div200 (by decide) (by decide) _, h0, hq _⟩
  · refine ⟨fun _ => hq _, fun _ => ?_⟩
    refine ⟨.inr ⟨by decide, by decide⟩, .inr ⟨by decide, by decide⟩, h0, .inr ⟨by decide, by decide⟩, div200 (by decide) (by decide) _, h0, hq _⟩

theorem ok__law_wide {f : Addr} {fd : FuncData} (F : Fun K "_law_wide" "_law_wide" s__law_wide f fd)  (m_abs : mg "abs" = none) (m_int : mg "int" = none) (m_len : mg "len" = none)  : FnOk P w K mg base CX0 1 f fd ["script", "k"] (SpD K okH 2 M__law_wide) :=
  def_ok F sc__law_wide rfl (fun cdv A outer s H E hr =>
 (s_cons (s_set 2 sc__law_wide.nd d_int)
 (s_cons (s_if (t_lt (d_var 1) (d_len m_len (d_b (d_var 0))))
 (s_one (s_set 2 sc__law_wide.nd (d_abs m_abs (d_ix (d_b (d_var 0)) (d_var 1)))))
 s_nil)
 (s_cons (s_if (t_ge (d_var 2) d_int)
 (s_one (s_ret (d_var 2)))
 s_nil)
 (s_cons (s_set 3 sc__law_wide.nd (d_mod (d_intc m_int (d_add (d_mul (d_add (d_var 2) d_int) d_int) (d_mul (d_add (d_var 1) d_int) d_int))) d_int))
 (s_one (s_ret (d_mod (d_intc m_int (d_add (d_mul (d_var 3) d_int) (d_div (d_var 3) d_int))) d_int)))))))) mf__law_wide
/-! ### _law_take -/
abbrev s__law_take : Stmt := topS 10
theorem sc__law_take : FnScope ["pool", "most", "taken"] ["pool", "most"] (defScope s__law_take) := ⟨rfl, rfl, rfl, by decide +kernel, rfl, by decide +kernel, by decide +kernel⟩
abbrev M__law_take : WM := DL.M_take
theorem ok__law_take {f : Addr} {fd : FuncData} (F : Fun K "_law_take" "_law_take" s__law_take f fd) (h__law_wide : Has P w K mg base okH 1 "_law_wide" 2 M__law_wide) (m_int : mg "int" = none) : FnOk P w K mg base CX0 2 f fd ["pool", "most"] (SpD K okH 2 M__law_take) := take_ok F sc__law_take (fun cdv A outer s H E hr => (pss_cons (ps_if (pt_cmpR op_lt (pe_ix ix_seq (pv 0) pe_int (fun _ _ => rfl)) pe_int (nomark _)) (pss_cons (ps_asg (pe_op op_add (pe_ix ix_seq (pv 0) pe_int (fun _ _ => rfl)) pe_int) (pg_sub (pv 0) pe_int set_list)) (pss_one (ps_asg (pe_has h__law_wide hr (by decide) (pa_cons (pe_ix ix_seq (pv 0) pe_int (fun _ _ => rfl)) (pa_cons (pe_ix ix_seq (pv 0) pe_int (fun _ _ => rfl)) pa_nil))) (pg_sub (pv 0) pe_int set_list)))) pss_nil) (pss_cons (ps_set (i := 2) sc__law_take.nd rfl (Or.inl rfl) (pe_op op_mod (pe_callTy call_int1 (by rfl) m_int (by decide +kernel) (pa_cons (pe_ix ix_seq (pv 0) pe_int (fun _ _ => rfl)) pa_nil)) (pv 1))) (pss_cons (ps_asg (pe_op op_fdivW (pe_ix ix_seq (pv 0) pe_int (fun _ _ => rfl)) (pv 1)) (pg_sub (pv 0) pe_int set_list)) (pss_one (ps_ret (pv 2)))))))
/-! ### _law_pool -/
abbrev s__law_pool : Stmt := topS 11
theorem sc__law_pool : FnScope ["script"] ["script"] (defScope s__law_pool) := ⟨rfl, rfl, rfl, by decide +kernel, rfl, by decide +kernel, by decide +kernel⟩
abbrev M__law_pool : WM := M_pool

def w__law_pool : WS := (wRetO (wLstP (wCons (wC (.int 0)) (wCons (wFz (wListOf (wVar 0))) (wCons (wUn fNeg (wC (.int 1))) wNil)))))
theorem mf__law_pool : ∀ as Q, as.length = 1 → M__law_pool as Q → w__law_pool { nx := fun _ => Q (.v .none), rt := Q } (stE as 0) := by
  rintro as Q _ ⟨ns, rfl, hq⟩
  exact ⟨rfl, lk rfl, hq⟩

theorem ok__law_pool {f : Addr} {fd : FuncData} (F : Fun K "_law_pool" "_law_pool" s__law_pool f fd)  (m_list : mg "list" = none)  : FnOk P w K mg base CX0 1 f fd ["script"] (SpD K okH 1 M__law_pool) :=
  def_ok F sc__law_pool rfl (fun cdv A outer s H E hr =>
 (s_one (s_retO (l_lst (a_cons d_int (a_cons (d_fz (l_listOf m_list (d_b (d_var 0)))) (a_cons (d_neg d_int) a_nil))))))) mf__law_pool
/-! ### _law_mod -/
abbrev s__law_mod : Stmt := topS 12
theorem sc__law_mod : FnScope ["x", "p"] ["x", "p"] (defScope s__law_mod) := ⟨rfl, rfl, rfl, by decide +kernel, rfl, by decide +kernel, by decide +kernel⟩
/-- _law_mod(x, p) -/
def M__law_mod : WM := fun as Q => ∃ x p : Int, as = [.v (.int x), .v (.int p)] ∧ 0 < p ∧ Q (.v (.int (x % p)))

def w__law_mod : WS := (wRet (wBin fMod (wUn fInt (wVar 0)) (wVar 1)))
theorem mf__law_mod : ∀ as Q, as.length = 2 → M__law_mod as Q → w__law_mod { nx := fun _ => Q (.v .none), rt := Q } (stE as 0) := by
  rintro as Q _ ⟨x, p, rfl, p0, hq⟩
  exact ⟨p0, hq⟩

theorem ok__law_mod {f : Addr} {fd : FuncData} (F : Fun K "_law_mod" "_law_mod" s__law_mod f fd)  (m_int : mg "int" = none)  : FnOk P w K mg base CX0 1 f fd ["x", "p"] (SpD K okH 2 M__law_mod) :=
  def_ok F sc__law_mod rfl (fun cdv A outer s H E hr =>
 (s_one (s_ret (d_mod (d_intc m_int (d_var 0)) (d_var 1))))) mf__law_mod
/-! ### _law_prime_from -/
abbrev s__law_prime_from : Stmt := topS 13
theorem sc__law_prime_from : FnScope ["number", "candidate", "divided", "d"] ["number"] (defScope s__law_prime_from) := ⟨rfl, rfl, rfl, by decide +kernel, rfl, by decide +kernel, by decide +kernel⟩
/-- _law_prime_from(n): a prime -/
def M__law_prime_from : WM := fun as Q => ∃ n : Int, as = [.v (.int n)] ∧ 5 ≤ n ∧ n + 600 ≤ 160000 ∧ ∀ c : Int, MB.PrimeI c → 5 ≤ c → c < n + 600 → Q (.v (.int c))

def w__law_prime_from : WS := (wSeq (wFor (iR2 (wVar 0) (wBin fAdd (wVar 0) (wC (.int 600)))) (gN 1)
 (wSeq (wSet 2 (wC (.bool false)))
 (wSeq (wFor (iR2 (wC (.int 2)) (wC (.int 400))) (gN 3)
 (wIf (wAndD (wTest (wBin fLe (wBin fMul (wVar 3) (wVar 3)) (wVar 1))) (wTest (wBin fEq (wCallP 2 M__law_mod (wCons (wVar 1) (wCons (wVar 3) wNil))) (wC (.int 0)))))
 (wSeq (wSet 2 (wC (.bool true)))
 wBk)
 wNx))
 (wIf (wNot (wTest (wVar 2)))
 (wRet (wVar 1))
 wNx))))
 (wRet (wC (.int 5))))
theorem mf__law_prime_from : ∀ as Q, as.length = 1 → M__law_prime_from as Q → w__law_prime_from { nx := fun _ => Q (.v .none), rt := Q } (stE as 3) := by
  rintro as Q _ ⟨n, rfl, n0, n1, hq⟩
  refine ⟨⟨by omega, by omega, by omega, by omega⟩, fun k env => ∃ t1 t2 t3, env = [some (.v (.int n)), t1, t2, t3], ⟨_, _, _, rfl⟩, ?_, ?_⟩
  · rintro i d env hd ⟨t1, t2, t3, rfl⟩
    obtain ⟨hi, rfl⟩ := rng_at hd
    obtain ⟨c, hc⟩ : ∃ c, c = n + (i : Int) := ⟨_, rfl⟩
    rw [← hc]
    refine ⟨⟨by decide, by decide, by decide, by decide⟩, fun k env => ∃ t3, env = [some (.v (.int n)), some (.v (.int c)), some (.v (.bool false)), t3] ∧ ∀ d : Int, 2 ≤ d → d < 2 + (k : Int) → d * d ≤ c → c % d ≠ 0, ⟨_, rfl, fun d _ _ => by omega⟩, ?_, ?_⟩
    · rintro j e env he ⟨t3, rfl, ht⟩
      obtain ⟨hj, rfl⟩ := rng_at he
      have dp : (0 : Int) < 2 + (j : Int) := by omega
      refine ⟨.inl ⟨by omega, by omega⟩, decide (c % (2 + (j : Int)) = 0), fun h => ⟨rfl, rfl, _, _, rfl, dp, rfl⟩, fun h => ?_, fun h => ?_⟩
      · exact wfalse ⟨_, _, _, rfl⟩
      · refine ⟨_, rfl, fun d d2 d3 d4 d5 => ?_⟩
        by_cases hd : d = 2 + (j : Int)
        · subst hd
          have h' : (decide ((2 + (j : Int)) * (2 + (j : Int)) ≤ c) && decide (c % (2 + (j : Int)) = 0)) = false := h
          rw [decide_eq_true d4, decide_eq_true d5] at h'
          cases h'
        · exact ht d d2 (by omega) d4 d5
    · rintro env ⟨t3, rfl, ht⟩
      rw [rng_len] at ht
      exact wtrue (hq c (MB.prime_of_trial 400 (by omega) (by omega) (by decide) fun d d2 d3 => ht d d2 (by omega)) (by omega) (by omega))
  · rintro env ⟨t1, t2, t3, rfl⟩
    exact hq 5 (MB.prime_of_trial 3 (by decide) (by decide) (by decide) fun d d2 d3 _ => by
      have : d = 2 := by omega
      subst this
      decide) (by decide) (by omega)

theorem ok__law_prime_from {f : Addr} {fd : FuncData} (F : Fun K "_law_prime_from" "_law_prime_from" s__law_prime_from f fd) (h__law_mod : Has P w K mg base okH 1 "_law_mod" 2 M__law_mod) (m_range : mg "range" = none)  : FnOk P w K mg base CX0 2 f fd ["number"] (SpD K okH 1 M__law_prime_from) :=
  def_ok F sc__law_prime_from rfl (fun cdv A outer s H E hr =>
 (s_cons (s_for (vs := [1]) PassesOwn.never rfl (i_r2 m_range (d_var 0) (d_add (d_var 0) d_int)) (g_name 1 sc__law_prime_from.nd)
 (s_cons (s_set 2 sc__law_prime_from.nd d_bl)
 (s_cons (s_for (vs := [3]) PassesOwn.never rfl (i_r2 m_range d_int d_int) (g_name 3 sc__law_prime_from.nd)
 (s_one (s_if (t_w (w_and (t_le (d_mul (d_var 3) (d_var 3)) (d_var 1)) (w_and1 (t_eq hr (d_call h__law_mod hr (by decide) (a_cons (d_var 1) (a_cons (d_var 3) a_nil))) d_int))))
 (s_cons (s_set 2 sc__law_prime_from.nd d_bl)
 (s_one s_break))
 s_nil)))
 (s_one (s_if (t_not (t_val (d_var 2)))
 (s_one (s_ret (d_var 1)))
 s_nil)))))
 (s_one (s_ret d_int)))) mf__law_prime_from
/-! ### _law_prime -/
abbrev s__law_prime : Stmt := topS 14
theorem sc__law_prime : FnScope ["pool", "most"] ["pool", "most"] (defScope s__law_prime) := ⟨rfl, rfl, rfl, by decide +kernel, rfl, by decide +kernel, by decide +kernel⟩
/-- _law_prime(pool, m): a prime -/
def M__law_prime : WM := fun as Q => ∃ m : Int, as = [.hnd, .v (.int m)] ∧ 5 < m ∧ m < 150000 ∧ ∀ c : Int, MB.PrimeI c → 5 ≤ c → c < m + 600 → Q (.v (.int c))

def w__law_prime : WS := (wRet (wCallP 1 M__law_prime_from (wCons (wBin fAdd (wC (.int 5)) (wCallP 2 M__law_take (wConsH 0 (wCons (wBin fSub (wVar 1) (wC (.int 5))) wNil)))) wNil)))
theorem mf__law_prime : ∀ as Q, as.length = 2 → M__law_prime as Q → w__law_prime { nx := fun _ => Q (.v .none), rt := Q } (stE as 0) := by
  rintro as Q _ ⟨m, rfl, n0, n1, hq⟩
  refine tk (by omega) (by omega) fun r r0 r1 => ⟨rfl, rfl, _, rfl, by omega, by omega, fun c c0 c1 c2 => hq c c0 c1 (by omega)⟩

theorem ok__law_prime {f : Addr} {fd : FuncData} (F : Fun K "_law_prime" "_law_prime" s__law_prime f fd) (h__law_prime_from : Has P w K mg base okH 2 "_law_prime_from" 1 M__law_prime_from) (h__law_take : Has P w K mg base okH 2 "_law_take" 2 M__law_take)   : FnOk P w K mg base CX0 3 f fd ["pool", "most"] (SpD K okH 2 M__law_prime) :=
  def_ok F sc__law_prime rfl (fun cdv A outer s H E hr =>
 (s_one (s_ret (d_call h__law_prime_from hr (by decide) (a_cons (d_add d_int (d_call h__law_take hr (by decide) (a_hnd 0 (a_cons (d_sub (d_var 1) d_int) a_nil)))) a_nil))))) mf__law_prime
/-! ### law -/
abbrev s_law : Stmt := topS 18
theorem sc_law : FnScope ["script", "pool", "seed", "states", "k", "row", "state", "count", "p", "index", "numbers", "start"] ["script"] (defScope s_law) := ⟨rfl, rfl, rfl, by decide +kernel, rfl, by decide +kernel, by decide +kernel⟩

def w_law : WS := (wSeq (wSetH okH 1 (wCallOP 1 M__law_pool (wCons (wVar 0) wNil)))
 (wSeq (wSet 2 (wIx (wFz (wLstP (wCons (wC (.int 0)) (wCons (wC (.int 18446744073709551615)) (wCons (wCallP 2 M__law_take (wConsH 1 (wCons (wC (.int 18446744073709551616)) wNil))) (wCons (wCallP 2 M__law_take (wConsH 1 (wCons (wC (.int 99)) wNil))) wNil)))))) (wCallP 2 M__law_take (wConsH 1 (wCons (wC (.int 4)) wNil)))))
 (wSeq (wSetO 3 (wLstP (wCons (wVar 2) wNil)))
 (wSeq (wFor (iR1 (wC (.int 366))) (gN 4)
 (wApp 3 (wCallP 2 M__law_mod (wCons (wBin fAdd (wBin fMul (wIx (wBor 3) (wVar 4)) (wC (.int 6364136223846793005))) (wC (.int 1442695040888963407))) (wCons (wC (.int 18446744073709551616)) wNil)))))
 (wSeq (wSetF 5 (wLc (iL (wFz (wSlL (wBor 3) (woS (wC (.int 1))) woN))) (gN 6) wYes (wBin fDiv (wVar 6) (wC (.int 4294967296))) [6]))
 (wSeq (wSet 7 (wCallP 2 M__law_take (wConsH 1 (wCons (wIx (wFz (wLstP (wCons (wC (.int 21)) (wCons (wC (.int 367)) wNil)))) (wCallP 2 M__law_take (wConsH 1 (wCons (wC (.int 2)) wNil)))) wNil))))
 (wSeq (wIf (wTest (wBin fNe (wFz (wCallOP 2 M_words (wCons (wVar 2) (wCons (wVar 7) wNil)))) (wFz (wSlL (wVar 5) woN (woS (wVar 7))))))
 (wRet (wC (.bool false)))
 wNx)
 (wSeq (wSet 8 (wIx (wFz (wLstP (wCons (wCallP 2 M__law_prime (wConsH 1 (wCons (wC (.int 5000)) wNil))) (wCons (wC (.int 1000000007)) wNil)))) (wCallP 2 M__law_take (wConsH 1 (wCons (wC (.int 2)) wNil)))))
 (wSeq (wSet 9 (wCallP 2 M__law_take (wConsH 1 (wCons (wIx (wFz (wLstP (wCons (wC (.int 6)) (wCons (wC (.int 61)) wNil)))) (wCallP 2 M__law_take (wConsH 1 (wCons (wC (.int 2)) wNil)))) wNil))))
 (wSeq (wSetO 10 (wLstP wNil))
 (wSeq (wFor (iL (wFz (wLstP (wCons (wBin fMul (wC (.int 6)) (wVar 9)) (wCons (wBin fAdd (wBin fMul (wC (.int 6)) (wVar 9)) (wC (.int 3))) wNil))))) (gN 11)
 (wApp 10 (wCallP 2 M__law_mod (wCons (wBin fAdd (wBin fAdd (wBin fMul (wIx (wVar 5) (wVar 11)) (wC (.int 18446744073709551616))) (wBin fMul (wIx (wVar 5) (wBin fAdd (wVar 11) (wC (.int 1)))) (wC (.int 4294967296)))) (wIx (wVar 5) (wBin fAdd (wVar 11) (wC (.int 2))))) (wCons (wVar 8) wNil)))))
 (wRet (wBin fEq (wCallP 3 M_drawn_pair (wCons (wVar 8) (wCons (wVar 2) (wCons (wVar 9) wNil)))) (wTupP (wCons (wIx (wBor 10) (wC (.int 0))) (wCons (wIx (wBor 10) (wC (.int 1))) wNil))))))))))))))))
theorem mf_law : ∀ as Q, as.length = 1 → M_law as Q → w_law { nx := fun _ => Q (.v .none), rt := Q } (stE as 11) := by
  rintro as Q _ ⟨ns, rfl, hns, hq⟩
  refine ⟨rfl, rfl, ns, rfl, ⟨0, ns, -1, rfl, by decide⟩, ?_⟩
  refine tk (by decide) (by decide) fun r1 _ _ => tk (by decide) (by decide) fun r2 _ _ => ⟨rfl, lk rfl, tk (by decide) (by decide) fun r3 r30 r31 => ?_⟩
  obtain ⟨s, es⟩ : ∃ s : Int, atI [PyData.int 0, PyData.int 18446744073709551615, PyData.int r1, PyData.int r2] r3 = some (.int s) := by
    have : r3 = 0 ∨ r3 = 1 ∨ r3 = 2 ∨ r3 = 3 := by omega
    rcases this with rfl | rfl | rfl | rfl <;> exact ⟨_, rfl⟩
  refine ⟨_, es, ⟨rfl, lk rfl, ⟨by decide, by decide⟩, fun k env => ∃ t, env = [some (.v (scr ns)), some .hnd, some (.v (.int s)), some (.own (dints (tab (k + 1) (lcg s)))), t, none, none, none, none, none, none, none], ⟨_, rfl⟩, ?_, ?_⟩⟩
  · rintro i d env hd ⟨t, rfl⟩
    obtain ⟨hi, rfl⟩ := rng_at hd
    refine ⟨_, tab_atI (i := i) (by omega) (by omega), .inr ⟨by decide, by decide⟩, rfl, rfl, _, _, rfl, by decide, ?_, some (.v (.int (0 + (i : Int)))), ?_⟩
    · rw [dtab_len]; omega
    · rw [tab_succ (i + 1)]
      rfl
  rintro env ⟨t, rfl⟩
  rw [rng_len, show Int.toNat 366 = 366 from rfl]
  have e : cutD (dints (tab (366 + 1) (lcg s))) (some 1) none = dints (tab 366 fun i => lcg s (i + 1)) := by
    have := cut_lo (dints (tab (366 + 1) (lcg s))) 1
    rw [show ((1 : Nat) : Int) = 1 from rfl] at this
    rw [this, tab_drop (by omega)]
    congr 3
    funext i
    rw [Nat.add_comm]
  have l366 : (dints (tab 366 fun i => lcg s (i + 1))).length = 366 := dtab_len _ _
  conv => whnf
  rw [e]
  refine ⟨by rw [l366]; decide, rfl, fun k acc => acc = dints (tab k (word s)), rfl, fun i d acc hd ha => ?_, fun acc ha => ?_⟩
  · obtain ⟨hi, rfl⟩ := tab_at hd
    refine wtrue ⟨div200 (by decide) (by decide) _, ?_⟩
    show acc ++ _ = _
    rw [ha, tab_succ]
    rfl
  rw [l366] at ha
  subst ha
  refine ⟨rfl, lk rfl, tk (by decide) (by decide) fun r4 r40 r41 => ?_⟩
  obtain ⟨m, em, m0, m1⟩ : ∃ m : Int, atI [PyData.int 21, PyData.int 367] r4 = some (.int m) ∧ 0 < m ∧ m ≤ 367 := by
    have : r4 = 0 ∨ r4 = 1 := by omega
    rcases this with rfl | rfl
    · exact ⟨_, rfl, by decide, by decide⟩
    · exact ⟨_, rfl, by decide, by decide⟩
  refine ⟨_, em, tk m0 (by omega) fun c c0 c1 => ?_⟩
  obtain ⟨n, rfl⟩ : ∃ n : Nat, c = n := ⟨c.toNat, by omega⟩
  refine ⟨rfl, rfl, _, _, rfl, c0, by omega, ?_⟩
  have e2 : cutD (dints (tab 366 (word s))) none (some (n : Int)) = dints (tab (n : Int).toNat (word s)) := by
    rw [cut_hi, tab_take (by omega), Int.toNat_natCast]
  conv => whnf
  rw [e2]
  refine ⟨shp (pl_dlist 0 _), shp (pl_dlist 0 _), same (pl_dlist 0 _) rfl ?_⟩
  refine ⟨rfl, rfl, _, rfl, by decide, by decide, fun c cp c5 c6 => ⟨rfl, lk rfl, tk (by decide) (by decide) fun r5 r50 r51 => ?_⟩⟩
  obtain ⟨p, ep, p0⟩ : ∃ p : Int, atI [PyData.int c, PyData.int 1000000007] r5 = some (.int p) ∧ 0 < p := by
    have : r5 = 0 ∨ r5 = 1 := by omega
    rcases this with rfl | rfl
    · exact ⟨_, rfl, by omega⟩
    · exact ⟨_, rfl, by decide⟩
  refine ⟨_, ep, rfl, lk rfl, tk (by decide) (by decide) fun r6 r60 r61 => ?_⟩
  obtain ⟨q, eq, q0, q1⟩ : ∃ q : Int, atI [PyData.int 6, PyData.int 61] r6 = some (.int q) ∧ 0 < q ∧ q ≤ 61 := by
    have : r6 = 0 ∨ r6 = 1 := by omega
    rcases this with rfl | rfl
    · exact ⟨_, rfl, by decide, by decide⟩
    · exact ⟨_, rfl, by decide, by decide⟩
  refine ⟨_, eq, tk q0 (by omega) fun j0 j00 j01 => ?_⟩
  obtain ⟨j, rfl⟩ : ∃ j : Nat, j0 = j := ⟨j0.toNat, by omega⟩
  let nums : List D := [.int (drawnN p s (6 * j)), .int (drawnN p s (6 * j + 3))]
  have word_lt : ∀ k, 0 ≤ word s k ∧ word s k < 4294967296 := fun k => by
    have h1 : 0 ≤ lcg s (k + 1) := Int.emod_nonneg _ (by decide)
    have h2 : lcg s (k + 1) < 18446744073709551616 := Int.emod_lt_of_pos _ (by decide)
    unfold word
    omega
  refine ⟨rfl, lk rfl, .inr ⟨by omega, by omega⟩, .inr ⟨by omega, by omega⟩, rfl, lk rfl, fun k env => ∃ u, env = [some (.v (scr ns)), some .hnd, some (.v (.int s)), some (.own (dints (tab (366 + 1) (lcg s)))), t, some (.v (.list (dints (tab 366 (word s))))), none, some (.v (.int n)), some (.v (.int p)), some (.v (.int j)), some (.own (nums.take k)), u], ?_, ?_, ?_⟩
  · exact ⟨_, rfl⟩
  · have at3 : ∀ (a : Nat) (z : Int), z = a → a < 366 → atI (dints (tab 366 (word s))) z = some (.int (word s a)) := fun a z hz h => tab_atI hz h
    have one : ∀ (a : Nat) (z : Int) (m : Nat) (u : Option Sl), z = (a : Int) → a + 2 < 366 → nums.take m ++ [PyData.int (drawnN p s a)] = nums.take (m + 1) → (nums.take m).length < 1000000 →
        (wApp 10 (wCallP 2 M__law_mod (wCons (wBin fAdd (wBin fAdd (wBin fMul (wIx (wBor 5) (wVar 11)) (wC (.int 18446744073709551616))) (wBin fMul (wIx (wBor 5) (wBin fAdd (wVar 11) (wC (.int 1)))) (wC (.int 4294967296)))) (wIx (wBor 5) (wBin fAdd (wVar 11) (wC (.int 2))))) (wCons (wVar 8) wNil)))) { nx := fun env => ∃ u, env = [some (.v (scr ns)), some .hnd, some (.v (.int s)), some (.own (dints (tab (366 + 1) (lcg s)))), t, some (.v (.list (dints (tab 366 (word s))))), none, some (.v (.int n)), some (.v (.int p)), some (.v (.int j)), some (.own (nums.take (m + 1))), u], rt := Q } [some (.v (scr ns)), some .hnd, some (.v (.int s)), some (.own (dints (tab (366 + 1) (lcg s)))), t, some (.v (.list (dints (tab 366 (word s))))), none, some (.v (.int n)), some (.v (.int p)), some (.v (.int j)), some (.own (nums.take m)), some (.v (.int z))] := by
      intro a z m u hz ha hn hl
      have w0 := word_lt a
      refine ⟨_, at3 a z hz (by omega), .inl ⟨by omega, by omega⟩, _, at3 (a + 1) (z + 1) (by omega) (by omega), .inr ⟨by decide, by decide⟩, _, at3 (a + 2) (z + 2) (by omega) (by omega), rfl, rfl, _, _, rfl, p0, hl, some (.v (.int z)), ?_⟩
      rw [← hn]
      have e : word s a * 18446744073709551616 + word s (a + 1) * 4294967296 + word s (a + 2) = (word s a * 4294967296 + word s (a + 1)) * 4294967296 + word s (a + 2) := by omega
      unfold drawnN
      rw [← e]
      rfl
    rintro i d env hd ⟨u, rfl⟩
    match i, hd with
    | 0, hd =>
      cases hd
      exact one (6 * j) _ 0 none (by omega) (by omega) rfl (by show 0 < 1000000; decide)
    | 1, hd =>
      cases hd
      exact one (6 * j + 3) _ 1 none (by omega) (by omega) rfl (by show 1 < 1000000; decide)
  · rintro env ⟨u, rfl⟩
    refine ⟨rfl, rfl, p, s, j, rfl, p0, by omega, by omega, _, rfl, _, rfl, rfl, lk rfl, ?_⟩
    rw [Int.toNat_natCast]
    refine ⟨shp (pl_dtup 0 [_, _]), shp (pl_dtup 0 [_, _]), ?_⟩
    have z := eqv_self (pl_dtup 0 [drawnN p s (6 * j), drawnN p s (6 * j + 3)])
    show Q (.v (.bool (PyData.eqv (.tuple (dints [drawnN p s (6 * j), drawnN p s (6 * j + 3)])) (.tuple (dints [drawnN p s (6 * j), drawnN p s (6 * j + 3)])))))
    rw [z]
    exact hq

theorem ok_law {f : Addr} {fd : FuncData} (F : Fun K "law" "law" s_law f fd) (h__law_pool : Has P w K mg base okH 1 "_law_pool" 1 M__law_pool) (h__law_take : Has P w K mg base okH 2 "_law_take" 2 M__law_take) (h__law_mod : Has P w K mg base okH 1 "_law_mod" 2 M__law_mod) (h_words : Has P w K mg base okH 1 "words" 2 M_words) (h__law_prime : Has P w K mg base okH 3 "_law_prime" 2 M__law_prime) (h_drawn_pair : Has P w K mg base okH 2 "drawn_pair" 3 M_drawn_pair) (m_range : mg "range" = none)  : FnOk P w K mg base CX0 4 f fd ["script"] (SpD K okH 1 M_law) :=
  def_ok F sc_law rfl (fun cdv A outer s H E hr =>
 (s_cons (s_setH 1 sc_law.nd (l_call h__law_pool hr (by decide) (a_cons (d_var 0) a_nil)))
 (s_cons (s_set 2 sc_law.nd (d_ix (d_b (d_fz (l_lst (a_cons d_int (a_cons d_int (a_cons (d_call h__law_take hr (by decide) (a_hnd 1 (a_cons d_int a_nil))) (a_cons (d_call h__law_take hr (by decide) (a_hnd 1 (a_cons d_int a_nil))) a_nil))))))) (d_call h__law_take hr (by decide) (a_hnd 1 (a_cons d_int a_nil)))))
 (s_cons (s_setO 3 sc_law.nd (l_lst (a_cons (d_var 2) a_nil)))
 (s_cons (s_for (vs := [4]) PassesOwn.never rfl (i_r1 m_range d_int) (g_name 4 sc_law.nd)
 (s_one (s_app 3 (d_call h__law_mod hr (by decide) (a_cons (d_add (d_mul (d_ix (d_bor 3) (d_var 4)) d_int) d_int) (a_cons d_int a_nil))))))
 (s_cons (s_setLcF 5 (own := [("state", 6)]) rfl sc_law.nd (i_list (d_fz (l_sl (d_bor 3) (o_s d_int) o_n))) (blkOk_by (N := ["script", "pool", "seed", "states", "k", "row", "state", "count", "p", "index", "numbers", "start"]) (sc := defScope s_law) (by decide +kernel)) ⟨(gName 6), fun _ _ _ _ _ => (pg_name (i := 6) sc_law.nd rfl (Or.inl rfl)), (sg_name (i := 6) (by decide))⟩ ⟨tYes, fun _ _ _ _ _ => pts_nil, st_yes⟩ ⟨(tOp (rI CDivW fun i j => .int (i / j)) (tVar 6) (tC (.int 4294967296))), fun _ _ _ _ _ => (pe_op op_fdivW (pv 6) pe_int), (snd_bin opd_div snd_var (snd_c fun _ => .int _))⟩ (sw_true rfl rfl rfl (by decide +kernel)))
 (s_cons (s_set 7 sc_law.nd (d_call h__law_take hr (by decide) (a_hnd 1 (a_cons (d_ix (d_b (d_fz (l_lst (a_cons d_int (a_cons d_int a_nil))))) (d_call h__law_take hr (by decide) (a_hnd 1 (a_cons d_int a_nil)))) a_nil))))
 (s_cons (s_if (t_ne hr (d_fz (l_call h_words hr (by decide) (a_cons (d_var 2) (a_cons (d_var 7) a_nil)))) (d_fz (l_sl (d_b (d_var 5)) o_n (o_s (d_var 7)))))
 (s_one (s_ret d_bl))
 s_nil)
 (s_cons (s_set 8 sc_law.nd (d_ix (d_b (d_fz (l_lst (a_cons (d_call h__law_prime hr (by decide) (a_hnd 1 (a_cons d_int a_nil))) (a_cons d_int a_nil))))) (d_call h__law_take hr (by decide) (a_hnd 1 (a_cons d_int a_nil)))))
 (s_cons (s_set 9 sc_law.nd (d_call h__law_take hr (by decide) (a_hnd 1 (a_cons (d_ix (d_b (d_fz (l_lst (a_cons d_int (a_cons d_int a_nil))))) (d_call h__law_take hr (by decide) (a_hnd 1 (a_cons d_int a_nil)))) a_nil))))
 (s_cons (s_setO 10 sc_law.nd (l_lst a_nil))
 (s_cons (s_for (vs := [11]) PassesOwn.never rfl (i_list (d_fz (l_lst (a_cons (d_mul d_int (d_var 9)) (a_cons (d_add (d_mul d_int (d_var 9)) d_int) a_nil))))) (g_name 11 sc_law.nd)
 (s_one (s_app 10 (d_call h__law_mod hr (by decide) (a_cons (d_add (d_add (d_mul (d_ix (d_b (d_var 5)) (d_var 11)) d_int) (d_mul (d_ix (d_b (d_var 5)) (d_add (d_var 11) d_int)) d_int)) (d_ix (d_b (d_var 5)) (d_add (d_var 11) d_int))) (a_cons (d_var 8) a_nil))))))
 (s_one (s_ret (d_eq hr (d_call h_drawn_pair hr (by decide) (a_cons (d_var 8) (a_cons (d_var 2) (a_cons (d_var 9) a_nil)))) (d_tup (a_cons (d_ix (d_bor 10) d_int) (a_cons (d_ix (d_bor 10) d_int) a_nil)))))))))))))))))) mf_law
end
theorem all_mk {l : PySem.W.OpenLaw} {w : World} {K : PySem.W.Frag} {h : Heap} {mg : Str → Option Value} {fa f0 f1 f2 f3 f4 f5 f6 f7 f8 f9 : Addr} (X : K.In h) (G : h.Ns mainGlobals mg) (hfa : mg "law" = some (.ref fa))
    {od0 an0 : Option Addr} {sl0 : Array (Option Value)} {oc0 kV0 dc0 pm0 cd0 ct0 : Value}
    (a0 : PySem.W.nsIn K mainGlobals "words" = some (some (.ref f0))) (l0 : K.lookup f0 = some ⟨oc0, od0, .func (PySem.W.fnOf "words" "words" (defArgs s_words) (defBody s_words) (defScope s_words) .none kV0 dc0 pm0 an0 cd0 ct0), sl0⟩) (c0 : PySem.W.codeIn K cd0 "words" = true) (k0 : PySem.W.keepIn K (.ref f0) = true)
    {od1 an1 : Option Addr} {sl1 : Array (Option Value)} {oc1 kV1 dc1 pm1 cd1 ct1 : Value}
    (a1 : PySem.W.nsIn K mainGlobals "drawn_number" = some (some (.ref f1))) (l1 : K.lookup f1 = some ⟨oc1, od1, .func (PySem.W.fnOf "drawn_number" "drawn_number" (defArgs s_drawn_number) (defBody s_drawn_number) (defScope s_drawn_number) .none kV1 dc1 pm1 an1 cd1 ct1), sl1⟩) (c1 : PySem.W.codeIn K cd1 "drawn_number" = true) (k1 : PySem.W.keepIn K (.ref f1) = true)
    {od2 an2 : Option Addr} {sl2 : Array (Option Value)} {oc2 kV2 dc2 pm2 cd2 ct2 : Value}
    (a2 : PySem.W.nsIn K mainGlobals "drawn_pair" = some (some (.ref f2))) (l2 : K.lookup f2 = some ⟨oc2, od2, .func (PySem.W.fnOf "drawn_pair" "drawn_pair" (defArgs s_drawn_pair) (defBody s_drawn_pair) (defScope s_drawn_pair) .none kV2 dc2 pm2 an2 cd2 ct2), sl2⟩) (c2 : PySem.W.codeIn K cd2 "drawn_pair" = true) (k2 : PySem.W.keepIn K (.ref f2) = true)
    {od3 an3 : Option Addr} {sl3 : Array (Option Value)} {oc3 kV3 dc3 pm3 cd3 ct3 : Value}
    (a3 : PySem.W.nsIn K mainGlobals "_law_wide" = some (some (.ref f3))) (l3 : K.lookup f3 = some ⟨oc3, od3, .func (PySem.W.fnOf "_law_wide" "_law_wide" (defArgs s__law_wide) (defBody s__law_wide) (defScope s__law_wide) .none kV3 dc3 pm3 an3 cd3 ct3), sl3⟩) (c3 : PySem.W.codeIn K cd3 "_law_wide" = true) (k3 : PySem.W.keepIn K (.ref f3) = true)
    {od4 an4 : Option Addr} {sl4 : Array (Option Value)} {oc4 kV4 dc4 pm4 cd4 ct4 : Value}
    (a4 : PySem.W.nsIn K mainGlobals "_law_take" = some (some (.ref f4))) (l4 : K.lookup f4 = some ⟨oc4, od4, .func (PySem.W.fnOf "_law_take" "_law_take" (defArgs s__law_take) (defBody s__law_take) (defScope s__law_take) .none kV4 dc4 pm4 an4 cd4 ct4), sl4⟩) (c4 : PySem.W.codeIn K cd4 "_law_take" = true) (k4 : PySem.W.keepIn K (.ref f4) = true)
    {od5 an5 : Option Addr} {sl5 : Array (Option Value)} {oc5 kV5 dc5 pm5 cd5 ct5 : Value}
    (a5 : PySem.W.nsIn K mainGlobals "_law_pool" = some (some (.ref f5))) (l5 : K.lookup f5 = some ⟨oc5, od5, .func (PySem.W.fnOf "_law_pool" "_law_pool" (defArgs s__law_pool) (defBody s__law_pool) (defScope s__law_pool) .none kV5 dc5 pm5 an5 cd5 ct5), sl5⟩) (c5 : PySem.W.codeIn K cd5 "_law_pool" = true) (k5 : PySem.W.keepIn K (.ref f5) = true)
    {od6 an6 : Option Addr} {sl6 : Array (Option Value)} {oc6 kV6 dc6 pm6 cd6 ct6 : Value}
    (a6 : PySem.W.nsIn K mainGlobals "_law_mod" = some (some (.ref f6))) (l6 : K.lookup f6 = some ⟨oc6, od6, .func (PySem.W.fnOf "_law_mod" "_law_mod" (defArgs s__law_mod) (defBody s__law_mod) (defScope s__law_mod) .none kV6 dc6 pm6 an6 cd6 ct6), sl6⟩) (c6 : PySem.W.codeIn K cd6 "_law_mod" = true) (k6 : PySem.W.keepIn K (.ref f6) = true)
    {od7 an7 : Option Addr} {sl7 : Array (Option Value)} {oc7 kV7 dc7 pm7 cd7 ct7 : Value}
    (a7 : PySem.W.nsIn K mainGlobals "_law_prime_from" = some (some (.ref f7))) (l7 : K.lookup f7 = some ⟨oc7, od7, .func (PySem.W.fnOf "_law_prime_from" "_law_prime_from" (defArgs s__law_prime_from) (defBody s__law_prime_from) (defScope s__law_prime_from) .none kV7 dc7 pm7 an7 cd7 ct7), sl7⟩) (c7 : PySem.W.codeIn K cd7 "_law_prime_from" = true) (k7 : PySem.W.keepIn K (.ref f7) = true)
    {od8 an8 : Option Addr} {sl8 : Array (Option Value)} {oc8 kV8 dc8 pm8 cd8 ct8 : Value}
    (a8 : PySem.W.nsIn K mainGlobals "_law_prime" = some (some (.ref f8))) (l8 : K.lookup f8 = some ⟨oc8, od8, .func (PySem.W.fnOf "_law_prime" "_law_prime" (defArgs s__law_prime) (defBody s__law_prime) (defScope s__law_prime) .none kV8 dc8 pm8 an8 cd8 ct8), sl8⟩) (c8 : PySem.W.codeIn K cd8 "_law_prime" = true) (k8 : PySem.W.keepIn K (.ref f8) = true)
    {od9 an9 : Option Addr} {sl9 : Array (Option Value)} {oc9 kV9 dc9 pm9 cd9 ct9 : Value}
    (a9 : PySem.W.nsIn K mainGlobals "law" = some (some (.ref f9))) (l9 : K.lookup f9 = some ⟨oc9, od9, .func (PySem.W.fnOf "law" "law" (defArgs s_law) (defBody s_law) (defScope s_law) .none kV9 dc9 pm9 an9 cd9 ct9), sl9⟩) (c9 : PySem.W.codeIn K cd9 "law" = true) (k9 : PySem.W.keepIn K (.ref f9) = true)
    (z_abs : PySem.W.nsIn K mainGlobals "abs" = some none)
    (z_int : PySem.W.nsIn K mainGlobals "int" = some none)
    (z_len : PySem.W.nsIn K mainGlobals "len" = some none)
    (z_list : PySem.W.nsIn K mainGlobals "list" = some none)
    (z_range : PySem.W.nsIn K mainGlobals "range" = some none)
    {t_ADDED : _} (q_ADDED : PySem.W.nsIn K mainGlobals "ADDED" = some (some (.int 1442695040888963407 t_ADDED)))
    {t_FACTOR : _} (q_FACTOR : PySem.W.nsIn K mainGlobals "FACTOR" = some (some (.int 6364136223846793005 t_FACTOR)))
    {t_HALF : _} (q_HALF : PySem.W.nsIn K mainGlobals "HALF" = some (some (.int 4294967296 t_HALF)))
    {t_STATES : _} (q_STATES : PySem.W.nsIn K mainGlobals "STATES" = some (some (.int 18446744073709551616 t_STATES)))
    : ∃ fd : FuncData, (∀ (s : Shared) (v : Value), BindsTo s fd ⟨[v], []⟩ [("script", v)]) ∧ ∀ base : Heap, K.In base → base.Ns mainGlobals mg → FnOk l.prog w K mg base CX0 4 fa fd ["script"] (SpD K okH 1 M_law) := by
  have e := hfa.symm.trans (PySem.W.mg_of X G a9)
  cases e
  have F0 := fun_mk (st := s_words) l0 c0 k0
  have b0 := F0.binds (ps := ["seed", "number"]) fun _ _ _ _ _ _ us hl => match us, hl with | [_, _], _ => rfl
  have F1 := fun_mk (st := s_drawn_number) l1 c1 k1
  have b1 := F1.binds (ps := ["p", "three"]) fun _ _ _ _ _ _ us hl => match us, hl with | [_, _], _ => rfl
  have F2 := fun_mk (st := s_drawn_pair) l2 c2 k2
  have b2 := F2.binds (ps := ["p", "seed", "index"]) fun _ _ _ _ _ _ us hl => match us, hl with | [_, _, _], _ => rfl
  have F3 := fun_mk (st := s__law_wide) l3 c3 k3
  have b3 := F3.binds (ps := ["script", "k"]) fun _ _ _ _ _ _ us hl => match us, hl with | [_, _], _ => rfl
  have F4 := fun_mk (st := s__law_take) l4 c4 k4
  have b4 := F4.binds (ps := ["pool", "most"]) fun _ _ _ _ _ _ us hl => match us, hl with | [_, _], _ => rfl
  have F5 := fun_mk (st := s__law_pool) l5 c5 k5
  have b5 := F5.binds (ps := ["script"]) fun _ _ _ _ _ _ us hl => match us, hl with | [_], _ => rfl
  have F6 := fun_mk (st := s__law_mod) l6 c6 k6
  have b6 := F6.binds (ps := ["x", "p"]) fun _ _ _ _ _ _ us hl => match us, hl with | [_, _], _ => rfl
  have F7 := fun_mk (st := s__law_prime_from) l7 c7 k7
  have b7 := F7.binds (ps := ["number"]) fun _ _ _ _ _ _ us hl => match us, hl with | [_], _ => rfl
  have F8 := fun_mk (st := s__law_prime) l8 c8 k8
  have b8 := F8.binds (ps := ["pool", "most"]) fun _ _ _ _ _ _ us hl => match us, hl with | [_, _], _ => rfl
  have F9 := fun_mk (st := s_law) l9 c9 k9
  have m_abs := PySem.W.mg_none_of X G z_abs
  have m_int := PySem.W.mg_none_of X G z_int
  have m_len := PySem.W.mg_none_of X G z_len
  have m_list := PySem.W.mg_none_of X G z_list
  have m_range := PySem.W.mg_none_of X G z_range
  have g_ADDED : GlD K mg "ADDED" (.int 1442695040888963407) := ⟨.int 1442695040888963407, ⟨_, PySem.W.mg_of X G q_ADDED, ⟨_, rfl⟩⟩, fun _ => .int _⟩
  have g_FACTOR : GlD K mg "FACTOR" (.int 6364136223846793005) := ⟨.int 6364136223846793005, ⟨_, PySem.W.mg_of X G q_FACTOR, ⟨_, rfl⟩⟩, fun _ => .int _⟩
  have g_HALF : GlD K mg "HALF" (.int 4294967296) := ⟨.int 4294967296, ⟨_, PySem.W.mg_of X G q_HALF, ⟨_, rfl⟩⟩, fun _ => .int _⟩
  have g_STATES : GlD K mg "STATES" (.int 18446744073709551616) := ⟨.int 18446744073709551616, ⟨_, PySem.W.mg_of X G q_STATES, ⟨_, rfl⟩⟩, fun _ => .int _⟩
  refine ⟨PySem.W.fnOf "law" "law" (defArgs s_law) (defBody s_law) (defScope s_law) .none kV9 dc9 pm9 an9 cd9 ct9, fun s v => .of_eq rfl, fun base _ _ => ?_⟩
  have h_words : Has l.prog w K mg base okH 1 "words" 2 M_words := ⟨⟨_, _, _, ok_words F0 m_range g_ADDED g_FACTOR g_HALF g_STATES, PySem.W.mg_of X G a0, F0.kp, b0⟩⟩
  have h_drawn_number : Has l.prog w K mg base okH 1 "drawn_number" 2 M_drawn_number := ⟨⟨_, _, _, ok_drawn_number F1 g_HALF, PySem.W.mg_of X G a1, F1.kp, b1⟩⟩
  have h_drawn_pair : Has l.prog w K mg base okH 2 "drawn_pair" 3 M_drawn_pair := ⟨⟨_, _, _, ok_drawn_pair F2 h_words h_drawn_number, PySem.W.mg_of X G a2, F2.kp, b2⟩⟩
  have h__law_wide : Has l.prog w K mg base okH 1 "_law_wide" 2 M__law_wide := ⟨⟨_, _, _, ok__law_wide F3 m_abs m_int m_len, PySem.W.mg_of X G a3, F3.kp, b3⟩⟩
  have h__law_take : Has l.prog w K mg base okH 2 "_law_take" 2 M__law_take := ⟨⟨_, _, _, ok__law_take F4 h__law_wide m_int, PySem.W.mg_of X G a4, F4.kp, b4⟩⟩
  have h__law_pool : Has l.prog w K mg base okH 1 "_law_pool" 1 M__law_pool := ⟨⟨_, _, _, ok__law_pool F5 m_list, PySem.W.mg_of X G a5, F5.kp, b5⟩⟩
  have h__law_mod : Has l.prog w K mg base okH 1 "_law_mod" 2 M__law_mod := ⟨⟨_, _, _, ok__law_mod F6 m_int, PySem.W.mg_of X G a6, F6.kp, b6⟩⟩
  have h__law_prime_from : Has l.prog w K mg base okH 2 "_law_prime_from" 1 M__law_prime_from := ⟨⟨_, _, _, ok__law_prime_from F7 h__law_mod m_range, PySem.W.mg_of X G a7, F7.kp, b7⟩⟩
  have h__law_prime : Has l.prog w K mg base okH 3 "_law_prime" 2 M__law_prime := ⟨⟨_, _, _, ok__law_prime F8 h__law_prime_from h__law_take, PySem.W.mg_of X G a8, F8.kp, b8⟩⟩
  exact ok_law F9 h__law_pool h__law_take h__law_mod h_words h__law_prime h_drawn_pair m_range
end G
open PySem PySem.W PyProof.Rows
set_option maxRecDepth 100000 in
set_option maxHeartbeats 0 in
theorem PySem.Challenge.cw_curvetally_k83_words_and_pairs_holds : PySem.Challenge.rw_curvetally_k83_words_and_pairs.Holds := by
  w_on; o_law; k_head; (case hw => w_witness2)
  k_fill
  refine L2.walk_of (l := PySem.Challenge.rw_curvetally_k83_words_and_pairs) (n := 63) (k := 4) (x := "script") (CX := fun _ => L2.CX0) (sp := fun w => DL.SpD _ G.okH 1 DL.M_law) rfl (by decide) rfl ⟨rfl, by decide, by decide⟩ (fun w h Y => PySem.W.kIn_of Y) ?F (fun _ _ a ns hl _ hS => DL.law_sp hS hl) (fun _ _ _ _ _ h => h)
  case F =>
    intro w mg fa h KX GG hmg
    refine' G.all_mk KX GG hmg ?a0 ?l0 ?c0 ?k0 ?a1 ?l1 ?c1 ?k1 ?a2 ?l2 ?c2 ?k2 ?a3 ?l3 ?c3 ?k3 ?a4 ?l4 ?c4 ?k4 ?a5 ?l5 ?c5 ?k5 ?a6 ?l6 ?c6 ?k6 ?a7 ?l7 ?c7 ?k7 ?a8 ?l8 ?c8 ?k8 ?a9 ?l9 ?c9 ?k9 ?z_abs ?z_int ?z_len ?z_list ?z_range ?q_ADDED ?q_FACTOR ?q_HALF ?q_STATES
    (case a0 => k_is)
    (case l0 => k_is)
    (case c0 => k_is)
    (case k0 => k_is)
    (case a1 => k_is)
    (case l1 => k_is)
    (case c1 => k_is)
    (case k1 => k_is)
    (case a2 => k_is)
    (case l2 => k_is)
    (case c2 => k_is)
    (case k2 => k_is)
    (case a3 => k_is)
    (case l3 => k_is)
    (case c3 => k_is)
    (case k3 => k_is)
    (case a4 => k_is)
    (case l4 => k_is)
    (case c4 => k_is)
    (case k4 => k_is)
    (case a5 => k_is)
    (case l5 => k_is)
    (case c5 => k_is)
    (case k5 => k_is)
    (case a6 => k_is)
    (case l6 => k_is)
    (case c6 => k_is)
    (case k6 => k_is)
    (case a7 => k_is)
    (case l7 => k_is)
    (case c7 => k_is)
    (case k7 => k_is)
    (case a8 => k_is)
    (case l8 => k_is)
    (case c8 => k_is)
    (case k8 => k_is)
    (case a9 => k_is)
    (case l9 => k_is)
    (case c9 => k_is)
    (case k9 => k_is)
    (case z_abs => k_is)
    (case z_int => k_is)
    (case z_len => k_is)
    (case z_list => k_is)
    (case z_range => k_is)
    (case q_ADDED => k_is)
    (case q_FACTOR => k_is)
    (case q_HALF => k_is)
    (case q_STATES => k_is)
