import PyProof.Rows.All
import Wide.All
import OpenK.AllK
import Wide.FinOn
import HandS.ForMost
import HandS.Wide
import HandS.WideBits
import HandS.Walk
import HandS.SortInts
import HandS.TupAny
import HandS.Rev
import HandS.Deep
import HandS.Style
import HandS.TupMul
import HandS.IsInst
import HandS.NoneIn
import HandS.Dict
import PySem.Challenge.RW_curvetally_k78_whole_divisors
set_option Elab.async false
set_option linter.all false
set_option maxRecDepth 100000
set_option maxHeartbeats 4000000
/-! DL, part a: data without a heap; slots of a frame; the relation between both. -/
namespace DL
open PySem L2

abbrev D := PyData
/-- the script: a list of ints that is read alone -/
abbrev scr (ns : List Int) : D := .dict [(.none, .list (ns.map PyData.int))]
mutual
inductive Rp (K : PySem.W.Frag) (H : Hp) : V → D → Prop
  | non : Rp K H .non .none
  | bl (b : Bool) : Rp K H (.bl b) (.bool b)
  | int (i : Int) : Rp K H (.int i) (.int i)
  | str (x : Str) : Rp K H (.str x) (.str x)
  | lst {a : Addr} {xs : List V} {ds : List D} : H a = some (.lst xs) → Rps K H xs ds → Rp K H (.ref a) (.list ds)
  | tup {a : Addr} {xs : List V} {ds : List D} : SqT K H a xs → Rps K H xs ds → Rp K H (.ref a) (.tuple ds)
  | scr {a : Addr} {ns : List Int} : SqL K H a (ns.map V.int) → Rp K H (.ref a) (scr ns)
inductive Rps (K : PySem.W.Frag) (H : Hp) : List V → List D → Prop
  | nil : Rps K H [] []
  | cons {v : V} {vs : List V} {d : D} {ds : List D} : Rp K H v d → Rps K H vs ds → Rps K H (v :: vs) (d :: ds)
end
theorem Same.tup {K : PySem.W.Frag} {H H' : Hp} {a : Addr} {xs : List V} (e : Same H H') (h : SqT K H a xs) : SqT K H' a xs := by
  rcases h with (h | ⟨o, h⟩) | h
  · exact .inl (.inl (e _ _ h))
  · exact .inl (.inr ⟨o, e _ _ h⟩)
  · exact .inr h
mutual
theorem Rp.mono {K : PySem.W.Frag} {H H' : Hp} (e : Same H H') : ∀ {v : V} {d : D}, Rp K H v d → Rp K H' v d
  | _, _, .non => .non
  | _, _, .bl b => .bl b
  | _, _, .int i => .int i
  | _, _, .str x => .str x
  | _, _, .lst h r => .lst (e _ _ h) (Rps.mono e r)
  | _, _, .tup h r => .tup (Same.tup e h) (Rps.mono e r)
  | _, _, .scr h => .scr (e.seq h)
theorem Rps.mono {K : PySem.W.Frag} {H H' : Hp} (e : Same H H') : ∀ {vs : List V} {ds : List D}, Rps K H vs ds → Rps K H' vs ds
  | _, _, .nil => .nil
  | _, _, .cons h r => .cons (Rp.mono e h) (Rps.mono e r)
end
mutual
theorem Rp.dp {K : PySem.W.Frag} {H : Hp} : ∀ {v : V} {d : D}, Rp K H v d → d.canLay0 = true → Dp K H v d
  | _, _, .non, _ => .non
  | _, _, .bl b, _ => .bl b
  | _, _, .int i, _ => .int i
  | _, _, .str x, _ => .str x
  | _, _, .lst h r, l => .lst (SqL.of h) (Rps.dp r (by simpa [PyData.canLay0] using l))
  | _, _, .tup h r, l => .tup h (Rps.dp r (by simpa [PyData.canLay0] using l))
  | _, _, .scr h, l => by simp [PyData.canLay0] at l
theorem Rps.dp {K : PySem.W.Frag} {H : Hp} : ∀ {vs : List V} {ds : List D}, Rps K H vs ds → PyData.canLayAll0 ds = true → DpAll K H vs ds
  | _, _, .nil, _ => .nil
  | _, _, .cons h r, l => by
    have l' := Bool.and_eq_true_iff.mp (by simpa [PyData.canLayAll0] using l)
    exact .cons (Rp.dp h l'.1) (Rps.dp r l'.2)
end
theorem Rp.sh {K : PySem.W.Frag} {H : Hp} {v : V} {d : D} (h : Rp K H v d) (s : SeqAt.shaped d = true) : Dp K H v d := h.dp (SeqAt.canLay_of_shaped s)
section
variable {K : PySem.W.Frag} {H : Hp} {vs ws : List V} {ds es : List D}
theorem Rps.length : ∀ {vs : List V} {ds : List D}, Rps K H vs ds → vs.length = ds.length
  | _, _, .nil => rfl
  | _, _, .cons _ r => by rw [List.length_cons, List.length_cons, Rps.length r]
theorem Rps.append : ∀ {vs ws : List V} {ds es : List D}, Rps K H vs ds → Rps K H ws es → Rps K H (vs ++ ws) (ds ++ es)
  | _, _, _, _, .nil, s => s
  | _, _, _, _, .cons h r, s => .cons h (Rps.append r s)
theorem Rps.get : ∀ {vs : List V} {ds : List D} {i : Nat} {d : D}, Rps K H vs ds → ds[i]? = some d → ∃ v, vs[i]? = some v ∧ Rp K H v d
  | _, _, _, _, .nil, e => by simp at e
  | _, _, 0, _, .cons h _, e => by simp at e; subst e; exact ⟨_, rfl, h⟩
  | _, _, i + 1, _, .cons _ r, e => by
    obtain ⟨v, h1, h2⟩ := Rps.get (i := i) r (by simpa using e)
    exact ⟨v, by simpa using h1, h2⟩
theorem Rps.getV : ∀ {vs : List V} {ds : List D} {i : Nat} {v : V}, Rps K H vs ds → vs[i]? = some v → ∃ d, ds[i]? = some d ∧ Rp K H v d
  | _, _, _, _, .nil, e => by simp at e
  | _, _, 0, _, .cons h _, e => by simp at e; subst e; exact ⟨_, rfl, h⟩
  | _, _, i + 1, _, .cons _ r, e => by
    obtain ⟨v, h1, h2⟩ := Rps.getV (i := i) r (by simpa using e)
    exact ⟨v, by simpa using h1, h2⟩
theorem Rps.set {x : V} {d : D} (h : Rp K H x d) : ∀ {vs : List V} {ds : List D} (i : Nat), Rps K H vs ds → Rps K H (vs.set i x) (ds.set i d)
  | _, _, _, .nil => .nil
  | _, _, 0, .cons _ t => .cons h t
  | _, _, i + 1, .cons q t => .cons q (Rps.set h i t)
theorem Rps.take : ∀ {vs : List V} {ds : List D} (n : Nat), Rps K H vs ds → Rps K H (vs.take n) (ds.take n)
  | _, _, 0, _ => .nil
  | _, _, _ + 1, .nil => .nil
  | _, _, n + 1, .cons r t => .cons r (Rps.take n t)
theorem Rps.drop : ∀ {vs : List V} {ds : List D} (n : Nat), Rps K H vs ds → Rps K H (vs.drop n) (ds.drop n)
  | _, _, 0, r => r
  | _, _, _ + 1, .nil => .nil
  | _, _, n + 1, .cons _ t => Rps.drop n t
theorem Rps.rev : ∀ {vs : List V} {ds : List D}, Rps K H vs ds → Rps K H vs.reverse ds.reverse
  | _, _, .nil => .nil
  | _, _, .cons h r => by
    rw [List.reverse_cons, List.reverse_cons]
    exact (Rps.rev r).append (.cons h .nil)
theorem Rps.dropLast (r : Rps K H vs ds) : Rps K H vs.dropLast ds.dropLast := by
  rw [List.dropLast_eq_take, List.dropLast_eq_take, r.length]
  exact r.take _
theorem Rps.rep (r : Rps K H vs ds) : ∀ k : Nat, Rps K H (List.replicate k vs).flatten (List.replicate k ds).flatten
  | 0 => .nil
  | k + 1 => by
    rw [List.replicate_succ, List.replicate_succ, List.flatten_cons, List.flatten_cons]
    exact r.append (Rps.rep r k)
theorem Rps.one {v : V} {d : D} (h : Rp K H v d) : Rps K H [v] [d] := .cons h .nil
theorem Rps.cons_inv {d : D} {ds : List D} {vs : List V} (h : Rps K H vs (d :: ds)) : ∃ v ws, vs = v :: ws ∧ Rp K H v d ∧ Rps K H ws ds := by
  cases h with
  | cons h r => exact ⟨_, _, rfl, h, r⟩
theorem Rps.nil_inv {vs : List V} (h : Rps K H vs []) : vs = [] := by cases h; rfl
end
/-- ints -/
abbrev dints (ns : List Int) : List D := ns.map PyData.int
theorem Rps.ints_inv {K : PySem.W.Frag} {H : Hp} : ∀ {ns : List Int} {vs : List V}, Rps K H vs (dints ns) → vs = ns.map V.int
  | [], _, h => h.nil_inv
  | n :: ns, _, h => by
    obtain ⟨v, ws, rfl, h1, h2⟩ := h.cons_inv
    cases h1
    rw [Rps.ints_inv h2]
    rfl
theorem Rps.of_ints {K : PySem.W.Frag} {H : Hp} : ∀ (ns : List Int), Rps K H (ns.map V.int) (dints ns)
  | [] => .nil
  | n :: ns => .cons (.int n) (Rps.of_ints ns)
theorem Rps.bools_inv {K : PySem.W.Frag} {H : Hp} : ∀ {ns : List Bool} {vs : List V}, Rps K H vs (ns.map PyData.bool) → vs = ns.map V.bl
  | [], _, h => h.nil_inv
  | n :: ns, _, h => by
    obtain ⟨v, ws, rfl, h1, h2⟩ := h.cons_inv
    cases h1
    rw [Rps.bools_inv h2]
    rfl

/-! ### slots -/
/-- what a slot of the frame holds: a value that no longer changes; a list of one's own; a handle (a list of one's own, its contents told by ok alone); a dict of one's own -/
inductive Sl where
  | v (d : D) | own (ds : List D) | hnd | dct (kvs : List (Key × D))
abbrev EnvD := List (Option Sl)
def Sl.isOwn : Sl → Bool
  | .v _ => false
  | _ => true
inductive Rt where
  | v (d : D) | own (ds : List D)
def Rt.val : Rt → D
  | .v d => d
  | .own ds => .list ds

structure Ctx where
  He : Hp
  H0e : Hp
  ha : Option Addr
  Kp : Hp

def KRps (K : PySem.W.Frag) (H : Hp) (ks : List (Key × V)) (es : List (Key × D)) : Prop := ks.map Prod.fst = es.map Prod.fst ∧ Rps K H (ks.map Prod.snd) (es.map Prod.snd)
section
variable (K : PySem.W.Frag) (ok : List D → Prop)
/-- a list of one's own at p: unknown to H0, its items known -/
structure OwnAt (H0 H : Hp) (p : Addr) (ds : List D) : Prop where
  n0 : H0 p = none
  ex : ∃ vs, H p = some (.lst vs) ∧ Rps K H0 vs ds
def SlotOk (C : Ctx) (H0 H : Hp) (x : Option (Option V)) : Sl → Prop
  | .v d => ∃ v, x = some (some v) ∧ Rp K H0 v d
  | .own ds => ∃ p, x = some (some (.ref p)) ∧ C.He p = none ∧ OwnAt K H0 H p ds
  | .hnd => ∃ a ds, x = some (some (.ref a)) ∧ (C.ha = some a ∨ C.He a = none) ∧ OwnAt K H0 H a ds ∧ ok ds
  | .dct kvs => ∃ p ks, x = some (some (.ref p)) ∧ C.He p = none ∧ H0 p = none ∧ H p = some (.dK ks) ∧ KRps K H0 ks kvs
structure Rel (C : Ctx) (H0 : Hp) (σ : St) (H : Hp) (env : EnvD) : Prop where
  sub : Same H0 H
  grow : Same C.H0e H0
  new : ∀ b o, H0 b = some o → C.H0e b = some o ∨ C.He b = none
  fr : ∀ b o, C.He b = some o → some b ≠ C.ha → H b = some o
  hv : ∀ a, C.ha = some a → (∃ o, C.He a = some o) ∧ ∃ ds, OwnAt K H0 H a ds ∧ ok ds
  len : σ.length = env.length
  slot : ∀ (i : Nat) s, env[i]? = some (some s) → SlotOk K ok C H0 H σ[i]? s
  dis : ∀ (i j : Nat) s t p, i ≠ j → env[i]? = some (some s) → env[j]? = some (some t) → s.isOwn = true → t.isOwn = true → σ[i]? = some (some (.ref p)) → σ[j]? ≠ some (some (.ref p))
  kp : Same C.Kp H
  kn : ∀ (i : Nat) s p, env[i]? = some (some s) → s.isOwn = true → σ[i]? = some (some (.ref p)) → C.Kp p = none
  kh : ∀ a, C.ha = some a → C.Kp a = none
  kz : ∀ b o, C.Kp b = some o → H0 b = none
end
section
variable {K : PySem.W.Frag} {ok : List D → Prop} {C : Ctx} {H0 H01 H H1 : Hp} {σ : St} {env : EnvD}
theorem OwnAt.is {p : Addr} {ds : List D} (h : OwnAt K H0 H p ds) : ∃ vs, H p = some (.lst vs) := let ⟨vs, hp, _⟩ := h.ex; ⟨vs, hp⟩
theorem KRps.mono {ks : List (Key × V)} {es : List (Key × D)} (e : Same H H1) (h : KRps K H ks es) : KRps K H1 ks es := ⟨h.1, h.2.mono e⟩
/-- an own slot's address -/
theorem Rel.own_addr (R : Rel K ok C H0 σ H env) {i : Nat} {s : Sl} (h : env[i]? = some (some s)) (o : s.isOwn = true) : ∃ p u, σ[i]? = some (some (.ref p)) ∧ H0 p = none ∧ H p = some u ∧ (C.ha = some p ∨ C.He p = none) ∧ Mut (some u) := by
  have q := R.slot i s h
  cases s with
  | v d => cases o
  | own ds => obtain ⟨p, e, n, n0, vs, hp, _⟩ := q; exact ⟨p, _, e, n0, hp, .inr n, trivial⟩
  | hnd => obtain ⟨a, ds, e, n, ⟨n0, vs, hp, _⟩, _⟩ := q; exact ⟨a, _, e, n0, hp, n, trivial⟩
  | dct kvs => obtain ⟨p, ks, e, n, n0, hp, _⟩ := q; exact ⟨p, _, e, n0, hp, .inr n, trivial⟩
/-- fresh for the whole: not tracked, so new since the entry too -/
theorem Rel.fresh (R : Rel K ok C H0 σ H env) {p : Addr} (h : H p = none) : C.He p = none := by
  cases e : C.He p with
  | none => rfl
  | some o =>
    by_cases ha : some p = C.ha
    · obtain ⟨_, ds, ⟨_, vs, hp, _⟩, _⟩ := R.hv p ha.symm
      rw [h] at hp; cases hp
    · have := R.fr p o e ha
      rw [h] at this; cases this
theorem OwnAt.keep {p : Addr} {ds : List D} (h : OwnAt K H0 H p ds) (e : Same H0 H01) (n : H01 p = none) (k : ∀ o, H p = some o → H1 p = some o) : OwnAt K H01 H1 p ds := by
  obtain ⟨_, vs, hp, r⟩ := h
  exact ⟨n, vs, k _ hp, r.mono e⟩
/-- THE STEP: all that was tracked is kept, what is known has grown by new objects -/
theorem Rel.step (R : Rel K ok C H0 σ H env) (e0 : Same H0 H01) (sub : Same H01 H1) (new : ∀ b o, H01 b = some o → H0 b = some o ∨ H b = none) (kp : Same H H1) : Rel K ok C H01 σ H1 env := by
  have non : ∀ p u, H0 p = none → H p = some u → H01 p = none := fun p u n h => by
    cases q : H01 p with
    | none => rfl
    | some o =>
      rcases new p o q with z | z
      · rw [n] at z; cases z
      · rw [h] at z; cases z
  refine ⟨sub, fun b o h => e0 _ _ (R.grow b o h), fun b o h => ?_, fun b o h n => kp _ _ (R.fr b o h n), fun a ha => ?_, R.len, fun i s h => ?_, R.dis, fun b o z => kp _ _ (R.kp b o z), R.kn, R.kh, fun b o z => non b o (R.kz b o z) (R.kp b o z)⟩
  · rcases new b o h with z | z
    · exact R.new b o z
    · exact .inr (R.fresh z)
  · obtain ⟨h1, ds, h2, h3⟩ := R.hv a ha
    obtain ⟨vs, hp⟩ := h2.is
    exact ⟨h1, ds, h2.keep e0 (non a _ h2.n0 hp) (kp a), h3⟩
  · have q := R.slot i s h
    cases s with
    | v d => obtain ⟨v, e, r⟩ := q; exact ⟨v, e, r.mono e0⟩
    | own ds =>
      obtain ⟨p, e, n, h2⟩ := q
      obtain ⟨vs, hp⟩ := h2.is
      exact ⟨p, e, n, h2.keep e0 (non p _ h2.n0 hp) (kp p)⟩
    | hnd =>
      obtain ⟨a, ds, e, n, h2, h3⟩ := q
      obtain ⟨vs, hp⟩ := h2.is
      exact ⟨a, ds, e, n, h2.keep e0 (non a _ h2.n0 hp) (kp a), h3⟩
    | dct kvs =>
      obtain ⟨p, ks, e, n, n0, hp, r⟩ := q
      exact ⟨p, ks, e, n, non p _ n0 hp, kp _ _ hp, r.mono e0⟩
theorem same_new {p : Addr} {o : HO} (h : H p = none) : Same H (upd H p o) := fun b x e => by
  rw [upd_ne (ne_of_none e h)]
  exact e
/-- a new object is laid and known -/
theorem Rel.laid (R : Rel K ok C H0 σ H env) {p : Addr} {o : HO} (h : H p = none) : Rel K ok C (upd H0 p o) σ (upd H p o) env ∧ Same H0 (upd H0 p o) := by
  have h0 : H0 p = none := R.sub.free h
  have e0 : Same H0 (upd H0 p o) := same_new h0
  refine ⟨R.step e0 (fun b x e => ?_) (fun b x e => ?_) (same_new h), e0⟩
  · by_cases hb : b = p
    · subst hb; rw [upd_same] at e ⊢; exact e
    · rw [upd_ne hb] at e ⊢; exact R.sub _ _ e
  · by_cases hb : b = p
    · subst hb; exact .inr h
    · rw [upd_ne hb] at e; exact .inl e
/-- a new object is laid, not known -/
theorem Rel.laid0 (R : Rel K ok C H0 σ H env) {p : Addr} {o : HO} (h : H p = none) : Rel K ok C H0 σ (upd H p o) env :=
  R.step (Same.refl _) (fun b x e => by rw [upd_ne (ne_of_none (R.sub b x e) h)]; exact R.sub b x e) (fun b x e => .inl e) (same_new h)
/-- what is unknown, of one's own and in no slot becomes known -/
theorem Rel.know (R : Rel K ok C H0 σ H env) {p : Addr} {o : HO} (h : H p = some o) (n0 : H0 p = none) (n : C.He p = none) (kq : C.Kp p = none) (ns : ∀ (i : Nat) s, env[i]? = some (some s) → s.isOwn = true → σ[i]? ≠ some (some (.ref p))) :
    Rel K ok C (upd H0 p o) σ H env ∧ Same H0 (upd H0 p o) := by
  have e0 : Same H0 (upd H0 p o) := same_new n0
  have non : ∀ q, q ≠ p → H0 q = none → (upd H0 p o) q = none := fun q hq z => by rw [upd_ne hq]; exact z
  refine ⟨⟨fun b x e => ?_, fun b x e => e0 _ _ (R.grow b x e), fun b x e => ?_, R.fr, fun a ha => ?_, R.len, fun i s hs => ?_, R.dis, R.kp, R.kn, R.kh, fun b x z => non b (fun y => by subst y; rw [kq] at z; cases z) (R.kz b x z)⟩, e0⟩
  · by_cases hb : b = p
    · subst hb; rw [upd_same] at e; rw [h]; exact e
    · rw [upd_ne hb] at e; exact R.sub _ _ e
  · by_cases hb : b = p
    · subst hb; exact .inr n
    · rw [upd_ne hb] at e; exact R.new _ _ e
  · obtain ⟨⟨oa, h1⟩, ds, h2, h3⟩ := R.hv a ha
    have hap : a ≠ p := fun z => by subst z; rw [n] at h1; cases h1
    exact ⟨⟨oa, h1⟩, ds, h2.keep e0 (non a hap h2.n0) (fun _ z => z), h3⟩
  · have q := R.slot i s hs
    cases s with
    | v d => obtain ⟨v, e, r⟩ := q; exact ⟨v, e, r.mono e0⟩
    | own ds =>
      obtain ⟨a, e, m, h2⟩ := q
      exact ⟨a, e, m, h2.keep e0 (non a (fun z => by subst z; exact ns i _ hs rfl e) h2.n0) (fun _ z => z)⟩
    | hnd =>
      obtain ⟨a, ds, e, m, h2, h3⟩ := q
      exact ⟨a, ds, e, m, h2.keep e0 (non a (fun z => by subst z; exact ns i _ hs rfl e) h2.n0) (fun _ z => z), h3⟩
    | dct kvs =>
      obtain ⟨a, ks, e, m, m0, hp, r⟩ := q
      exact ⟨a, ks, e, m, non a (fun z => by subst z; exact ns i _ hs rfl e) m0, hp, r.mono e0⟩
/-- what is not in any own slot: addresses that were untracked -/
theorem Rel.noslot (R : Rel K ok C H0 σ H env) {p : Addr} (h : H p = none) : ∀ (i : Nat) s, env[i]? = some (some s) → s.isOwn = true → σ[i]? ≠ some (some (.ref p)) := fun i s hs o z => by
  obtain ⟨q, u, e, _, hp, _⟩ := R.own_addr hs o
  rw [e] at z
  cases z
  rw [h] at hp; cases hp
/-- a slot is stored: a known value -/
theorem Rel.setV (R : Rel K ok C H0 σ H env) {i : Nat} {x : V} {d : D} (r : Rp K H0 x d) : Rel K ok C H0 (σ.set i (some x)) H (env.set i (some (.v d))) := by
  refine ⟨R.sub, R.grow, R.new, R.fr, R.hv, by rw [List.length_set, List.length_set]; exact R.len, fun j s hs => ?_, fun j k s t p hjk hs ht os ot => ?_, R.kp, fun j s p hs os => ?_, R.kh, R.kz⟩
  · by_cases hj : i = j
    · subst hj
      by_cases hi : i < env.length
      · rw [List.getElem?_set_self hi] at hs
        cases hs
        exact ⟨x, by rw [List.getElem?_set_self (by rw [R.len]; exact hi)], r⟩
      · rw [List.getElem?_eq_none (by rw [List.length_set]; omega)] at hs; cases hs
    · rw [List.getElem?_set_ne hj] at hs ⊢
      exact R.slot j s hs
  · have h1 : i ≠ j := fun z => by
      subst z
      by_cases hi : i < env.length
      · rw [List.getElem?_set_self hi] at hs; cases hs; cases os
      · rw [List.getElem?_eq_none (by rw [List.length_set]; omega)] at hs; cases hs
    have h2 : i ≠ k := fun z => by
      subst z
      by_cases hi : i < env.length
      · rw [List.getElem?_set_self hi] at ht; cases ht; cases ot
      · rw [List.getElem?_eq_none (by rw [List.length_set]; omega)] at ht; cases ht
    rw [List.getElem?_set_ne h1] at hs ⊢
    rw [List.getElem?_set_ne h2] at ht ⊢
    exact R.dis j k s t p hjk hs ht os ot
  · have h1 : i ≠ j := fun z => by
      subst z
      by_cases hi : i < env.length
      · rw [List.getElem?_set_self hi] at hs; cases hs; cases os
      · rw [List.getElem?_eq_none (by rw [List.length_set]; omega)] at hs; cases hs
    rw [List.getElem?_set_ne h1] at hs ⊢
    exact R.kn j s p hs os
/-- a slot is stored: a thing of one's own -/
theorem Rel.setO (R : Rel K ok C H0 σ H env) {i : Nat} {p : Addr} {s : Sl} (q : SlotOk K ok C H0 H (some (some (.ref p))) s) (os : s.isOwn = true) (kq : C.Kp p = none)
    (ns : ∀ (j : Nat) t, j ≠ i → env[j]? = some (some t) → t.isOwn = true → σ[j]? ≠ some (some (.ref p))) : Rel K ok C H0 (σ.set i (some (.ref p))) H (env.set i (some s)) := by
  refine ⟨R.sub, R.grow, R.new, R.fr, R.hv, by rw [List.length_set, List.length_set]; exact R.len, fun j t ht => ?_, fun j k t u a hjk ht hu ot ou e1 e2 => ?_, R.kp, fun j t a ht ot e1 => ?_, R.kh, R.kz⟩
  · by_cases hj : i = j
    · subst hj
      by_cases hi : i < env.length
      · rw [List.getElem?_set_self hi] at ht
        cases ht
        rw [List.getElem?_set_self (by rw [R.len]; exact hi)]
        exact q
      · rw [List.getElem?_eq_none (by rw [List.length_set]; omega)] at ht; cases ht
    · rw [List.getElem?_set_ne hj] at ht ⊢
      exact R.slot j t ht
  · have lt : ∀ {j : Nat} {t : Sl}, (env.set i (some s))[j]? = some (some t) → j < env.length := fun {j t} z => by
      have := (List.getElem?_eq_some_iff.mp z).1
      rw [List.length_set] at this
      exact this
    by_cases h1 : i = j
    · subst h1
      have h2 : i ≠ k := hjk
      rw [List.getElem?_set_ne h2] at hu e2
      rw [List.getElem?_set_self (by rw [R.len]; exact lt ht)] at e1
      cases e1
      exact ns k u (Ne.symm h2) hu ou e2
    · rw [List.getElem?_set_ne h1] at ht e1
      by_cases h2 : i = k
      · subst h2
        rw [List.getElem?_set_self (by rw [R.len]; exact lt hu)] at e2
        cases e2
        exact ns j t (Ne.symm h1) ht ot e1
      · rw [List.getElem?_set_ne h2] at hu e2
        exact R.dis j k t u a hjk ht hu ot ou e1 e2
  · by_cases h1 : i = j
    · subst h1
      by_cases hi : i < env.length
      · rw [List.getElem?_set_self (by rw [R.len]; exact hi)] at e1
        cases e1
        exact kq
      · rw [List.getElem?_eq_none (by rw [List.length_set]; omega)] at ht; cases ht
    · rw [List.getElem?_set_ne h1] at ht e1
      exact R.kn j t a ht ot e1
/-- a slot forgotten -/
theorem Rel.drop (R : Rel K ok C H0 σ H env) {i : Nat} {y : Option V} : Rel K ok C H0 (σ.set i y) H (env.set i none) := by
  refine ⟨R.sub, R.grow, R.new, R.fr, R.hv, by rw [List.length_set, List.length_set]; exact R.len, fun j s hs => ?_, fun j k s t p hjk hs ht os ot => ?_, R.kp, fun j s p hs os => ?_, R.kh, R.kz⟩
  · have hj : i ≠ j := fun z => by
      subst z
      by_cases hi : i < env.length
      · rw [List.getElem?_set_self hi] at hs; cases hs
      · rw [List.getElem?_eq_none (by rw [List.length_set]; omega)] at hs; cases hs
    rw [List.getElem?_set_ne hj] at hs ⊢
    exact R.slot j s hs
  · have ne : ∀ {j : Nat} {t : Sl}, (env.set i none)[j]? = some (some t) → i ≠ j := fun {j t} z q => by
      subst q
      by_cases hi : i < env.length
      · rw [List.getElem?_set_self hi] at z; cases z
      · rw [List.getElem?_eq_none (by rw [List.length_set]; omega)] at z; cases z
    have h1 := ne hs
    have h2 := ne ht
    rw [List.getElem?_set_ne h1] at hs ⊢
    rw [List.getElem?_set_ne h2] at ht ⊢
    exact R.dis j k s t p hjk hs ht os ot
  · have hj : i ≠ j := fun z => by
      subst z
      by_cases hi : i < env.length
      · rw [List.getElem?_set_self hi] at hs; cases hs
      · rw [List.getElem?_eq_none (by rw [List.length_set]; omega)] at hs; cases hs
    rw [List.getElem?_set_ne hj] at hs ⊢
    exact R.kn j s p hs os
/-- a thing of one's own changes -/
theorem Rel.put (R : Rel K ok C H0 σ H env) {i : Nat} {p : Addr} {s t : Sl} {o : HO} (hs : env[i]? = some (some s)) (os : s.isOwn = true) (e : σ[i]? = some (some (.ref p))) (nh : C.ha ≠ some p)
    (ot : t.isOwn = true) (q : SlotOk K ok C H0 (upd H p o) (some (some (.ref p))) t) : Rel K ok C H0 σ (upd H p o) (env.set i (some t)) := by
  obtain ⟨p', u, e', n0, hp, hn, _⟩ := R.own_addr hs os
  rw [e] at e'
  cases e'
  have hn : C.He p = none := hn.resolve_left nh
  have lt : i < env.length := (List.getElem?_eq_some_iff.mp hs).1
  have up : ∀ {b : Addr} {x : HO}, b ≠ p → H b = some x → (upd H p o) b = some x := fun {b x} hb z => by rw [upd_ne hb]; exact z
  refine ⟨fun b x z => up (fun y => by subst y; rw [n0] at z; cases z) (R.sub b x z), R.grow, R.new, fun b x z m => up (fun y => by subst y; rw [hn] at z; cases z) (R.fr b x z m), fun a ha => ?_, ?_, fun j r hr => ?_, fun j k r r' a hjk hr hr' o1 o2 e1 => ?_, fun b x z => up (fun y => by subst y; rw [R.kn i s b hs os e] at z; cases z) (R.kp b x z), fun j r a hr o' e1 => ?_, R.kh, R.kz⟩
  · obtain ⟨h1, ds, h2, h3⟩ := R.hv a ha
    have hap : a ≠ p := fun z => by subst z; exact nh ha
    exact ⟨h1, ds, h2.keep (Same.refl _) h2.n0 (fun x z => up hap z), h3⟩
  · rw [List.length_set]; exact R.len
  · by_cases hj : i = j
    · subst hj
      rw [List.getElem?_set_self lt] at hr
      cases hr
      rw [e]; exact q
    · rw [List.getElem?_set_ne hj] at hr
      have w := R.slot j r hr
      have other : ∀ {a : Addr}, r.isOwn = true → σ[j]? = some (some (.ref a)) → a ≠ p := fun {a} o' z y => by
        subst y
        exact R.dis i j s r a hj hs hr os o' e z
      cases r with
      | v d => exact w
      | own ds => obtain ⟨a, z, m, h2⟩ := w; exact ⟨a, z, m, h2.keep (Same.refl _) h2.n0 (fun x y => up (other rfl z) y)⟩
      | hnd => obtain ⟨a, ds, z, m, h2, h3⟩ := w; exact ⟨a, ds, z, m, h2.keep (Same.refl _) h2.n0 (fun x y => up (other rfl z) y), h3⟩
      | dct kvs => obtain ⟨a, ks, z, m, m0, hq, r'⟩ := w; exact ⟨a, ks, z, m, m0, up (other rfl z) hq, r'⟩
  · have old : ∀ {j : Nat} {r : Sl}, (env.set i (some t))[j]? = some (some r) → r.isOwn = true → ∃ r', env[j]? = some (some r') ∧ r'.isOwn = true := fun {j r} z o' => by
      by_cases hj : i = j
      · subst hj; exact ⟨s, hs, os⟩
      · rw [List.getElem?_set_ne hj] at z; exact ⟨r, z, o'⟩
    obtain ⟨r1, z1, y1⟩ := old hr o1
    obtain ⟨r2, z2, y2⟩ := old hr' o2
    exact R.dis j k r1 r2 a hjk z1 z2 y1 y2 e1
  · by_cases hj : i = j
    · subst hj; rw [e] at e1; cases e1; exact R.kn i s p hs os e
    · rw [List.getElem?_set_ne hj] at hr; exact R.kn j r a hr o' e1
/-- a call has run that may have changed the handle at a -/
theorem Rel.called (R : Rel K ok C H0 σ H env) {i : Nat} {a : Addr} (hs : env[i]? = some (some .hnd)) (ea : σ[i]? = some (some (.ref a))) (e0 : Same H0 H01) (sub : Same H01 H1) (new : ∀ b o, H01 b = some o → H0 b = some o ∨ H b = none)
    (kp : ∀ b o, H b = some o → b ≠ a → H1 b = some o) (na : H01 a = none) {ds' : List D} (ha' : OwnAt K H01 H1 a ds') (ok' : ok ds') : Rel K ok C H01 σ H1 env := by
  have non : ∀ p u, H0 p = none → H p = some u → H01 p = none := fun p u n h => by
    cases q : H01 p with
    | none => rfl
    | some o =>
      rcases new p o q with z | z
      · rw [n] at z; cases z
      · rw [h] at z; cases z
  obtain ⟨a', da, ea', na', ⟨na0, va, hva, _⟩, _⟩ := R.slot i .hnd hs
  rw [ea] at ea'
  cases ea'
  refine ⟨sub, fun b o h => e0 _ _ (R.grow b o h), fun b o h => ?_, fun b o h n => ?_, fun b hb => ?_, R.len, fun j s h => ?_, R.dis, fun b o z => kp _ _ (R.kp b o z) (fun y => by subst y; rw [R.kn i _ b hs rfl ea] at z; cases z), R.kn, R.kh, fun b o z => non b o (R.kz b o z) (R.kp b o z)⟩
  · rcases new b o h with z | z
    · exact R.new b o z
    · exact .inr (R.fresh z)
  · refine kp _ _ (R.fr b o h n) fun z => ?_
    subst z
    rcases na' with z | z
    · exact n z.symm
    · rw [h] at z; cases z
  · obtain ⟨h1, ds, h2, h3⟩ := R.hv b hb
    by_cases hba : b = a
    · subst hba; exact ⟨h1, ds', ha', ok'⟩
    · obtain ⟨vs, hp⟩ := h2.is
      exact ⟨h1, ds, h2.keep e0 (non b _ h2.n0 hp) (fun o z => kp b o z hba), h3⟩
  · have q := R.slot j s h
    have other : ∀ {b : Addr}, i ≠ j → s.isOwn = true → σ[j]? = some (some (.ref b)) → b ≠ a := fun {b} hij o' z y => by
      subst y
      exact R.dis i j .hnd s b hij hs h rfl o' ea z
    by_cases hij : i = j
    · subst hij
      rw [hs] at h
      cases h
      exact ⟨a, ds', ea, na', ha', ok'⟩
    · cases s with
      | v d => obtain ⟨v, e, r⟩ := q; exact ⟨v, e, r.mono e0⟩
      | own ds =>
        obtain ⟨p, e, n, h2⟩ := q
        obtain ⟨vs, hp⟩ := h2.is
        exact ⟨p, e, n, h2.keep e0 (non p _ h2.n0 hp) (fun o z => kp p o z (other hij rfl e))⟩
      | hnd =>
        obtain ⟨b, ds, e, n, h2, h3⟩ := q
        obtain ⟨vs, hp⟩ := h2.is
        exact ⟨b, ds, e, n, h2.keep e0 (non b _ h2.n0 hp) (fun o z => kp b o z (other hij rfl e)), h3⟩
      | dct kvs =>
        obtain ⟨p, ks, e, n, n0, hp, r⟩ := q
        exact ⟨p, ks, e, n, non p _ n0 hp, kp _ _ hp (other hij rfl e), r.mono e0⟩
/-- a thing that no slot holds is protected, or no longer -/
theorem Rel.guard (R : Rel K ok C H0 σ H env) {Kq : Hp} (h : Same Kq H) (ns : ∀ p o, Kq p = some o → C.Kp p = some o ∨ ((∀ (i : Nat) s, env[i]? = some (some s) → s.isOwn = true → σ[i]? ≠ some (some (.ref p))) ∧ C.ha ≠ some p ∧ H0 p = none)) : Rel K ok { C with Kp := Kq } H0 σ H env := by
  refine ⟨R.sub, R.grow, R.new, R.fr, R.hv, R.len, fun i s hs => ?_, R.dis, h, fun i s p hs os e => ?_, fun a ha => ?_, fun b o z => ?_⟩
  · have q := R.slot i s hs
    cases s <;> exact q
  · cases q : Kq p with
    | none => exact q
    | some o =>
      rcases ns p o q with z | z
      · rw [R.kn i s p hs os e] at z; cases z
      · exact absurd e (z.1 i s hs os)
  · cases q : Kq a with
    | none => exact q
    | some o =>
      rcases ns a o q with z | z
      · rw [R.kh a ha] at z; cases z
      · exact absurd ha z.2.1
  · rcases ns b o z with z | z
    · exact R.kz b o z
    · exact z.2.2
end
end DL
/-! DL, part b: expressions, tests, arguments: what is asked, without a heap; each rule sound. -/
namespace DL
open PySem L2

abbrev WE := EnvD → (D → Prop) → Prop
abbrev WL := EnvD → (List D → Prop) → Prop
abbrev WT := EnvD → (Bool → Prop) → Prop
inductive Ar where
  | v (d : D) | hnd
abbrev WA := EnvD → (List Ar → Prop) → Prop

/-- a slot by its place -/
def get : EnvD → Nat → Option Sl
  | [], _ => none
  | x :: _, 0 => x
  | _ :: r, n + 1 => get r n
theorem get_eq : ∀ {env : EnvD} {i : Nat} {s : Sl}, get env i = some s → env[i]? = some (some s)
  | [], _, _, h => by cases h
  | x :: _, 0, s, h => by
    have h' : x = some s := h
    subst h'; rfl
  | _ :: r, n + 1, s, h => by
    rw [List.getElem?_cons_succ]
    exact get_eq (env := r) h

structure FreshL (K : PySem.W.Frag) (C : Ctx) (H0 : Hp) (σ : L2.St) (H : Hp) (env : EnvD) (p : Addr) (ds : List D) : Prop where
  he : C.He p = none
  own : OwnAt K H0 H p ds
  ns : ∀ (i : Nat) s, env[i]? = some (some s) → s.isOwn = true → σ[i]? ≠ some (some (.ref p))
  kq : C.Kp p = none

def ArgR (K : PySem.W.Frag) (H0 : Hp) (σ : L2.St) (env : EnvD) : Ar → V → Prop
  | .v d, x => Rp K H0 x d
  | .hnd, x => ∃ (i : Nat) (a : Addr), env[i]? = some (some .hnd) ∧ σ[i]? = some (some (.ref a)) ∧ x = .ref a
inductive ArgsR (K : PySem.W.Frag) (H0 : Hp) (σ : L2.St) (env : EnvD) : List Ar → List V → Prop
  | nil : ArgsR K H0 σ env [] []
  | cons {a : Ar} {as : List Ar} {x : V} {xs : List V} : ArgR K H0 σ env a x → ArgsR K H0 σ env as xs → ArgsR K H0 σ env (a :: as) (x :: xs)
section
variable {K : PySem.W.Frag} {ok : List D → Prop}
theorem ArgR.mono {H0 H01 : Hp} {σ : L2.St} {env : EnvD} (e : Same H0 H01) : ∀ {a : Ar} {x : V}, ArgR K H0 σ env a x → ArgR K H01 σ env a x
  | .v _, _, h => Rp.mono e h
  | .hnd, _, h => h
theorem ArgsR.length {H0 : Hp} {σ : L2.St} {env : EnvD} : ∀ {as : List Ar} {xs : List V}, ArgsR K H0 σ env as xs → as.length = xs.length
  | _, _, .nil => rfl
  | _, _, .cons _ t => by rw [List.length_cons, List.length_cons, ArgsR.length t]
variable (K ok)
def SndE (te : TE) (we : WE) : Prop := ∀ (C : Ctx) (H0 : Hp) (σ : L2.St) (H : Hp) (env : EnvD) (Q : D → Prop) (R : VK), Rel K ok C H0 σ H env → we env Q →
  (∀ d v H1 H01, Q d → Rel K ok C H01 σ H1 env → Same H0 H01 → Rp K H01 v d → R v H1) → te σ H R
def SndL (te : TE) (wl : WL) : Prop := ∀ (C : Ctx) (H0 : Hp) (σ : L2.St) (H : Hp) (env : EnvD) (Q : List D → Prop) (R : VK), Rel K ok C H0 σ H env → wl env Q →
  (∀ ds p H1 H01, Q ds → Rel K ok C H01 σ H1 env → Same H0 H01 → FreshL K C H01 σ H1 env p ds → R (.ref p) H1) → te σ H R
def SndT (tt : TT) (wt : WT) : Prop := ∀ (C : Ctx) (H0 : Hp) (σ : L2.St) (H : Hp) (env : EnvD) (Q : Bool → Prop) (R : Bool → Hp → Prop), Rel K ok C H0 σ H env → wt env Q →
  (∀ b H1 H01, Q b → Rel K ok C H01 σ H1 env → Same H0 H01 → R b H1) → tt σ H R
def SndA (ta : TA) (wa : WA) : Prop := ∀ (C : Ctx) (H0 : Hp) (σ : L2.St) (H : Hp) (env : EnvD) (Q : List Ar → Prop) (R : List V → Hp → Prop), Rel K ok C H0 σ H env → wa env Q →
  (∀ as vs H1 H01, Q as → Rel K ok C H01 σ H1 env → Same H0 H01 → ArgsR K H01 σ env as vs → R vs H1) → ta σ H R
/-- borrowed: a known value, or a list of one's own that stands while the slots do -/
def Bor (H0 H : Hp) (v : V) (d : D) : Prop := Rp K H0 v d ∨ ∃ p ds, v = .ref p ∧ d = .list ds ∧ OwnAt K H0 H p ds
def SndB (te : TE) (wb : WE) : Prop := ∀ (C : Ctx) (H0 : Hp) (σ : L2.St) (H : Hp) (env : EnvD) (Q : D → Prop) (R : VK), Rel K ok C H0 σ H env → wb env Q →
  (∀ d v H1 H01, Q d → Rel K ok C H01 σ H1 env → Same H0 H01 → (∀ H2 H02, Rel K ok C H02 σ H2 env → Same H01 H02 → Bor K H02 H2 v d) → R v H1) → te σ H R
end
section
variable (X : Cx) (ok : List D → Prop)
def PDE (e : Expr) (we : WE) : Prop := ∃ te, PE X e te ∧ SndE X.K ok te we
def PDL (e : Expr) (wl : WL) : Prop := ∃ te, PE X e te ∧ SndL X.K ok te wl
def PDB (e : Expr) (wb : WE) : Prop := ∃ te, PE X e te ∧ SndB X.K ok te wb
def PDT (e : Expr) (wt : WT) : Prop := ∃ tt, PT X e tt ∧ SndT X.K ok tt wt
def PDW (e : Expr) (wt : WT) : Prop := ∃ tt, PW X e tt ∧ SndT X.K ok tt wt
def PDA (es : List Expr) (wa : WA) : Prop := ∃ ta, PA X es ta ∧ SndA X.K ok ta wa
end

/-! ### what is asked -/
def wC (d : D) : WE := fun _ Q => Q d
def wVar (i : Nat) : WE := fun env Q => match get env i with
  | some (.v d) => Q d
  | _ => False
/-- a name as it stands, also a list of one's own -/
def wBor (i : Nat) : WE := fun env Q => match get env i with
  | some (.v d) => Q d
  | some (.own ds) => Q (.list ds)
  | _ => False
def wBin (f : D → D → (D → Prop) → Prop) (a b : WE) : WE := fun env Q => a env fun x => b env fun y => f x y Q
def wUn (f : D → (D → Prop) → Prop) (a : WE) : WE := fun env Q => a env fun x => f x Q
def fI (g : Int → Int → Int) : D → D → (D → Prop) → Prop := fun d e Q => match d, e with
  | .int i, .int j => Q (.int (g i j))
  | _, _ => False
def fIC (c : Int → Int → Prop) (g : Int → Int → Int) : D → D → (D → Prop) → Prop := fun d e Q => match d, e with
  | .int i, .int j => c i j ∧ Q (.int (g i j))
  | _, _ => False
def fB (g : Int → Int → Bool) : D → D → (D → Prop) → Prop := fun d e Q => match d, e with
  | .int i, .int j => Q (.bool (g i j))
  | _, _ => False
def fAdd : D → D → (D → Prop) → Prop := fun d e Q => match d, e with
  | .int i, .int j => Q (.int (i + j))
  | _, _ => False
def fSub : D → D → (D → Prop) → Prop := fun d e Q => match d, e with
  | .int i, .int j => Q (.int (i - j))
  | _, _ => False
def fMul : D → D → (D → Prop) → Prop := fun d e Q => match d, e with
  | .int i, .int j => CMul i j ∧ Q (.int (i * j))
  | _, _ => False
def fMulX : D → D → (D → Prop) → Prop := fun d e Q => match d, e with
  | .int i, .int j => CMulX i j ∧ Q (.int (i * j))
  | _, _ => False
def fMod : D → D → (D → Prop) → Prop := fun d e Q => match d, e with
  | .int i, .int j => 0 < j ∧ Q (.int (i % j))
  | _, _ => False
def fDiv : D → D → (D → Prop) → Prop := fun d e Q => match d, e with
  | .int i, .int j => CDivW i j ∧ Q (.int (i / j))
  | _, _ => False
def fShl : D → D → (D → Prop) → Prop := fun d e Q => match d, e with
  | .int i, .int j => CPow i j ∧ Q (.int (i * 2 ^ j.toNat))
  | _, _ => False
def fPow : D → D → (D → Prop) → Prop := fun d e Q => match d, e with
  | .int i, .int j => CPow i j ∧ Q (.int (i ^ j.toNat))
  | _, _ => False
def fMax2 : D → D → (D → Prop) → Prop := fun d e Q => match d, e with
  | .int i, .int j => Q (.int (if j > i then j else i))
  | _, _ => False
def fMin2 : D → D → (D → Prop) → Prop := fun d e Q => match d, e with
  | .int i, .int j => Q (.int (if j < i then j else i))
  | _, _ => False
def fLt : D → D → (D → Prop) → Prop := fun d e Q => match d, e with
  | .int i, .int j => Q (.bool (decide (i < j)))
  | _, _ => False
def fLe : D → D → (D → Prop) → Prop := fun d e Q => match d, e with
  | .int i, .int j => Q (.bool (decide (i ≤ j)))
  | _, _ => False
def fGt : D → D → (D → Prop) → Prop := fun d e Q => match d, e with
  | .int i, .int j => Q (.bool (decide (j < i)))
  | _, _ => False
def fGe : D → D → (D → Prop) → Prop := fun d e Q => match d, e with
  | .int i, .int j => Q (.bool (decide (j ≤ i)))
  | _, _ => False
def fEq : D → D → (D → Prop) → Prop := fun d e Q => match d, e with
  | .int i, .int j => Q (.bool (decide (i = j)))
  | d, e => SeqAt.shaped d = true ∧ SeqAt.shaped e = true ∧ Q (.bool (PyData.eqv d e))
def fNe : D → D → (D → Prop) → Prop := fun d e Q => match d, e with
  | .int i, .int j => Q (.bool (!decide (i = j)))
  | d, e => SeqAt.shaped d = true ∧ SeqAt.shaped e = true ∧ Q (.bool (!PyData.eqv d e))
def isNone : D → Bool
  | .none => true
  | _ => false
def fNeg : D → (D → Prop) → Prop := fun d Q => match d with
  | .int i => Q (.int (-i))
  | _ => False
def wIsN (a : WE) : WE := fun env Q => a env fun x => Q (.bool (isNone x))
def wNotN (a : WE) : WE := fun env Q => a env fun x => Q (.bool (!isNone x))
def wTest (a : WE) : WT := fun env Q => a env fun x => match x with
  | .bool b => Q b
  | _ => False
def wNot (t : WT) : WT := fun env Q => t env fun b => Q (!b)
/-- both ways -/
def wAnd (t u : WT) : WT := fun env Q => t env fun b => (b = true → u env Q) ∧ (b = false → Q false)
def wOr (t u : WT) : WT := fun env Q => t env fun b => (b = true → Q true) ∧ (b = false → u env Q)
/-- by a told answer of the second -/
def wAndD (t u : WT) : WT := fun env Q => t env fun b => ∃ c : Bool, (b = true → u env fun d => d = c) ∧ Q (b && c)
def wOrD (t u : WT) : WT := fun env Q => t env fun b => ∃ c : Bool, (b = false → u env fun d => d = c) ∧ Q (b || c)
/-- as values -/
def wBl (t : WT) : WE := fun env Q => t env fun b => Q (.bool b)
def wIfE (t : WT) (a b : WE) : WE := fun env Q => t env fun c => (c = true → a env Q) ∧ (c = false → b env Q)
def wNil : WA := fun _ Q => Q []
def wCons (a : WE) (r : WA) : WA := fun env Q => a env fun x => r env fun xs => Q (.v x :: xs)
def wConsH (i : Nat) (r : WA) : WA := fun env Q => match get env i with
  | some .hnd => r env fun xs => Q (.hnd :: xs)
  | _ => False
def vals : List Ar → List D
  | [] => []
  | .v d :: r => d :: vals r
  | .hnd :: r => vals r
def wTup (a : WA) : WE := fun env Q => a env fun as => as.length ≤ 1000 ∧ Q (.tuple (vals as))
def wLst (a : WA) : WL := fun env Q => a env fun as => as.length ≤ 1000 ∧ Q (vals as)
/-- a new list as a value -/
def wFz (l : WL) : WE := fun env Q => l env fun ds => Q (.list ds)
def fIx : D → D → (D → Prop) → Prop := fun d e Q => match d, e with
  | .list ds, .int i => ∃ x, atI ds i = some x ∧ Q x
  | .tuple ds, .int i => ∃ x, atI ds i = some x ∧ Q x
  | .dict [(.none, .list ds)], .int i => ∃ x, atI ds i = some x ∧ Q x
  | _, _ => False
def wIx (a b : WE) : WE := fun env Q => a env fun x => b env fun y => fIx x y Q
def wLen (a : WE) : WE := fun env Q => a env fun x => match x with
  | .list ds => Q (.int ds.length)
  | .tuple ds => Q (.int ds.length)
  | .dict [(.none, .list ds)] => Q (.int ds.length)
  | _ => False
abbrev WM := List Ar → (Rt → Prop) → Prop
def wCall (n : Nat) (M : WM) (a : WA) : WE := fun env Q => a env fun as => as.length = n ∧ M as fun r => Q r.val
def wCallO (n : Nat) (M : WM) (a : WA) : WL := fun env Q => a env fun as => as.length = n ∧ M as fun r => match r with
  | .own ds => Q ds
  | .v _ => False

/-! ### soundness -/
section
variable {K : PySem.W.Frag} {ok : List D → Prop} {ta tb te : TE} {wa wb we : WE} {t u : TT} {wt wu : WT}
theorem SndE.b (h : SndE K ok te we) : SndB K ok te we := fun C H0 σ H env Q R rel hw k => h C H0 σ H env Q R rel hw fun d v H1 H01 q r e x => k d v H1 H01 q r e fun H2 H02 _ e2 => .inl (x.mono e2)
theorem SndL.fz {wl : WL} (h : SndL K ok te wl) : SndE K ok te (wFz wl) := fun C H0 σ H env Q R rel hw k => h C H0 σ H env _ R rel hw fun ds p H1 H01 q r e f => by
  obtain ⟨n0, vs, hp, hr⟩ := f.own
  obtain ⟨r2, e2⟩ := r.know hp n0 f.he f.kq f.ns
  exact k _ _ H1 _ q r2 (e.trans e2) (.lst upd_same (hr.mono e2))
theorem snd_c {v : V} {d : D} (h : ∀ H, Rp K H v d) : SndE K ok (tC v) (wC d) := fun C H0 σ H env Q R rel hw k => k d v H H0 hw rel (Same.refl _) (h _)
theorem snd_var {i : Nat} : SndE K ok (tVar i) (wVar i) := fun C H0 σ H env Q R rel hw k => by
  unfold wVar at hw
  split at hw
  · rename_i d hd
    obtain ⟨v, e, r⟩ := rel.slot i _ (get_eq hd)
    exact ⟨v, e, k d v H H0 hw rel (Same.refl _) r⟩
  · exact hw.elim
theorem snd_bor {i : Nat} : SndB K ok (tVar i) (wBor i) := fun C H0 σ H env Q R rel hw k => by
  unfold wBor at hw
  split at hw
  · rename_i d hd
    obtain ⟨v, e, r⟩ := rel.slot i _ (get_eq hd)
    exact ⟨v, e, k d v H H0 hw rel (Same.refl _) fun H2 H02 _ e2 => .inl (r.mono e2)⟩
  · rename_i ds hd
    obtain ⟨p, e, n, o⟩ := rel.slot i _ (get_eq hd)
    refine ⟨_, e, k _ _ H H0 hw rel (Same.refl _) fun H2 H02 r2 e2 => .inr ⟨p, ds, rfl, rfl, ?_⟩⟩
    obtain ⟨p', e', n', o'⟩ := r2.slot i _ (get_eq hd)
    rw [e] at e'
    cases e'
    exact o'
  · exact hw.elim
/-- an operation on values that leaves the heap -/
def OpD (K : PySem.W.Frag) (r : R2) (f : D → D → (D → Prop) → Prop) : Prop := ∀ (H0 H : Hp) (x y : V) (d e : D) (Q : D → Prop) (R : VK), Same H0 H → Rp K H0 x d → Rp K H0 y e → f d e Q → (∀ z v, Q z → Rp K H0 v z → R v H) → r x y H R
theorem snd_bin {r : R2} {f : D → D → (D → Prop) → Prop} (hr : OpD K r f) (ha : SndE K ok ta wa) (hb : SndE K ok tb wb) : SndE K ok (tOp r ta tb) (wBin f wa wb) := fun C H0 σ H env Q R rel hw k =>
  ha C H0 σ H env _ _ rel hw fun d v H1 H01 q r1 e1 x1 => hb C H01 σ H1 env _ _ r1 q fun e u H2 H02 q2 r2 e2 x2 =>
    hr H02 H2 v u d e Q R r2.sub (x1.mono e2) x2 q2 fun z w qz rz => k z w H2 H02 qz r2 (e1.trans e2) rz
theorem opd_I0 {g : Int → Int → Int} : OpD K (rI0 fun i j => .int (g i j)) (fI g) := fun H0 H x y d e Q R _ hx hy h k => by
  unfold fI at h
  split at h
  · cases hx; cases hy
    exact ⟨_, _, rfl, rfl, k _ _ h (.int _)⟩
  · exact h.elim
theorem opd_I {c : Int → Int → Prop} {g : Int → Int → Int} : OpD K (rI c fun i j => .int (g i j)) (fIC c g) := fun H0 H x y d e Q R _ hx hy h k => by
  unfold fIC at h
  split at h
  · cases hx; cases hy
    exact ⟨_, _, rfl, rfl, h.1, k _ _ h.2 (.int _)⟩
  · exact h.elim
theorem opd_B0 {g : Int → Int → Bool} : OpD K (rI0 fun i j => .bl (g i j)) (fB g) := fun H0 H x y d e Q R _ hx hy h k => by
  unfold fB at h
  split at h
  · cases hx; cases hy
    exact ⟨_, _, rfl, rfl, k _ _ h (.bl _)⟩
  · exact h.elim
theorem opd_add : OpD K (rI0 fun i j => .int (i + j)) fAdd := fun H0 H x y d e Q R _ hx hy h k => by
  unfold fAdd at h
  split at h
  · cases hx; cases hy
    exact ⟨_, _, rfl, rfl, k _ _ h (.int _)⟩
  · exact h.elim
theorem opd_sub : OpD K (rI0 fun i j => .int (i - j)) fSub := fun H0 H x y d e Q R _ hx hy h k => by
  unfold fSub at h
  split at h
  · cases hx; cases hy
    exact ⟨_, _, rfl, rfl, k _ _ h (.int _)⟩
  · exact h.elim
theorem opd_mul : OpD K (rI CMul fun i j => .int (i * j)) fMul := fun H0 H x y d e Q R _ hx hy h k => by
  unfold fMul at h
  split at h
  · cases hx; cases hy
    exact ⟨_, _, rfl, rfl, h.1, k _ _ h.2 (.int _)⟩
  · exact h.elim
theorem opd_mulX : OpD K (rI CMulX fun i j => .int (i * j)) fMulX := fun H0 H x y d e Q R _ hx hy h k => by
  unfold fMulX at h
  split at h
  · cases hx; cases hy
    exact ⟨_, _, rfl, rfl, h.1, k _ _ h.2 (.int _)⟩
  · exact h.elim
theorem opd_mod : OpD K (rI (fun _ j => 0 < j) fun i j => .int (i % j)) fMod := fun H0 H x y d e Q R _ hx hy h k => by
  unfold fMod at h
  split at h
  · cases hx; cases hy
    exact ⟨_, _, rfl, rfl, h.1, k _ _ h.2 (.int _)⟩
  · exact h.elim
theorem opd_div : OpD K (rI CDivW fun i j => .int (i / j)) fDiv := fun H0 H x y d e Q R _ hx hy h k => by
  unfold fDiv at h
  split at h
  · cases hx; cases hy
    exact ⟨_, _, rfl, rfl, h.1, k _ _ h.2 (.int _)⟩
  · exact h.elim
theorem opd_shl : OpD K (rI CPow fun i j => .int (i * 2 ^ j.toNat)) fShl := fun H0 H x y d e Q R _ hx hy h k => by
  unfold fShl at h
  split at h
  · cases hx; cases hy
    exact ⟨_, _, rfl, rfl, h.1, k _ _ h.2 (.int _)⟩
  · exact h.elim
theorem opd_pow : OpD K (rI CPow fun i j => .int (i ^ j.toNat)) fPow := fun H0 H x y d e Q R _ hx hy h k => by
  unfold fPow at h
  split at h
  · cases hx; cases hy
    exact ⟨_, _, rfl, rfl, h.1, k _ _ h.2 (.int _)⟩
  · exact h.elim
theorem opd_lt : OpD K (rI0 fun i j => .bl (decide (i < j))) fLt := fun H0 H x y d e Q R _ hx hy h k => by
  unfold fLt at h
  split at h
  · cases hx; cases hy
    exact ⟨_, _, rfl, rfl, k _ _ h (.bl _)⟩
  · exact h.elim
theorem opd_le : OpD K (rI0 fun i j => .bl (decide (i ≤ j))) fLe := fun H0 H x y d e Q R _ hx hy h k => by
  unfold fLe at h
  split at h
  · cases hx; cases hy
    exact ⟨_, _, rfl, rfl, k _ _ h (.bl _)⟩
  · exact h.elim
theorem opd_gt : OpD K (rI0 fun i j => .bl (decide (j < i))) fGt := fun H0 H x y d e Q R _ hx hy h k => by
  unfold fGt at h
  split at h
  · cases hx; cases hy
    exact ⟨_, _, rfl, rfl, k _ _ h (.bl _)⟩
  · exact h.elim
theorem opd_ge : OpD K (rI0 fun i j => .bl (decide (j ≤ i))) fGe := fun H0 H x y d e Q R _ hx hy h k => by
  unfold fGe at h
  split at h
  · cases hx; cases hy
    exact ⟨_, _, rfl, rfl, k _ _ h (.bl _)⟩
  · exact h.elim
theorem eqv_int (i j : Int) : PyData.eqv (.int i) (.int j) = decide (i = j) := by
  rw [PyData.eqv]
  by_cases h : i = j <;> simp [h]
theorem shaped_int (i : Int) : SeqAt.shaped (.int i) = true := by simp [SeqAt.shaped, PyData.canLay0, PyData.depth]
theorem opd_eq : OpD K (rEqD K) fEq := fun H0 H x y d e Q R s hx hy h k => by
  unfold fEq at h
  split at h
  · refine ⟨_, _, (hx.mono s).sh (shaped_int _), (hy.mono s).sh (shaped_int _), shaped_int _, shaped_int _, ?_⟩
    rw [eqv_int]
    exact k _ _ h (.bl _)
  · exact ⟨_, _, (hx.mono s).sh h.1, (hy.mono s).sh h.2.1, h.1, h.2.1, k _ _ h.2.2 (.bl _)⟩
theorem opd_ne : OpD K (rNeD K) fNe := fun H0 H x y d e Q R s hx hy h k => by
  unfold fNe at h
  split at h
  · refine ⟨_, _, (hx.mono s).sh (shaped_int _), (hy.mono s).sh (shaped_int _), shaped_int _, shaped_int _, ?_⟩
    rw [eqv_int]
    exact k _ _ h (.bl _)
  · exact ⟨_, _, (hx.mono s).sh h.1, (hy.mono s).sh h.2.1, h.1, h.2.1, k _ _ h.2.2 (.bl _)⟩
theorem Rp.isNone {H : Hp} {v : V} {d : D} (h : Rp K H v d) : decide (v = .non) = isNone d := by cases h <;> rfl
theorem snd_isN (ha : SndE K ok ta wa) : SndE K ok (tIsN ta) (wIsN wa) := fun C H0 σ H env Q R rel hw k => ha C H0 σ H env _ _ rel hw fun d v H1 H01 q r1 e1 x1 => by
  rw [x1.isNone]
  exact k _ _ H1 H01 q r1 e1 (.bl _)
theorem snd_notN (ha : SndE K ok ta wa) : SndE K ok (tNotN ta) (wNotN wa) := fun C H0 σ H env Q R rel hw k => ha C H0 σ H env _ _ rel hw fun d v H1 H01 q r1 e1 x1 => by
  rw [x1.isNone]
  exact k _ _ H1 H01 q r1 e1 (.bl _)
theorem snd_neg (ha : SndE K ok ta wa) : SndE K ok (tUn (rU fun i => .int (-i)) ta) (wUn fNeg wa) := fun C H0 σ H env Q R rel hw k => ha C H0 σ H env _ _ rel hw fun d v H1 H01 q r1 e1 x1 => by
  unfold fNeg at q
  split at q
  · cases x1
    exact ⟨_, rfl, k _ _ H1 H01 q r1 e1 (.int _)⟩
  · exact q.elim
theorem snd_test (ha : SndE K ok ta wa) : SndT K ok (tTest ta) (wTest wa) := fun C H0 σ H env Q R rel hw k => ha C H0 σ H env _ _ rel hw fun d v H1 H01 q r1 e1 x1 => by
  try dsimp only at q
  split at q
  · cases x1
    exact ⟨_, rfl, k _ H1 H01 q r1 e1⟩
  · exact q.elim
theorem snd_tB (ha : SndE K ok ta wa) : SndT K ok (tB ta) (wTest wa) := snd_test ha
theorem snd_not (h : SndT K ok t wt) : SndT K ok (tNot t) (wNot wt) := fun C H0 σ H env Q R rel hw k => h C H0 σ H env _ _ rel hw fun b H1 H01 q r1 e1 => k _ H1 H01 q r1 e1
theorem snd_and (h : SndT K ok t wt) (h2 : SndT K ok u wu) : SndT K ok (tAnd t u) (wAnd wt wu) := fun C H0 σ H env Q R rel hw k => h C H0 σ H env _ _ rel hw fun b H1 H01 q r1 e1 => by
  cases b with
  | true =>
    refine iteT (h2 C H01 σ H1 env _ _ r1 (q.1 rfl) fun c H2 H02 q2 r2 e2 => k c H2 H02 q2 r2 (e1.trans e2))
  | false => exact iteF (k _ H1 H01 (q.2 rfl) r1 e1)
theorem snd_or (h : SndT K ok t wt) (h2 : SndT K ok u wu) : SndT K ok (tOr t u) (wOr wt wu) := fun C H0 σ H env Q R rel hw k => h C H0 σ H env _ _ rel hw fun b H1 H01 q r1 e1 => by
  cases b with
  | false =>
    refine iteF (h2 C H01 σ H1 env _ _ r1 (q.2 rfl) fun c H2 H02 q2 r2 e2 => k c H2 H02 q2 r2 (e1.trans e2))
  | true => exact iteT (k _ H1 H01 (q.1 rfl) r1 e1)
theorem snd_andD (h : SndT K ok t wt) (h2 : SndT K ok u wu) : SndT K ok (tAnd t u) (wAndD wt wu) := fun C H0 σ H env Q R rel hw k => h C H0 σ H env _ _ rel hw fun b H1 H01 q r1 e1 => by
  obtain ⟨c, q1, q2⟩ := q
  cases b with
  | true => exact iteT (h2 C H01 σ H1 env _ _ r1 (q1 rfl) fun d H2 H02 q3 r2 e2 => by subst q3; exact k _ H2 H02 q2 r2 (e1.trans e2))
  | false => exact iteF (k _ H1 H01 q2 r1 e1)
theorem snd_orD (h : SndT K ok t wt) (h2 : SndT K ok u wu) : SndT K ok (tOr t u) (wOrD wt wu) := fun C H0 σ H env Q R rel hw k => h C H0 σ H env _ _ rel hw fun b H1 H01 q r1 e1 => by
  obtain ⟨c, q1, q2⟩ := q
  cases b with
  | false => exact iteF (h2 C H01 σ H1 env _ _ r1 (q1 rfl) fun d H2 H02 q3 r2 e2 => by subst q3; exact k _ H2 H02 q2 r2 (e1.trans e2))
  | true => exact iteT (k _ H1 H01 q2 r1 e1)
/-- and, or as values of truth values -/
theorem snd_andV (h : SndE K ok ta wa) (h2 : SndE K ok tb wb) : SndE K ok (tAndV ta tb) (wBl (wAndD (wTest wa) (wTest wb))) := fun C H0 σ H env Q R rel hw k => h C H0 σ H env _ _ rel hw fun d v H1 H01 q r1 e1 x1 => by
  try dsimp only at q
  split at q
  · rename_i b
    cases x1
    obtain ⟨c, q1, q2⟩ := q
    refine ⟨b, rfl, ?_⟩
    cases b with
    | true =>
      refine iteT (h2 C H01 σ H1 env _ _ r1 (q1 rfl) fun d v H2 H02 q3 r2 e2 x2 => ?_)
      dsimp only at q3
      split at q3
      · subst q3; cases x2; exact k _ _ H2 H02 q2 r2 (e1.trans e2) (.bl _)
      · exact q3.elim
    | false => exact iteF (k _ _ H1 H01 q2 r1 e1 (.bl _))
  · exact q.elim
theorem snd_orV (h : SndE K ok ta wa) (h2 : SndE K ok tb wb) : SndE K ok (tOrV ta tb) (wBl (wOrD (wTest wa) (wTest wb))) := fun C H0 σ H env Q R rel hw k => h C H0 σ H env _ _ rel hw fun d v H1 H01 q r1 e1 x1 => by
  try dsimp only at q
  split at q
  · rename_i b
    cases x1
    obtain ⟨c, q1, q2⟩ := q
    refine ⟨b, rfl, ?_⟩
    cases b with
    | false =>
      refine iteF (h2 C H01 σ H1 env _ _ r1 (q1 rfl) fun d v H2 H02 q3 r2 e2 x2 => ?_)
      dsimp only at q3
      split at q3
      · subst q3; cases x2; exact k _ _ H2 H02 q2 r2 (e1.trans e2) (.bl _)
      · exact q3.elim
    | true => exact iteT (k _ _ H1 H01 q2 r1 e1 (.bl _))
  · exact q.elim
theorem snd_notV (h : SndE K ok ta wa) : SndE K ok (tNotV ta) (wBl (wNot (wTest wa))) := fun C H0 σ H env Q R rel hw k => h C H0 σ H env _ _ rel hw fun d v H1 H01 q r1 e1 x1 => by
  try dsimp only at q
  split at q
  · cases x1
    exact ⟨_, rfl, k _ _ H1 H01 q r1 e1 (.bl _)⟩
  · exact q.elim
theorem snd_ifE (h : SndT K ok t wt) (ha : SndE K ok ta wa) (hb : SndE K ok tb wb) : SndE K ok (tIf t ta tb) (wIfE wt wa wb) := fun C H0 σ H env Q R rel hw k => h C H0 σ H env _ _ rel hw fun b H1 H01 q r1 e1 => by
  cases b with
  | true => exact iteT (ha C H01 σ H1 env _ _ r1 (q.1 rfl) fun d v H2 H02 q2 r2 e2 x => k d v H2 H02 q2 r2 (e1.trans e2) x)
  | false => exact iteF (hb C H01 σ H1 env _ _ r1 (q.2 rfl) fun d v H2 H02 q2 r2 e2 x => k d v H2 H02 q2 r2 (e1.trans e2) x)
theorem snd_nil : SndA K ok tNil wNil := fun C H0 σ H env Q R rel hw k => k _ _ H H0 hw rel (Same.refl _) .nil
theorem ArgsR.mono {H0 H01 : Hp} {σ : L2.St} {env : EnvD} (e : Same H0 H01) : ∀ {as : List Ar} {xs : List V}, ArgsR K H0 σ env as xs → ArgsR K H01 σ env as xs
  | _, _, .nil => .nil
  | _, _, .cons h t => .cons (ArgR.mono e h) (ArgsR.mono e t)
theorem snd_cons {tr : TA} {wr : WA} (ha : SndE K ok ta wa) (hr : SndA K ok tr wr) : SndA K ok (tCons ta tr) (wCons wa wr) := fun C H0 σ H env Q R rel hw k =>
  ha C H0 σ H env _ _ rel hw fun d v H1 H01 q r1 e1 x1 => hr C H01 σ H1 env _ _ r1 q fun as vs H2 H02 q2 r2 e2 x2 => k _ _ H2 H02 q2 r2 (e1.trans e2) (.cons (show ArgR K H02 σ env (.v d) v from x1.mono e2) x2)
theorem snd_consH {i : Nat} {tr : TA} {wr : WA} (hr : SndA K ok tr wr) : SndA K ok (tCons (tVar i) tr) (wConsH i wr) := fun C H0 σ H env Q R rel hw k => by
  unfold wConsH at hw
  split at hw
  · rename_i hd
    obtain ⟨a, ds, e, _, _, _⟩ := rel.slot i _ (get_eq hd)
    exact ⟨_, e, hr C H0 σ H env _ _ rel hw fun as vs H2 H02 q2 r2 e2 x2 => k _ _ H2 H02 q2 r2 e2 (.cons (show ArgR K H02 σ env .hnd (.ref a) from ⟨i, a, get_eq hd, e, rfl⟩) x2)⟩
  · exact hw.elim
/-- no handle among the arguments -/
def plainA : List Ar → Bool
  | [] => true
  | .v _ :: r => plainA r
  | .hnd :: _ => false
theorem ArgsR.vals {H0 : Hp} {σ : L2.St} {env : EnvD} : ∀ {as : List Ar} {xs : List V}, ArgsR K H0 σ env as xs → plainA as = true → Rps K H0 xs (DL.vals as) ∧ xs.length = as.length
  | _, _, .nil, _ => ⟨.nil, rfl⟩
  | .v d :: _, _, .cons h t, p => let ⟨a, b⟩ := ArgsR.vals t p; ⟨.cons h a, by rw [List.length_cons, List.length_cons, b]⟩
  | .hnd :: _, _, .cons _ _, p => by cases p
end
/-- displays: items that are no handles -/
def wTupP (a : WA) : WE := fun env Q => a env fun as => plainA as = true ∧ as.length ≤ 1000 ∧ Q (.tuple (vals as))
def wLstP (a : WA) : WL := fun env Q => a env fun as => plainA as = true ∧ as.length ≤ 1000 ∧ Q (vals as)
section
variable {K : PySem.W.Frag} {ok : List D → Prop} {ta tb te : TE} {wa wb we : WE} {t u : TT} {wt wu : WT}
theorem le1000 {n : Nat} (h : n ≤ 1000) : n ≤ sizeLine := Nat.le_trans h (by decide)
theorem snd_tup {tr : TA} {wr : WA} (hr : SndA K ok tr wr) : SndE K ok (tTup tr) (wTupP wr) := fun C H0 σ H env Q R rel hw k =>
  hr C H0 σ H env _ _ rel hw fun as vs H1 H01 q r1 e1 x1 => by
    obtain ⟨q1, q2, q3⟩ := q
    obtain ⟨x2, l⟩ := x1.vals q1
    refine ⟨by rw [l]; exact le1000 q2, fun p hp => ?_⟩
    obtain ⟨r2, e2⟩ := r1.laid (o := .tup vs) hp
    exact k _ _ _ _ q3 r2 (e1.trans e2) (.tup (SqT.of upd_same) (x2.mono e2))
theorem snd_lst {tr : TA} {wr : WA} (hr : SndA K ok tr wr) : SndL K ok (tLst tr) (wLstP wr) := fun C H0 σ H env Q R rel hw k =>
  hr C H0 σ H env _ _ rel hw fun as vs H1 H01 q r1 e1 x1 => by
    obtain ⟨q1, q2, q3⟩ := q
    obtain ⟨x2, l⟩ := x1.vals q1
    refine ⟨by rw [l]; exact le1000 q2, fun p hp => ?_⟩
    exact k _ _ _ _ q3 (r1.laid0 hp) e1 ⟨r1.fresh hp, ⟨r1.sub.free hp, vs, upd_same, x2⟩, r1.noslot hp, r1.kp.free hp⟩
/-- a borrowed list or tuple as it is read -/
theorem Bor.seq {H0 H : Hp} {v : V} {d : D} (s : Same H0 H) (h : Bor K H0 H v d) {ds : List D} (e : d = .list ds ∨ d = .tuple ds) : ∃ p vs, v = .ref p ∧ Rps K H0 vs ds ∧ ((d = .list ds ∧ H p = some (.lst vs)) ∨ (d = .tuple ds ∧ SqT K H p vs)) := by
  rcases h with h | ⟨p, es, rfl, rfl, _, vs, hp, r⟩
  · rcases e with rfl | rfl
    · cases h with
      | lst h r => exact ⟨_, _, rfl, r, .inl ⟨rfl, s _ _ h⟩⟩
    · cases h with
      | tup h r => exact ⟨_, _, rfl, r, .inr ⟨rfl, Same.tup s h⟩⟩
  · rcases e with e | e
    · cases e; exact ⟨p, vs, rfl, r, .inl ⟨rfl, hp⟩⟩
    · cases e
theorem atI_rel {H0 : Hp} {vs : List V} {ds : List D} {i : Int} {d : D} (r : Rps K H0 vs ds) (h : atI ds i = some d) : ∃ v, atI vs i = some v ∧ Rp K H0 v d := by
  unfold atI at h ⊢
  rw [r.length]
  cases e : ixN ds.length i with
  | none => rw [e] at h; cases h
  | some j =>
    rw [e] at h
    exact r.get h
theorem snd_ix (ha : SndB K ok ta wa) (hb : SndE K ok tb wb) : SndE K ok (tOp (rIx K) ta tb) (wIx wa wb) := fun C H0 σ H env Q R rel hw k =>
  ha C H0 σ H env _ _ rel hw fun d v H1 H01 q r1 e1 x1 => hb C H01 σ H1 env _ _ r1 q fun e u H2 H02 q2 r2 e2 x2 => by
    unfold fIx at q2
    split at q2
    · rename_i ds i
      obtain ⟨x, hx, q3⟩ := q2
      obtain ⟨p, vs, rfl, r, h⟩ := (x1 H2 H02 r2 e2).seq r2.sub (.inl rfl)
      obtain ⟨w, hw, rw'⟩ := atI_rel r hx
      cases x2
      rcases h with ⟨_, h⟩ | ⟨h, _⟩
      · exact .inl ⟨p, vs, i, w, rfl, rfl, SqL.of h, hw, k _ _ H2 H02 q3 r2 (e1.trans e2) rw'⟩
      · cases h
    · rename_i ds i
      obtain ⟨x, hx, q3⟩ := q2
      obtain ⟨p, vs, rfl, r, h⟩ := (x1 H2 H02 r2 e2).seq r2.sub (.inr rfl)
      obtain ⟨w, hw, rw'⟩ := atI_rel r hx
      cases x2
      rcases h with ⟨h, _⟩ | ⟨_, h⟩
      · cases h
      · exact .inr (.inl ⟨p, vs, i, w, rfl, rfl, h, hw, k _ _ H2 H02 q3 r2 (e1.trans e2) rw'⟩)
    · rename_i ds i
      obtain ⟨x, hx, q3⟩ := q2
      rcases x1 H2 H02 r2 e2 with h | ⟨_, _, _, h, _⟩
      · cases h with
        | @scr a ns h =>
          obtain ⟨w, hw, rw'⟩ := atI_rel (K := K) (H0 := H02) (Rps.of_ints ns) hx
          cases x2
          exact .inl ⟨a, _, i, w, rfl, rfl, r2.sub.seq h, hw, k _ _ H2 H02 q3 r2 (e1.trans e2) rw'⟩
      · cases h
    · exact q2.elim
/-- a call of one argument that is read at once -/
theorem snd_len (ha : SndB K ok ta wa) : SndE K ok (tCB (fun xs H Q => ∃ p ys, xs = [.ref p] ∧ (SqL K H p ys ∨ SqT K H p ys) ∧ Q (.int ys.length) H) (tCons ta tNil)) (wLen wa) := fun C H0 σ H env Q R rel hw k =>
  ha C H0 σ H env _ _ rel hw fun d v H1 H01 q r1 e1 x1 => by
    have b := x1 H1 H01 r1 (Same.refl _)
    try dsimp only at q
    split at q
    · rename_i ds
      obtain ⟨p, vs, rfl, r, h⟩ := b.seq r1.sub (.inl rfl)
      rcases h with ⟨_, h⟩ | ⟨h, _⟩
      · refine ⟨p, vs, rfl, .inl (SqL.of h), k _ _ H1 H01 ?_ r1 e1 (.int _)⟩
        rw [r.length]; exact q
      · cases h
    · rename_i ds
      obtain ⟨p, vs, rfl, r, h⟩ := b.seq r1.sub (.inr rfl)
      rcases h with ⟨h, _⟩ | ⟨_, h⟩
      · cases h
      · refine ⟨p, vs, rfl, .inr h, k _ _ H1 H01 ?_ r1 e1 (.int _)⟩
        rw [r.length]; exact q
    · rename_i ds
      rcases b with h | ⟨_, _, _, h, _⟩
      · cases h with
        | @scr a ns h =>
          refine ⟨a, _, rfl, .inl (r1.sub.seq h), k _ _ H1 H01 ?_ r1 e1 (.int _)⟩
          rw [List.length_map] at q ⊢
          exact q
      · cases h
    · exact q.elim
end
/-! ### the promise of a def -/
def HndArgs (as : List Ar) : Nat := (as.filter fun a => match a with | .hnd => true | _ => false).length
inductive ArgsOk (K : PySem.W.Frag) (H0 : Hp) (ha : Option Addr) : List V → List Ar → Prop
  | nil : ArgsOk K H0 ha [] []
  | cons {x : V} {d : D} {xs : List V} {as : List Ar} : Rp K H0 x d → ArgsOk K H0 ha xs as → ArgsOk K H0 ha (x :: xs) (.v d :: as)
  | hnd {a : Addr} {xs : List V} {as : List Ar} : ha = some a → ArgsOk K H0 ha xs as → ArgsOk K H0 ha (.ref a :: xs) (.hnd :: as)
def RetOk (K : PySem.W.Frag) (He H0 H : Hp) (v : V) : Rt → Prop
  | .v d => Rp K H0 v d
  | .own ds => ∃ p, v = .ref p ∧ He p = none ∧ OwnAt K H0 H p ds
structure PostOk (K : PySem.W.Frag) (ok : List D → Prop) (H0 H : Hp) (ha : Option Addr) (v : V) (H' : Hp) (r : Rt) (H01 : Hp) : Prop where
  grow : Same H0 H01
  sub : Same H01 H'
  new : ∀ b o, H01 b = some o → H0 b = some o ∨ H b = none
  fr : ∀ b o, H b = some o → some b ≠ ha → H' b = some o
  hv : ∀ a, ha = some a → ∃ ds, OwnAt K H01 H' a ds ∧ ok ds
  res : RetOk K H H01 H' v r
/-- at most one handle -/
def oneH : List Ar → Bool
  | [] => true
  | .v _ :: r => oneH r
  | .hnd :: r => plainA r
/-- at a call: H0, the known part; ha: the handle that is handed in -/
def SpD (K : PySem.W.Frag) (ok : List D → Prop) (n : Nat) (M : WM) : Sp := fun vs H Q _ => ∃ (H0 : Hp) (ha : Option Addr) (as : List Ar) (Q' : Rt → Prop), as.length = n ∧ vs.length = n ∧ oneH as = true ∧ Same H0 H ∧ ArgsOk K H0 ha vs as ∧
  (∀ a, ha = some a → ∃ ds, OwnAt K H0 H a ds ∧ ok ds) ∧ M as Q' ∧ ∀ v H' r H01, Q' r → PostOk K ok H0 H ha v H' r H01 → Q v H'
section
variable {K : PySem.W.Frag} {ok : List D → Prop}
theorem argsOk_plain {H0 : Hp} {σ : L2.St} {env : EnvD} {ha : Option Addr} : ∀ {as : List Ar} {xs : List V}, ArgsR K H0 σ env as xs → plainA as = true → ArgsOk K H0 ha xs as
  | _, _, .nil, _ => .nil
  | .v d :: _, _, .cons h t, p => .cons h (argsOk_plain t p)
  | .hnd :: _, _, .cons _ _, p => by cases p
theorem argsOk_one {H0 : Hp} {σ : L2.St} {env : EnvD} : ∀ {as : List Ar} {xs : List V}, ArgsR K H0 σ env as xs → oneH as = true →
    (plainA as = true ∧ ArgsOk K H0 none xs as) ∨ ∃ (i : Nat) (a : Addr), env[i]? = some (some .hnd) ∧ σ[i]? = some (some (.ref a)) ∧ ArgsOk K H0 (some a) xs as
  | _, _, .nil, _ => .inl ⟨rfl, .nil⟩
  | .v d :: _, _, .cons h t, p => by
    rcases argsOk_one t p with ⟨p', h'⟩ | ⟨i, a, e1, e2, h'⟩
    · exact .inl ⟨p', .cons h h'⟩
    · exact .inr ⟨i, a, e1, e2, .cons h h'⟩
  | .hnd :: _, _, .cons h t, p => by
    obtain ⟨i, a, e1, e2, rfl⟩ := h
    exact .inr ⟨i, a, e1, e2, .hnd rfl (argsOk_plain t p)⟩
/-- what a call does, for the caller -/
theorem call_core {n : Nat} {M : WM} {C : Ctx} {H0 : Hp} {σ : L2.St} {H : Hp} {env : EnvD} {as : List Ar} {vs : List V} {Q' : Rt → Prop} {R : VK} (rel : Rel K ok C H0 σ H env) (ha : ArgsR K H0 σ env as vs) (h1 : oneH as = true) (hn : as.length = n) (hM : M as Q')
    (k : ∀ v r H1 H01, Q' r → Rel K ok C H01 σ H1 env → Same H0 H01 → (match r with | .v d => Rp K H01 v d | .own ds => ∃ p, v = .ref p ∧ FreshL K C H01 σ H1 env p ds) → R v H1) : SpD K ok n M vs H R fun _ _ _ => False := by
  have hl : vs.length = n := by rw [← ha.length]; exact hn
  have fin : ∀ {ha' : Option Addr} {v : V} {H' : Hp} {r : Rt} {H01 : Hp}, Q' r → PostOk K ok H0 H ha' v H' r H01 → Rel K ok C H01 σ H' env → R v H' := fun {ha' v H' r H01} q P r2 => k v r H' H01 q r2 P.grow (by
    have z := P.res
    cases r with
    | v d => exact z
    | own ds =>
      obtain ⟨p, e, n1, o⟩ := z
      exact ⟨p, e, rel.fresh n1, o, rel.noslot n1, rel.kp.free n1⟩)
  rcases argsOk_one ha h1 with ⟨_, h'⟩ | ⟨i, a, e1, e2, h'⟩
  · exact ⟨H0, none, as, Q', hn, hl, h1, rel.sub, h', fun a z => (by cases z), hM, fun v H' r H01 q P => fin q P (rel.step P.grow P.sub P.new fun b o z => P.fr b o z (by simp))⟩
  · obtain ⟨a', da, ea', _, o1, k1⟩ := rel.slot i _ e1
    rw [e2] at ea'
    cases ea'
    refine ⟨H0, some a, as, Q', hn, hl, h1, rel.sub, h', fun b z => (by cases z; exact ⟨da, o1, k1⟩), hM, fun v H' r H01 q P => fin q P ?_⟩
    obtain ⟨ds', o2, k2⟩ := P.hv a rfl
    exact rel.called e1 e2 P.grow P.sub P.new (fun b o z hb => P.fr b o z (by simpa using hb)) o2.n0 o2 k2
theorem SpD.exc {n : Nat} {M : WM} {vs : List V} {H : Hp} {Q : VK} {E E' : XK} (h : SpD K ok n M vs H Q E) : SpD K ok n M vs H Q E' := h
end
def wCallP (n : Nat) (M : WM) (a : WA) : WE := fun env Q => a env fun as => oneH as = true ∧ as.length = n ∧ M as fun r => Q r.val
def wCallOP (n : Nat) (M : WM) (a : WA) : WL := fun env Q => a env fun as => oneH as = true ∧ as.length = n ∧ M as fun r => match r with
  | .own ds => Q ds
  | .v _ => False
section
variable {K : PySem.W.Frag} {ok : List D → Prop}
theorem snd_call {n : Nat} {M : WM} {tr : TA} {wr : WA} {E : XK} (hr : SndA K ok tr wr) : SndE K ok (tCall (SpD K ok n M) [] E tr) (wCallP n M wr) := fun C H0 σ H env Q R rel hw k =>
  hr C H0 σ H env _ _ rel hw fun as vs H1 H01 q r1 e1 x1 => by
    obtain ⟨q1, q2, q3⟩ := q
    show SpD K ok n M (vs ++ []) H1 R E
    rw [List.append_nil]
    refine SpD.exc (call_core r1 x1 q1 q2 q3 fun v r H2 H02 hq r2 e2 z => ?_)
    cases r with
    | v d => exact k _ _ H2 H02 hq r2 (e1.trans e2) z
    | own ds =>
      obtain ⟨p, rfl, f⟩ := z
      obtain ⟨n0, ws, hp, hr'⟩ := f.own
      obtain ⟨r3, e3⟩ := r2.know hp n0 f.he f.kq f.ns
      exact k _ _ H2 _ hq r3 ((e1.trans e2).trans e3) (.lst upd_same (hr'.mono e3))
theorem snd_callO {n : Nat} {M : WM} {tr : TA} {wr : WA} {E : XK} (hr : SndA K ok tr wr) : SndL K ok (tCall (SpD K ok n M) [] E tr) (wCallOP n M wr) := fun C H0 σ H env Q R rel hw k =>
  hr C H0 σ H env _ _ rel hw fun as vs H1 H01 q r1 e1 x1 => by
    obtain ⟨q1, q2, q3⟩ := q
    show SpD K ok n M (vs ++ []) H1 R E
    rw [List.append_nil]
    refine SpD.exc (call_core r1 x1 q1 q2 q3 fun v r H2 H02 hq r2 e2 z => ?_)
    cases r with
    | v d => exact hq.elim
    | own ds =>
      obtain ⟨p, rfl, f⟩ := z
      exact k _ _ H2 H02 hq r2 (e1.trans e2) f
end
end DL
/-! DL, part c: statements, loops, comprehensions, defs. -/
namespace DL
open PySem L2

structure WEnds where
  nx : EnvD → Prop
  rt : Rt → Prop
  bk : EnvD → Prop := fun _ => False
  ct : EnvD → Prop := fun _ => False
abbrev WS := WEnds → EnvD → Prop
abbrev WI := EnvD → (List D → Prop) → Prop
abbrev WG := D → EnvD → (EnvD → Prop) → Prop
structure EndsOk (K : PySem.W.Frag) (ok : List D → Prop) (C : Ctx) (H0 : Hp) (E : Ends) (W : WEnds) : Prop where
  nx : ∀ env σ H H01, Same H0 H01 → Rel K ok C H01 σ H env → W.nx env → E.nx σ H
  rt : ∀ r v σ H H01 env, Same H0 H01 → Rel K ok C H01 σ H env → W.rt r → RetOk K C.He H01 H v r → E.rt v H
  bk : ∀ env σ H H01, Same H0 H01 → Rel K ok C H01 σ H env → W.bk env → E.bk σ H
  ct : ∀ env σ H H01, Same H0 H01 → Rel K ok C H01 σ H env → W.ct env → E.ct σ H
def SndS (K : PySem.W.Frag) (ok : List D → Prop) (ts : TS) (ws : WS) : Prop := ∀ (C : Ctx) (H0 : Hp) (σ : L2.St) (H : Hp) (env : EnvD) (E : Ends) (W : WEnds), Rel K ok C H0 σ H env → ws W env → EndsOk K ok C H0 E W → ts E σ H
/-- what is walked: as many turns as ds has items -/
structure WalkD (K : PySem.W.Frag) (J : It) (ds : List D) (H01 : Hp) : Prop where
  goes : ∀ i H, i < ds.length → Same H01 H → J.go i H
  stops : ∀ H, Same H01 H → J.stop ds.length H
  yields : ∀ i H x H', i < ds.length → Same H01 H → J.yld i H x H' → ∃ d, ds[i]? = some d ∧ ((H' = H ∧ Rp K H01 x d) ∨ ∃ T xs es, x = .ref T ∧ H T = none ∧ H' = upd H T (.tup xs) ∧ d = .tuple es ∧ Rps K H01 xs es)
def SndI (K : PySem.W.Frag) (ok : List D → Prop) (ti : TI) (wi : WI) : Prop := ∀ (C : Ctx) (H0 : Hp) (σ : L2.St) (H : Hp) (env : EnvD) (Q : List D → Prop) (R : It → Hp → Prop), Rel K ok C H0 σ H env → wi env Q →
  (∀ ds J H1 H01, Q ds → Rel K ok C H01 σ H1 env → Same H0 H01 → WalkD K J ds H01 → R J H1) → ti σ H R
def wpE (env : EnvD) : List Nat → EnvD
  | [] => env
  | v :: vs => (wpE env vs).set v none
def SndG (K : PySem.W.Frag) (ok : List D → Prop) (vs : List Nat) (g : TG) (wg : WG) : Prop := ∀ (C : Ctx) (H0 : Hp) (σ : L2.St) (H : Hp) (env : EnvD) (x : V) (d : D) (Q : EnvD → Prop) (R : L2.St → Hp → Prop), Rel K ok C H0 σ H env → Rp K H0 x d → wg d env Q →
  (∀ env' σ', Rel K ok C H0 σ' H env' → Q env' → wipe σ' vs = wipe σ vs ∧ wpE env' vs = wpE env vs → R σ' H) → g x σ H R

/-! ### what is asked -/
def wSeq (a b : WS) : WS := fun W env => a { W with nx := b W } env
def wNx : WS := fun W env => W.nx env
def wBk : WS := fun W env => W.bk env
def wCt : WS := fun W env => W.ct env
def wNever : WS := fun _ _ => False
def wSet (i : Nat) (a : WE) : WS := fun W env => a env fun d => W.nx (env.set i (some (.v d)))
def wSetO (i : Nat) (a : WL) : WS := fun W env => a env fun ds => W.nx (env.set i (some (.own ds)))
def wSetH (ok : List D → Prop) (i : Nat) (a : WL) : WS := fun W env => a env fun ds => ok ds ∧ W.nx (env.set i (some .hnd))
def wDrop (a : WE) : WS := fun W env => a env fun _ => W.nx env
def wRet (a : WE) : WS := fun W env => a env fun d => W.rt (.v d)
def wRetO (a : WL) : WS := fun W env => a env fun ds => W.rt (.own ds)
def wRetV (i : Nat) : WS := fun W env => match get env i with
  | some (.v d) => W.rt (.v d)
  | some (.own ds) => W.rt (.own ds)
  | _ => False
def wRetN : WS := fun W _ => W.rt (.v .none)
def wIf (t : WT) (a b : WS) : WS := fun W env => t env fun c => (c = true → a W env) ∧ (c = false → b W env)
def frz (i : Nat) (env : EnvD) : EnvD := match get env i with
  | some (.own ds) => env.set i (some (.v (.list ds)))
  | _ => env
def wFrz (i : Nat) (s : WS) : WS := fun W env => s W (frz i env)
def wApp (i : Nat) (a : WE) : WS := fun W env => match get env i with
  | some (.own ds) => a env fun d => ds.length < 1000000 ∧ W.nx (env.set i (some (.own (ds ++ [d]))))
  | _ => False
def wExt (i : Nat) (a : WE) : WS := fun W env => match get env i with
  | some (.own ds) => a env fun d => match d with
    | .list es => ds.length + es.length < 1000000 ∧ W.nx (env.set i (some (.own (ds ++ es))))
    | _ => False
  | _ => False
def wPop (i : Nat) : WS := fun W env => match get env i with
  | some (.own ds) => ds ≠ [] ∧ W.nx (env.set i (some (.own ds.dropLast)))
  | _ => False
def wPut (i : Nat) (k a : WE) : WS := fun W env => match get env i with
  | some (.own ds) => a env fun d => k env fun j => match j with
    | .int z => ∃ n, ixN ds.length z = some n ∧ W.nx (env.set i (some (.own (ds.set n d))))
    | _ => False
  | _ => False
def wPar (i j : Nat) (a : WA) : WS := fun W env => a env fun as => match as with
  | [.v x, .v y] => W.nx ((env.set i (some (.v x))).set j (some (.v y)))
  | _ => False
def wWhile (t : WT) (b : WS) : WS := fun W env => ∃ I : Nat → EnvD → Prop, (∃ m, I m env) ∧ ∀ m env, I m env → t env fun c =>
  (c = true → ∃ N : EnvD → Prop, (∀ e, N e → ∃ m', m' < m ∧ I m' e) ∧ b { W with nx := N, ct := N, bk := W.nx } env) ∧ (c = false → W.nx env)
def wFor (wi : WI) (wg : WG) (b : WS) : WS := fun W env => wi env fun ds => ∃ I : Nat → EnvD → Prop, I 0 env ∧
  (∀ i d env, ds[i]? = some d → I i env → wg d env fun env2 => b { W with nx := I (i + 1), ct := I (i + 1), bk := W.nx } env2) ∧ ∀ env, I ds.length env → W.nx env
def wAsg (a : WE) (g : WG) : WS := fun W env => a env fun d => g d env W.nx
def gN (i : Nat) : WG := fun d env Q => Q (env.set i (some (.v d)))
abbrev WGs := List D → EnvD → (EnvD → Prop) → Prop
def gsNil : WGs := fun ds env Q => ds = [] ∧ Q env
def gsCons (a : WG) (r : WGs) : WGs := fun ds env Q => match ds with
  | d :: es => a d env fun env' => r es env' Q
  | [] => False
def gT (n : Nat) (r : WGs) : WG := fun d env Q => match d with
  | .tuple ds => ds.length = n ∧ r ds env Q
  | _ => False
def iL (a : WE) : WI := fun env Q => a env fun d => match d with
  | .list ds => Q ds
  | _ => False
def iT (a : WE) : WI := fun env Q => a env fun d => match d with
  | .tuple ds => Q ds
  | _ => False
/-- lo, lo + 1, .. (n of them) -/
def rng (lo : Int) (n : Nat) : List D := (List.range n).map fun i : Nat => PyData.int (lo + i)
def iR1 (a : WE) : WI := fun env Q => a env fun d => match d with
  | .int j => (-(2 ^ 62) ≤ j ∧ j < 2 ^ 62) ∧ Q (rng 0 j.toNat)
  | _ => False
def iR2 (a b : WE) : WI := fun env Q => a env fun d => b env fun e => match d, e with
  | .int i, .int j => (-(2 ^ 62) ≤ i ∧ i < 2 ^ 62 ∧ -(2 ^ 62) ≤ j ∧ j < 2 ^ 62) ∧ Q (rng i (j - i).toNat)
  | _, _ => False
/-- i, i + c, .. as long as it is short of j -/
def rngC (lo c : Int) (n : Nat) : List D := (List.range n).map fun i : Nat => PyData.int (lo + i * c)
def iR3 (a b c : WE) : WI := fun env Q => a env fun d => b env fun e => c env fun s => match d, e, s with
  | .int i, .int j, .int k => ∃ n, RgC i j k n ∧ Q (rngC i k n)
  | _, _, _ => False
def iRev (a : WE) : WI := fun env Q => a env fun d => match d with
  | .list ds => Q ds.reverse
  | _ => False
def wYes : WT := fun _ Q => Q true
/-- the slots of a block's own names hold values, or nothing -/
def wpN (env : EnvD) : List Nat → Prop
  | [] => True
  | i :: vs => (match get env i with | some s => s.isOwn = false | none => True) ∧ wpN env vs
def wLc (wi : WI) (wg : WG) (wt : WT) (we : WE) (vs : List Nat) : WL := fun env Q => wi env fun ds => ds.length < 1000000 ∧ wpN env vs ∧ ∃ I : Nat → List D → Prop, I 0 [] ∧
  (∀ i d acc, ds[i]? = some d → I i acc → wg d (wpE env vs) fun env2 => wt env2 fun b => (b = true → we env2 fun y => I (i + 1) (acc ++ [y])) ∧ (b = false → I (i + 1) acc)) ∧ ∀ acc, I ds.length acc → Q acc

/-! ### soundness -/
section
variable {K : PySem.W.Frag} {ok : List D → Prop} {C : Ctx} {H0 H01 : Hp} {E : Ends} {W : WEnds}
theorem EndsOk.mono (h : EndsOk K ok C H0 E W) (e : Same H0 H01) : EndsOk K ok C H01 E W :=
  ⟨fun a b c d s => h.nx a b c d (e.trans s), fun a b c d x y s => h.rt a b c d x y (e.trans s), fun a b c d s => h.bk a b c d (e.trans s), fun a b c d s => h.ct a b c d (e.trans s)⟩
variable {t u : TS} {a b : WS} {te : TE} {we : WE} {wl : WL} {tt : TT} {wt : WT}
theorem ss_seq (ha : SndS K ok t a) (hb : SndS K ok u b) : SndS K ok (tSeq t u) (wSeq a b) := fun C H0 σ H env E W rel hw h =>
  ha C H0 σ H env _ { W with nx := b W } rel hw ⟨fun env' σ' H' H01 s r q => hb C H01 σ' H' env' E W r q (h.mono s), h.rt, h.bk, h.ct⟩
theorem ss_nx : SndS K ok tNext wNx := fun C H0 σ H env E W rel hw h => h.nx env σ H H0 (Same.refl _) rel hw
theorem ss_bk : SndS K ok tBreak wBk := fun C H0 σ H env E W rel hw h => h.bk env σ H H0 (Same.refl _) rel hw
theorem ss_ct : SndS K ok tCont wCt := fun C H0 σ H env E W rel hw h => h.ct env σ H H0 (Same.refl _) rel hw
theorem ss_never : SndS K ok tNever wNever := fun C H0 σ H env E W rel hw h => hw.elim
theorem ss_set {i : Nat} (he : SndE K ok te we) : SndS K ok (tAsg te (gName i)) (wSet i we) := fun C H0 σ H env E W rel hw h =>
  he C H0 σ H env _ _ rel hw fun d v H1 H01 q r e x => h.nx _ _ _ H01 e (r.setV x) q
theorem ss_setO {i : Nat} (he : SndL K ok te wl) : SndS K ok (tAsg te (gName i)) (wSetO i wl) := fun C H0 σ H env E W rel hw h =>
  he C H0 σ H env _ _ rel hw fun ds p H1 H01 q r e f => h.nx _ _ _ H01 e (r.setO (s := .own ds) ⟨p, rfl, f.he, f.own⟩ rfl f.kq fun j t _ ht ot => f.ns j t ht ot) q
theorem ss_setH {i : Nat} (he : SndL K ok te wl) : SndS K ok (tAsg te (gName i)) (wSetH ok i wl) := fun C H0 σ H env E W rel hw h =>
  he C H0 σ H env _ _ rel hw fun ds p H1 H01 q r e f => h.nx _ _ _ H01 e (r.setO (s := .hnd) ⟨p, ds, rfl, .inr f.he, f.own, q.1⟩ rfl f.kq fun j t _ ht ot => f.ns j t ht ot) q.2
theorem ss_drop (he : SndE K ok te we) : SndS K ok (tDrop te) (wDrop we) := fun C H0 σ H env E W rel hw h =>
  he C H0 σ H env _ _ rel hw fun d v H1 H01 q r e x => h.nx _ _ _ H01 e r q
theorem ss_ret (he : SndE K ok te we) : SndS K ok (tRet te) (wRet we) := fun C H0 σ H env E W rel hw h =>
  he C H0 σ H env _ _ rel hw fun d v H1 H01 q r e x => h.rt (.v d) v σ H1 H01 env e r q x
theorem ss_retO (he : SndL K ok te wl) : SndS K ok (tRet te) (wRetO wl) := fun C H0 σ H env E W rel hw h =>
  he C H0 σ H env _ _ rel hw fun ds p H1 H01 q r e f => h.rt (.own ds) _ σ H1 H01 env e r q ⟨p, rfl, f.he, f.own⟩
theorem ss_retV {i : Nat} : SndS K ok (tRet (tVar i)) (wRetV i) := fun C H0 σ H env E W rel hw h => by
  unfold wRetV at hw
  split at hw
  · rename_i d hd
    obtain ⟨v, e, x⟩ := rel.slot i _ (get_eq hd)
    exact ⟨v, e, h.rt _ v σ H H0 env (Same.refl _) rel hw x⟩
  · rename_i ds hd
    obtain ⟨p, e, n, o⟩ := rel.slot i _ (get_eq hd)
    exact ⟨_, e, h.rt (.own ds) _ σ H H0 env (Same.refl _) rel hw ⟨p, rfl, n, o⟩⟩
  · exact hw.elim
theorem ss_retN : SndS K ok tRetN wRetN := fun C H0 σ H env E W rel hw h => h.rt (.v .none) .non σ H H0 env (Same.refl _) rel hw .non
theorem ss_if (hc : SndT K ok tt wt) (ha : SndS K ok t a) (hb : SndS K ok u b) : SndS K ok (tIfS tt t u) (wIf wt a b) := fun C H0 σ H env E W rel hw h =>
  hc C H0 σ H env _ _ rel hw fun c H1 H01 q r e => by
    cases c with
    | true => exact iteT (ha C H01 σ H1 env E W r (q.1 rfl) (h.mono e))
    | false => exact iteF (hb C H01 σ H1 env E W r (q.2 rfl) (h.mono e))
theorem ss_frz {i : Nat} (ha : SndS K ok t a) : SndS K ok t (wFrz i a) := fun C H0 σ H env E W rel hw h => by
  unfold wFrz frz at hw
  split at hw
  · rename_i ds hd
    have he := get_eq hd
    obtain ⟨p, e, n, n0, vs, hp, hr⟩ := rel.slot i _ he
    -- the slot is forgotten, then the list becomes known, then the slot holds it
    have r1 : Rel K ok C H0 σ H (env.set i none) := by
      have q := rel.drop (i := i) (y := some (.ref p))
      have es : σ.set i (some (.ref p)) = σ := by
        apply List.ext_getElem?
        intro j
        by_cases hj : i = j
        · subst hj
          rw [e]
          have lt : i < σ.length := by rw [rel.len]; exact (List.getElem?_eq_some_iff.mp he).1
          rw [List.getElem?_set_self lt]
        · rw [List.getElem?_set_ne hj]
      rw [es] at q
      exact q
    obtain ⟨r2, e2⟩ := r1.know hp n0 n (rel.kn i _ p he rfl e) (fun j s hs os z => by
      have hj : i ≠ j := fun y => by
        subst y
        rw [List.getElem?_set_self (List.getElem?_eq_some_iff.mp he).1] at hs; cases hs
      rw [List.getElem?_set_ne hj] at hs
      exact rel.dis i j _ s p hj he hs rfl os e z)
    have r3 := r2.setV (i := i) (x := .ref p) (d := .list ds) (.lst upd_same (hr.mono e2))
    have es : σ.set i (some (.ref p)) = σ := by
      apply List.ext_getElem?
      intro j
      by_cases hj : i = j
      · subst hj
        rw [e]
        have lt : i < σ.length := by rw [rel.len]; exact (List.getElem?_eq_some_iff.mp he).1
        rw [List.getElem?_set_self lt]
      · rw [List.getElem?_set_ne hj]
    rw [es, List.set_set] at r3
    exact ha C _ σ H _ E W r3 hw (h.mono e2)
  · exact ha C H0 σ H env E W rel hw h
theorem lt_size {n : Nat} (h : n < 1000000) : n < sizeLine := Nat.lt_trans h (by decide)
/-- an own slot's list is changed -/
theorem Rel.putL {σ : L2.St} {H : Hp} {env : EnvD} (rel : Rel K ok C H0 σ H env) {i : Nat} {p : Addr} {ds es : List D} {ws : List V} (he : env[i]? = some (some (.own ds))) (e : σ[i]? = some (some (.ref p))) (n : C.He p = none) (n0 : H0 p = none) (hr : Rps K H0 ws es) :
    Rel K ok C H0 σ (upd H p (.lst ws)) (env.set i (some (.own es))) :=
  rel.put (s := .own ds) (t := .own es) he rfl e (fun z => by obtain ⟨⟨o, y⟩, _⟩ := rel.hv p z; rw [n] at y; cases y) rfl ⟨p, rfl, n, n0, ws, upd_same, hr⟩
theorem ss_app {i : Nat} (he : SndE K ok te we) : SndS K ok (tDrop (tBM K "list" rAppend (tVar i) (tCons te tNil))) (wApp i we) := fun C H0 σ H env E W rel hw h => by
  unfold wApp at hw
  split at hw
  · rename_i ds hd
    obtain ⟨p, e, n, n0, vs0, hp0, hr0⟩ := rel.slot i _ (get_eq hd)
    refine ⟨.ref p, e, .inl ⟨rfl, vs0, SqL.of hp0⟩, ?_⟩
    refine he C H0 σ H env _ _ rel hw fun d v H1 H01 q r e1 x => ?_
    obtain ⟨p', e', n, n0, vs, hp, hr⟩ := r.slot i _ (get_eq hd)
    rw [e] at e'
    cases e'
    refine ⟨p, vs, v, rfl, rfl, hp, by rw [hr.length]; exact lt_size q.1, ?_⟩
    exact h.nx _ _ _ H01 e1 (r.putL (get_eq hd) e n n0 (hr.append (.one x))) q.2
  · exact hw.elim
theorem ss_ext {i : Nat} (he : SndE K ok te we) : SndS K ok (tDrop (tBM K "list" rExtend (tVar i) (tCons te tNil))) (wExt i we) := fun C H0 σ H env E W rel hw h => by
  unfold wExt at hw
  split at hw
  · rename_i ds hd
    obtain ⟨p, e, n, n0, vs0, hp0, hr0⟩ := rel.slot i _ (get_eq hd)
    refine ⟨.ref p, e, .inl ⟨rfl, vs0, SqL.of hp0⟩, ?_⟩
    refine he C H0 σ H env _ _ rel hw fun d v H1 H01 q r e1 x => ?_
    obtain ⟨p', e', n, n0, vs, hp, hr⟩ := r.slot i _ (get_eq hd)
    rw [e] at e'
    cases e'
    try dsimp only at q
    split at q
    · cases x with
      | lst hb rb =>
        refine ⟨p, _, vs, _, rfl, rfl, hp, r.sub _ _ hb, by rw [hr.length, rb.length]; exact Nat.le_of_lt (lt_size q.1), ?_⟩
        exact h.nx _ _ _ H01 e1 (r.putL (get_eq hd) e n n0 (hr.append rb)) q.2
    · exact q.elim
  · exact hw.elim
theorem ss_pop {i : Nat} : SndS K ok (tDrop (tBM0 K "list" rPop (tVar i))) (wPop i) := fun C H0 σ H env E W rel hw h => by
  unfold wPop at hw
  split at hw
  · rename_i ds hd
    obtain ⟨p, e, n, n0, vs, hp, hr⟩ := rel.slot i _ (get_eq hd)
    have lt : vs.length - 1 < vs.length := by
      have := hr.length
      have : ds.length ≠ 0 := fun z => hw.1 (List.eq_nil_of_length_eq_zero z)
      omega
    refine ⟨.ref p, e, .inl ⟨rfl, vs, SqL.of hp⟩, p, vs, vs[vs.length - 1], rfl, rfl, hp, List.getElem?_eq_getElem lt, ?_⟩
    exact h.nx _ _ _ H0 (Same.refl _) (rel.putL (get_eq hd) e n n0 hr.dropLast) hw.2
  · exact hw.elim
theorem ss_put {i : Nat} {tk : TE} {wk : WE} (he : SndE K ok te we) (hk : SndE K ok tk wk) : SndS K ok (tAsg te (gSub (tVar i) tk rSetL)) (wPut i wk we) := fun C H0 σ H env E W rel hw h => by
  unfold wPut at hw
  split at hw
  · rename_i ds hd
    refine he C H0 σ H env _ _ rel hw fun d v H1 H01 q r e1 x => ?_
    obtain ⟨p, e, n, n0, vs0, hp0, hr0⟩ := r.slot i _ (get_eq hd)
    refine ⟨.ref p, e, hk C H01 σ H1 env _ _ r q fun j u H2 H02 q2 r2 e2 y => ?_⟩
    try dsimp only at q2
    split at q2
    · cases y
      obtain ⟨m, hm, q3⟩ := q2
      obtain ⟨p', e', n, n0, vs, hp, hr⟩ := r2.slot i _ (get_eq hd)
      rw [e] at e'
      cases e'
      refine ⟨p, vs, _, m, rfl, rfl, hp, by rw [hr.length]; exact hm, ?_⟩
      exact h.nx _ _ _ H02 (e1.trans e2) (r2.putL (get_eq hd) e n n0 (hr.set (x.mono e2) m)) q3
    · exact q2.elim
  · exact hw.elim
theorem ss_par {i j : Nat} {ta : TA} {wa : WA} (ha : SndA K ok ta wa) : SndS K ok (tPar i j ta) (wPar i j wa) := fun C H0 σ H env E W rel hw h =>
  ha C H0 σ H env _ _ rel hw fun as vs H1 H01 q r e x => by
    try dsimp only at q
    split at q
    · cases x with
      | cons x1 x =>
        cases x with
        | cons x2 x =>
          cases x
          refine ⟨_, _, rfl, ?_⟩
          exact h.nx _ _ _ H01 e ((r.setV (show Rp K H01 _ _ from x1)).setV (show Rp K H01 _ _ from x2)) q
    · exact q.elim
theorem ss_while (hc : SndT K ok tt wt) (hb : SndS K ok t a) : SndS K ok (tWhile tt t) (wWhile wt a) := fun C H0 σ H env E W rel hw h => by
  obtain ⟨I, ⟨m0, i0⟩, turn⟩ := hw
  refine ⟨fun m σ H => ∃ env H01, Same H0 H01 ∧ Rel K ok C H01 σ H env ∧ I m env, ⟨m0, env, H0, Same.refl _, rel, i0⟩, ?_⟩
  rintro m σ1 H1 ⟨env1, H01, e1, r1, i1⟩
  refine hc C H01 σ1 H1 env1 _ _ r1 (turn m env1 i1) fun c H2 H02 q r2 e2 => ?_
  cases c with
  | true =>
    refine iteT ?_
    obtain ⟨N, hN, q⟩ := q.1 rfl
    refine ⟨fun σ' H' => ∃ env' H03, Same H0 H03 ∧ Rel K ok C H03 σ' H' env' ∧ N env', fun σ' H' ⟨env', H03, e3, r3, n3⟩ => ?_, ?_⟩
    · obtain ⟨m', hm, i'⟩ := hN env' n3
      exact ⟨m', hm, env', H03, e3, r3, i'⟩
    · exact hb C H02 σ1 H2 env1 _ _ r2 q ⟨fun env' σ' H' H03 s r n => ⟨env', H03, (e1.trans e2).trans s, r, n⟩, fun r v σ' H' H03 env' s => h.rt r v σ' H' H03 env' ((e1.trans e2).trans s),
        fun env' σ' H' H03 s r n => h.nx env' σ' H' H03 ((e1.trans e2).trans s) r n, fun env' σ' H' H03 s r n => ⟨env', H03, (e1.trans e2).trans s, r, n⟩⟩
  | false => exact iteF (h.nx _ _ _ H02 (e1.trans e2) r2 (q.2 rfl))
/-- what the walk gives at a turn: the item known -/
theorem WalkD.item {J : It} {ds : List D} {H01 H02 : Hp} {σ : L2.St} {H H' : Hp} {env : EnvD} {i : Nat} {x : V} (w : WalkD K J ds H01) (e : Same H01 H02) (r : Rel K ok C H02 σ H env) (hi : i < ds.length) (y : J.yld i H x H') :
    ∃ d H03, ds[i]? = some d ∧ Rel K ok C H03 σ H' env ∧ Same H02 H03 ∧ Rp K H03 x d ∧ Same H H' := by
  obtain ⟨d, hd, z⟩ := w.yields i H x H' hi (e.trans r.sub) y
  rcases z with ⟨rfl, z⟩ | ⟨T, xs, es, rfl, nT, rfl, rfl, z⟩
  · exact ⟨d, H02, hd, r, Same.refl _, z.mono e, Same.refl _⟩
  · obtain ⟨r2, e2⟩ := r.laid (o := .tup xs) nT
    exact ⟨_, _, hd, r2, e2, .tup (SqT.of upd_same) ((z.mono e).mono e2), same_new nT⟩
theorem ss_for {vs : List Nat} {ti : TI} {wi : WI} {g : TG} {wg : WG} (hi : SndI K ok ti wi) (hg : SndG K ok vs g wg) (hb : SndS K ok t a) : SndS K ok (tFor ti g t) (wFor wi wg a) := fun C H0 σ H env E W rel hw h =>
  hi C H0 σ H env _ _ rel hw fun ds J H1 H01 q r1 e1 w => by
    obtain ⟨I, i0, turn, fin⟩ := q
    refine ⟨fun i m σ H => m = ds.length - i ∧ i ≤ ds.length ∧ ∃ env H02, Same H01 H02 ∧ Rel K ok C H02 σ H env ∧ I i env, ⟨ds.length, by simp, Nat.zero_le _, env, H01, Same.refl _, r1, i0⟩, ?_⟩
    rintro i m σ2 H2 ⟨rfl, hil, env2, H02, e2, r2, i2⟩
    by_cases hlt : i < ds.length
    · refine .inr ⟨w.goes i H2 hlt (e2.trans r2.sub), fun σ' H' => ∃ env' H04, Same H01 H04 ∧ Rel K ok C H04 σ' H' env' ∧ I (i + 1) env', fun σ' H' ⟨env', H04, z⟩ => ⟨ds.length - (i + 1), by omega, rfl, hlt, env', H04, z⟩, fun x H' y => ?_⟩
      obtain ⟨d, H03, hd, r3, e3, x3, _⟩ := w.item e2 r2 hlt y
      have e03 := (e1.trans e2).trans e3
      refine hg C H03 σ2 H' env2 x d _ _ r3 x3 (turn i d env2 hd i2) fun env4 σ4 r4 q4 _ => ?_
      exact hb C H03 σ4 H' env4 _ _ r4 q4 ⟨fun env' σ' H' H04 s r n => ⟨env', H04, (e2.trans e3).trans s, r, n⟩, fun r v σ' H' H04 env' s => h.rt r v σ' H' H04 env' (e03.trans s),
        fun env' σ' H' H04 s r n => h.nx env' σ' H' H04 (e03.trans s) r n, fun env' σ' H' H04 s r n => ⟨env', H04, (e2.trans e3).trans s, r, n⟩⟩
    · have hi' : i = ds.length := by omega
      subst hi'
      exact .inl ⟨w.stops H2 (e2.trans r2.sub), h.nx env2 σ2 H2 H02 (e1.trans e2) r2 (fin env2 i2)⟩
theorem ss_asg {vs : List Nat} {g : TG} {wg : WG} (he : SndE K ok te we) (hg : SndG K ok vs g wg) : SndS K ok (tAsg te g) (wAsg we wg) := fun C H0 σ H env E W rel hw h =>
  he C H0 σ H env _ _ rel hw fun d v H1 H01 q r e x => hg C H01 σ H1 env v d _ _ r x q fun env' σ' r' q' _ => h.nx env' σ' H1 H01 e r' q'
/-! targets -/
theorem wipe_get {σ : L2.St} {j : Nat} : ∀ {vs : List Nat}, (wipe σ vs)[j]? = if j ∈ vs then (if j < σ.length then some none else none) else σ[j]?
  | [] => by simp [wipe]
  | v :: vs => by
    unfold wipe
    by_cases hj : v = j
    · subst hj
      rw [if_pos List.mem_cons_self]
      by_cases hl : v < σ.length
      · rw [if_pos hl, List.getElem?_set_self (by rw [wipe_length]; exact hl)]
      · rw [if_neg hl, List.getElem?_eq_none (by rw [List.length_set, wipe_length]; omega)]
    · rw [List.getElem?_set_ne hj, wipe_get]
      have : (j ∈ v :: vs) ↔ j ∈ vs := by simp [Ne.symm hj]
      simp only [this]
theorem wipe_set {σ : L2.St} {i : Nat} {x : Option V} {vs : List Nat} (h : i ∈ vs) : wipe (σ.set i x) vs = wipe σ vs := by
  apply List.ext_getElem?
  intro j
  rw [wipe_get, wipe_get, List.length_set]
  by_cases hj : j ∈ vs
  · rw [if_pos hj, if_pos hj]
  · rw [if_neg hj, if_neg hj, List.getElem?_set_ne (fun z => hj (by subst z; exact h))]
theorem wpE_len {env : EnvD} : ∀ vs : List Nat, (wpE env vs).length = env.length
  | [] => rfl
  | v :: vs => by unfold wpE; rw [List.length_set, wpE_len vs]
theorem wpE_get {env : EnvD} {j : Nat} : ∀ {vs : List Nat}, (wpE env vs)[j]? = if j ∈ vs then (if j < env.length then some none else none) else env[j]?
  | [] => by simp [wpE]
  | v :: vs => by
    unfold wpE
    by_cases hj : v = j
    · subst hj
      rw [if_pos List.mem_cons_self]
      by_cases hl : v < env.length
      · rw [if_pos hl, List.getElem?_set_self (by rw [wpE_len]; exact hl)]
      · rw [if_neg hl, List.getElem?_eq_none (by rw [List.length_set, wpE_len]; omega)]
    · rw [List.getElem?_set_ne hj, wpE_get]
      have : (j ∈ v :: vs) ↔ j ∈ vs := by simp [Ne.symm hj]
      simp only [this]
theorem wpE_set {env : EnvD} {i : Nat} {x : Option Sl} {vs : List Nat} (h : i ∈ vs) : wpE (env.set i x) vs = wpE env vs := by
  apply List.ext_getElem?
  intro j
  rw [wpE_get, wpE_get, List.length_set]
  by_cases hj : j ∈ vs
  · rw [if_pos hj, if_pos hj]
  · rw [if_neg hj, if_neg hj, List.getElem?_set_ne (fun z => hj (by subst z; exact h))]
theorem sg_name {i : Nat} {vs : List Nat} (h : i ∈ vs) : SndG K ok vs (gName i) (gN i) := fun C H0 σ H env x d Q R rel hx q k => k _ _ (rel.setV hx) q ⟨wipe_set h, wpE_set h⟩
def SndGs (K : PySem.W.Frag) (ok : List D → Prop) (vs : List Nat) (g : TGs) (wg : WGs) : Prop := ∀ (C : Ctx) (H0 : Hp) (σ : L2.St) (H : Hp) (env : EnvD) (xs : List V) (ds : List D) (Q : EnvD → Prop) (R : L2.St → Hp → Prop), Rel K ok C H0 σ H env → Rps K H0 xs ds → wg ds env Q →
  (∀ env' σ', Rel K ok C H0 σ' H env' → Q env' → wipe σ' vs = wipe σ vs ∧ wpE env' vs = wpE env vs → R σ' H) → g xs σ H R
theorem sgs_nil {vs : List Nat} : SndGs K ok vs gNil gsNil := fun C H0 σ H env xs ds Q R rel hx q k => by
  obtain ⟨rfl, q⟩ := q
  exact ⟨hx.nil_inv, k env σ rel q ⟨rfl, rfl⟩⟩
theorem sgs_cons {vs : List Nat} {g : TG} {wg : WG} {gs : TGs} {wgs : WGs} (h1 : SndG K ok vs g wg) (h2 : SndGs K ok vs gs wgs) : SndGs K ok vs (gCons g gs) (gsCons wg wgs) := fun C H0 σ H env xs ds Q R rel hx q k => by
  cases ds with
  | nil => exact q.elim
  | cons d es =>
    obtain ⟨v, ws, rfl, x1, x2⟩ := hx.cons_inv
    exact ⟨v, ws, rfl, h1 C H0 σ H env v d _ _ rel x1 q fun env' σ' r' q' w' => h2 C H0 σ' H env' ws es _ _ r' x2 q' fun env2 σ2 r2 q2 w2 => k env2 σ2 r2 q2 ⟨w2.1.trans w'.1, w2.2.trans w'.2⟩⟩
theorem sg_tup {vs : List Nat} {n : Nat} {gs : TGs} {wgs : WGs} (h : SndGs K ok vs gs wgs) : SndG K ok vs (gTup K n gs) (gT n wgs) := fun C H0 σ H env x d Q R rel hx q k => by
  unfold gT at q
  split at q
  · cases hx with
    | tup ha hr => exact ⟨_, _, rfl, Same.tup rel.sub ha, by rw [hr.length]; exact q.1, h C H0 σ H env _ _ _ _ rel hr q.2 k⟩
  · exact q.elim
/-! what is walked -/
theorem si_list (he : SndE K ok te we) : SndI K ok (iList K te) (iL we) := fun C H0 σ H env Q R rel hw k => he C H0 σ H env _ _ rel hw fun d v H1 H01 q r e x => by
  try dsimp only at q
  split at q
  · cases x with
    | lst ha hr =>
      rename_i a xs
      refine ⟨a, rfl, ⟨xs, SqL.of (r.sub _ _ ha)⟩, k _ _ _ H01 q r e ⟨fun i H2 hi s => ?_, fun H2 s => ⟨xs, SqL.of (s _ _ ha), by rw [hr.length]; exact Nat.le_refl _⟩, fun i H2 x H3 hi s y => ?_⟩⟩
      · have hi' : i < xs.length := by rw [hr.length]; exact hi
        exact ⟨xs, xs[i], SqL.of (s _ _ ha), List.getElem?_eq_getElem hi'⟩
      · obtain ⟨rfl, y⟩ := y
        obtain ⟨d, hd, x'⟩ := hr.getV (y xs (SqL.of (s _ _ ha)))
        exact ⟨d, hd, .inl ⟨rfl, x'⟩⟩
  · exact q.elim
theorem si_tup (he : SndE K ok te we) : SndI K ok (iTup K te) (iT we) := fun C H0 σ H env Q R rel hw k => he C H0 σ H env _ _ rel hw fun d v H1 H01 q r e x => by
  try dsimp only at q
  split at q
  · cases x with
    | tup ha hr =>
      rename_i a xs
      refine ⟨a, rfl, ⟨xs, Same.tup r.sub ha⟩, k _ _ _ H01 q r e ⟨fun i H2 hi s => ?_, fun H2 s => ⟨xs, Same.tup s ha, by rw [hr.length]; exact Nat.le_refl _⟩, fun i H2 x H3 hi s y => ?_⟩⟩
      · have hi' : i < xs.length := by rw [hr.length]; exact hi
        exact ⟨xs, xs[i], Same.tup s ha, List.getElem?_eq_getElem hi'⟩
      · obtain ⟨rfl, y⟩ := y
        obtain ⟨d, hd, x'⟩ := hr.getV (y xs (Same.tup s ha))
        exact ⟨d, hd, .inl ⟨rfl, x'⟩⟩
  · exact q.elim
theorem rng_get {lo : Int} {n i : Nat} (h : i < n) : (rng lo n)[i]? = some (.int (lo + i)) := by
  unfold rng
  rw [List.getElem?_map, List.getElem?_range h]
  rfl
theorem rng_len {lo : Int} {n : Nat} : (rng lo n).length = n := by unfold rng; rw [List.length_map, List.length_range]
theorem walk_rng {lo : Int} {n : Nat} {H01 : Hp} : WalkD K (Itr lo n) (rng lo n) H01 := by
  refine ⟨fun i H hi s => by rw [rng_len] at hi; exact hi, fun H s => by rw [rng_len]; exact Nat.le_refl _, fun i H x H' hi s y => ?_⟩
  obtain ⟨rfl, rfl⟩ := y
  rw [rng_len] at hi
  exact ⟨_, rng_get hi, .inl ⟨rfl, .int _⟩⟩
theorem si_r1 (he : SndE K ok te we) : SndI K ok (iRng1 (tCons te tNil)) (iR1 we) := fun C H0 σ H env Q R rel hw k => he C H0 σ H env _ _ rel hw fun d v H1 H01 q r e x => by
  try dsimp only at q
  split at q
  · cases x
    exact ⟨_, rfl, q.1.1, q.1.2, k _ _ _ H01 q.2 r e walk_rng⟩
  · exact q.elim
theorem si_r2 {tf : TE} {wf : WE} (he : SndE K ok te we) (hf : SndE K ok tf wf) : SndI K ok (iRng2 (tCons te (tCons tf tNil))) (iR2 we wf) := fun C H0 σ H env Q R rel hw k => he C H0 σ H env _ _ rel hw fun d v H1 H01 q r e x =>
  hf C H01 σ H1 env _ _ r q fun d2 v2 H2 H02 q2 r2 e2 x2 => by
    try dsimp only at q2
    split at q2
    · cases x; cases x2
      exact ⟨_, _, rfl, q2.1, k _ _ _ H02 q2.2 r2 (e.trans e2) walk_rng⟩
    · exact q2.elim
/-! comprehensions -/
theorem st_yes : SndT K ok tYes wYes := fun C H0 σ H env Q R rel hw k => k true H H0 hw rel (Same.refl _)
theorem Rel.wipe {σ : L2.St} {H : Hp} {env : EnvD} (rel : Rel K ok C H0 σ H env) : ∀ vs : List Nat, Rel K ok C H0 (L2.wipe σ vs) H (wpE env vs)
  | [] => rel
  | v :: vs => (Rel.wipe rel vs).drop
theorem get_of : ∀ {env : EnvD} {i : Nat} {s : Sl}, env[i]? = some (some s) → get env i = some s
  | [], i, s, h => by rw [List.getElem?_nil] at h; cases h
  | x :: r, 0, s, h => by
    rw [List.getElem?_cons_zero] at h
    exact Option.some.inj h
  | x :: r, i + 1, s, h => by
    rw [List.getElem?_cons_succ] at h
    exact get_of (env := r) h
theorem wpN_get {env : EnvD} : ∀ {vs : List Nat}, wpN env vs → ∀ {i : Nat} {s : Sl}, i ∈ vs → env[i]? = some (some s) → s.isOwn = false
  | [], _, i, s, h, _ => (by cases h)
  | v :: vs, ⟨h1, h2⟩, i, s, h, hs => by
    rcases List.mem_cons.mp h with rfl | h
    · have e : get env i = some s := get_of hs
      rw [e] at h1
      exact h1
    · exact wpN_get h2 h hs
theorem Rel.unwipe {C' : Ctx} {H00 : Hp} {σ : L2.St} {H H' : Hp} {env : EnvD} {vs : List Nat} (old : Rel K ok C' H00 σ H' env) (e : Same H00 H0) (rel : Rel K ok C H0 (L2.wipe σ vs) H (wpE env vs)) (h : wpN env vs) : Rel K ok C H0 σ H env := by
  have key : ∀ {i : Nat} {s : Sl}, env[i]? = some (some s) → s.isOwn = true → (L2.wipe σ vs)[i]? = σ[i]? ∧ (wpE env vs)[i]? = some (some s) := fun {i s} hs ho => by
    have hi : i ∉ vs := fun z => by
      have := wpN_get h z hs
      rw [ho] at this
      cases this
    rw [wipe_get, if_neg hi, wpE_get, if_neg hi]
    exact ⟨rfl, hs⟩
  refine ⟨rel.sub, rel.grow, rel.new, rel.fr, rel.hv, old.len, fun i s hs => ?_, fun i j s t p hij hs ht os ot e1 => ?_, rel.kp, fun i s p hs os e1 => ?_, rel.kh, rel.kz⟩
  · cases ho : s.isOwn with
    | true =>
      obtain ⟨k1, k2⟩ := key hs ho
      have q := rel.slot i s k2
      rw [k1] at q
      exact q
    | false =>
      cases s with
      | v d =>
        obtain ⟨v, ev, r⟩ := old.slot i _ hs
        exact ⟨v, ev, r.mono e⟩
      | own _ => cases ho
      | hnd => cases ho
      | dct _ => cases ho
  · obtain ⟨k1, k2⟩ := key hs os
    obtain ⟨k3, k4⟩ := key ht ot
    rw [← k1] at e1
    rw [← k3]
    exact rel.dis i j s t p hij k2 k4 os ot e1
  · obtain ⟨k1, k2⟩ := key hs os
    rw [← k1] at e1
    exact rel.kn i s p k2 os e1
theorem wpE_wpE {env : EnvD} {vs : List Nat} : wpE (wpE env vs) vs = wpE env vs := by
  apply List.ext_getElem?
  intro j
  rw [wpE_get, wpE_get, wpE_len]
  by_cases hj : j ∈ vs
  · rw [if_pos hj, if_pos hj]
  · rw [if_neg hj, if_neg hj]
theorem sl_lc {vs : List Nat} {ti : TI} {wi : WI} {g : TG} {wg : WG} (hi : SndI K ok ti wi) (hg : SndG K ok vs g wg) (ht : SndT K ok tt wt) (he : SndE K ok te we) : SndL K ok (tLc ti g tt te vs) (wLc wi wg wt we vs) := fun C H0 σ H env Q R rel hw k =>
  hi C H0 σ H env _ _ rel hw fun ds J H1 H01 q r1 e1 w => by
    obtain ⟨hlen, hwp, I, i0, turn, fin⟩ := q
    intro A hA
    have hA0 : C.Kp A = none := r1.kp.free hA
    -- the list at A is no slot's; the block's context protects it
    have out : ∀ {vs' : List V} {H2 H02 : Hp} {env2 : EnvD} {σ2 : L2.St}, Rel K ok { C with Kp := upd C.Kp A (.lst vs') } H02 σ2 H2 env2 → Rel K ok C H02 σ2 H2 env2 := fun {vs' H2 H02 env2 σ2} r =>
      (r.guard (Kq := C.Kp) (fun b o z => r.kp b o (by rw [show ({ C with Kp := upd C.Kp A (.lst vs') } : Ctx).Kp = upd C.Kp A (.lst vs') from rfl, upd_ne (ne_of_none z hA0)]; exact z)) fun p o z => .inl (by
        show upd C.Kp A (.lst vs') p = some o
        rw [upd_ne (ne_of_none z hA0)]; exact z))
    let Pv : Nat → Hp → Prop := fun i H => ∃ acc vs' H02, Same H01 H02 ∧ Rel K ok { C with Kp := upd C.Kp A (.lst vs') } H02 σ H env ∧ H A = some (.lst vs') ∧ H02 A = none ∧ Rps K H02 vs' acc ∧ acc.length ≤ i ∧ I i acc
    have nsl : ∀ {vs' : List V} {H2 H02 : Hp} {σ2 : L2.St} {env2 : EnvD}, Rel K ok { C with Kp := upd C.Kp A (.lst vs') } H02 σ2 H2 env2 → ∀ (i : Nat) s, env2[i]? = some (some s) → s.isOwn = true → σ2[i]? ≠ some (some (.ref A)) := fun {vs' H2 H02 σ2 env2} r i s hs os z => by
      have y := r.kn i s A hs os z
      have y2 : upd C.Kp A (.lst vs') A = none := y
      rw [upd_same] at y2; cases y2
    have hCA : C.He A = none := r1.fresh hA
    have nha : C.ha ≠ some A := fun z => by obtain ⟨⟨o, y⟩, _⟩ := r1.hv A z; rw [hCA] at y; cases y
    -- the list at A changes
    have change : ∀ {vs' ws : List V} {H2 H02 : Hp} {env2 : EnvD} {σ2 : L2.St}, Rel K ok { C with Kp := upd C.Kp A (.lst vs') } H02 σ2 H2 env2 → H02 A = none → Rel K ok { C with Kp := upd C.Kp A (.lst ws) } H02 σ2 (upd H2 A (.lst ws)) env2 := fun {vs' ws H2 H02 env2 σ2} r n0 => by
      have up : ∀ {b : Addr} {x : HO}, b ≠ A → H2 b = some x → (upd H2 A (.lst ws)) b = some x := fun {b x} hb z => by rw [upd_ne hb]; exact z
      have ns := nsl r
      refine ⟨fun b o z => up (ne_of_none z n0) (r.sub b o z), r.grow, r.new, fun b o z m => up (ne_of_none z hCA) (r.fr b o z m), fun a ha => ?_, r.len, fun i s hs => ?_, r.dis, fun b o z => ?_, fun i s p hs os e => ?_, fun a ha => ?_, fun b o z => ?_⟩
      · obtain ⟨h1, dd, h2, h3⟩ := r.hv a ha
        exact ⟨h1, dd, h2.keep (Same.refl _) h2.n0 (fun o z => up (fun y => by subst y; exact nha ha) z), h3⟩
      · have q := r.slot i s hs
        have other : ∀ {a : Addr}, s.isOwn = true → σ2[i]? = some (some (.ref a)) → a ≠ A := fun {a} o' z y => by subst y; exact ns i s hs o' z
        cases s with
        | v d => exact q
        | own dd => obtain ⟨p, e, m, h2⟩ := q; exact ⟨p, e, m, h2.keep (Same.refl _) h2.n0 (fun o z => up (other rfl e) z)⟩
        | hnd => obtain ⟨p, dd, e, m, h2, h3⟩ := q; exact ⟨p, dd, e, m, h2.keep (Same.refl _) h2.n0 (fun o z => up (other rfl e) z), h3⟩
        | dct kvs => obtain ⟨p, ks, e, m, m0, hp, r'⟩ := q; exact ⟨p, ks, e, m, m0, up (other rfl e) hp, r'⟩
      · have z' : upd C.Kp A (.lst ws) b = some o := z
        by_cases hb : b = A
        · subst hb; rw [upd_same] at z' ⊢; exact z'
        · rw [upd_ne hb] at z'
          exact up hb (r.kp b o (by show upd C.Kp A (.lst vs') b = some o; rw [upd_ne hb]; exact z'))
      · have y : upd C.Kp A (.lst vs') p = none := r.kn i s p hs os e
        show upd C.Kp A (.lst ws) p = none
        by_cases hb : p = A
        · subst hb; rw [upd_same] at y; cases y
        · rw [upd_ne hb] at y ⊢; exact y
      · have y : upd C.Kp A (.lst vs') a = none := r.kh a ha
        show upd C.Kp A (.lst ws) a = none
        by_cases hb : a = A
        · subst hb; rw [upd_same] at y; cases y
        · rw [upd_ne hb] at y ⊢; exact y
      · have z' : upd C.Kp A (.lst ws) b = some o := z
        by_cases hb : b = A
        · subst hb; exact n0
        · rw [upd_ne hb] at z'
          exact r.kz b o (by show upd C.Kp A (.lst vs') b = some o; rw [upd_ne hb]; exact z')
    refine ⟨fun i m H => m = ds.length - i ∧ i ≤ ds.length ∧ Pv i H, ⟨ds.length, by simp, Nat.zero_le _, [], [], H01, Same.refl _, ?_, upd_same, r1.sub.free hA, .nil, Nat.zero_le _, i0⟩, ?_⟩
    · refine (r1.laid0 (o := .lst []) hA).guard (fun b o z => ?_) fun p o z => ?_
      · by_cases hb : b = A
        · subst hb; rw [upd_same] at z ⊢; exact z
        · rw [upd_ne hb] at z ⊢; exact r1.kp b o z
      · by_cases hb : p = A
        · subst hb; exact .inr ⟨r1.noslot hA, nha, r1.sub.free hA⟩
        · rw [upd_ne hb] at z; exact .inl z
    rintro i m H2 ⟨rfl, hil, acc, vs', H02, e2, r2, hpA, nA, hr, hacc, i2⟩
    by_cases hlt : i < ds.length
    · refine .inr ⟨w.goes i H2 hlt (e2.trans r2.sub), Pv (i + 1), fun H' p' => ⟨ds.length - (i + 1), by omega, rfl, hlt, p'⟩, fun x H' y => ?_⟩
      obtain ⟨d, H03, hd, r3, e3, x3, kp3⟩ := w.item e2 r2 hlt y
      have r3' : Rel K ok { C with Kp := upd C.Kp A (.lst vs') } H03 (L2.wipe σ vs) H' (wpE env vs) := r3.wipe vs
      refine hg _ H03 _ H' _ x d _ _ r3' x3 (turn i d acc hd i2) fun env4 σ4 r4 q4 w4 => ⟨?_, ?_⟩
      · rw [w4.1]
        apply List.ext_getElem?
        intro j
        rw [wipe_get, wipe_get, wipe_length]
        by_cases hj : j ∈ vs
        · rw [if_pos hj, if_pos hj]
        · rw [if_neg hj, if_neg hj]
      -- the frame of the block aside: σ and env as they were
      have outer : ∀ {vs2 : List V} {Hn H0n : Hp}, Same H03 H0n → Rel K ok { C with Kp := upd C.Kp A (.lst vs2) } H0n σ4 Hn env4 → Rel K ok { C with Kp := upd C.Kp A (.lst vs2) } H0n σ Hn env := by
        intro vs2 Hn H0n e30 rn
        have z := rn.wipe vs
        rw [w4.1, w4.2, wpE_wpE] at z
        have e3 : L2.wipe (L2.wipe σ vs) vs = L2.wipe σ vs := by
          apply List.ext_getElem?
          intro j
          rw [wipe_get, wipe_get, wipe_length]
          by_cases hj : j ∈ vs
          · rw [if_pos hj, if_pos hj]
          · rw [if_neg hj, if_neg hj]
        rw [e3] at z
        exact r3.unwipe e30 z hwp
      have atA : ∀ {Hn H0n : Hp}, Rel K ok { C with Kp := upd C.Kp A (.lst vs') } H0n σ4 Hn env4 → Hn A = some (.lst vs') := fun {Hn H0n} rn => rn.kp A _ upd_same
      have noA : ∀ {Hn H0n : Hp}, Rel K ok { C with Kp := upd C.Kp A (.lst vs') } H0n σ4 Hn env4 → Same H03 H0n → H0n A = none := fun {Hn H0n} rn _ => rn.kz A _ upd_same
      refine ht _ H03 σ4 H' env4 _ _ r4 q4 fun b H5 H05 q5 r5 e5 => ?_
      cases b with
      | true =>
        refine iteT (he _ H05 σ4 H5 env4 _ _ r5 (q5.1 rfl) fun z v H6 H06 q6 r6 e6 x6 => ?_)
        have n6 := noA r6 (e5.trans e6)
        refine ⟨vs', atA r6, by rw [hr.length]; exact Nat.lt_of_le_of_lt hacc (Nat.lt_trans hlt (lt_size hlen)), acc ++ [z], vs' ++ [v], H06, ((e2.trans e3).trans e5).trans e6, change (outer (e5.trans e6) r6) n6, upd_same, n6, ((hr.mono ((e3.trans e5).trans e6)).append (.one x6)), by rw [List.length_append, List.length_singleton]; omega, q6⟩
      | false =>
        exact iteF ⟨acc, vs', H05, (e2.trans e3).trans e5, outer e5 r5, atA r5, noA r5 e5, hr.mono (e3.trans e5), Nat.le_succ_of_le hacc, q5.2 rfl⟩
    · have hi' : i = ds.length := by omega
      subst hi'
      refine .inl ⟨w.stops H2 (e2.trans r2.sub), k acc A H2 H02 (fin acc i2) (out r2) (e1.trans e2) ⟨hCA, ⟨nA, vs', hpA, hr⟩, nsl r2, hA0⟩⟩
end
end DL
/-! DL, part d: the rules by syntax; defs and their calls. -/
namespace DL
open PySem L2

section
variable (X : Cx) (ok : List D → Prop)
def PDS (st : Stmt) (ws : WS) : Prop := ∃ ts, PS X st ts ∧ SndS X.K ok ts ws
def PDSs (st : List Stmt) (ws : WS) : Prop := ∃ ts, PSs X st ts ∧ SndS X.K ok ts ws
def PDG (vs : List Nat) (tg : Expr) (wg : WG) : Prop := ∃ g, PG X tg g ∧ SndG X.K ok vs g wg
def PDGs (vs : List Nat) (tgs : List Expr) (wg : WGs) : Prop := ∃ g, PGs X tgs g ∧ SndGs X.K ok vs g wg
def PDI (tg iter : Expr) (wi : WI) : Prop := ∃ ti, PI X tg iter ti ∧ SndI X.K ok ti wi
end
/-- a def of the module, as a caller sees it -/
structure Has (P : Program) (w : World) (K : PySem.W.Frag) (mg : Str → Option Value) (base : Heap) (ok : List D → Prop) (k : Nat) (x : Str) (n : Nat) (M : WM) : Prop where
  ex : ∃ f fd ps, FnOk P w K mg base CX0 k f fd ps (SpD K ok n M) ∧ mg x = some (.ref f) ∧ PySem.W.keepIn K (.ref f) = true ∧ Binds K fd ps []
section
variable {X : Cx} {ok : List D → Prop} {a b c e : Expr} {es : List Expr} {wa wb wc we : WE} {wr : WA} {wl : WL} {wt wu : WT} {pos p apos : Pos} {x : Str}
/-! ### expressions -/
theorem d_int {i j} : PDE X ok (.Constant (.int i) j pos) (wC (.int i)) := ⟨_, pe_int, snd_c fun H => .int i⟩
theorem d_bl {i j} : PDE X ok (.Constant (.bool i) j pos) (wC (.bool i)) := ⟨_, pe_bl, snd_c fun H => .bl i⟩
theorem d_non {j} : PDE X ok (.Constant .none j pos) (wC .none) := ⟨_, pe_non, snd_c fun H => .non⟩
theorem d_str {i j} : PDE X ok (.Constant (.str i) j pos) (wC (.str i)) := ⟨_, pe_str, snd_c fun H => .str i⟩
theorem d_var (i : Nat) (hN : X.N[i]? = some x := by rfl) (hv : Vis X.env.scope x := by first | exact Or.inl rfl | exact Or.inr (Or.inl rfl) | exact Or.inr (Or.inr rfl)) (hd : (x == ("__debug__" : Str)) = false := by decide)
    (hcd : (x == ("__classdict__" : Str)) = false := by decide) : PDE X ok (.Name x pos) (wVar i) := ⟨_, pe_var hN hv hd hcd, snd_var⟩
theorem d_bor (i : Nat) (hN : X.N[i]? = some x := by rfl) (hv : Vis X.env.scope x := by first | exact Or.inl rfl | exact Or.inr (Or.inl rfl) | exact Or.inr (Or.inr rfl)) (hd : (x == ("__debug__" : Str)) = false := by decide)
    (hcd : (x == ("__classdict__" : Str)) = false := by decide) : PDB X ok (.Name x pos) (wBor i) := ⟨_, pe_var hN hv hd hcd, snd_bor⟩
theorem d_b (h : PDE X ok e we) : PDB X ok e we := let ⟨t, h1, h2⟩ := h; ⟨t, h1, h2.b⟩
theorem d_fz (h : PDL X ok e wl) : PDE X ok e (wFz wl) := let ⟨t, h1, h2⟩ := h; ⟨t, h1, h2.fz⟩
/-- a name of the module that holds a written value -/
theorem d_glob {v : V} {d : D} {u : Value} (hm : X.mg x = some u) (r : RelV v u) (hd : ∀ H, Rp X.K H v d) (hg : Gl X x := by rfl) (hdd : (x == ("__debug__" : Str)) = false := by decide) : PDE X ok (.Name x pos) (wC d) := ⟨_, pe_glob hg hm r hdd, snd_c hd⟩
theorem d_op {op : Operator} {r : R2} {f : D → D → (D → Prop) → Prop} (ho : OpR X (binaryOp op) r) (hf : OpD X.K r f) (ha : PDE X ok a wa) (hb : PDE X ok b wb) : PDE X ok (.BinOp a op b pos) (wBin f wa wb) :=
  let ⟨_, a1, a2⟩ := ha; let ⟨_, b1, b2⟩ := hb; ⟨_, pe_op ho a1 b1, snd_bin hf a2 b2⟩
theorem d_add (ha : PDE X ok a wa) (hb : PDE X ok b wb) : PDE X ok (.BinOp a .Add b pos) (wBin fAdd wa wb) := d_op op_add opd_add ha hb
theorem d_sub (ha : PDE X ok a wa) (hb : PDE X ok b wb) : PDE X ok (.BinOp a .Sub b pos) (wBin fSub wa wb) := d_op op_sub opd_sub ha hb
theorem d_mul (ha : PDE X ok a wa) (hb : PDE X ok b wb) : PDE X ok (.BinOp a .Mult b pos) (wBin fMul wa wb) := d_op op_mul opd_mul ha hb
theorem d_mulX (ha : PDE X ok a wa) (hb : PDE X ok b wb) : PDE X ok (.BinOp a .Mult b pos) (wBin fMulX wa wb) := d_op op_mulX opd_mulX ha hb
theorem d_mod (ha : PDE X ok a wa) (hb : PDE X ok b wb) : PDE X ok (.BinOp a .Mod b pos) (wBin fMod wa wb) := d_op op_mod opd_mod ha hb
theorem d_div (ha : PDE X ok a wa) (hb : PDE X ok b wb) : PDE X ok (.BinOp a .FloorDiv b pos) (wBin fDiv wa wb) := d_op op_fdivW opd_div ha hb
theorem d_shl (ha : PDE X ok a wa) (hb : PDE X ok b wb) : PDE X ok (.BinOp a .LShift b pos) (wBin fShl wa wb) := d_op op_shl opd_shl ha hb
theorem d_pow (ha : PDE X ok a wa) (hb : PDE X ok b wb) : PDE X ok (.BinOp a .Pow b pos) (wBin fPow wa wb) := d_op op_pow opd_pow ha hb
theorem d_neg (ha : PDE X ok a wa) : PDE X ok (.UnaryOp .USub a pos) (wUn fNeg wa) := let ⟨_, a1, a2⟩ := ha; ⟨_, pe_un un_neg a1, snd_neg a2⟩
theorem d_cmp {op : CmpOp} {r : R2} {f : D → D → (D → Prop) → Prop} (ho : OpR X (compareOp op) r) (hf : OpD X.K r f) (hm : behindInMarks op b = false) (ha : PDE X ok a wa) (hb : PDE X ok b wb) : PDE X ok (.Compare a [op] [b] pos) (wBin f wa wb) :=
  let ⟨_, a1, a2⟩ := ha; let ⟨_, b1, b2⟩ := hb; ⟨_, pe_cmpR ho a1 b1 hm, snd_bin hf a2 b2⟩
theorem t_cmp {op : CmpOp} {r : R2} {f : D → D → (D → Prop) → Prop} (ho : OpR X (compareOp op) r) (hf : OpD X.K r f) (hm : behindInMarks op b = false) (ha : PDE X ok a wa) (hb : PDE X ok b wb) : PDT X ok (.Compare a [op] [b] pos) (wTest (wBin f wa wb)) :=
  let ⟨_, a1, a2⟩ := ha; let ⟨_, b1, b2⟩ := hb; ⟨_, pt_cmpR ho a1 b1 hm, snd_test (snd_bin hf a2 b2)⟩
theorem d_lt (ha : PDE X ok a wa) (hb : PDE X ok b wb) : PDE X ok (.Compare a [.Lt] [b] pos) (wBin fLt wa wb) := d_cmp op_lt opd_lt (nomark _) ha hb
theorem d_le (ha : PDE X ok a wa) (hb : PDE X ok b wb) : PDE X ok (.Compare a [.LtE] [b] pos) (wBin fLe wa wb) := d_cmp op_le opd_le (nomark _) ha hb
theorem d_gt (ha : PDE X ok a wa) (hb : PDE X ok b wb) : PDE X ok (.Compare a [.Gt] [b] pos) (wBin fGt wa wb) := d_cmp op_gt opd_gt (nomark _) ha hb
theorem d_ge (ha : PDE X ok a wa) (hb : PDE X ok b wb) : PDE X ok (.Compare a [.GtE] [b] pos) (wBin fGe wa wb) := d_cmp op_ge opd_ge (nomark _) ha hb
theorem t_lt (ha : PDE X ok a wa) (hb : PDE X ok b wb) : PDT X ok (.Compare a [.Lt] [b] pos) (wTest (wBin fLt wa wb)) := t_cmp op_lt opd_lt (nomark _) ha hb
theorem t_le (ha : PDE X ok a wa) (hb : PDE X ok b wb) : PDT X ok (.Compare a [.LtE] [b] pos) (wTest (wBin fLe wa wb)) := t_cmp op_le opd_le (nomark _) ha hb
theorem t_gt (ha : PDE X ok a wa) (hb : PDE X ok b wb) : PDT X ok (.Compare a [.Gt] [b] pos) (wTest (wBin fGt wa wb)) := t_cmp op_gt opd_gt (nomark _) ha hb
theorem t_ge (ha : PDE X ok a wa) (hb : PDE X ok b wb) : PDT X ok (.Compare a [.GtE] [b] pos) (wTest (wBin fGe wa wb)) := t_cmp op_ge opd_ge (nomark _) ha hb
theorem d_eq {k : Nat} (hr : Room k X.A) (ha : PDE X ok a wa) (hb : PDE X ok b wb) : PDE X ok (.Compare a [.Eq] [b] pos) (wBin fEq wa wb) := d_cmp (op_eqD hr.units) opd_eq (nomark _) ha hb
theorem d_ne {k : Nat} (hr : Room k X.A) (ha : PDE X ok a wa) (hb : PDE X ok b wb) : PDE X ok (.Compare a [.NotEq] [b] pos) (wBin fNe wa wb) := d_cmp (op_neD hr.units) opd_ne (nomark _) ha hb
theorem t_eq {k : Nat} (hr : Room k X.A) (ha : PDE X ok a wa) (hb : PDE X ok b wb) : PDT X ok (.Compare a [.Eq] [b] pos) (wTest (wBin fEq wa wb)) := t_cmp (op_eqD hr.units) opd_eq (nomark _) ha hb
theorem t_ne {k : Nat} (hr : Room k X.A) (ha : PDE X ok a wa) (hb : PDE X ok b wb) : PDT X ok (.Compare a [.NotEq] [b] pos) (wTest (wBin fNe wa wb)) := t_cmp (op_neD hr.units) opd_ne (nomark _) ha hb
theorem d_isN {j pos'} (ha : PDE X ok a wa) : PDE X ok (.Compare a [.Is] [.Constant .none j pos'] pos) (wIsN wa) := let ⟨_, a1, a2⟩ := ha; ⟨_, pe_cmp (pc_isN a1) rfl, snd_isN a2⟩
theorem d_notN {j pos'} (ha : PDE X ok a wa) : PDE X ok (.Compare a [.IsNot] [.Constant .none j pos'] pos) (wNotN wa) := let ⟨_, a1, a2⟩ := ha; ⟨_, pe_cmp (pc_notN a1) rfl, snd_notN a2⟩
theorem t_isN {j pos'} (ha : PDE X ok a wa) : PDT X ok (.Compare a [.Is] [.Constant .none j pos'] pos) (wTest (wIsN wa)) := let ⟨_, a1, a2⟩ := ha; ⟨_, pt_cmp (pc_isN a1) rfl, snd_tB (snd_isN a2)⟩
theorem t_notN {j pos'} (ha : PDE X ok a wa) : PDT X ok (.Compare a [.IsNot] [.Constant .none j pos'] pos) (wTest (wNotN wa)) := let ⟨_, a1, a2⟩ := ha; ⟨_, pt_cmp (pc_notN a1) rfl, snd_tB (snd_notN a2)⟩
/-- a chain of two comparisons of ints -/
def wChn (f f' : D → D → (D → Prop) → Prop) (a b c : WE) : WE := fun env Q => a env fun x => b env fun y => f x y fun z => match z with
  | .bool k => ∃ d : Bool, (k = true → c env fun w => f' y w fun z' => z' = .bool d) ∧ Q (.bool (k && d))
  | _ => False
theorem snd_chn {K : PySem.W.Frag} {r r' : R2} {f f' : D → D → (D → Prop) → Prop} {ta tb tc : TE} (hr : OpD K r f) (hr' : OpD K r' f') (ha : SndE K ok ta wa) (hb : SndE K ok tb wb) (hc : SndE K ok tc wc) : SndE K ok (tChain r r' ta tb tc) (wChn f f' wa wb wc) := fun C H0 σ H env Q R rel hw k =>
  ha C H0 σ H env _ _ rel hw fun d v H1 H01 q r1 e1 x1 => hb C H01 σ H1 env _ _ r1 q fun e u H2 H02 q2 r2 e2 x2 =>
    hr H02 H2 v u d e _ _ r2.sub (x1.mono e2) x2 q2 fun z w qz rz => by
      try dsimp only at qz
      split at qz
      · rename_i k'
        cases rz
        obtain ⟨d', q3, q4⟩ := qz
        refine ⟨k', rfl, ?_⟩
        cases k' with
        | true => exact iteT (hc C H02 σ H2 env _ _ r2 (q3 rfl) fun e3 u3 H3 H03 q5 r3 e3' x3 => hr' H03 H3 u u3 e e3 _ _ r3.sub (x2.mono e3') x3 q5 fun z2 w2 qz2 rz2 => by
            subst qz2
            exact k _ _ H3 H03 q4 r3 ((e1.trans e2).trans e3') rz2)
        | false => exact iteF (k _ _ H2 H02 q4 r2 (e1.trans e2) (.bl _))
      · exact qz.elim
theorem d_chn {op op' : CmpOp} {r r' : R2} {f f' : D → D → (D → Prop) → Prop} (ho : OpR X (compareOp op) r) (hf : OpD X.K r f) (ho' : OpR X (compareOp op') r') (hf' : OpD X.K r' f') (ha : PDE X ok a wa) (hb : PDE X ok b wb) (hc : PDE X ok c wc)
    (hm : lastMarks [op, op'] [b, c] = false := by with_unfolding_all rfl) : PDE X ok (.Compare a [op, op'] [b, c] pos) (wChn f f' wa wb wc) :=
  let ⟨_, a1, a2⟩ := ha; let ⟨_, b1, b2⟩ := hb; let ⟨_, c1, c2⟩ := hc; ⟨_, pe_chain ho ho' a1 b1 c1 hm, snd_chn hf hf' a2 b2 c2⟩
theorem t_chn {op op' : CmpOp} {r r' : R2} {f f' : D → D → (D → Prop) → Prop} (ho : OpR X (compareOp op) r) (hf : OpD X.K r f) (ho' : OpR X (compareOp op') r') (hf' : OpD X.K r' f') (ha : PDE X ok a wa) (hb : PDE X ok b wb) (hc : PDE X ok c wc)
    (hm : lastMarks [op, op'] [b, c] = false := by with_unfolding_all rfl) : PDT X ok (.Compare a [op, op'] [b, c] pos) (wTest (wChn f f' wa wb wc)) :=
  let ⟨_, a1, a2⟩ := ha; let ⟨_, b1, b2⟩ := hb; let ⟨_, c1, c2⟩ := hc; ⟨_, pt_chain ho ho' a1 b1 c1 hm, snd_test (snd_chn hf hf' a2 b2 c2)⟩
/-! ### tests -/
theorem t_val (ha : PDE X ok a wa) (he : ∀ whole, isTrue a X.env whole = (do let v ← whole; standAt a.pos; holding [v] (truthy v)) := by intro _; rfl) : PDT X ok a (wTest wa) := let ⟨_, a1, a2⟩ := ha; ⟨_, pt_val a1 he, snd_tB a2⟩
theorem t_not (h : PDT X ok a wt) : PDT X ok (.UnaryOp .Not a pos) (wNot wt) := let ⟨_, a1, a2⟩ := h; ⟨_, pt_not a1, snd_not a2⟩
theorem t_w (h : PDW X ok a wt) : PDT X ok a wt := let ⟨_, a1, a2⟩ := h; ⟨_, a1.pt, a2⟩
theorem w_and1 (h : PDT X ok a wt) : PDW X ok (.BoolOp .And [a] pos) wt := let ⟨_, a1, a2⟩ := h; ⟨_, pw_and1 a1, a2⟩
theorem w_or1 (h : PDT X ok a wt) : PDW X ok (.BoolOp .Or [a] pos) wt := let ⟨_, a1, a2⟩ := h; ⟨_, pw_or1 a1, a2⟩
theorem w_and (h : PDT X ok a wt) (h2 : PDW X ok (.BoolOp .And (b :: es) pos) wu) : PDW X ok (.BoolOp .And (a :: b :: es) pos) (wAndD wt wu) := let ⟨_, a1, a2⟩ := h; let ⟨_, b1, b2⟩ := h2; ⟨_, pw_and a1 b1, snd_andD a2 b2⟩
theorem w_or (h : PDT X ok a wt) (h2 : PDW X ok (.BoolOp .Or (b :: es) pos) wu) : PDW X ok (.BoolOp .Or (a :: b :: es) pos) (wOrD wt wu) := let ⟨_, a1, a2⟩ := h; let ⟨_, b1, b2⟩ := h2; ⟨_, pw_or a1 b1, snd_orD a2 b2⟩
theorem w_andB (h : PDT X ok a wt) (h2 : PDW X ok (.BoolOp .And (b :: es) pos) wu) : PDW X ok (.BoolOp .And (a :: b :: es) pos) (wAnd wt wu) := let ⟨_, a1, a2⟩ := h; let ⟨_, b1, b2⟩ := h2; ⟨_, pw_and a1 b1, snd_and a2 b2⟩
theorem w_orB (h : PDT X ok a wt) (h2 : PDW X ok (.BoolOp .Or (b :: es) pos) wu) : PDW X ok (.BoolOp .Or (a :: b :: es) pos) (wOr wt wu) := let ⟨_, a1, a2⟩ := h; let ⟨_, b1, b2⟩ := h2; ⟨_, pw_or a1 b1, snd_or a2 b2⟩
theorem d_one {op} (h : PDE X ok a wa) : PDE X ok (.BoolOp op [a] pos) wa := let ⟨_, a1, a2⟩ := h; ⟨_, pe_one a1, a2⟩
theorem d_and (h : PDE X ok a wa) (h2 : PDE X ok (.BoolOp .And (b :: es) pos) wb) : PDE X ok (.BoolOp .And (a :: b :: es) pos) (wBl (wAndD (wTest wa) (wTest wb))) := let ⟨_, a1, a2⟩ := h; let ⟨_, b1, b2⟩ := h2; ⟨_, pe_and a1 b1, snd_andV a2 b2⟩
theorem d_or (h : PDE X ok a wa) (h2 : PDE X ok (.BoolOp .Or (b :: es) pos) wb) : PDE X ok (.BoolOp .Or (a :: b :: es) pos) (wBl (wOrD (wTest wa) (wTest wb))) := let ⟨_, a1, a2⟩ := h; let ⟨_, b1, b2⟩ := h2; ⟨_, pe_or a1 b1, snd_orV a2 b2⟩
theorem d_not (h : PDE X ok a wa) : PDE X ok (.UnaryOp .Not a pos) (wBl (wNot (wTest wa))) := let ⟨_, a1, a2⟩ := h; ⟨_, pe_not a1, snd_notV a2⟩
theorem d_ifE (h : PDT X ok c wt) (ha : PDE X ok a wa) (hb : PDE X ok b wb) : PDE X ok (.IfExp c a b pos) (wIfE wt wa wb) := let ⟨_, c1, c2⟩ := h; let ⟨_, a1, a2⟩ := ha; let ⟨_, b1, b2⟩ := hb; ⟨_, pe_ifExp c1 a1 b1, snd_ifE c2 a2 b2⟩
/-! ### arguments, displays, calls -/
theorem a_nil : PDA X ok [] wNil := ⟨_, pa_nil, snd_nil⟩
theorem a_cons (ha : PDE X ok e we) (hr : PDA X ok es wr) (hs : starEach (e :: es) X.env = (false, eval e X.env) :: starEach es X.env := by rfl) : PDA X ok (e :: es) (wCons we wr) := let ⟨_, a1, a2⟩ := ha; let ⟨_, b1, b2⟩ := hr; ⟨_, pa_cons a1 b1 hs, snd_cons a2 b2⟩
theorem a_hnd (i : Nat) (hr : PDA X ok es wr) (hN : X.N[i]? = some x := by rfl) (hv : Vis X.env.scope x := by first | exact Or.inl rfl | exact Or.inr (Or.inl rfl) | exact Or.inr (Or.inr rfl)) (hd : (x == ("__debug__" : Str)) = false := by decide)
    (hcd : (x == ("__classdict__" : Str)) = false := by decide) (hs : starEach (.Name x pos :: es) X.env = (false, eval (.Name x pos) X.env) :: starEach es X.env := by rfl) : PDA X ok (.Name x pos :: es) (wConsH i wr) := let ⟨_, b1, b2⟩ := hr; ⟨_, pa_cons (pe_var hN hv hd hcd) b1 hs, snd_consH b2⟩
theorem d_tup {x1} (h : PDA X ok es wr) : PDE X ok (.Tuple es x1 pos) (wTupP wr) := let ⟨_, a1, a2⟩ := h; ⟨_, pe_tup a1, snd_tup a2⟩
theorem l_lst (h : PDA X ok es wr) : PDL X ok (.List es pos) (wLstP wr) := let ⟨_, a1, a2⟩ := h; ⟨_, pe_lst a1, snd_lst a2⟩
theorem d_ix (ha : PDB X ok a wa) (hb : PDE X ok b wb) (hs : PlainIx b := by exact fun _ _ => rfl) : PDE X ok (.Subscript a b pos) (wIx wa wb) := let ⟨_, a1, a2⟩ := ha; let ⟨_, b1, b2⟩ := hb; ⟨_, pe_ix ix_seq a1 b1 hs, snd_ix a2 b2⟩
theorem d_len (hm : X.mg "len" = none) (ha : PDB X ok a wa) (hg : Gl X "len" := by rfl) (hs : starEach [a] X.env = (false, eval a X.env) :: starEach [] X.env := by rfl) (hpl : (backTo pos (starEach [] X.env)).any (·.1) = false := by rfl) :
    PDE X ok (.Call (.Name "len" p) [a] [] pos) (wLen wa) := let ⟨_, a1, a2⟩ := ha; ⟨_, pe_callB call_len_seq hg hm PySem.boot_len (pa_cons a1 pa_nil hs) (by decide) (by decide) hs hpl, snd_len a2⟩
theorem d_call {k j n : Nat} {M : WM} (h : Has X.prog X.w X.K X.mg X.base ok k x n M) (hr : Room j X.A) (hk : k ≤ j) (ha : PDA X ok (e :: es) wr) (hg : Gl X x := by rfl) (hdb : (x == ("__debug__" : Str)) = false := by decide)
    (he : starEach (e :: es) X.env = (false, eval e X.env) :: starEach es X.env := by rfl) (hpl : (backTo pos (starEach es X.env)).any (·.1) = false := by rfl) : PDE X ok (.Call (.Name x p) (e :: es) [] pos) (wCallP n M wr) :=
  let ⟨f, fd, ps, G, hm, kp, bs⟩ := h.ex; let ⟨_, a1, a2⟩ := ha; ⟨_, pe_call G (hr.mono hk) hg hm kp bs .nil pass0 a1 hdb he hpl, snd_call a2⟩
theorem l_call {k j n : Nat} {M : WM} (h : Has X.prog X.w X.K X.mg X.base ok k x n M) (hr : Room j X.A) (hk : k ≤ j) (ha : PDA X ok (e :: es) wr) (hg : Gl X x := by rfl) (hdb : (x == ("__debug__" : Str)) = false := by decide)
    (he : starEach (e :: es) X.env = (false, eval e X.env) :: starEach es X.env := by rfl) (hpl : (backTo pos (starEach es X.env)).any (·.1) = false := by rfl) : PDL X ok (.Call (.Name x p) (e :: es) [] pos) (wCallOP n M wr) :=
  let ⟨f, fd, ps, G, hm, kp, bs⟩ := h.ex; let ⟨_, a1, a2⟩ := ha; ⟨_, pe_call G (hr.mono hk) hg hm kp bs .nil pass0 a1 hdb he hpl, snd_callO a2⟩
end
/-! ### built-in calls on values -/
/-- a call of a built-in of one argument, the value read off known data -/
def CallD1 (K : PySem.W.Frag) (r : List V → Hp → VK → Prop) (f : D → (D → Prop) → Prop) : Prop := ∀ (H0 H : Hp) (x : V) (d : D) (Q : D → Prop) (R : VK), Same H0 H → Rp K H0 x d → f d Q → (∀ z v, Q z → Rp K H0 v z → R v H) → r [x] H R
def CallD2 (K : PySem.W.Frag) (r : List V → Hp → VK → Prop) (f : D → D → (D → Prop) → Prop) : Prop := ∀ (H0 H : Hp) (x y : V) (d e : D) (Q : D → Prop) (R : VK), Same H0 H → Rp K H0 x d → Rp K H0 y e → f d e Q → (∀ z v, Q z → Rp K H0 v z → R v H) → r [x, y] H R
section
variable {K : PySem.W.Frag} {ok : List D → Prop} {ta tb : TE} {wa wb : WE}
theorem snd_c1 {r : List V → Hp → VK → Prop} {f : D → (D → Prop) → Prop} (hr : CallD1 K r f) (ha : SndE K ok ta wa) : SndE K ok (tCB r (tCons ta tNil)) (wUn f wa) := fun C H0 σ H env Q R rel hw k =>
  ha C H0 σ H env _ _ rel hw fun d v H1 H01 q r1 e1 x1 => hr H01 H1 v d Q R r1.sub x1 q fun z w qz rz => k z w H1 H01 qz r1 e1 rz
theorem snd_c2 {r : List V → Hp → VK → Prop} {f : D → D → (D → Prop) → Prop} (hr : CallD2 K r f) (ha : SndE K ok ta wa) (hb : SndE K ok tb wb) : SndE K ok (tCB r (tCons ta (tCons tb tNil))) (wBin f wa wb) := fun C H0 σ H env Q R rel hw k =>
  ha C H0 σ H env _ _ rel hw fun d v H1 H01 q r1 e1 x1 => hb C H01 σ H1 env _ _ r1 q fun e u H2 H02 q2 r2 e2 x2 => hr H02 H2 v u d e Q R r2.sub (x1.mono e2) x2 q2 fun z w qz rz => k z w H2 H02 qz r2 (e1.trans e2) rz
def fAbs : D → (D → Prop) → Prop := fun d Q => match d with
  | .int i => Q (.int (if i < 0 then -i else i))
  | _ => False
def fInt : D → (D → Prop) → Prop := fun d Q => match d with
  | .int i => Q (.int i)
  | .bool k => Q (.int (if k then 1 else 0))
  | _ => False
theorem cd_abs : CallD1 K (fun xs H Q => ∃ i, xs = [.int i] ∧ Q (.int (if i < 0 then -i else i)) H) fAbs := fun H0 H x d Q R s hx q k => by
  unfold fAbs at q
  split at q
  · cases hx; exact ⟨_, rfl, k _ _ q (.int _)⟩
  · exact q.elim
theorem cd_int : CallD1 K (fun xs H Q => (∃ i, xs = [.int i] ∧ Q (.int i) H) ∨ ∃ k, xs = [.bl k] ∧ Q (.int (if k then 1 else 0)) H) fInt := fun H0 H x d Q R s hx q k => by
  unfold fInt at q
  split at q
  · cases hx; exact .inl ⟨_, rfl, k _ _ q (.int _)⟩
  · cases hx; exact .inr ⟨_, rfl, k _ _ q (.int _)⟩
  · exact q.elim
theorem cd_max2 : CallD2 K (fun xs H Q => ∃ i j, xs = [.int i, .int j] ∧ Q (.int (if j > i then j else i)) H) fMax2 := fun H0 H x y d e Q R s hx hy q k => by
  unfold fMax2 at q
  split at q
  · cases hx; cases hy; exact ⟨_, _, rfl, k _ _ q (.int _)⟩
  · exact q.elim
theorem cd_min2 : CallD2 K (fun xs H Q => ∃ i j, xs = [.int i, .int j] ∧ Q (.int (if j < i then j else i)) H) fMin2 := fun H0 H x y d e Q R s hx hy q k => by
  unfold fMin2 at q
  split at q
  · cases hx; cases hy; exact ⟨_, _, rfl, k _ _ q (.int _)⟩
  · exact q.elim
end
section
variable {X : Cx} {ok : List D → Prop} {a b c e : Expr} {es : List Expr} {wa wb wc we : WE} {wr : WA} {wl : WL} {wt wu : WT} {pos p apos : Pos} {x : Str}
theorem d_B1 {id : String} {r : List V → Hp → VK → Prop} {f : D → (D → Prop) → Prop} (hc : CallR X (.builtin id) r) (hf : CallD1 X.K r f) (hv : bootBuiltins x = some (.builtin id)) (hm : X.mg x = none) (ha : PDE X ok a wa) (hn : x ≠ "__name__" := by decide) (hdb : (x == ("__debug__" : Str)) = false := by decide) (hg : Gl X x := by rfl) (hs : starEach [a] X.env = (false, eval a X.env) :: starEach [] X.env := by rfl)
    (hpl : (backTo pos (starEach [] X.env)).any (·.1) = false := by rfl) : PDE X ok (.Call (.Name x p) [a] [] pos) (wUn f wa) := let ⟨_, a1, a2⟩ := ha; ⟨_, pe_callB hc hg hm hv (pa_cons a1 pa_nil hs) hn hdb hs hpl, snd_c1 hf a2⟩
theorem d_T1 {T : String} {r : List V → Hp → VK → Prop} {f : D → (D → Prop) → Prop} (hc : CallR X (.type T) r) (hf : CallD1 X.K r f) (hv : bootBuiltins x = some (.type T)) (hm : X.mg x = none) (ha : PDE X ok a wa) (hn : x ≠ "__name__" := by decide) (hdb : (x == ("__debug__" : Str)) = false := by decide) (hg : Gl X x := by rfl) (hs : starEach [a] X.env = (false, eval a X.env) :: starEach [] X.env := by rfl)
    (hpl : (backTo pos (starEach [] X.env)).any (·.1) = false := by rfl) : PDE X ok (.Call (.Name x p) [a] [] pos) (wUn f wa) := let ⟨_, a1, a2⟩ := ha; ⟨_, pe_callTy hc hg hm hv (pa_cons a1 pa_nil hs) hn hdb hs hpl, snd_c1 hf a2⟩
theorem d_B2 {id : String} {r : List V → Hp → VK → Prop} {f : D → D → (D → Prop) → Prop} (hc : CallR X (.builtin id) r) (hf : CallD2 X.K r f) (hv : bootBuiltins x = some (.builtin id)) (hm : X.mg x = none) (ha : PDE X ok a wa) (hb : PDE X ok b wb) (hn : x ≠ "__name__" := by decide) (hdb : (x == ("__debug__" : Str)) = false := by decide) (hg : Gl X x := by rfl)
    (hs : starEach [a, b] X.env = (false, eval a X.env) :: starEach [b] X.env := by rfl) (hs2 : starEach [b] X.env = (false, eval b X.env) :: starEach [] X.env := by rfl) (hpl : (backTo pos (starEach [b] X.env)).any (·.1) = false := by rfl) : PDE X ok (.Call (.Name x p) [a, b] [] pos) (wBin f wa wb) :=
  let ⟨_, a1, a2⟩ := ha; let ⟨_, b1, b2⟩ := hb; ⟨_, pe_callB hc hg hm hv (pa_cons a1 (pa_cons b1 pa_nil hs2) hs) hn hdb hs hpl, snd_c2 hf a2 b2⟩
/-! ### statements -/
theorem s_nil : PDSs X ok [] wNx := ⟨_, pss_nil, ss_nx⟩
theorem s_one {st : Stmt} {ws : WS} (h : PDS X ok st ws) : PDSs X ok [st] ws := let ⟨_, a, b⟩ := h; ⟨_, pss_one a, b⟩
theorem s_cons {st : Stmt} {sts : List Stmt} {ws wr : WS} (h : PDS X ok st ws) (h2 : PDSs X ok sts wr) : PDSs X ok (st :: sts) (wSeq ws wr) := let ⟨_, a, b⟩ := h; let ⟨_, c, d⟩ := h2; ⟨_, pss_cons a c, ss_seq b d⟩
theorem s_never {sts : List Stmt} : PDSs X ok sts wNever := ⟨_, pss_never, ss_never⟩
theorem s_frz (i : Nat) {st : Stmt} {ws : WS} (h : PDS X ok st ws) : PDS X ok st (wFrz i ws) := let ⟨_, a, b⟩ := h; ⟨_, a, ss_frz b⟩
theorem s_pass : PDS X ok (.Pass pos) wNx := ⟨_, ps_pass, ss_nx⟩
theorem s_break : PDS X ok (.Break pos) wBk := ⟨_, ps_break, ss_bk⟩
theorem s_continue : PDS X ok (.Continue pos) wCt := ⟨_, ps_continue, ss_ct⟩
theorem s_no {st : Stmt} : PDS X ok st wNever := ⟨_, ps_never, ss_never⟩
theorem s_set (i : Nat) {pos' : Pos} (hN : X.N.Nodup) (he : PDE X ok e we) (hi : X.N[i]? = some x := by rfl) (hx : Loc X.env.scope x := by first | exact Or.inl rfl | exact Or.inr rfl) (hs : swapsWith e (some (.Name x pos')) pos.line X.env = pure false := by rfl) (hf : X.fn x = true ∨ X.env.scope.names.lookup x = some .local := by first | exact .inl rfl | exact .inr rfl) :
    PDS X ok (.Assign [.Name x pos'] e pos) (wSet i we) := let ⟨_, a, b⟩ := he; ⟨_, ps_set hN hi hx a hs hf, ss_set b⟩
theorem s_setO (i : Nat) {pos' : Pos} (hN : X.N.Nodup) (he : PDL X ok e wl) (hi : X.N[i]? = some x := by rfl) (hx : Loc X.env.scope x := by first | exact Or.inl rfl | exact Or.inr rfl) (hs : swapsWith e (some (.Name x pos')) pos.line X.env = pure false := by rfl) (hf : X.fn x = true ∨ X.env.scope.names.lookup x = some .local := by first | exact .inl rfl | exact .inr rfl) :
    PDS X ok (.Assign [.Name x pos'] e pos) (wSetO i wl) := let ⟨_, a, b⟩ := he; ⟨_, ps_set hN hi hx a hs hf, ss_setO b⟩
theorem s_setH (i : Nat) {pos' : Pos} (hN : X.N.Nodup) (he : PDL X ok e wl) (hi : X.N[i]? = some x := by rfl) (hx : Loc X.env.scope x := by first | exact Or.inl rfl | exact Or.inr rfl) (hs : swapsWith e (some (.Name x pos')) pos.line X.env = pure false := by rfl) (hf : X.fn x = true ∨ X.env.scope.names.lookup x = some .local := by first | exact .inl rfl | exact .inr rfl) :
    PDS X ok (.Assign [.Name x pos'] e pos) (wSetH ok i wl) := let ⟨_, a, b⟩ := he; ⟨_, ps_set hN hi hx a hs hf, ss_setH b⟩
theorem s_expr (he : PDE X ok e we) (hs : swapsWith e none pos.line X.env = pure false := by rfl) : PDS X ok (.Expr e pos) (wDrop we) := let ⟨_, a, b⟩ := he; ⟨_, ps_expr a hs, ss_drop b⟩
theorem s_ret (he : PDE X ok e we) : PDS X ok (.Return (some e) pos) (wRet we) := let ⟨_, a, b⟩ := he; ⟨_, ps_ret a, ss_ret b⟩
theorem s_retO (he : PDL X ok e wl) : PDS X ok (.Return (some e) pos) (wRetO wl) := let ⟨_, a, b⟩ := he; ⟨_, ps_ret a, ss_retO b⟩
theorem s_retV (i : Nat) {pos' : Pos} (hN : X.N[i]? = some x := by rfl) (hv : Vis X.env.scope x := by first | exact Or.inl rfl | exact Or.inr (Or.inl rfl) | exact Or.inr (Or.inr rfl)) (hd : (x == ("__debug__" : Str)) = false := by decide)
    (hcd : (x == ("__classdict__" : Str)) = false := by decide) : PDS X ok (.Return (some (.Name x pos')) pos) (wRetV i) := ⟨_, ps_ret (pe_var hN hv hd hcd), ss_retV⟩
theorem s_retN : PDS X ok (.Return none pos) wRetN := ⟨_, ps_retN, ss_retN⟩
theorem s_if {sa sb : List Stmt} {wsa wsb : WS} (hc : PDT X ok c wt) (ha : PDSs X ok sa wsa) (hb : PDSs X ok sb wsb) : PDS X ok (.If c sa sb pos) (wIf wt wsa wsb) := let ⟨_, c1, c2⟩ := hc; let ⟨_, a1, a2⟩ := ha; let ⟨_, b1, b2⟩ := hb; ⟨_, ps_if c1 a1 b1, ss_if c2 a2 b2⟩
theorem s_while {body : List Stmt} {ws : WS} (hp : PassesOwn (model X.prog X.w) X.A X.env X.xe) (hc : PDT X ok c wt) (hb : PDSs X ok body ws) : PDS X ok (.While c body [] pos) (wWhile wt ws) := let ⟨_, c1, c2⟩ := hc; let ⟨_, b1, b2⟩ := hb; ⟨_, ps_while hp c1 b1, ss_while c2 b2⟩
theorem s_for {vs : List Nat} {tg iter : Expr} {body : List Stmt} {wi : WI} {wg : WG} {ws : WS} (hp : PassesOwn (model X.prog X.w) X.A X.env X.xe) (hc : X.calm = true) (hi : PDI X ok tg iter wi) (hg : PDG X ok vs tg wg) (hb : PDSs X ok body ws) (hs : ∀ x, foldedSetIterable iter X.env x = pure x := by intro _; rfl) :
    PDS X ok (.For tg iter body [] pos) (wFor wi wg ws) := let ⟨_, i1, i2⟩ := hi; let ⟨_, g1, g2⟩ := hg; let ⟨_, b1, b2⟩ := hb; ⟨_, ps_for hp hc i1 g1 b1 hs, ss_for i2 g2 b2⟩
theorem s_app (i : Nat) {mp : Pos} (hpe : PDE X ok e we) (hN : X.N[i]? = some x := by rfl) (hv : Vis X.env.scope x := by first | exact Or.inl rfl | exact Or.inr (Or.inl rfl) | exact Or.inr (Or.inr rfl)) (hd : (x == ("__debug__" : Str)) = false := by decide) (hcd : (x == ("__classdict__" : Str)) = false := by decide)
    (hbase : attributeBase (.Name x mp) "append" X.env (eval (.Name x mp) X.env) = eval (.Name x mp) X.env := by rfl)
    (hfew : ((backTo p (starEach [e] X.env)).all (fun x => !x.1) && (backToKw p (keywordEach [] X.env)).all (fun x => x.1.isSome) && decide ([e].length + ([] : List Keyword).length + (if ([] : List Keyword).isEmpty then 0 else 1) < 30)) = true := by rfl)
    (hline : (apos.endLine == p.line) = true := by rfl) (hs : starEach [e] X.env = (false, eval e X.env) :: starEach [] X.env := by rfl) (hplain : (backTo p (starEach [] X.env)).any (·.1) = false := by rfl)
    (hsw : swapsWith (.Call (.Attribute (.Name x mp) "append" apos) [e] [] p) none pos.line X.env = pure false := by rfl) :
    PDS X ok (.Expr (.Call (.Attribute (.Name x mp) "append" apos) [e] [] p) pos) (wApp i we) := let ⟨_, a, b⟩ := hpe; ⟨_, ps_expr (pe_bm PySem.F.plainAttrs_list PySem.F.slot_list_append PySem.F.type_list_append mt_append (pe_var hN hv hd hcd) (pa_cons a pa_nil hs) hbase hfew hline hs hplain) hsw, ss_app b⟩
theorem s_ext (i : Nat) {mp : Pos} (hpe : PDE X ok e we) (hN : X.N[i]? = some x := by rfl) (hv : Vis X.env.scope x := by first | exact Or.inl rfl | exact Or.inr (Or.inl rfl) | exact Or.inr (Or.inr rfl)) (hd : (x == ("__debug__" : Str)) = false := by decide) (hcd : (x == ("__classdict__" : Str)) = false := by decide)
    (hbase : attributeBase (.Name x mp) "extend" X.env (eval (.Name x mp) X.env) = eval (.Name x mp) X.env := by rfl)
    (hfew : ((backTo p (starEach [e] X.env)).all (fun x => !x.1) && (backToKw p (keywordEach [] X.env)).all (fun x => x.1.isSome) && decide ([e].length + ([] : List Keyword).length + (if ([] : List Keyword).isEmpty then 0 else 1) < 30)) = true := by rfl)
    (hline : (apos.endLine == p.line) = true := by rfl) (hs : starEach [e] X.env = (false, eval e X.env) :: starEach [] X.env := by rfl) (hplain : (backTo p (starEach [] X.env)).any (·.1) = false := by rfl)
    (hsw : swapsWith (.Call (.Attribute (.Name x mp) "extend" apos) [e] [] p) none pos.line X.env = pure false := by rfl) :
    PDS X ok (.Expr (.Call (.Attribute (.Name x mp) "extend" apos) [e] [] p) pos) (wExt i we) := let ⟨_, a, b⟩ := hpe; ⟨_, ps_expr (pe_bm PySem.F.plainAttrs_list PySem.F.slot_list_extend PySem.F.type_list_extend mt_extend (pe_var hN hv hd hcd) (pa_cons a pa_nil hs) hbase hfew hline hs hplain) hsw, ss_ext b⟩
theorem s_pop (i : Nat) {mp : Pos} (hN : X.N[i]? = some x := by rfl) (hv : Vis X.env.scope x := by first | exact Or.inl rfl | exact Or.inr (Or.inl rfl) | exact Or.inr (Or.inr rfl)) (hd : (x == ("__debug__" : Str)) = false := by decide) (hcd : (x == ("__classdict__" : Str)) = false := by decide)
    (hbase : attributeBase (.Name x mp) "pop" X.env (eval (.Name x mp) X.env) = eval (.Name x mp) X.env := by rfl) (hline : (apos.endLine == p.line) = true := by rfl)
    (hsw : swapsWith (.Call (.Attribute (.Name x mp) "pop" apos) [] [] p) none pos.line X.env = pure false := by rfl) :
    PDS X ok (.Expr (.Call (.Attribute (.Name x mp) "pop" apos) [] [] p) pos) (wPop i) := ⟨_, ps_expr (pe_bm0 PySem.F.plainAttrs_list PySem.F.slot_list_pop PySem.F.type_list_pop mt_pop (pe_var hN hv hd hcd) hbase hline) hsw, ss_pop⟩
theorem s_put (i : Nat) {tp : Pos} {ix : Expr} {mp : Pos} (he : PDE X ok e we) (hk : PDE X ok ix wa) (hN : X.N[i]? = some x := by rfl) (hv : Vis X.env.scope x := by first | exact Or.inl rfl | exact Or.inr (Or.inl rfl) | exact Or.inr (Or.inr rfl)) (hd : (x == ("__debug__" : Str)) = false := by decide) (hcd : (x == ("__classdict__" : Str)) = false := by decide)
    (hg : ∀ (to tk : TE), PE X (.Name x mp) to → PE X ix tk → PG X (.Subscript (.Name x mp) ix tp) (gSub to tk rSetL) := by exact fun _ _ h1 h2 => pg_sub h1 h2 set_list)
    (hs : swapsWithSole [.Subscript (.Name x mp) ix tp] e pos.line X.env = pure false := by rfl) (hw : swappedStores [.Subscript (.Name x mp) ix tp] e X.env = pure none := by rfl) :
    PDS X ok (.Assign [.Subscript (.Name x mp) ix tp] e pos) (wPut i wa we) := let ⟨_, e1, e2⟩ := he; let ⟨_, k1, k2⟩ := hk; ⟨_, ps_asg e1 (hg _ _ (pe_var hN hv hd hcd) k1) hs hw, ss_put e2 k2⟩
theorem s_par (i j : Nat) {y : Str} {px py pt : Pos} {kt k2 pt2} (hc : X.calm = true) (hN : X.N.Nodup) (hij : i ≠ j) (ha : PDA X ok [a, b] wr) (hi : X.N[i]? = some x := by rfl) (hj : X.N[j]? = some y := by rfl)
    (hx : X.env.scope.names.lookup x = some .local := by rfl) (hy : X.env.scope.names.lookup y = some .local := by rfl)
    (hw : swappedStores [.Tuple [.Name x px, .Name y py] kt pt] (.Tuple [a, b] k2 pt2) X.env = pure (some [x, y]) := by rfl)
    (hs : swapsWithSole [.Tuple [.Name x px, .Name y py] kt pt] (.Tuple [a, b] k2 pt2) pos.line X.env = pure false := by rfl) :
    PDS X ok (.Assign [.Tuple [.Name x px, .Name y py] kt pt] (.Tuple [a, b] k2 pt2) pos) (wPar i j wr) := let ⟨_, a1, a2⟩ := ha; ⟨_, ps_par hc hN hi hj hij hx hy a1 hw hs, ss_par a2⟩
theorem s_asg {vs : List Nat} {tg : Expr} {wg : WG} (he : PDE X ok e we) (hg : PDG X ok vs tg wg) (hs : swapsWithSole [tg] e pos.line X.env = pure false := by rfl) (hw : swappedStores [tg] e X.env = pure none := by rfl) (h1 : (assignEach [tg] X.env).map (·.2) = [assign tg X.env] := by rfl) :
    PDS X ok (.Assign [tg] e pos) (wAsg we wg) := let ⟨_, a1, a2⟩ := he; let ⟨_, b1, b2⟩ := hg; ⟨_, ps_asg a1 b1 hs hw h1, ss_asg a2 b2⟩
/-! ### targets, what is walked, comprehensions -/
theorem g_name (i : Nat) {vs : List Nat} (hN : X.N.Nodup) (hm : i ∈ vs := by decide) (hi : X.N[i]? = some x := by rfl) (hx : Loc X.env.scope x := by first | exact Or.inl rfl | exact Or.inr rfl) (hf : X.fn x = true ∨ X.env.scope.names.lookup x = some .local := by first | exact .inl rfl | exact .inr rfl) :
    PDG X ok vs (.Name x pos) (gN i) := ⟨_, pg_name hN hi hx hf, sg_name hm⟩
theorem g_tup {vs : List Nat} {k : Nat} {n : Nat} {wg : WGs} (hc : X.calm = true) (h : PDGs X ok vs es wg) (hg : ∀ t, PGs X es t → PG X (.Tuple es k pos) (gTup X.K n t)) : PDG X ok vs (.Tuple es k pos) (gT n wg) := let ⟨_, a, b⟩ := h; ⟨_, hg _ a, sg_tup b⟩
theorem g_nil {vs : List Nat} : PDGs X ok vs [] gsNil := ⟨_, pgs_nil, sgs_nil⟩
theorem i_list {tg : Expr} (h : PDE X ok e we) : PDI X ok tg e (iL we) := let ⟨_, a, b⟩ := h; ⟨_, pi_list a, si_list b⟩
theorem i_tup {tg : Expr} (h : PDE X ok e we) : PDI X ok tg e (iT we) := let ⟨_, a, b⟩ := h; ⟨_, pi_tup a, si_tup b⟩
theorem i_r1 {tg : Expr} (hm : X.mg "range" = none) (h : PDE X ok a wa) (hg : Gl X "range" := by rfl) (hs : starEach [a] X.env = [(false, eval a X.env)] := by rfl) : PDI X ok tg (.Call (.Name "range" p) [a] [] pos) (iR1 wa) := let ⟨_, a1, a2⟩ := h; ⟨_, pi_range1 hg hm (pa_cons a1 pa_nil (by exact hs)) hs, si_r1 a2⟩
theorem i_r2 {tg : Expr} (hm : X.mg "range" = none) (h : PDE X ok a wa) (h2 : PDE X ok b wb) (hg : Gl X "range" := by rfl) (hs : starEach [a, b] X.env = [(false, eval a X.env), (false, eval b X.env)] := by rfl) (hs2 : starEach [b] X.env = [(false, eval b X.env)] := by rfl) :
    PDI X ok tg (.Call (.Name "range" p) [a, b] [] pos) (iR2 wa wb) := let ⟨_, a1, a2⟩ := h; let ⟨_, b1, b2⟩ := h2; ⟨_, pi_range2 hg hm (pa_cons a1 (pa_cons b1 pa_nil (by exact hs2)) (by rw [hs2]; exact hs)) hs hs2, si_r2 a2 b2⟩
theorem l_lc {tg iter elt : Expr} {ifs : List Expr} {scope : Scope} {own : List (Str × Nat)} {wi : WI} {wg : WG} {wt : WT} {we : WE} (hc : X.calm = true) (hN : X.N.Nodup) (hi : PDI X ok tg iter wi) (ok' : BlkOk X.N X.env.scope scope own)
    (hg : ∃ g, (∀ (s : Shared) (H : Hp) (C : Addr) (cl : List (Str × Addr)) (fp : List Addr), PG (X.blk s H scope (compEnvC scope cl C X.env) fp) tg g) ∧ SndG X.K ok (own.map (·.2)) g wg)
    (ht : ∃ tt, (∀ (s : Shared) (H : Hp) (C : Addr) (cl : List (Str × Addr)) (fp : List Addr), PTs (X.blk s H scope (compEnvC scope cl C X.env) fp) ifs tt) ∧ SndT X.K ok tt wt)
    (he : ∃ te, (∀ (s : Shared) (H : Hp) (C : Addr) (cl : List (Str × Addr)) (fp : List Addr), PE (X.blk s H scope (compEnvC scope cl C X.env) fp) elt te) ∧ SndE X.K ok te we)
    (hs : ∀ x, foldedSetIterable iter X.env x = pure x := by intro _; rfl) : PDL X ok (.ListComp elt [⟨tg, iter, ifs, 0⟩] scope pos) (wLc wi wg wt we (own.map (·.2))) :=
  let ⟨_, i1, i2⟩ := hi; let ⟨_, g1, g2⟩ := hg; let ⟨_, t1, t2⟩ := ht; let ⟨_, e1, e2⟩ := he; ⟨_, pe_lc hc hN i1 ok' g1 t1 e1 hs, sl_lc i2 g2 t2 e2⟩
theorem s_setLc (i : Nat) {py spos : Pos} {y : Str} {tg iter elt : Expr} {ifs : List Expr} {scope : Scope} {own : List (Str × Nat)} {wi : WI} {wg : WG} {wt : WT} {we : WE} (hc : X.calm = true) (hN : X.N.Nodup) (hi : PDI X ok tg iter wi) (ok' : BlkOk X.N X.env.scope scope own)
    (hg : ∃ g, (∀ (s : Shared) (H : Hp) (C : Addr) (cl : List (Str × Addr)) (fp : List Addr), PG (X.blk s H scope (compEnvC scope cl C X.env) fp) tg g) ∧ SndG X.K ok (own.map (·.2)) g wg)
    (ht : ∃ tt, (∀ (s : Shared) (H : Hp) (C : Addr) (cl : List (Str × Addr)) (fp : List Addr), PTs (X.blk s H scope (compEnvC scope cl C X.env) fp) ifs tt) ∧ SndT X.K ok tt wt)
    (he : ∃ te, (∀ (s : Shared) (H : Hp) (C : Addr) (cl : List (Str × Addr)) (fp : List Addr), PE (X.blk s H scope (compEnvC scope cl C X.env) fp) elt te) ∧ SndE X.K ok te we)
    (hsw : swapsWith (.ListComp elt [⟨tg, iter, ifs, 0⟩] scope pos) (some (.Name y py)) spos.line X.env = pure true) (hy : X.N[i]? = some y := by rfl) (hyl : X.env.scope.names.lookup y = some .local := by rfl)
    (hs : ∀ x, foldedSetIterable iter X.env x = pure x := by intro _; rfl) : PDS X ok (.Assign [.Name y py] (.ListComp elt [⟨tg, iter, ifs, 0⟩] scope pos) spos) (wSetO i (wLc wi wg wt we (own.map (·.2)))) :=
  let ⟨_, i1, i2⟩ := hi; let ⟨_, g1, g2⟩ := hg; let ⟨_, t1, t2⟩ := ht; let ⟨_, e1, e2⟩ := he; ⟨_, ps_setLc hc hN hy hyl hsw i1 ok' g1 t1 e1 hs, ss_setO (sl_lc i2 g2 t2 e2)⟩
end
/-! ### defs -/
/-- the frame at the entry: the arguments, then nothing -/
def stE : List Ar → Nat → EnvD
  | [], m => List.replicate m none
  | .v d :: r, m => some (.v d) :: stE r m
  | .hnd :: r, m => some .hnd :: stE r m
section
variable {K : PySem.W.Frag} {ok : List D → Prop}
theorem stE_len : ∀ (as : List Ar) (m : Nat), (stE as m).length = as.length + m
  | [], m => by show (List.replicate m none).length = 0 + m; rw [List.length_replicate, Nat.zero_add]
  | .v d :: r, m => by show (stE r m).length + 1 = r.length + 1 + m; rw [stE_len r m]; omega
  | .hnd :: r, m => by show (stE r m).length + 1 = r.length + 1 + m; rw [stE_len r m]; omega
theorem rep_none {m i : Nat} {s : Sl} (h : (List.replicate m (none : Option Sl))[i]? = some (some s)) : False := by
  rw [List.getElem?_replicate] at h
  split at h <;> cases h
theorem stE_slot {H0 : Hp} {ha : Option Addr} : ∀ {as : List Ar} {vs : List V} {m : Nat} {i : Nat} {s : Sl}, ArgsOk K H0 ha vs as → (stE as m)[i]? = some (some s) →
    ∃ x, vs[i]? = some x ∧ ((∃ d, s = .v d ∧ Rp K H0 x d) ∨ ∃ a, s = .hnd ∧ ha = some a ∧ x = .ref a)
  | [], _, m, i, s, _, e => (rep_none e).elim
  | .v d :: r, _, m, 0, s, .cons h _, e => by
    have e' : some (some (Sl.v d)) = some (some s) := e
    cases e'
    exact ⟨_, rfl, .inl ⟨d, rfl, h⟩⟩
  | .v d :: r, _, m, i + 1, s, .cons _ t, e => by
    obtain ⟨x, h1, h2⟩ := stE_slot (m := m) (i := i) t (by have z : (stE r m)[i]? = some (some s) := (List.getElem?_cons_succ).symm.trans e; exact z)
    exact ⟨x, by rw [List.getElem?_cons_succ]; exact h1, h2⟩
  | .hnd :: r, _, m, 0, s, .hnd h _, e => by
    have e' : some (some Sl.hnd) = some (some s) := e
    cases e'
    exact ⟨_, rfl, .inr ⟨_, rfl, h, rfl⟩⟩
  | .hnd :: r, _, m, i + 1, s, .hnd _ t, e => by
    obtain ⟨x, h1, h2⟩ := stE_slot (m := m) (i := i) t (by have z : (stE r m)[i]? = some (some s) := (List.getElem?_cons_succ).symm.trans e; exact z)
    exact ⟨x, by rw [List.getElem?_cons_succ]; exact h1, h2⟩
/-- at most one handle among the parameters: asked of the arguments -/
theorem stE_plain : ∀ {as : List Ar} {m i : Nat}, plainA as = true → (stE as m)[i]? ≠ some (some .hnd)
  | [], m, i, _ => fun e => rep_none e
  | .v d :: r, m, 0, _ => fun e => by have e' : some (some (Sl.v d)) = some (some Sl.hnd) := e; cases e'
  | .v d :: r, m, i + 1, p => fun e => stE_plain (as := r) (m := m) (i := i) p ((List.getElem?_cons_succ).symm.trans e)
  | .hnd :: r, m, i, p => by cases p
theorem stE_one : ∀ {as : List Ar} {m i j : Nat}, oneH as = true → (stE as m)[i]? = some (some .hnd) → (stE as m)[j]? = some (some .hnd) → i = j
  | [], m, i, j, _, e, _ => (rep_none e).elim
  | .v d :: r, m, 0, _, _, e, _ => by have e' : some (some (Sl.v d)) = some (some Sl.hnd) := e; cases e'
  | .v d :: r, m, i + 1, 0, _, _, e => by have e' : some (some (Sl.v d)) = some (some Sl.hnd) := e; cases e'
  | .v d :: r, m, i + 1, j + 1, p, e, f => by rw [stE_one (as := r) (m := m) (i := i) (j := j) p ((List.getElem?_cons_succ).symm.trans e) ((List.getElem?_cons_succ).symm.trans f)]
  | .hnd :: r, m, 0, 0, _, _, _ => rfl
  | .hnd :: r, m, i + 1, _, p, e, _ => (stE_plain (as := r) (m := m) (i := i) p ((List.getElem?_cons_succ).symm.trans e)).elim
  | .hnd :: r, m, 0, j + 1, p, _, e => (stE_plain (as := r) (m := m) (i := j) p ((List.getElem?_cons_succ).symm.trans e)).elim
end
section
variable {P : Program} {w : World} {K : PySem.W.Frag} {mg : Str → Option Value} {base : Heap} {ok : List D → Prop}
theorem rel_start {H0 H : Hp} {ha : Option Addr} {as : List Ar} {vs : List V} {m : Nat} (s0 : Same H0 H) (h : ArgsOk K H0 ha vs as) (hl : vs.length = as.length) (h1 : oneH as = true) (hv : ∀ a, ha = some a → ∃ ds, OwnAt K H0 H a ds ∧ ok ds) :
    Rel K ok ⟨H, H0, ha, fun _ => none⟩ H0 (vs.map some ++ List.replicate m none) H (stE as m) := by
  have look : ∀ {i : Nat} {x : V}, vs[i]? = some x → (vs.map some ++ List.replicate m none)[i]? = some (some x) := fun {i x} e => by
    have lt := (List.getElem?_eq_some_iff.mp e).1
    rw [List.getElem?_append_left (by rw [List.length_map]; exact lt), List.getElem?_map, e]
    rfl
  refine ⟨s0, Same.refl _, fun b o e => .inl e, fun b o e _ => e, fun a z => ?_, ?_, fun i s e => ?_, fun i j s t p hij hs ht os ot e1 e2 => ?_, fun b o z => (nomatch z), fun _ _ _ _ _ _ => rfl, fun _ _ => rfl, fun b o z => (nomatch z)⟩
  · obtain ⟨ds, o, k⟩ := hv a z
    obtain ⟨ws, hp⟩ := o.is
    exact ⟨⟨_, hp⟩, ds, o, k⟩
  · rw [stE_len, List.length_append, List.length_map, List.length_replicate, hl]
  · obtain ⟨x, h1, h2⟩ := stE_slot h e
    rw [look h1]
    rcases h2 with ⟨d, rfl, r⟩ | ⟨a, rfl, z, rfl⟩
    · exact ⟨x, rfl, r⟩
    · obtain ⟨ds, o, k⟩ := hv a z
      exact ⟨a, ds, rfl, .inl z, o, k⟩
  · obtain ⟨x, x1, x2⟩ := stE_slot h hs
    obtain ⟨y, y1, y2⟩ := stE_slot h ht
    rcases x2 with ⟨d, rfl, _⟩ | ⟨a, rfl, _, _⟩
    · cases os
    rcases y2 with ⟨d, rfl, _⟩ | ⟨a', rfl, _, _⟩
    · cases ot
    exact hij (stE_one h1 hs ht)
/-- THE RULE for a def: its body by the rules; what the body asks follows from the promise -/
theorem def_ok {x qual : Str} {st : Stmt} {f : Addr} {fd : FuncData} {N ps : List Str} {k n : Nat} {M : WM} {ws : WS} (F : Fun K x qual st f fd) (S : FnScope N ps (defScope st)) (hn : ps.length = n)
    (hb : ∀ (cdv : Value) (A : Around) (outer : List Env) (s : Shared) (H : Hp) (E : XK), Room k (A.deeper (PyProof.Rows.envOfC qual (defScope st) s.heap.objs.size f cdv)) → PDSs (cxOf CX0 P w K mg base N qual (defScope st) f cdv A outer s H E).nox ok (defBody st) ws)
    (hM : ∀ as Q, as.length = n → M as Q → ws { nx := fun _ => Q (.v .none), rt := Q } (stE as (N.length - n))) : FnOk P w K mg base CX0 (k + 1) f fd ps (SpD K ok n M) := by
  refine F.ok S (fun vs H Q E h => ?_) (fun cdv A outer s H vs Q E hr h => ?_)
  · obtain ⟨H0, ha, as, Q', h1, h2, _⟩ := h
    rw [h2, hn]
  · obtain ⟨H0, ha, as, Q', h1, h2, one, s0, hargs, hv, hMQ, k0⟩ := h
    obtain ⟨ts, p, snd⟩ := hb cdv A outer s H E hr
    refine ⟨ts, p, ?_⟩
    have rel : Rel K ok ⟨H, H0, ha, fun _ => none⟩ H0 (L2.start N vs) H (stE as (N.length - n)) := by
      have z := rel_start (ok := ok) (m := N.length - n) s0 hargs (by rw [h2, h1]) one hv
      unfold L2.start
      rw [h2]
      exact z
    have post : ∀ {r : Rt} {v : V} {σ' : L2.St} {H' H01 : Hp} {env' : EnvD}, Rel K ok ⟨H, H0, ha, fun _ => none⟩ H01 σ' H' env' → Q' r → RetOk K H H01 H' v r → Q v H' := fun {r v σ' H' H01 env'} R q rr =>
      k0 v H' r H01 q ⟨R.grow, R.sub, R.new, R.fr, fun a z => (R.hv a z).2, rr⟩
    exact snd _ H0 _ H _ _ _ rel (hM as Q' h1 hMQ) ⟨fun env' σ' H' H01 e R q => post (r := .v .none) R q .non, fun r v σ' H' H01 env' e R q rr => post R q rr, fun _ _ _ _ _ _ q => q.elim, fun _ _ _ _ _ _ q => q.elim⟩
end
end DL
/-! DL, part e: lists and tuples: sums, products, slices, sorted, sum, all, any, truth. -/
namespace DL
open PySem L2

abbrev WO := EnvD → (Option Int → Prop) → Prop
def SndO (K : PySem.W.Frag) (ok : List D → Prop) (to : TO) (wo : WO) : Prop := ∀ (C : Ctx) (H0 : Hp) (σ : L2.St) (H : Hp) (env : EnvD) (Q : Option Int → Prop) (R : Option Int → Hp → Prop), Rel K ok C H0 σ H env → wo env Q →
  (∀ o H1 H01, Q o → Rel K ok C H01 σ H1 env → Same H0 H01 → R o H1) → to σ H R
def PDO (X : Cx) (ok : List D → Prop) (e : Option Expr) (wo : WO) : Prop := ∃ to, PO X e to ∧ SndO X.K ok to wo
def woN : WO := fun _ Q => Q none
def woS (a : WE) : WO := fun env Q => a env fun x => match x with
  | .int i => Q (some i)
  | _ => False
def cutD {α : Type} (xs : List α) (lo hi : Option Int) : List α := (xs.drop (HT.sIx xs.length 0 lo)).take (HT.sIx xs.length xs.length hi - HT.sIx xs.length 0 lo)
/-- xs[a:b], a list -/
def wSlL (a : WE) (lo hi : WO) : WL := fun env Q => a env fun x => lo env fun l => hi env fun u => match x with
  | .list ds => Q (cutD ds l u)
  | _ => False
def wSlT (a : WE) (lo hi : WO) : WE := fun env Q => a env fun x => lo env fun l => hi env fun u => match x with
  | .tuple ds => Q (.tuple (cutD ds l u))
  | _ => False
def wCat (a b : WE) : WL := fun env Q => a env fun x => b env fun y => match x, y with
  | .list ds, .list es => ds.length + es.length < 1000000 ∧ Q (ds ++ es)
  | _, _ => False
def wRep (a b : WE) : WL := fun env Q => a env fun x => b env fun y => match x, y with
  | .list ds, .int k => k < 1000000 ∧ -1000000 < k ∧ ds.length * k.toNat < 1000000 ∧ Q (List.replicate k.toNat ds).flatten
  | _, _ => False
def wCatT (a b : WE) : WE := fun env Q => a env fun x => b env fun y => match x, y with
  | .tuple ds, .tuple es => ds.length + es.length < 1000000 ∧ Q (.tuple (ds ++ es))
  | _, _ => False
/-- list(x) -/
def wListOf (a : WE) : WL := fun env Q => a env fun x => match x with
  | .list ds => Q ds
  | .tuple ds => Q ds
  | .dict [(.none, .list ds)] => Q ds
  | _ => False
def wTupOf (a : WE) : WE := fun env Q => a env fun x => match x with
  | .list ds => Q (.tuple ds)
  | .tuple ds => Q (.tuple ds)
  | _ => False
/-- sum, max, min, sorted of a list of ints; all, any of a list of truth values: the ints told -/
def wSum (a : WE) : WE := fun env Q => a env fun x => ∃ ns, x = .list (dints ns) ∧ Q (.int ns.sum)
def wAll (a : WE) : WE := fun env Q => a env fun x => ∃ bs : List Bool, x = .list (bs.map PyData.bool) ∧ Q (.bool (bs.all id))
def wAny (a : WE) : WE := fun env Q => a env fun x => ∃ bs : List Bool, x = .list (bs.map PyData.bool) ∧ Q (.bool (bs.any id))
def wMaxL (a : WE) : WE := fun env Q => a env fun x => ∃ ns : List Int, x = .list (dints ns) ∧ 0 < ns.length ∧ ∀ m, m ∈ ns → (∀ y, y ∈ ns → y ≤ m) → Q (.int m)
def wMinL (a : WE) : WE := fun env Q => a env fun x => ∃ ns : List Int, x = .list (dints ns) ∧ 0 < ns.length ∧ ∀ m, m ∈ ns → (∀ y, y ∈ ns → m ≤ y) → Q (.int m)
def wSortI (a : WE) : WL := fun env Q => a env fun x => ∃ ns : List Int, x = .list (dints ns) ∧ ∀ ns' : List Int, ns'.Perm ns → ns'.Pairwise (· ≤ ·) → Q (dints ns')
/-- truth of a value: None, a truth value, an int, a list, a tuple -/
def wTru (a : WE) : WT := fun env Q => a env fun x => match x with
  | .none => Q false
  | .bool b => Q b
  | .int i => Q (i != 0)
  | .list ds => Q (!ds.isEmpty)
  | .tuple ds => Q (!ds.isEmpty)
  | _ => False
section
variable {K : PySem.W.Frag} {ok : List D → Prop} {ta tb te : TE} {wa wb we : WE} {t u : TT} {wt wu : WT}
theorem so_n : SndO K ok tNoPart woN := fun C H0 σ H env Q R rel hw k => k _ H H0 hw rel (Same.refl _)
theorem so_s (ha : SndE K ok ta wa) : SndO K ok (tPart ta) (woS wa) := fun C H0 σ H env Q R rel hw k => ha C H0 σ H env _ _ rel hw fun d v H1 H01 q r1 e1 x1 => by
  try dsimp only at q
  split at q
  · cases x1; exact ⟨_, rfl, k _ H1 H01 q r1 e1⟩
  · exact q.elim
theorem Rps.cut {H : Hp} {vs : List V} {ds : List D} {lo hi : Option Int} (r : Rps K H vs ds) : Rps K H (cutV vs lo hi) (cutD ds lo hi) := by
  unfold cutV cutD
  rw [r.length]
  exact (r.drop _).take _
theorem sl_sl {tl th : TO} {lo hi : WO} (ha : SndB K ok ta wa) (hl : SndO K ok tl lo) (hh : SndO K ok th hi) : SndL K ok (tSl (rSlL K) ta tl th) (wSlL wa lo hi) := fun C H0 σ H env Q R rel hw k =>
  ha C H0 σ H env _ _ rel hw fun d v H1 H01 q r1 e1 x1 => hl C H01 σ H1 env _ _ r1 q fun l H2 H02 q2 r2 e2 => hh C H02 σ H2 env _ _ r2 q2 fun u H3 H03 q3 r3 e3 => by
    try dsimp only at q3
    split at q3
    · rename_i ds
      obtain ⟨p, vs, rfl, r, h⟩ := (x1 H3 H03 r3 (e2.trans e3)).seq r3.sub (.inl rfl)
      rcases h with ⟨_, h⟩ | ⟨h, _⟩
      · exact ⟨p, vs, rfl, SqL.of h, fun p' np => k _ _ _ _ q3 (r3.laid0 np) ((e1.trans e2).trans e3) ⟨r3.fresh np, ⟨r3.sub.free np, _, upd_same, r.cut⟩, r3.noslot np, r3.kp.free np⟩⟩
      · cases h
    · exact q3.elim
theorem cut_whole {α : Type} {xs : List α} {lo hi : Option Int} (h : HT.sIx xs.length 0 lo = 0 ∧ HT.sIx xs.length xs.length hi = xs.length) : cutD xs lo hi = xs := by
  unfold cutD
  rw [h.1, h.2]
  simp
theorem se_slT {tl th : TO} {lo hi : WO} (ha : SndE K ok ta wa) (hl : SndO K ok tl lo) (hh : SndO K ok th hi) : SndE K ok (tSl (rSlA K) ta tl th) (wSlT wa lo hi) := fun C H0 σ H env Q R rel hw k =>
  ha C H0 σ H env _ _ rel hw fun d v H1 H01 q r1 e1 x1 => hl C H01 σ H1 env _ _ r1 q fun l H2 H02 q2 r2 e2 => hh C H02 σ H2 env _ _ r2 q2 fun u H3 H03 q3 r3 e3 => by
    try dsimp only at q3
    split at q3
    · cases x1 with
      | tup h r =>
        rename_i a xs
        have r' := r.mono (e2.trans e3)
        refine ⟨a, xs, rfl, Same.tup (Same.trans (Same.trans e2 e3) r3.sub) h, fun hw => ?_, fun hw p np => ?_⟩
        · refine k _ _ H3 H03 q3 r3 ((e1.trans e2).trans e3) (.tup (Same.tup (e2.trans e3) h) ?_)
          rw [r.length] at hw
          rw [cut_whole hw]
          exact r'
        · obtain ⟨r4, e4⟩ := r3.laid (o := .tup (cutV xs l u)) np
          exact k _ _ _ _ q3 r4 (((e1.trans e2).trans e3).trans e4) (.tup (SqT.of upd_same) ((r'.cut).mono e4))
    · exact q3.elim
theorem Bor.lst {H0 H : Hp} {v : V} {ds : List D} (s : Same H0 H) (h : Bor K H0 H v (.list ds)) : ∃ p vs, v = .ref p ∧ Rps K H0 vs ds ∧ H p = some (.lst vs) := by
  obtain ⟨p, vs, e, r, h⟩ := h.seq s (.inl rfl)
  rcases h with ⟨_, h⟩ | ⟨h, _⟩
  · exact ⟨p, vs, e, r, h⟩
  · cases h
theorem sl_cat (ha : SndB K ok ta wa) (hb : SndB K ok tb wb) : SndL K ok (tOp rCat ta tb) (wCat wa wb) := fun C H0 σ H env Q R rel hw k =>
  ha C H0 σ H env _ _ rel hw fun d v H1 H01 q r1 e1 x1 => hb C H01 σ H1 env _ _ r1 q fun e u H2 H02 q2 r2 e2 x2 => by
    try dsimp only at q2
    split at q2
    · obtain ⟨p, vs, rfl, r, h⟩ := (x1 H2 H02 r2 e2).lst r2.sub
      obtain ⟨p', vs', rfl, r', h'⟩ := (x2 H2 H02 r2 (Same.refl _)).lst r2.sub
      exact ⟨p, p', vs, vs', rfl, rfl, h, h', by rw [r.length, r'.length]; exact Nat.le_of_lt (lt_size q2.1), fun q np => k _ _ _ _ q2.2 (r2.laid0 np) (e1.trans e2) ⟨r2.fresh np, ⟨r2.sub.free np, _, upd_same, r.append r'⟩, r2.noslot np, r2.kp.free np⟩⟩
    · exact q2.elim
theorem sl_rep (ha : SndB K ok ta wa) (hb : SndE K ok tb wb) : SndL K ok (tOp rRep ta tb) (wRep wa wb) := fun C H0 σ H env Q R rel hw k =>
  ha C H0 σ H env _ _ rel hw fun d v H1 H01 q r1 e1 x1 => hb C H01 σ H1 env _ _ r1 q fun e u H2 H02 q2 r2 e2 x2 => by
    try dsimp only at q2
    split at q2
    · obtain ⟨p, vs, rfl, r, h⟩ := (x1 H2 H02 r2 e2).lst r2.sub
      cases x2
      exact ⟨p, _, vs, rfl, rfl, h, by omega, by omega, by rw [r.length]; exact Nat.le_of_lt (lt_size q2.2.2.1), fun q np => k _ _ _ _ q2.2.2.2 (r2.laid0 np) (e1.trans e2) ⟨r2.fresh np, ⟨r2.sub.free np, _, upd_same, r.rep _⟩, r2.noslot np, r2.kp.free np⟩⟩
    · exact q2.elim
theorem se_catT (ha : SndE K ok ta wa) (hb : SndE K ok tb wb) : SndE K ok (tOp (rCatA K) ta tb) (wCatT wa wb) := fun C H0 σ H env Q R rel hw k =>
  ha C H0 σ H env _ _ rel hw fun d v H1 H01 q r1 e1 x1 => hb C H01 σ H1 env _ _ r1 q fun e u H2 H02 q2 r2 e2 x2 => by
    try dsimp only at q2
    split at q2
    · cases x1 with
      | tup h r =>
        cases x2 with
        | tup h' r' =>
          have h2 := Same.tup e2 h
          have rr := r.mono e2
          refine ⟨_, _, _, _, rfl, rfl, Same.tup r2.sub h2, Same.tup r2.sub h', by rw [r.length, r'.length]; exact Nat.le_of_lt (lt_size q2.1), fun z => ?_, fun z z2 => ?_, fun _ _ p np => ?_⟩
          · subst z
            refine k _ _ H2 H02 q2.2 r2 (e1.trans e2) (.tup h' ?_)
            have l := r.length
            rw [List.eq_nil_of_length_eq_zero l.symm]
            exact r'
          · subst z2
            refine k _ _ H2 H02 q2.2 r2 (e1.trans e2) (.tup h2 ?_)
            have l := r'.length
            rw [List.eq_nil_of_length_eq_zero l.symm, List.append_nil]
            exact rr
          · obtain ⟨r4, e4⟩ := r2.laid (o := .tup (_ ++ _)) np
            exact k _ _ _ _ q2.2 r4 ((e1.trans e2).trans e4) (.tup (SqT.of upd_same) ((rr.append r').mono e4))
    · exact q2.elim
theorem sl_listOf (ha : SndB K ok ta wa) : SndL K ok (tCB (fun xs H Q => ∃ p ys, xs = [.ref p] ∧ (SqL K H p ys ∨ SqT K H p ys) ∧ ∀ l, H l = none → Q (.ref l) (upd H l (.lst ys))) (tCons ta tNil)) (wListOf wa) := fun C H0 σ H env Q R rel hw k =>
  ha C H0 σ H env _ _ rel hw fun d v H1 H01 q r1 e1 x1 => by
    have b := x1 H1 H01 r1 (Same.refl _)
    try dsimp only at q
    split at q
    · obtain ⟨p, vs, rfl, r, h⟩ := b.lst r1.sub
      exact ⟨p, vs, rfl, .inl (SqL.of h), fun l nl => k _ _ _ _ q (r1.laid0 nl) e1 ⟨r1.fresh nl, ⟨r1.sub.free nl, _, upd_same, r⟩, r1.noslot nl, r1.kp.free nl⟩⟩
    · obtain ⟨p, vs, rfl, r, h⟩ := b.seq r1.sub (.inr rfl)
      rcases h with ⟨h, _⟩ | ⟨_, h⟩
      · cases h
      · exact ⟨p, vs, rfl, .inr h, fun l nl => k _ _ _ _ q (r1.laid0 nl) e1 ⟨r1.fresh nl, ⟨r1.sub.free nl, _, upd_same, r⟩, r1.noslot nl, r1.kp.free nl⟩⟩
    · rcases b with h | ⟨_, _, _, h, _⟩
      · cases h with
        | @scr a ns h => exact ⟨a, _, rfl, .inl (r1.sub.seq h), fun l nl => k _ _ _ _ q (r1.laid0 nl) e1 ⟨r1.fresh nl, ⟨r1.sub.free nl, _, upd_same, Rps.of_ints ns⟩, r1.noslot nl, r1.kp.free nl⟩⟩
      · cases h
    · exact q.elim
theorem se_tupOf (ha : SndB K ok ta wa) : SndE K ok (tCB (fun xs H Q => ∃ p ys, xs = [.ref p] ∧ ((SqL K H p ys ∧ ∀ l, H l = none → Q (.ref l) (upd H l (.tup ys))) ∨ (SqT K H p ys ∧ Q (.ref p) H))) (tCons ta tNil)) (wTupOf wa) := fun C H0 σ H env Q R rel hw k =>
  ha C H0 σ H env _ _ rel hw fun d v H1 H01 q r1 e1 x1 => by
    have b := x1 H1 H01 r1 (Same.refl _)
    try dsimp only at q
    split at q
    · obtain ⟨p, vs, rfl, r, h⟩ := b.lst r1.sub
      refine ⟨p, vs, rfl, .inl ⟨SqL.of h, fun l nl => ?_⟩⟩
      obtain ⟨r4, e4⟩ := r1.laid (o := .tup vs) nl
      exact k _ _ _ _ q r4 (e1.trans e4) (.tup (SqT.of upd_same) (r.mono e4))
    · rcases b with h | ⟨_, _, _, h, _⟩
      · cases h with
        | tup h r => exact ⟨_, _, rfl, .inr ⟨Same.tup r1.sub h, k _ _ _ _ q r1 e1 (.tup h r)⟩⟩
      · cases h
    · exact q.elim
theorem Bor.ints {H0 H : Hp} {v : V} {ns : List Int} (s : Same H0 H) (h : Bor K H0 H v (.list (dints ns))) : ∃ p, v = .ref p ∧ SqL K H p (ns.map V.int) := by
  obtain ⟨p, vs, e, r, h⟩ := h.lst s
  rw [r.ints_inv] at h
  exact ⟨p, e, SqL.of h⟩
theorem se_sum (ha : SndB K ok ta wa) : SndE K ok (tCB (rSum K) (tCons ta tNil)) (wSum wa) := fun C H0 σ H env Q R rel hw k =>
  ha C H0 σ H env _ _ rel hw fun d v H1 H01 q r1 e1 x1 => by
    obtain ⟨ns, rfl, q⟩ := q
    obtain ⟨p, rfl, h⟩ := (x1 H1 H01 r1 (Same.refl _)).ints r1.sub
    exact ⟨p, ns, rfl, h, k _ _ _ _ q r1 e1 (.int _)⟩
theorem se_maxL (ha : SndB K ok ta wa) : SndE K ok (tCB (rMax K) (tCons ta tNil)) (wMaxL wa) := fun C H0 σ H env Q R rel hw k =>
  ha C H0 σ H env _ _ rel hw fun d v H1 H01 q r1 e1 x1 => by
    obtain ⟨ns, rfl, l, q⟩ := q
    obtain ⟨p, rfl, h⟩ := (x1 H1 H01 r1 (Same.refl _)).ints r1.sub
    exact ⟨p, ns, rfl, h, l, fun m hm hl => k _ _ _ _ (q m hm hl) r1 e1 (.int _)⟩
theorem se_minL (ha : SndB K ok ta wa) : SndE K ok (tCB (rMin K) (tCons ta tNil)) (wMinL wa) := fun C H0 σ H env Q R rel hw k =>
  ha C H0 σ H env _ _ rel hw fun d v H1 H01 q r1 e1 x1 => by
    obtain ⟨ns, rfl, l, q⟩ := q
    obtain ⟨p, rfl, h⟩ := (x1 H1 H01 r1 (Same.refl _)).ints r1.sub
    exact ⟨p, ns, rfl, h, l, fun m hm hl => k _ _ _ _ (q m hm hl) r1 e1 (.int _)⟩
theorem sl_sortI (ha : SndB K ok ta wa) : SndL K ok (tCB (rSortedI K) (tCons ta tNil)) (wSortI wa) := fun C H0 σ H env Q R rel hw k =>
  ha C H0 σ H env _ _ rel hw fun d v H1 H01 q r1 e1 x1 => by
    obtain ⟨ns, rfl, q⟩ := q
    obtain ⟨p, rfl, h⟩ := (x1 H1 H01 r1 (Same.refl _)).ints r1.sub
    exact ⟨p, ns, rfl, h, fun ns' l hp hs nl => k _ _ _ _ (q ns' hp hs) (r1.laid0 nl) e1 ⟨r1.fresh nl, ⟨r1.sub.free nl, _, upd_same, Rps.of_ints ns'⟩, r1.noslot nl, r1.kp.free nl⟩⟩
theorem se_all (ha : SndB K ok ta wa) : SndE K ok (tCB (rAll K) (tCons ta tNil)) (wAll wa) := fun C H0 σ H env Q R rel hw k =>
  ha C H0 σ H env _ _ rel hw fun d v H1 H01 q r1 e1 x1 => by
    obtain ⟨bs, rfl, q⟩ := q
    obtain ⟨p, vs, rfl, r, h⟩ := (x1 H1 H01 r1 (Same.refl _)).lst r1.sub
    rw [r.bools_inv] at h
    exact ⟨p, bs, rfl, SqL.of h, k _ _ _ _ q r1 e1 (.bl _)⟩
theorem se_any (ha : SndB K ok ta wa) : SndE K ok (tCB (rAny K) (tCons ta tNil)) (wAny wa) := fun C H0 σ H env Q R rel hw k =>
  ha C H0 σ H env _ _ rel hw fun d v H1 H01 q r1 e1 x1 => by
    obtain ⟨bs, rfl, q⟩ := q
    obtain ⟨p, vs, rfl, r, h⟩ := (x1 H1 H01 r1 (Same.refl _)).lst r1.sub
    rw [r.bools_inv] at h
    exact ⟨p, bs, rfl, SqL.of h, k _ _ _ _ q r1 e1 (.bl _)⟩
theorem st_tru (ha : SndB K ok ta wa) : SndT K ok (fun σ H Q => ta σ H fun x H' => ∃ k, TruV K x H' k ∧ Q k H') (wTru wa) := fun C H0 σ H env Q R rel hw k =>
  ha C H0 σ H env _ _ rel hw fun d v H1 H01 q r1 e1 x1 => by
    have b := x1 H1 H01 r1 (Same.refl _)
    have simple : ∀ {d : D}, (∀ ds, d ≠ .list ds) → Bor K H01 H1 v d → Rp K H01 v d := fun {d} n b => by
      rcases b with h | ⟨_, ds, _, h, _⟩
      · exact h
      · exact (n ds h).elim
    try dsimp only at q
    split at q
    · cases simple (fun _ => by simp) b; exact ⟨false, rfl, k _ H1 H01 q r1 e1⟩
    · cases simple (fun _ => by simp) b; exact ⟨_, rfl, k _ H1 H01 q r1 e1⟩
    · cases simple (fun _ => by simp) b; exact ⟨_, rfl, k _ H1 H01 q r1 e1⟩
    · rename_i ds
      obtain ⟨p, vs, rfl, r, h⟩ := b.lst r1.sub
      refine ⟨!ds.isEmpty, .inl ⟨vs, SqL.of h, ?_⟩, k _ H1 H01 q r1 e1⟩
      have l := r.length
      cases vs <;> cases ds <;> first | rfl | (simp at l)
    · rename_i ds
      cases simple (fun _ => by simp) b with
      | @tup a vs _ h r =>
        refine ⟨!ds.isEmpty, .inr (.inl ⟨vs, Same.tup r1.sub h, ?_⟩), k _ H1 H01 q r1 e1⟩
        have l := r.length
        cases vs <;> cases ds <;> first | rfl | (simp at l)
    · exact q.elim
end
section
variable {X : Cx} {ok : List D → Prop} {a b c e : Expr} {es : List Expr} {wa wb wc we : WE} {wr : WA} {wl : WL} {wt wu : WT} {pos p p2 apos : Pos} {x : Str}
theorem o_n : PDO X ok none woN := ⟨_, po_none, so_n⟩
theorem o_s (h : PDE X ok e we) : PDO X ok (some e) (woS we) := let ⟨_, a, b⟩ := h; ⟨_, po_some a, so_s b⟩
theorem l_sl {lo hi : Option Expr} {wlo whi : WO} (ha : PDB X ok a wa) (hl : PDO X ok lo wlo) (hh : PDO X ok hi whi) : PDL X ok (.Subscript a (.Slice lo hi none p2) pos) (wSlL wa wlo whi) := let ⟨_, a1, a2⟩ := ha; let ⟨_, b1, b2⟩ := hl; let ⟨_, c1, c2⟩ := hh; ⟨_, pe_slice sl_list a1 b1 c1, sl_sl a2 b2 c2⟩
theorem d_slT {lo hi : Option Expr} {wlo whi : WO} (ha : PDE X ok a wa) (hl : PDO X ok lo wlo) (hh : PDO X ok hi whi) : PDE X ok (.Subscript a (.Slice lo hi none p2) pos) (wSlT wa wlo whi) := let ⟨_, a1, a2⟩ := ha; let ⟨_, b1, b2⟩ := hl; let ⟨_, c1, c2⟩ := hh; ⟨_, pe_slice sl_tupA a1 b1 c1, se_slT a2 b2 c2⟩
theorem l_cat (ha : PDB X ok a wa) (hb : PDB X ok b wb) : PDL X ok (.BinOp a .Add b pos) (wCat wa wb) := let ⟨_, a1, a2⟩ := ha; let ⟨_, b1, b2⟩ := hb; ⟨_, pe_op op_cat a1 b1, sl_cat a2 b2⟩
theorem l_rep (ha : PDB X ok a wa) (hb : PDE X ok b wb) : PDL X ok (.BinOp a .Mult b pos) (wRep wa wb) := let ⟨_, a1, a2⟩ := ha; let ⟨_, b1, b2⟩ := hb; ⟨_, pe_op op_rep a1 b1, sl_rep a2 b2⟩
theorem d_catT (ha : PDE X ok a wa) (hb : PDE X ok b wb) : PDE X ok (.BinOp a .Add b pos) (wCatT wa wb) := let ⟨_, a1, a2⟩ := ha; let ⟨_, b1, b2⟩ := hb; ⟨_, pe_op op_catA a1 b1, se_catT a2 b2⟩
theorem t_tru (ha : PDB X ok a wa) (he : ∀ whole, isTrue a X.env whole = (do let v ← whole; standAt a.pos; holding [v] (truthy v)) := by intro _; rfl) : PDT X ok a (wTru wa) := let ⟨_, a1, a2⟩ := ha; ⟨_, pt_truth a1 he, st_tru a2⟩
theorem l_listOf (hm : X.mg "list" = none) (ha : PDB X ok a wa) (hg : Gl X "list" := by rfl) (hs : starEach [a] X.env = (false, eval a X.env) :: starEach [] X.env := by rfl) (hpl : (backTo pos (starEach [] X.env)).any (·.1) = false := by rfl) :
    PDL X ok (.Call (.Name "list" p) [a] [] pos) (wListOf wa) := let ⟨_, a1, a2⟩ := ha; ⟨_, pe_callTy call_list_of hg hm (by decide +kernel) (pa_cons a1 pa_nil hs) (by decide) (by decide) hs hpl, sl_listOf a2⟩
theorem d_tupOf (hm : X.mg "tuple" = none) (ha : PDB X ok a wa) (hg : Gl X "tuple" := by rfl) (hs : starEach [a] X.env = (false, eval a X.env) :: starEach [] X.env := by rfl) (hpl : (backTo pos (starEach [] X.env)).any (·.1) = false := by rfl) :
    PDE X ok (.Call (.Name "tuple" p) [a] [] pos) (wTupOf wa) := let ⟨_, a1, a2⟩ := ha; ⟨_, pe_callTy call_tuple_of hg hm (by decide +kernel) (pa_cons a1 pa_nil hs) (by decide) (by decide) hs hpl, se_tupOf a2⟩
theorem d_sum (hc : X.calm = true) (hm : X.mg "sum" = none) (ha : PDB X ok a wa) (hg : Gl X "sum" := by rfl) (hs : starEach [a] X.env = (false, eval a X.env) :: starEach [] X.env := by rfl) (hpl : (backTo pos (starEach [] X.env)).any (·.1) = false := by rfl) :
    PDE X ok (.Call (.Name "sum" p) [a] [] pos) (wSum wa) := let ⟨_, a1, a2⟩ := ha; ⟨_, pe_callB (cr_sum hc) hg hm (by decide +kernel) (pa_cons a1 pa_nil hs) (by decide) (by decide) hs hpl, se_sum a2⟩
theorem d_maxL (hc : X.calm = true) (hm : X.mg "max" = none) (ha : PDB X ok a wa) (hg : Gl X "max" := by rfl) (hs : starEach [a] X.env = (false, eval a X.env) :: starEach [] X.env := by rfl) (hpl : (backTo pos (starEach [] X.env)).any (·.1) = false := by rfl) :
    PDE X ok (.Call (.Name "max" p) [a] [] pos) (wMaxL wa) := let ⟨_, a1, a2⟩ := ha; ⟨_, pe_callB (cr_max hc) hg hm (by decide +kernel) (pa_cons a1 pa_nil hs) (by decide) (by decide) hs hpl, se_maxL a2⟩
theorem d_minL (hc : X.calm = true) (hm : X.mg "min" = none) (ha : PDB X ok a wa) (hg : Gl X "min" := by rfl) (hs : starEach [a] X.env = (false, eval a X.env) :: starEach [] X.env := by rfl) (hpl : (backTo pos (starEach [] X.env)).any (·.1) = false := by rfl) :
    PDE X ok (.Call (.Name "min" p) [a] [] pos) (wMinL wa) := let ⟨_, a1, a2⟩ := ha; ⟨_, pe_callB (cr_min hc) hg hm (by decide +kernel) (pa_cons a1 pa_nil hs) (by decide) (by decide) hs hpl, se_minL a2⟩
theorem d_all (hc : X.calm = true) (hm : X.mg "all" = none) (ha : PDB X ok a wa) (hg : Gl X "all" := by rfl) (hs : starEach [a] X.env = (false, eval a X.env) :: starEach [] X.env := by rfl) (hpl : (backTo pos (starEach [] X.env)).any (·.1) = false := by rfl) :
    PDE X ok (.Call (.Name "all" p) [a] [] pos) (wAll wa) := let ⟨_, a1, a2⟩ := ha; ⟨_, pe_callB (cr_all hc) hg hm (by decide +kernel) (pa_cons a1 pa_nil hs) (by decide) (by decide) hs hpl, se_all a2⟩
theorem d_any (hc : X.calm = true) (hm : X.mg "any" = none) (ha : PDB X ok a wa) (hg : Gl X "any" := by rfl) (hs : starEach [a] X.env = (false, eval a X.env) :: starEach [] X.env := by rfl) (hpl : (backTo pos (starEach [] X.env)).any (·.1) = false := by rfl) :
    PDE X ok (.Call (.Name "any" p) [a] [] pos) (wAny wa) := let ⟨_, a1, a2⟩ := ha; ⟨_, pe_callB (cr_any hc) hg hm (by decide +kernel) (pa_cons a1 pa_nil hs) (by decide) (by decide) hs hpl, se_any a2⟩
theorem l_sortI (hm : X.mg "sorted" = none) (ha : PDB X ok a wa) (hg : Gl X "sorted" := by rfl) (hs : starEach [a] X.env = (false, eval a X.env) :: starEach [] X.env := by rfl) (hpl : (backTo pos (starEach [] X.env)).any (·.1) = false := by rfl) :
    PDL X ok (.Call (.Name "sorted" p) [a] [] pos) (wSortI wa) := let ⟨_, a1, a2⟩ := ha; ⟨_, pe_callB cr_sortedI hg hm (by decide +kernel) (pa_cons a1 pa_nil hs) (by decide) (by decide) hs hpl, sl_sortI a2⟩
theorem d_abs (hm : X.mg "abs" = none) (ha : PDE X ok a wa) (hg : Gl X "abs" := by rfl) (hs : starEach [a] X.env = (false, eval a X.env) :: starEach [] X.env := by rfl) (hpl : (backTo pos (starEach [] X.env)).any (·.1) = false := by rfl) :
    PDE X ok (.Call (.Name "abs" p) [a] [] pos) (wUn fAbs wa) := d_B1 call_abs cd_abs (by decide +kernel) hm ha (by decide) (by decide) hg hs hpl
theorem d_intc (hm : X.mg "int" = none) (ha : PDE X ok a wa) (hg : Gl X "int" := by rfl) (hs : starEach [a] X.env = (false, eval a X.env) :: starEach [] X.env := by rfl) (hpl : (backTo pos (starEach [] X.env)).any (·.1) = false := by rfl) :
    PDE X ok (.Call (.Name "int" p) [a] [] pos) (wUn fInt wa) := d_T1 call_int1 cd_int (by decide +kernel) hm ha (by decide) (by decide) hg hs hpl
theorem d_max2 (hc : X.calm = true) (hm : X.mg "max" = none) (ha : PDE X ok a wa) (hb : PDE X ok b wb) (hg : Gl X "max" := by rfl) (hs : starEach [a, b] X.env = (false, eval a X.env) :: starEach [b] X.env := by rfl) (hs2 : starEach [b] X.env = (false, eval b X.env) :: starEach [] X.env := by rfl)
    (hpl : (backTo pos (starEach [b] X.env)).any (·.1) = false := by rfl) : PDE X ok (.Call (.Name "max" p) [a, b] [] pos) (wBin fMax2 wa wb) := d_B2 (call_max2 hc) cd_max2 (by decide +kernel) hm ha hb (by decide) (by decide) hg hs hs2 hpl
theorem d_min2 (hc : X.calm = true) (hm : X.mg "min" = none) (ha : PDE X ok a wa) (hb : PDE X ok b wb) (hg : Gl X "min" := by rfl) (hs : starEach [a, b] X.env = (false, eval a X.env) :: starEach [b] X.env := by rfl) (hs2 : starEach [b] X.env = (false, eval b X.env) :: starEach [] X.env := by rfl)
    (hpl : (backTo pos (starEach [b] X.env)).any (·.1) = false := by rfl) : PDE X ok (.Call (.Name "min" p) [a, b] [] pos) (wBin fMin2 wa wb) := d_B2 (call_min2 hc) cd_min2 (by decide +kernel) hm ha hb (by decide) (by decide) hg hs hs2 hpl
/-- n.bit_length() -/
def fBits : D → (D → Prop) → Prop := fun d Q => match d with
  | .int i => Q (.int (Builtin.Int.intBits i : Nat))
  | _ => False
theorem snd_bits {K : PySem.W.Frag} {ta : TE} (ha : SndE K ok ta wa) : SndE K ok (tBits ta) (wUn fBits wa) := fun C H0 σ H env Q R rel hw k => ha C H0 σ H env _ _ rel hw fun d v H1 H01 q r1 e1 x1 => by
  unfold fBits at q
  split at q
  · cases x1; exact ⟨_, rfl, k _ _ H1 H01 q r1 e1 (.int _)⟩
  · exact q.elim
theorem d_bits (ha : PDE X ok a wa) (hbase : attributeBase a "bit_length" X.env (eval a X.env) = eval a X.env := by rfl) (hline : (apos.endLine == pos.line) = true := by rfl) : PDE X ok (.Call (.Attribute a "bit_length" apos) [] [] pos) (wUn fBits wa) := let ⟨_, a1, a2⟩ := ha; ⟨_, pe_bits a1 hbase hline, snd_bits a2⟩
end
end DL
/-! DL, part f1: the first family of draws: state = [script, place, rest, mix]. -/
namespace DL
open PySem L2

def okF1 (ds : List D) : Prop := ∃ (ns : List Int) (place rest mix : Int), ds = [scr ns, .int place, .int rest, .int mix] ∧ 0 ≤ place
/-- _law_draw(state, many): some number from 0 to many - 1 -/
def M_draw : WM := fun as Q => ∃ n : Int, as = [.hnd, .v (.int n)] ∧ 0 < n ∧ n < 2 ^ 200 ∧ ∀ r : Int, 0 ≤ r → r < n → Q (.v (.int r))
theorem div200 {n : Int} (h0 : 0 < n) (h : n < 2 ^ 200) : ∀ i : Int, CDivW i n := fun i => wide_div (b := 200) h0 (by omega) (by decide) (by decide)
def rInt : List V → Hp → VK → Prop := fun xs H Q => (∃ i, xs = [.int i] ∧ Q (.int i) H) ∨ ∃ k, xs = [.bl k] ∧ Q (.int (if k then 1 else 0)) H
def rLen1 (K : PySem.W.Frag) : List V → Hp → VK → Prop := fun xs H Q => ∃ p ys, xs = [.ref p] ∧ (SqL K H p ys ∨ SqT K H p ys) ∧ Q (.int ys.length) H
def rAbs1 : List V → Hp → VK → Prop := fun xs H Q => ∃ i, xs = [.int i] ∧ Q (.int (if i < 0 then -i else i)) H
abbrev tPlus := tOp (rI0 fun i j => .int (i + j))
abbrev tTimes := tOp (rI CMul fun i j => .int (i * j))
abbrev tModu := tOp (rI (fun _ j => 0 < j) fun i j => .int (i % j))
abbrev tDivi := tOp (rI CDivW fun i j => .int (i / j))
abbrev tAt (K : PySem.W.Frag) (i : Int) : TE := tOp (rIx K) (tVar 0) (tC (.int i))
abbrev tIn (t : TE) : TE := tCB rInt (tCons t tNil)
abbrev gAt (i : Int) : TG := gSub (tVar 0) (tC (.int i)) rSetL
abbrev tdEnd (K : PySem.W.Frag) : TS := tSeq (tAsg (tModu (tIn (tAt K 2)) (tVar 1)) (gName 6)) (tSeq (tAsg (tDivi (tIn (tAt K 2)) (tVar 1)) (gAt 2)) (tRet (tVar 6)))
abbrev tdLast (K : PySem.W.Frag) : TS := tAsg (tModu (tIn (tPlus (tTimes (tAt K 3) (tC (.int 31))) (tVar 3))) (tC (.int 1000003))) (gAt 3)
abbrev tdYes (K : PySem.W.Frag) : TS := tSeq (tAsg (tModu (tIn (tPlus (tPlus (tTimes (tVar 3) (tC (.int 48271))) (tTimes (tVar 2) (tC (.int 69621)))) (tAt K 3))) (tC (.int 2147483647))) (gName 4))
  (tSeq (tAsg (tModu (tIn (tPlus (tPlus (tTimes (tVar 4) (tC (.int 16807))) (tVar 3)) (tC (.int 11)))) (tC (.int 2147483629))) (gName 5)) (tAsg (tPlus (tTimes (tVar 4) (tC (.int 2147483629))) (tVar 5)) (gAt 2)))
abbrev tdNo : TS := tAsg (tCB rAbs1 (tCons (tVar 3) tNil)) (gAt 2)
abbrev tdCell (K : PySem.W.Frag) : TS := tSeq (tIfS (tTest (tChain (rI0 fun i j => .bl (decide (i ≤ j))) (rI0 fun i j => .bl (decide (i < j))) (tC (.int 0)) (tVar 3) (tC (.int 1000000000000000000)))) (tdYes K) tdNo) (tdLast K)
abbrev tdBody (K : PySem.W.Frag) : TS := tSeq (tIfS (tTest (tOp (rI0 fun i j => .bl (decide (i ≤ j))) (tAt K 2) (tC (.int 0))))
    (tSeq (tAsg (tAt K 1) (gName 2)) (tSeq (tAsg (tPlus (tVar 2) (tC (.int 1))) (gAt 1)) (tSeq (tAsg (tPlus (tTimes (tVar 2) (tC (.int 7919))) (tC (.int 13))) (gName 3))
      (tSeq (tIfS (tTest (tOp (rI0 fun i j => .bl (decide (i < j))) (tVar 2) (tCB (rLen1 K) (tCons (tAt K 0) tNil)))) (tAsg (tOp (rIx K) (tAt K 0) (tVar 2)) (gName 3)) tNext) (tdCell K))))) tNext) (tdEnd K)
theorem dints_inj : ∀ {ns ms : List Int}, ns.map PyData.int = ms.map PyData.int → ns = ms
  | [], [], _ => rfl
  | [], _ :: _, h => by simp at h
  | _ :: _, [], h => by simp at h
  | a :: ns, b :: ms, h => by
    simp only [List.map_cons, List.cons.injEq, PyData.int.injEq] at h
    rw [h.1, dints_inj h.2]
theorem scr_inv {K : PySem.W.Frag} {H : Hp} {v : V} {ns : List Int} (h : Rp K H v (scr ns)) : ∃ a, v = .ref a ∧ SqL K H a (ns.map V.int) := by
  generalize hd : scr ns = d at h
  cases h with
  | scr h =>
    have e := PyData.dict.inj hd
    simp only [List.cons.injEq, Prod.mk.injEq, PyData.list.injEq, and_true, true_and] at e
    rw [dints_inj e]
    exact ⟨_, rfl, h⟩
  | _ => cases hd
section
variable {P : Program} {w : World} {K : PySem.W.Frag} {mg : Str → Option Value} {base : Heap}
theorem draw_ok {st : Stmt} {f : Addr} {fd : FuncData} {k : Nat} (F : Fun K "_law_draw" "_law_draw" st f fd) (S : FnScope ["state", "many", "place", "cell", "one", "two", "taken"] ["state", "many"] (defScope st))
    (hder : ∀ (cdv : Value) (A : Around) (outer : List Env) (s : Shared) (H : Hp) (E : XK), PSs (cxOf CX0 P w K mg base ["state", "many", "place", "cell", "one", "two", "taken"] "_law_draw" (defScope st) f cdv A outer s H E).nox (defBody st) (tdBody K)) :
    FnOk P w K mg base CX0 (k + 1) f fd ["state", "many"] (SpD K okF1 2 M_draw) := by
  refine F.ok S (fun vs H Q E h => ?_) (fun cdv A outer s H vs Q E hr h => ⟨_, hder cdv A outer s H E, ?_⟩)
  · obtain ⟨H0, ha, as, Q', h1, h2, _⟩ := h
    rw [h2]
    rfl
  obtain ⟨H0, ha, as, Q', h1, h2, one, s0, hargs, hv, ⟨n, rfl, n0, n1, hq⟩, k0⟩ := h
  obtain ⟨a, rfl, rfl⟩ : ∃ a, ha = some a ∧ vs = [.ref a, .int n] := by
    cases hargs with
    | hnd e t =>
      cases t with
      | cons r t =>
        cases t
        cases r
        exact ⟨_, e, rfl⟩
  obtain ⟨ds, ⟨na, vs0, hp0, hr0⟩, ns, place, rest, mix, rfl, hpl⟩ := hv a rfl
  obtain ⟨v0, ws, rfl, x0, hr1⟩ := hr0.cons_inv
  obtain ⟨v1, ws, rfl, x1, hr2⟩ := hr1.cons_inv
  obtain ⟨v2, ws, rfl, x2, hr3⟩ := hr2.cons_inv
  obtain ⟨v3, ws, rfl, x3, hr4⟩ := hr3.cons_inv
  rw [hr4.nil_inv] at hp0
  cases x1; cases x2; cases x3
  obtain ⟨sc, rfl, hsc⟩ : ∃ sc, v0 = .ref sc ∧ SqL K H0 sc (ns.map V.int) := scr_inv x0
  let D0 : Ends := { nx := fun _ H' => Q .non H', rt := Q }
  have fin : ∀ (H1 : Hp) (i1 i2 i3 : Int) (y2 y3 y4 y5 : Option V), (∀ b o, H b = some o → b ≠ a → H1 b = some o) → H1 a = some (.lst [.ref sc, .int i1, .int i2, .int i3]) → 0 ≤ i1 →
      tdEnd K D0 [some (.ref a), some (.int n), y2, y3, y4, y5, none] H1 := by
    intro H1 i1 i2 i3 y2 y3 y4 y5 fr1 hp1 hi1
    refine ⟨_, rfl, .inl ⟨a, _, 2, .int i2, rfl, rfl, SqL.of hp1, rfl, .inl ⟨i2, rfl, _, rfl, i2, n, rfl, rfl, n0, ?_⟩⟩⟩
    refine ⟨_, rfl, .inl ⟨a, _, 2, .int i2, rfl, rfl, SqL.of hp1, rfl, .inl ⟨i2, rfl, _, rfl, i2, n, rfl, rfl, div200 n0 n1 i2, ?_⟩⟩⟩
    refine ⟨_, rfl, a, _, 2, 2, rfl, rfl, hp1, rfl, ?_⟩
    refine ⟨_, rfl, k0 _ _ (.v (.int (i2 % n))) H0 (hq _ (Int.emod_nonneg _ (by omega)) (Int.emod_lt_of_pos _ n0)) ?_⟩
    refine ⟨Same.refl _, fun b o e => ?_, fun b o e => .inl e, fun b o e ne => ?_, fun b e => ?_, .int _⟩
    · rw [upd_ne (ne_of_none e na)]
      exact fr1 b o (s0 b o e) (ne_of_none e na)
    · have hb : b ≠ a := fun z => ne (by rw [z])
      rw [upd_ne hb]
      exact fr1 b o e hb
    · cases e
      exact ⟨[scr ns, .int i1, .int (i2 / n), .int i3], ⟨na, _, upd_same, .cons (.scr hsc) (.cons (.int _) (.cons (.int _) (.cons (.int _) .nil)))⟩, ns, i1, i2 / n, i3, rfl, hi1⟩
  have scH : ∀ {H1 : Hp}, (∀ b o, H b = some o → b ≠ a → H1 b = some o) → SqL K H1 sc (ns.map V.int) := fun {H1} fr1 => by
    have e1 : Same H0 H1 := fun b o e => fr1 b o (s0 b o e) (ne_of_none e na)
    exact e1.seq hsc
  refine ⟨_, rfl, .inl ⟨a, _, 2, .int rest, rfl, rfl, SqL.of hp0, rfl, _, _, rfl, rfl, _, rfl, ite2 (fun _ => ?_) (fun _ => ?_)⟩⟩
  · refine ⟨_, rfl, .inl ⟨a, _, 1, .int place, rfl, rfl, SqL.of hp0, rfl, ?_⟩⟩
    refine ⟨_, rfl, _, _, rfl, rfl, _, rfl, a, _, 1, 1, rfl, rfl, hp0, rfl, ?_⟩
    refine ⟨_, rfl, _, _, rfl, rfl, .inr ⟨by decide, by decide⟩, _, _, rfl, rfl, ?_⟩
    have hp1 : (upd H a (.lst [.ref sc, .int (place + 1), .int rest, .int mix])) a = some (.lst [.ref sc, .int (place + 1), .int rest, .int mix]) := upd_same
    have fr1 : ∀ b o, H b = some o → b ≠ a → (upd H a (.lst [.ref sc, .int (place + 1), .int rest, .int mix])) b = some o := fun b o e hb => by rw [upd_ne hb]; exact e
    have next : ∀ cell : Int, tdCell K { D0 with nx := tdEnd K D0 } [some (.ref a), some (.int n), some (.int place), some (.int cell), none, none, none] (upd H a (.lst [.ref sc, .int (place + 1), .int rest, .int mix])) := by
      intro cell
      have last : ∀ (H2 : Hp) (z : Int) (y4 y5 : Option V), (∀ b o, H b = some o → b ≠ a → H2 b = some o) → H2 a = some (.lst [.ref sc, .int (place + 1), .int z, .int mix]) →
          tdLast K { D0 with nx := tdEnd K D0 } [some (.ref a), some (.int n), some (.int place), some (.int cell), y4, y5, none] H2 := by
        intro H2 z y4 y5 fr2 hp2
        refine ⟨_, rfl, .inl ⟨a, _, 3, .int mix, rfl, rfl, SqL.of hp2, rfl, _, _, rfl, rfl, .inr ⟨by decide, by decide⟩, _, rfl, _, _, rfl, rfl, .inl ⟨_, rfl, _, _, rfl, rfl, (by show (0 : Int) < 1000003; decide), ?_⟩⟩⟩
        refine ⟨_, rfl, a, _, 3, 3, rfl, rfl, hp2, rfl, ?_⟩
        exact fin _ (place + 1) z _ _ _ _ _ (fun b o e hb => by rw [upd_ne hb]; exact fr2 b o e hb) upd_same (by omega)
      have yes : tdYes K { D0 with nx := tdLast K { D0 with nx := tdEnd K D0 } } [some (.ref a), some (.int n), some (.int place), some (.int cell), none, none, none] (upd H a (.lst [.ref sc, .int (place + 1), .int rest, .int mix])) := by
        refine ⟨_, rfl, _, _, rfl, rfl, .inr ⟨by decide, by decide⟩, _, rfl, _, _, rfl, rfl, .inr ⟨by decide, by decide⟩, _, _, rfl, rfl, _, rfl, .inl ⟨a, _, 3, .int mix, rfl, rfl, SqL.of hp1, rfl, _, _, rfl, rfl, .inl ⟨_, rfl, _, _, rfl, rfl, (by show (0 : Int) < 2147483647; decide), ?_⟩⟩⟩
        refine ⟨_, rfl, _, _, rfl, rfl, .inr ⟨by decide, by decide⟩, _, rfl, _, _, rfl, rfl, _, _, rfl, rfl, .inl ⟨_, rfl, _, _, rfl, rfl, (by show (0 : Int) < 2147483629; decide), ?_⟩⟩
        refine ⟨_, rfl, _, _, rfl, rfl, .inr ⟨by decide, by decide⟩, _, rfl, _, _, rfl, rfl, _, rfl, a, _, 2, 2, rfl, rfl, hp1, rfl, ?_⟩
        exact last _ _ _ _ (fun b o e hb => by rw [upd_ne hb]; exact fr1 b o e hb) upd_same
      have no : tdNo { D0 with nx := tdLast K { D0 with nx := tdEnd K D0 } } [some (.ref a), some (.int n), some (.int place), some (.int cell), none, none, none] (upd H a (.lst [.ref sc, .int (place + 1), .int rest, .int mix])) := by
        refine ⟨_, rfl, _, rfl, _, rfl, a, _, 2, 2, rfl, rfl, hp1, rfl, ?_⟩
        exact last _ _ _ _ (fun b o e hb => by rw [upd_ne hb]; exact fr1 b o e hb) upd_same
      refine ⟨_, rfl, _, _, rfl, rfl, _, rfl, ?_⟩
      exact ite2 (fun _ => ⟨_, _, rfl, rfl, ⟨_, rfl, ite2 (fun _ => yes) (fun _ => no)⟩⟩) (fun _ => ⟨false, rfl, iteF no⟩)
    refine ⟨_, rfl, _, rfl, .inl ⟨a, _, 0, .ref sc, rfl, rfl, SqL.of hp1, rfl, sc, _, rfl, .inl (scH fr1), _, _, rfl, rfl, _, rfl, ite2 (fun h => ?_) (fun _ => next _)⟩⟩
    have hlt : place.toNat < ns.length := by
      have := of_decide_eq_true h
      rw [List.length_map] at this
      omega
    have hat : atI (ns.map V.int) place = some (.int (ns[place.toNat])) := by
      have e : place = ((place.toNat : Nat) : Int) := by omega
      have z := atI_nat (xs := ns.map V.int) (j := place.toNat) (v := .int (ns[place.toNat])) (by rw [List.getElem?_map, List.getElem?_eq_getElem hlt]; rfl)
      rw [← e] at z
      exact z
    exact ⟨_, rfl, .inl ⟨a, _, 0, .ref sc, rfl, rfl, SqL.of hp1, rfl, _, rfl, .inl ⟨sc, _, place, _, rfl, rfl, scH fr1, hat, next _⟩⟩⟩
  · exact fin H place rest mix none none none none (fun _ _ e _ => e) hp0 hpl
end
end DL
/-! DL, part g: what the printer leans on besides. -/
namespace DL
open PySem L2

/-- a name of the module that holds written data -/
structure GlD (K : PySem.W.Frag) (mg : Str → Option Value) (x : Str) (d : D) where
  v : V
  ex : ∃ u, mg x = some u ∧ RelV v u
  rp : ∀ H, Rp K H v d
section
variable {X : Cx} {ok : List D → Prop} {a b c e : Expr} {es : List Expr} {wa wb wc we : WE} {wr : WA} {wl : WL} {wt wu : WT} {pos p p2 apos : Pos} {x : Str}
theorem pe_gl {d : D} (g : GlD X.K X.mg x d) (hg : Gl X x := by rfl) (hdd : (x == ("__debug__" : Str)) = false := by decide) : PE X (.Name x pos) (tC g.v) := let ⟨u, h1, h2⟩ := g.ex; pe_glob hg h1 h2 hdd
theorem snd_gl {K : PySem.W.Frag} {mg : Str → Option Value} {d : D} (g : GlD K mg x d) : SndE K ok (tC g.v) (wC d) := snd_c g.rp
theorem d_gl {d : D} (g : GlD X.K X.mg x d) (hg : Gl X x := by rfl) (hdd : (x == ("__debug__" : Str)) = false := by decide) : PDE X ok (.Name x pos) (wC d) := ⟨_, pe_gl g hg hdd, snd_gl g⟩
theorem pe_has {k j n : Nat} {M : WM} {t : TA} (h : Has X.prog X.w X.K X.mg X.base ok k x n M) (hr : Room j X.A) (hk : k ≤ j) (ha : PA X (e :: es) t) (hg : Gl X x := by rfl) (hdb : (x == ("__debug__" : Str)) = false := by decide)
    (he : starEach (e :: es) X.env = (false, eval e X.env) :: starEach es X.env := by rfl) (hpl : (backTo pos (starEach es X.env)).any (·.1) = false := by rfl) : PE X (.Call (.Name x p) (e :: es) [] pos) (tCall (SpD X.K ok n M) [] E0 t) :=
  let ⟨f, fd, ps, G, hm, kp, bs⟩ := h.ex; pe_call G (hr.mono hk) hg hm kp bs .nil pass0 ha hdb he hpl
theorem g_cons {vs : List Nat} {wg : WG} {wgs : WGs} (h1 : PDG X ok vs e wg) (h2 : PDGs X ok vs es wgs)
    (hg : ∀ (t : TG) (u : TGs), PG X e t → PGs X es u → PGs X (e :: es) (gCons t u) := by exact fun _ _ h1 h2 => pgs_cons h1 h2) : PDGs X ok vs (e :: es) (gsCons wg wgs) := let ⟨_, a, b⟩ := h1; let ⟨_, c, d⟩ := h2; ⟨_, hg _ _ a c, sgs_cons b d⟩
theorem g_tupN {vs : List Nat} {k n : Nat} {wg : WGs} (h : PDGs X ok vs es wg) (hg : ∀ t, PGs X es t → PG X (.Tuple es k pos) (gTup X.K n t) := by exact fun _ h => pg_tup rfl h) : PDG X ok vs (.Tuple es k pos) (gT n wg) := let ⟨_, a, b⟩ := h; ⟨_, hg _ a, sg_tup b⟩
def rMax2 : List V → Hp → VK → Prop := fun xs H Q => ∃ i j, xs = [.int i, .int j] ∧ Q (.int (if j > i then j else i)) H
def rMin2 : List V → Hp → VK → Prop := fun xs H Q => ∃ i j, xs = [.int i, .int j] ∧ Q (.int (if j < i then j else i)) H
def rListOf (K : PySem.W.Frag) : List V → Hp → VK → Prop := fun xs H Q => ∃ p ys, xs = [.ref p] ∧ (SqL K H p ys ∨ SqT K H p ys) ∧ ∀ l, H l = none → Q (.ref l) (upd H l (.lst ys))
/-- a new list at a name, known at once -/
def wSetF (i : Nat) (a : WL) : WS := fun W env => a env fun ds => W.nx (env.set i (some (.v (.list ds))))
theorem ss_setF {K : PySem.W.Frag} {te : TE} {i : Nat} (he : SndL K ok te wl) : SndS K ok (tAsg te (gName i)) (wSetF i wl) := ss_set he.fz
theorem s_setLcF (i : Nat) {py spos : Pos} {y : Str} {tg iter elt : Expr} {ifs : List Expr} {scope : Scope} {own : List (Str × Nat)} {wi : WI} {wg : WG} {wt : WT} {we : WE} (hc : X.calm = true) (hN : X.N.Nodup) (hi : PDI X ok tg iter wi) (ok' : BlkOk X.N X.env.scope scope own)
    (hg : ∃ g, (∀ (s : Shared) (H : Hp) (C : Addr) (cl : List (Str × Addr)) (fp : List Addr), PG (X.blk s H scope (compEnvC scope cl C X.env) fp) tg g) ∧ SndG X.K ok (own.map (·.2)) g wg)
    (ht : ∃ tt, (∀ (s : Shared) (H : Hp) (C : Addr) (cl : List (Str × Addr)) (fp : List Addr), PTs (X.blk s H scope (compEnvC scope cl C X.env) fp) ifs tt) ∧ SndT X.K ok tt wt)
    (he : ∃ te, (∀ (s : Shared) (H : Hp) (C : Addr) (cl : List (Str × Addr)) (fp : List Addr), PE (X.blk s H scope (compEnvC scope cl C X.env) fp) elt te) ∧ SndE X.K ok te we)
    (hsw : swapsWith (.ListComp elt [⟨tg, iter, ifs, 0⟩] scope pos) (some (.Name y py)) spos.line X.env = pure true) (hy : X.N[i]? = some y := by rfl) (hyl : X.env.scope.names.lookup y = some .local := by rfl)
    (hs : ∀ x, foldedSetIterable iter X.env x = pure x := by intro _; rfl) : PDS X ok (.Assign [.Name y py] (.ListComp elt [⟨tg, iter, ifs, 0⟩] scope pos) spos) (wSetF i (wLc wi wg wt we (own.map (·.2)))) :=
  let ⟨_, i1, i2⟩ := hi; let ⟨_, g1, g2⟩ := hg; let ⟨_, t1, t2⟩ := ht; let ⟨_, e1, e2⟩ := he; ⟨_, ps_setLc hc hN hy hyl hsw i1 ok' g1 t1 e1 hs, ss_setF (sl_lc i2 g2 t2 e2)⟩
end
/-- the law's own promise -/
def M_law : WM := fun as Q => ∃ ns : List Int, as = [.v (scr ns)] ∧ ns.length ≤ 63 ∧ Q (.v (.bool true))
theorem law_sp {K : PySem.W.Frag} {ok : List D → Prop} {H : Hp} {a : Addr} {ns : List Int} {E : XK} (h : SqL K H a (ns.map V.int)) (hl : ns.length ≤ 63) : SpD K ok 1 M_law [.ref a] H (fun v _ => v = .bl true) E := by
  refine ⟨H, none, [.v (scr ns)], fun r => r = .v (.bool true), rfl, rfl, rfl, Same.refl _, .cons (.scr h) .nil, fun _ e => (nomatch e), ⟨ns, rfl, hl, rfl⟩, fun v H' r H01 q P => ?_⟩
  subst q
  cases P.res
  rfl
end DL
/-! DL, part f3: draws of the third family (a list of numbers and a place). -/
namespace DL
open PySem L2
def okF3 (ds : List D) : Prop := ∃ k : Int, ds = [.int k] ∧ 0 ≤ k
/-- _law_next(draws, at, many) -/
def M_next : WM := fun as Q => ∃ (ms : List Int) (n : Int), as = [.v (.list (dints ms)), .hnd, .v (.int n)] ∧ 0 < n ∧ ∀ r : Int, 0 ≤ r → r < n → Q (.v (.int r))
abbrev tnBody (K : PySem.W.Frag) : TS := tSeq (tAsg (tOp (rIx K) (tVar 1) (tC (.int 0))) (gName 3)) (tSeq (tAsg (tPlus (tVar 3) (tC (.int 1))) (gSub (tVar 1) (tC (.int 0)) rSetL))
  (tSeq (tIfS (tTest (tOp (rI0 fun i j => .bl (decide (i < j))) (tVar 3) (tCB (rLen1 K) (tCons (tVar 0) tNil)))) (tRet (tModu (tIn (tOp (rIx K) (tVar 0) (tVar 3))) (tVar 2))) tNext) (tRet (tC (.int 0)))))
theorem list_inv {K : PySem.W.Frag} {H : Hp} {v : V} {ns : List Int} (h : Rp K H v (.list (dints ns))) : ∃ a, v = .ref a ∧ SqL K H a (ns.map V.int) := by
  generalize hd : PyData.list (dints ns) = d at h
  cases h with
  | lst h r =>
    cases hd
    rw [r.ints_inv] at h
    exact ⟨_, rfl, SqL.of h⟩
  | _ => cases hd
section
variable {P : Program} {w : World} {K : PySem.W.Frag} {mg : Str → Option Value} {base : Heap}
theorem next_ok {st : Stmt} {f : Addr} {fd : FuncData} {k : Nat} (F : Fun K "_law_next" "_law_next" st f fd) (S : FnScope ["draws", "at", "many", "index"] ["draws", "at", "many"] (defScope st))
    (hder : ∀ (cdv : Value) (A : Around) (outer : List Env) (s : Shared) (H : Hp) (E : XK), PSs (cxOf CX0 P w K mg base ["draws", "at", "many", "index"] "_law_next" (defScope st) f cdv A outer s H E).nox (defBody st) (tnBody K)) :
    FnOk P w K mg base CX0 (k + 1) f fd ["draws", "at", "many"] (SpD K okF3 3 M_next) := by
  refine F.ok S (fun vs H Q E h => ?_) (fun cdv A outer s H vs Q E hr h => ⟨_, hder cdv A outer s H E, ?_⟩)
  · obtain ⟨H0, ha, as, Q', h1, h2, _⟩ := h
    rw [h2]
    rfl
  obtain ⟨H0, ha, as, Q', h1, h2, one, s0, hargs, hv, ⟨ms, n, rfl, n0, hq⟩, k0⟩ := h
  obtain ⟨a, dv, rfl, rfl, rd⟩ : ∃ a dv, ha = some a ∧ vs = [dv, .ref a, .int n] ∧ Rp K H0 dv (.list (dints ms)) := by
    cases hargs with
    | cons rd t =>
      cases t with
      | hnd e t =>
        cases t with
        | cons r t =>
          cases t
          cases r
          exact ⟨_, _, e, rfl, rd⟩
  obtain ⟨da, rfl, hda⟩ := list_inv rd
  obtain ⟨ds, ⟨na, vs0, hp0, hr0⟩, kk, rfl, hk⟩ := hv a rfl
  obtain ⟨v0, ws, rfl, x0, hr1⟩ := hr0.cons_inv
  rw [hr1.nil_inv] at hp0
  cases x0
  let D0 : Ends := { nx := fun _ H' => Q .non H', rt := Q }
  let H1 : Hp := upd H a (.lst [.int (kk + 1)])
  have fin : ∀ r : Int, 0 ≤ r → r < n → Q (.int r) H1 := fun r r0 r1 => by
    refine k0 _ _ (.v (.int r)) H0 (hq r r0 r1) ?_
    refine ⟨Same.refl _, fun b o e => ?_, fun b o e => .inl e, fun b o e ne => ?_, fun b e => ?_, .int _⟩
    · show (upd H a _) b = some o
      rw [upd_ne (ne_of_none e na)]
      exact s0 b o e
    · have hb : b ≠ a := fun z => ne (by rw [z])
      show (upd H a _) b = some o
      rw [upd_ne hb]
      exact e
    · cases e
      exact ⟨[.int (kk + 1)], ⟨na, _, upd_same, .cons (.int _) .nil⟩, kk + 1, rfl, by omega⟩
  have hda1 : SqL K H1 da (ms.map V.int) := Same.seq (fun b o e => by
    show (upd H a _) b = some o
    rw [upd_ne (ne_of_none e na)]
    exact s0 b o e) hda
  refine ⟨_, rfl, .inl ⟨a, _, 0, .int kk, rfl, rfl, SqL.of hp0, rfl, ?_⟩⟩
  refine ⟨_, rfl, _, _, rfl, rfl, _, rfl, a, _, 0, 0, rfl, rfl, hp0, rfl, ?_⟩
  refine ⟨_, rfl, _, rfl, da, _, rfl, .inl hda1, _, _, rfl, rfl, _, rfl, ite2 (fun h => ?_) (fun _ => fin 0 (Int.le_refl 0) n0)⟩
  have hlt : kk.toNat < ms.length := by
    have := of_decide_eq_true h
    rw [List.length_map] at this
    omega
  have hat : atI (ms.map V.int) kk = some (.int (ms[kk.toNat])) := by
    have e : kk = ((kk.toNat : Nat) : Int) := by omega
    have z := atI_nat (xs := ms.map V.int) (j := kk.toNat) (v := .int (ms[kk.toNat])) (by rw [List.getElem?_map, List.getElem?_eq_getElem hlt]; rfl)
    rw [← e] at z
    exact z
  refine ⟨_, rfl, _, rfl, .inl ⟨da, _, kk, _, rfl, rfl, hda1, hat, .inl ⟨_, rfl, _, rfl, _, _, rfl, rfl, n0, ?_⟩⟩⟩
  exact fin _ (Int.emod_nonneg _ (by omega)) (Int.emod_lt_of_pos _ n0)
end
end DL
/-! DL, part f2: draws of the second family (a pool). -/
namespace DL
open PySem L2
def okF2 (ds : List D) : Prop := ∃ (a : Int) (ns : List Int) (c : Int), ds = [.int a, .list (dints ns), .int c] ∧ -1 ≤ c
/-- _law_wide(script, k) -/
def M_wide : WM := fun as Q => ∃ (ns : List Int) (k : Int), as = [.v (.list (dints ns)), .v (.int k)] ∧ 0 ≤ k ∧ ∀ r : Int, Q (.v (.int r))
/-- _law_take(pool, most) -/
def M_take : WM := fun as Q => ∃ n : Int, as = [.hnd, .v (.int n)] ∧ 0 < n ∧ n < 2 ^ 200 ∧ ∀ r : Int, 0 ≤ r → r < n → Q (.v (.int r))
/-- _law_pool(script) -/
def M_pool : WM := fun as Q => ∃ ns : List Int, as = [.v (scr ns)] ∧ Q (.own [.int 0, .list (dints ns), .int (-1)])
abbrev ttEnd (K : PySem.W.Frag) : TS := tSeq (tAsg (tModu (tIn (tAt K 0)) (tVar 1)) (gName 2)) (tSeq (tAsg (tDivi (tAt K 0) (tVar 1)) (gAt 0)) (tRet (tVar 2)))
abbrev ttNew (K : PySem.W.Frag) : TS := tSeq (tAsg (tPlus (tAt K 2) (tC (.int 1))) (gAt 2)) (tAsg (tCall (SpD K okF2 2 M_wide) [] E0 (tCons (tAt K 1) (tCons (tAt K 2) tNil))) (gAt 0))
abbrev ttBody (K : PySem.W.Frag) : TS := tSeq (tIfS (tTest (tOp (rI0 fun i j => .bl (decide (i < j))) (tAt K 0) (tC (.int 1000)))) (ttNew K) tNext) (ttEnd K)
section
variable {P : Program} {w : World} {K : PySem.W.Frag} {mg : Str → Option Value} {base : Heap}
theorem take_ok {st : Stmt} {f : Addr} {fd : FuncData} {k : Nat} (F : Fun K "_law_take" "_law_take" st f fd) (S : FnScope ["pool", "most", "taken"] ["pool", "most"] (defScope st))
    (hder : ∀ (cdv : Value) (A : Around) (outer : List Env) (s : Shared) (H : Hp) (E : XK) (hr : Room k (A.deeper (PyProof.Rows.envOfC "_law_take" (defScope st) s.heap.objs.size f cdv))), PSs (cxOf CX0 P w K mg base ["pool", "most", "taken"] "_law_take" (defScope st) f cdv A outer s H E).nox (defBody st) (ttBody K)) :
    FnOk P w K mg base CX0 (k + 1) f fd ["pool", "most"] (SpD K okF2 2 M_take) := by
  refine F.ok S (fun vs H Q E h => ?_) (fun cdv A outer s H vs Q E hr h => ⟨_, hder cdv A outer s H E hr, ?_⟩)
  · obtain ⟨H0, ha, as, Q', h1, h2, _⟩ := h
    rw [h2]
    rfl
  obtain ⟨H0, ha, as, Q', h1, h2, one, s0, hargs, hv, ⟨n, rfl, n0, n1, hq⟩, k0⟩ := h
  obtain ⟨a, rfl, rfl⟩ : ∃ a, ha = some a ∧ vs = [.ref a, .int n] := by
    cases hargs with
    | hnd e t =>
      cases t with
      | cons r t =>
        cases t
        cases r
        exact ⟨_, e, rfl⟩
  obtain ⟨ds, ⟨na, vs0, hp0, hr0⟩, rest, ns, c, rfl, hc⟩ := hv a rfl
  obtain ⟨v0, ws, rfl, x0, hr1⟩ := hr0.cons_inv
  obtain ⟨v1, ws, rfl, x1, hr2⟩ := hr1.cons_inv
  obtain ⟨v2, ws, rfl, x2, hr3⟩ := hr2.cons_inv
  rw [hr3.nil_inv] at hp0
  cases x0; cases x2
  let D0 : Ends := { nx := fun _ H' => Q .non H', rt := Q }
  -- the end, from any state that has kept the frame
  have fin : ∀ (H1 H01 : Hp) (i0 i2 : Int), Same H0 H01 → Same H01 H1 → (∀ b o, H01 b = some o → H0 b = some o ∨ H b = none) → (∀ b o, H b = some o → b ≠ a → H1 b = some o) → H01 a = none → H1 a = some (.lst [.int i0, v1, .int i2]) → -1 ≤ i2 →
      ttEnd K D0 [some (.ref a), some (.int n), none] H1 := by
    intro H1 H01 i0 i2 g1 g2 g3 fr1 na1 hp1 hi
    refine ⟨_, rfl, .inl ⟨a, _, 0, .int i0, rfl, rfl, SqL.of hp1, rfl, .inl ⟨i0, rfl, _, rfl, i0, n, rfl, rfl, n0, ?_⟩⟩⟩
    refine ⟨_, rfl, .inl ⟨a, _, 0, .int i0, rfl, rfl, SqL.of hp1, rfl, _, rfl, i0, n, rfl, rfl, div200 n0 n1 i0, ?_⟩⟩
    refine ⟨_, rfl, a, _, 0, 0, rfl, rfl, hp1, rfl, ?_⟩
    refine ⟨_, rfl, k0 _ _ (.v (.int (i0 % n))) H01 (hq _ (Int.emod_nonneg _ (by omega)) (Int.emod_lt_of_pos _ n0)) ?_⟩
    refine ⟨g1, fun b o e => ?_, g3, fun b o e ne => ?_, fun b e => ?_, .int _⟩
    · rw [upd_ne (ne_of_none e na1)]
      exact g2 b o e
    · have hb : b ≠ a := fun z => ne (by rw [z])
      rw [upd_ne hb]
      exact fr1 b o e hb
    · cases e
      exact ⟨[.int (i0 / n), .list (dints ns), .int i2], ⟨na1, _, upd_same, .cons (.int _) (.cons (x1.mono g1) (.cons (.int _) .nil))⟩, i0 / n, ns, i2, rfl, hi⟩
  refine ⟨_, rfl, .inl ⟨a, _, 0, .int rest, rfl, rfl, SqL.of hp0, rfl, _, _, rfl, rfl, _, rfl, ite2 (fun _ => ?_) (fun _ => fin H H0 rest c (Same.refl _) s0 (fun b o e => .inl e) (fun _ _ e _ => e) na hp0 hc)⟩⟩
  refine ⟨_, rfl, .inl ⟨a, _, 2, .int c, rfl, rfl, SqL.of hp0, rfl, _, _, rfl, rfl, ?_⟩⟩
  refine ⟨_, rfl, a, _, 2, 2, rfl, rfl, hp0, rfl, ?_⟩
  let H1 : Hp := upd H a (.lst [.int rest, v1, .int (c + 1)])
  have hp1 : H1 a = some (.lst [.int rest, v1, .int (c + 1)]) := upd_same
  have s1 : Same H0 H1 := fun b o e => by
    show (upd H a _) b = some o
    rw [upd_ne (ne_of_none e na)]
    exact s0 b o e
  refine ⟨_, rfl, .inl ⟨a, _, 1, v1, rfl, rfl, SqL.of hp1, rfl, _, rfl, .inl ⟨a, _, 2, .int (c + 1), rfl, rfl, SqL.of hp1, rfl, ?_⟩⟩⟩
  refine ⟨H0, none, [.v (.list (dints ns)), .v (.int (c + 1))], fun r => ∃ i, r = .v (.int i), rfl, rfl, rfl, s1, .cons x1 (.cons (.int _) .nil), fun _ e => (nomatch e), ⟨ns, c + 1, rfl, by omega, fun r => ⟨r, rfl⟩⟩, fun v H' r H01 q P => ?_⟩
  obtain ⟨i, rfl⟩ := q
  cases P.res
  have hpa : H' a = some (.lst [.int rest, v1, .int (c + 1)]) := P.fr a _ hp1 (by simp)
  refine ⟨_, rfl, a, _, 0, 0, rfl, rfl, hpa, rfl, ?_⟩
  have na1 : H01 a = none := by
    cases e : H01 a with
    | none => rfl
    | some o =>
      rcases P.new a o e with h | h
      · rw [na] at h; cases h
      · have z : H1 a = none := h
        rw [hp1] at z; cases z
  have nw : ∀ b, H1 b = none → H b = none := fun b e => by
    have hb : b ≠ a := fun z => by rw [z, hp1] at e; cases e
    have e' : (upd H a (.lst [.int rest, v1, .int (c + 1)])) b = none := e
    rw [upd_ne hb] at e'
    exact e'
  refine fin _ H01 i (c + 1) P.grow (fun b o e => ?_) (fun b o e => ?_) (fun b o e hb => ?_) na1 upd_same (by omega)
  · rw [upd_ne (ne_of_none e na1)]
    exact P.sub b o e
  · rcases P.new b o e with h | h
    · exact .inl h
    · exact .inr (nw b h)
  · rw [upd_ne hb]
    refine P.fr b o ?_ (by simp)
    show (upd H a _) b = some o
    rw [upd_ne hb]
    exact e
end
end DL
/-! DL, part h: walks of any sequence, backwards, by steps; membership; is True. -/
namespace DL
open PySem L2
/-- what a for walks: a list, a tuple, the script -/
def iSeq (K : PySem.W.Frag) (tl : TE) : TI := fun σ H R => tl σ H fun x H1 => (∃ a, x = .ref a ∧ (∃ xs, SqL K H1 a xs) ∧ R (Itl K a) H1) ∨ (∃ a, x = .ref a ∧ (∃ xs, SqT K H1 a xs) ∧ R (Itt K a) H1)
theorem pi_seq {X : Cx} {tg l : Expr} {tl : TE} (hl : PE X l tl) : PI X tg l (iSeq X.K tl) := by
  refine ⟨fun pins s σ H R I h => ?_⟩
  refine thn (hl.run pins s σ H _ I h) fun v s1 ⟨x, H1, I1, r1, q1⟩ => ?_
  rcases q1 with ⟨a, e, ⟨xs, hq⟩, q⟩ | ⟨a, e, ⟨xs, hq⟩, q⟩
  · subst e
    cases r1
    obtain ⟨its, rv, p, hz⟩ := I1.list hq
    refine wpAny_pyIter_list p.isList ?_
    refine ⟨s1.heap.objs.size, [s1.heap.objs.size], _, _, H1, rfl, I1.kept (t' := s1.toks) fun b o e => Heap.get?_push_of_some _ e, turn_list a _, ⟨_, Heap.get?_push_size _ rfl, rfl, rfl⟩, fun b hb => ?_, q⟩
    have e : b = s1.heap.objs.size := by simpa using hb
    subst e
    exact I1.fpOk (Nat.le_refl _) (I1.hok.fresh (Nat.le_refl _))
  · subst e
    cases r1
    obtain ⟨its, rv, p, hz⟩ := I1.tuple hq
    refine wpAny_pyIter_tuple (show s1.heap.IsTuple a its.toArray from p) ?_
    refine ⟨s1.heap.objs.size, [s1.heap.objs.size], _, _, H1, rfl, I1.kept (t' := s1.toks) fun b o e => Heap.get?_push_of_some _ e, turn_tuple a _, ⟨_, Heap.get?_push_size _ rfl, rfl, rfl⟩, fun b hb => ?_, q⟩
    have e : b = s1.heap.objs.size := by simpa using hb
    subst e
    exact I1.fpOk (Nat.le_refl _) (I1.hok.fresh (Nat.le_refl _))
def iS (a : WE) : WI := fun env Q => a env fun d => match d with
  | .list ds => Q ds
  | .tuple ds => Q ds
  | .dict [(.none, .list ds)] => Q ds
  | _ => False
def iRv (a : WE) : WI := fun env Q => a env fun d => match d with
  | .list ds => Q ds.reverse
  | .tuple ds => Q ds.reverse
  | _ => False
section
variable {K : PySem.W.Frag} {ok : List D → Prop} {ta tb te tf tg' : TE} {wa wb we wf wg : WE}
theorem si_seq (he : SndE K ok te we) : SndI K ok (iSeq K te) (iS we) := fun C H0 σ H env Q R rel hw k => he C H0 σ H env _ _ rel hw fun d v H1 H01 q r e x => by
  have onL : ∀ {a : Addr} {xs : List V} {ds : List D}, SqL K H1 a xs → (∀ H2, Same H01 H2 → SqL K H2 a xs) → Rps K H01 xs ds → Q ds → R (Itl K a) H1 := fun {a xs ds} h1 h hr q => by
    refine k _ _ _ H01 q r e ⟨fun i H2 hi s => ?_, fun H2 s => ⟨xs, h H2 s, by rw [hr.length]; exact Nat.le_refl _⟩, fun i H2 x H3 hi s y => ?_⟩
    · have hi' : i < xs.length := by rw [hr.length]; exact hi
      exact ⟨xs, xs[i], h H2 s, List.getElem?_eq_getElem hi'⟩
    · obtain ⟨rfl, y⟩ := y
      obtain ⟨d, hd, x'⟩ := hr.getV (y xs (h _ s))
      exact ⟨d, hd, .inl ⟨rfl, x'⟩⟩
  try dsimp only at q
  split at q
  · generalize hd : PyData.list _ = d at x
    cases x with
    | lst ha hr =>
      cases hd
      exact .inl ⟨_, rfl, ⟨_, SqL.of (r.sub _ _ ha)⟩, onL (SqL.of (r.sub _ _ ha)) (fun H2 s => SqL.of (s _ _ ha)) hr q⟩
    | _ => cases hd
  · generalize hd : PyData.tuple _ = d at x
    cases x with
    | tup ha hr =>
      cases hd
      rename_i a xs
      refine .inr ⟨a, rfl, ⟨xs, Same.tup r.sub ha⟩, k _ _ _ H01 q r e ⟨fun i H2 hi s => ?_, fun H2 s => ⟨xs, Same.tup s ha, by rw [hr.length]; exact Nat.le_refl _⟩, fun i H2 x H3 hi s y => ?_⟩⟩
      · have hi' : i < xs.length := by rw [hr.length]; exact hi
        exact ⟨xs, xs[i], Same.tup s ha, List.getElem?_eq_getElem hi'⟩
      · obtain ⟨rfl, y⟩ := y
        obtain ⟨d, hd, x'⟩ := hr.getV (y xs (Same.tup s ha))
        exact ⟨d, hd, .inl ⟨rfl, x'⟩⟩
    | _ => cases hd
  · generalize hd : PyData.dict _ = d at x
    cases x with
    | scr h =>
      cases hd
      exact .inl ⟨_, rfl, ⟨_, r.sub.seq h⟩, onL (r.sub.seq h) (fun H2 s => s.seq h) (Rps.of_ints _) q⟩
    | _ => cases hd
  · exact q.elim
theorem rev_get {α : Type} {xs : List α} {i : Nat} (h : i < xs.length) : xs[xs.length - 1 - i]? = xs.reverse[i]? := (List.getElem?_reverse h).symm
theorem si_rev (he : SndE K ok te we) : SndI K ok (RT.iRevA K te) (iRv we) := fun C H0 σ H env Q R rel hw k => he C H0 σ H env _ _ rel hw fun d v H1 H01 q r e x => by
  try dsimp only at q
  split at q
  · cases x with
    | lst ha hr =>
      rename_i a xs
      refine ⟨a, xs, rfl, .inl ⟨SqL.of (r.sub _ _ ha), k _ _ _ H01 q r e ⟨fun i H2 hi s => ?_, fun H2 s => (by show xs.length ≤ _; rw [hr.length, List.length_reverse]; exact Nat.le_refl _), fun i H2 x H3 hi s y => ?_⟩⟩⟩
      · rw [List.length_reverse] at hi
        have hi' : i < xs.length := by rw [hr.length]; exact hi
        exact ⟨hi', xs, xs[xs.length - 1 - i], SqL.of (s _ _ ha), List.getElem?_eq_getElem (by omega)⟩
      · obtain ⟨rfl, y⟩ := y
        rw [List.length_reverse] at hi
        obtain ⟨d, hd, x'⟩ := hr.getV (y xs (SqL.of (s _ _ ha)))
        rw [hr.length, rev_get hi] at hd
        exact ⟨d, hd, .inl ⟨rfl, x'⟩⟩
  · cases x with
    | tup ha hr =>
      rename_i a xs
      refine ⟨a, xs, rfl, .inr ⟨Same.tup r.sub ha, k _ _ _ H01 q r e ⟨fun i H2 hi s => ?_, fun H2 s => (by show xs.length ≤ _; rw [hr.length, List.length_reverse]; exact Nat.le_refl _), fun i H2 x H3 hi s y => ?_⟩⟩⟩
      · rw [List.length_reverse] at hi
        have hi' : i < xs.length := by rw [hr.length]; exact hi
        exact ⟨hi', xs, xs[xs.length - 1 - i], Same.tup s ha, List.getElem?_eq_getElem (by omega)⟩
      · obtain ⟨rfl, y⟩ := y
        rw [List.length_reverse] at hi
        obtain ⟨d, hd, x'⟩ := hr.getV (y xs (Same.tup s ha))
        rw [hr.length, rev_get hi] at hd
        exact ⟨d, hd, .inl ⟨rfl, x'⟩⟩
  · exact q.elim
theorem rngC_get {lo c : Int} {n i : Nat} (h : i < n) : (rngC lo c n)[i]? = some (.int (lo + (i : Nat) * c)) := by
  unfold rngC
  rw [List.getElem?_map, List.getElem?_range h]
  rfl
theorem rngC_len {lo c : Int} {n : Nat} : (rngC lo c n).length = n := by unfold rngC; rw [List.length_map, List.length_range]
theorem si_r3 (he : SndE K ok te we) (hf : SndE K ok tf wf) (hg : SndE K ok tg' wg) : SndI K ok (iRng3 (tCons te (tCons tf (tCons tg' tNil)))) (iR3 we wf wg) := fun C H0 σ H env Q R rel hw k => he C H0 σ H env _ _ rel hw fun d v H1 H01 q r e x =>
  hf C H01 σ H1 env _ _ r q fun d2 v2 H2 H02 q2 r2 e2 x2 => hg C H02 σ H2 env _ _ r2 q2 fun d3 v3 H3 H03 q3 r3 e3 x3 => by
    try dsimp only at q3
    split at q3
    · cases x; cases x2; cases x3
      obtain ⟨n, hn, q3⟩ := q3
      refine ⟨_, _, _, n, rfl, hn, k _ _ _ H03 q3 r3 ((e.trans e2).trans e3) ⟨fun i H hi s => by rw [rngC_len] at hi; exact hi, fun H s => by rw [rngC_len]; exact Nat.le_refl _, fun i H x H' hi s y => ?_⟩⟩
      obtain ⟨rfl, rfl⟩ := y
      rw [rngC_len] at hi
      exact ⟨_, rngC_get hi, .inl ⟨rfl, .int _⟩⟩
    · exact q3.elim
/-! membership -/
def rInA (K : PySem.W.Frag) : R2 := fun x y H Q => rInD K x y H Q ∨ rIn K false x y H Q
def rNinA (K : PySem.W.Frag) : R2 := fun x y H Q => rNotInD K x y H Q ∨ rIn K true x y H Q
theorem op_inA {X : Cx} (hu : X.A.units + 65 < cLine) : OpR X (compareOp .In) (rInA X.K) := by
  intro pins s σ H x y v u Q I rx ry h
  rcases h with h | h
  · exact op_inD hu pins s σ H x y v u Q I rx ry h
  · exact op_in_seq pins s σ H x y v u Q I rx ry h
theorem op_ninA {X : Cx} (hu : X.A.units + 65 < cLine) : OpR X (compareOp .NotIn) (rNinA X.K) := by
  intro pins s σ H x y v u Q I rx ry h
  rcases h with h | h
  · exact op_notInD hu pins s σ H x y v u Q I rx ry h
  · exact op_notIn_seq pins s σ H x y v u Q I rx ry h
def wIn (a b : WE) : WE := fun env Q => a env fun x => b env fun y => match y with
  | .list ds => SeqAt.shaped x = true ∧ SeqAt.shaped (.list ds) = true ∧ Q (.bool (ds.any fun z => PyData.eqv z x))
  | .tuple ds => ∃ i ns, x = .int i ∧ ds = dints ns ∧ Q (.bool (ns.any fun z => z == i))
  | _ => False
def wNin (a b : WE) : WE := fun env Q => a env fun x => b env fun y => match y with
  | .list ds => SeqAt.shaped x = true ∧ SeqAt.shaped (.list ds) = true ∧ Q (.bool (!ds.any fun z => PyData.eqv z x))
  | .tuple ds => ∃ i ns, x = .int i ∧ ds = dints ns ∧ Q (.bool (!ns.any fun z => z == i))
  | _ => False
theorem Bor.rp {H0 H : Hp} {v : V} {d : D} (s : Same H0 H) (h : Bor K H0 H v d) : Rp K H v d := by
  rcases h with h | ⟨p, ds, rfl, rfl, o⟩
  · exact h.mono s
  · obtain ⟨_, vs, hp, hr⟩ := o
    exact .lst hp (hr.mono s)
theorem any_ints (ns : List Int) (i : Int) : (ns.map V.int).any (fun y => eqV y (.int i)) = ns.any fun z => z == i := by
  induction ns with
  | nil => rfl
  | cons a r ih =>
    rw [List.map_cons, List.any_cons, List.any_cons, ih]
    rfl
theorem flat_ints (ns : List Int) : (ns.map V.int).all flatV = true := by
  rw [List.all_eq_true]
  intro x hx
  obtain ⟨i, _, rfl⟩ := List.mem_map.mp hx
  rfl
theorem snd_in (ha : SndE K ok ta wa) (hb : SndB K ok tb wb) : SndE K ok (tOp (rInA K) ta tb) (wIn wa wb) := fun C H0 σ H env Q R rel hw k =>
  ha C H0 σ H env _ _ rel hw fun d v H1 H01 q r1 e1 x1 => hb C H01 σ H1 env _ _ r1 q fun e u H2 H02 q2 r2 e2 x2 => by
    have b := (x2 H2 H02 r2 (Same.refl _)).rp r2.sub
    have a := (x1.mono e2).mono r2.sub
    try dsimp only at q2
    split at q2
    · obtain ⟨s1, s2, q3⟩ := q2
      exact .inl ⟨_, _, a.sh s1, b.sh s2, s1, s2, k _ _ _ _ q3 r2 (e1.trans e2) (.bl _)⟩
    · obtain ⟨i, ns, rfl, rfl, q3⟩ := q2
      cases a
      generalize hd : PyData.tuple (dints ns) = d at b
      cases b with
      | tup h r =>
        cases hd
        rw [r.ints_inv] at h
        refine .inr ⟨_, _, rfl, .inr h, rfl, flat_ints ns, ?_⟩
        show R (V.bl (if (false : Bool) = true then _ else (ns.map V.int).any fun y => eqV y (.int i))) H2
        rw [if_neg (by decide), any_ints]
        exact k _ _ _ _ q3 r2 (e1.trans e2) (.bl _)
      | _ => cases hd
    · exact q2.elim
theorem snd_nin (ha : SndE K ok ta wa) (hb : SndB K ok tb wb) : SndE K ok (tOp (rNinA K) ta tb) (wNin wa wb) := fun C H0 σ H env Q R rel hw k =>
  ha C H0 σ H env _ _ rel hw fun d v H1 H01 q r1 e1 x1 => hb C H01 σ H1 env _ _ r1 q fun e u H2 H02 q2 r2 e2 x2 => by
    have b := (x2 H2 H02 r2 (Same.refl _)).rp r2.sub
    have a := (x1.mono e2).mono r2.sub
    try dsimp only at q2
    split at q2
    · obtain ⟨s1, s2, q3⟩ := q2
      exact .inl ⟨_, _, a.sh s1, b.sh s2, s1, s2, k _ _ _ _ q3 r2 (e1.trans e2) (.bl _)⟩
    · obtain ⟨i, ns, rfl, rfl, q3⟩ := q2
      cases a
      generalize hd : PyData.tuple (dints ns) = d at b
      cases b with
      | tup h r =>
        cases hd
        rw [r.ints_inv] at h
        refine .inr ⟨_, _, rfl, .inr h, rfl, flat_ints ns, ?_⟩
        show R (V.bl (if (true : Bool) = true then !((ns.map V.int).any fun y => eqV y (.int i)) else _)) H2
        rw [if_pos rfl, any_ints]
        exact k _ _ _ _ q3 r2 (e1.trans e2) (.bl _)
      | _ => cases hd
    · exact q2.elim
/-! is True -/
def fIsB : D → D → (D → Prop) → Prop := fun d e Q => match d, e with
  | .bool a, .bool b => Q (.bool (decide (a = b)))
  | _, _ => False
def fIsNotB : D → D → (D → Prop) → Prop := fun d e Q => match d, e with
  | .bool a, .bool b => Q (.bool (!decide (a = b)))
  | _, _ => False
theorem opd_isB : OpD K rIsB fIsB := fun H0 H x y d e Q R s hx hy h k => by
  unfold fIsB at h
  split at h
  · cases hx; cases hy
    exact ⟨_, _, rfl, rfl, k _ _ h (.bl _)⟩
  · exact h.elim
theorem opd_isnotB : OpD K rNotB fIsNotB := fun H0 H x y d e Q R s hx hy h k => by
  unfold fIsNotB at h
  split at h
  · cases hx; cases hy
    exact ⟨_, _, rfl, rfl, k _ _ h (.bl _)⟩
  · exact h.elim
end
section
variable {X : Cx} {ok : List D → Prop} {a b c e : Expr} {es : List Expr} {wa wb wc we : WE} {wr : WA} {wl : WL} {wt wu : WT} {pos p p2 apos : Pos} {x : Str}
theorem i_seq {tg : Expr} (h : PDE X ok e we) : PDI X ok tg e (iS we) := let ⟨_, a, b⟩ := h; ⟨_, pi_seq a, si_seq b⟩
theorem i_rev {tg : Expr} (hm : X.mg "reversed" = none) (h : PDE X ok e we) (hg : Gl X "reversed" := by rfl) (hs : starEach [e] X.env = (false, eval e X.env) :: starEach [] X.env := by rfl) : PDI X ok tg (.Call (.Name "reversed" p) [e] [] pos) (iRv we) := let ⟨_, a, b⟩ := h; ⟨_, RT.pi_revA hg hm a hs, si_rev b⟩
theorem i_r3 {tg : Expr} (hm : X.mg "range" = none) (h : PDE X ok a wa) (h2 : PDE X ok b wb) (h3 : PDE X ok c wc) (hg : Gl X "range" := by rfl)
    (hs : starEach [a, b, c] X.env = (false, eval a X.env) :: starEach [b, c] X.env := by rfl) (hs2 : starEach [b, c] X.env = (false, eval b X.env) :: starEach [c] X.env := by rfl) (hs3 : starEach [c] X.env = (false, eval c X.env) :: starEach [] X.env := by rfl) (hpl : (backTo pos (starEach [b, c] X.env)).any (·.1) = false := by rfl) :
    PDI X ok tg (.Call (.Name "range" p) [a, b, c] [] pos) (iR3 wa wb wc) := let ⟨_, a1, a2⟩ := h; let ⟨_, b1, b2⟩ := h2; let ⟨_, c1, c2⟩ := h3; ⟨_, pi_range3 hg hm (pa_cons a1 (pa_cons b1 (pa_cons c1 pa_nil hs3) hs2) hs) hs hpl, si_r3 a2 b2 c2⟩
theorem units65 {k : Nat} {A : Around} (h : Room k A) : A.units + 65 < cLine := by have := h.un; omega
theorem d_in {k : Nat} (hr : Room k X.A) (ha : PDE X ok a wa) (hb : PDB X ok b wb) (hm : lastMarks [.In] [b] = false := by with_unfolding_all rfl) : PDE X ok (.Compare a [.In] [b] pos) (wIn wa wb) := let ⟨_, a1, a2⟩ := ha; let ⟨_, b1, b2⟩ := hb; ⟨_, pe_cmpR (op_inA (units65 hr)) a1 b1 hm, snd_in a2 b2⟩
theorem d_nin {k : Nat} (hr : Room k X.A) (ha : PDE X ok a wa) (hb : PDB X ok b wb) (hm : lastMarks [.NotIn] [b] = false := by with_unfolding_all rfl) : PDE X ok (.Compare a [.NotIn] [b] pos) (wNin wa wb) := let ⟨_, a1, a2⟩ := ha; let ⟨_, b1, b2⟩ := hb; ⟨_, pe_cmpR (op_ninA (units65 hr)) a1 b1 hm, snd_nin a2 b2⟩
theorem t_in {k : Nat} (hr : Room k X.A) (ha : PDE X ok a wa) (hb : PDB X ok b wb) (hm : lastMarks [.In] [b] = false := by with_unfolding_all rfl) : PDT X ok (.Compare a [.In] [b] pos) (wTest (wIn wa wb)) := let ⟨_, a1, a2⟩ := ha; let ⟨_, b1, b2⟩ := hb; ⟨_, pt_cmpR (op_inA (units65 hr)) a1 b1 hm, snd_test (snd_in a2 b2)⟩
theorem t_nin {k : Nat} (hr : Room k X.A) (ha : PDE X ok a wa) (hb : PDB X ok b wb) (hm : lastMarks [.NotIn] [b] = false := by with_unfolding_all rfl) : PDT X ok (.Compare a [.NotIn] [b] pos) (wTest (wNin wa wb)) := let ⟨_, a1, a2⟩ := ha; let ⟨_, b1, b2⟩ := hb; ⟨_, pt_cmpR (op_ninA (units65 hr)) a1 b1 hm, snd_test (snd_nin a2 b2)⟩
theorem d_isB (ha : PDE X ok a wa) (hb : PDE X ok b wb) : PDE X ok (.Compare a [.Is] [b] pos) (wBin fIsB wa wb) := let ⟨_, a1, a2⟩ := ha; let ⟨_, b1, b2⟩ := hb; ⟨_, pe_cmpR op_isBl a1 b1 (nomark _), snd_bin opd_isB a2 b2⟩
theorem d_isnotB (ha : PDE X ok a wa) (hb : PDE X ok b wb) : PDE X ok (.Compare a [.IsNot] [b] pos) (wBin fIsNotB wa wb) := let ⟨_, a1, a2⟩ := ha; let ⟨_, b1, b2⟩ := hb; ⟨_, pe_cmpR op_notBl a1 b1 (nomark _), snd_bin opd_isnotB a2 b2⟩
theorem t_isB (ha : PDE X ok a wa) (hb : PDE X ok b wb) : PDT X ok (.Compare a [.Is] [b] pos) (wTest (wBin fIsB wa wb)) := let ⟨_, a1, a2⟩ := ha; let ⟨_, b1, b2⟩ := hb; ⟨_, pt_cmpR op_isBl a1 b1 (nomark _), snd_test (snd_bin opd_isB a2 b2)⟩
theorem t_isnotB (ha : PDE X ok a wa) (hb : PDE X ok b wb) : PDT X ok (.Compare a [.IsNot] [b] pos) (wTest (wBin fIsNotB wa wb)) := let ⟨_, a1, a2⟩ := ha; let ⟨_, b1, b2⟩ := hb; ⟨_, pt_cmpR op_notBl a1 b1 (nomark _), snd_test (snd_bin opd_isnotB a2 b2)⟩
end
end DL
/-! DL, part i: a tuple times a number, of any sign. -/
namespace DL
open PySem L2
section
open PySem.Spec PyProof.Rows
/-- t * 1 is t -/
theorem tupTimes_one (a : Addr) (its : Array Value) (m : Nat) (e : Option Addr) (sl : Array (Option Value)) (u : Tok) (k0 : (decide ((1 : Int) < -(2 ^ 63)) || decide ((1 : Int) ≥ 2 ^ 63)) = false) (k1 : (its.isEmpty || (1 : Int) == 1) = true) :
    Meets (Builtin.«tuple.__mul__» ⟨[.ref a, .int 1 u], []⟩) (fun _ R s => s.heap.get? a = some { cls := .type "tuple", dict := e, data := .seq its m, slots := sl } ∧ R (.ok (.ret (Value.ref a))) s) :=
  .of_wp fun _ _ _ _ s h => by
    obtain ⟨h1, h2, h3, h4, h5⟩ := s
    obtain ⟨look, done⟩ := h
    have ix := AutoSeq1.idx_int
    wp_walk using wpAny_loadPart' look
    repeat (first
      | (refine wpAny_ite_false (decide_eq_false (fun z => by rw [k0] at z; cases z)) ?_; wp_walk using wpAny_loadPart' look)
      | (refine wpAny_ite_true (decide_eq_true k1) ?_; wp_walk using wpAny_loadPart' look)
      | (refine wpAny_ite_true (by rfl) ?_; wp_walk using wpAny_loadPart' look))
    exact ⟨_, rfl, done⟩
/-- t * n, n at most 0: a new empty one -/
theorem tupTimes_none (a : Addr) (its : Array Value) (m : Nat) (e : Option Addr) (sl : Array (Option Value)) (x : Int) (u : Tok) (k0 : (decide (x < -(2 ^ 63)) || decide (x ≥ 2 ^ 63)) = false) (k1 : (its.isEmpty || x == 1) = false) (k2 : (decide (x ≤ 0) || its.isEmpty) = true) :
    Meets (Builtin.«tuple.__mul__» ⟨[.ref a, .int x u], []⟩) (fun _ R s => s.heap.get? a = some { cls := .type "tuple", dict := e, data := .seq its m, slots := sl } ∧
      R (.ok (.ret (Value.ref s.heap.objs.size))) { s with heap := s.heap.push { cls := Value.type "tuple", data := Data.seq #[] }, toks := s.toks }) :=
  .of_wp fun _ _ _ _ s h => by
    obtain ⟨h1, h2, h3, h4, h5⟩ := s
    obtain ⟨look, done⟩ := h
    have ix := AutoSeq1.idx_int
    wp_walk using wpAny_loadPart' look
    repeat (first
      | (refine wpAny_ite_false (decide_eq_false (fun z => by rw [k0] at z; cases z)) ?_; wp_walk using wpAny_loadPart' look)
      | (refine wpAny_ite_false (decide_eq_false (fun z => by rw [k1] at z; cases z)) ?_; wp_walk using wpAny_loadPart' look)
      | (refine wpAny_ite_true (decide_eq_true k2) ?_; wp_walk using wpAny_loadPart' look))
    exact ⟨_, rfl, done⟩
/-- t * k -/
def rRepA (K : PySem.W.Frag) : R2 := fun x y H Q => ∃ l k xs, x = .ref l ∧ y = .int k ∧ SqT K H l xs ∧ xs ≠ [] ∧ -1000 ≤ k ∧ k ≤ 1000 ∧ xs.length ≤ 1000 ∧
  (k ≤ 0 → ∀ p, H p = none → Q (.ref p) (upd H p (.tup []))) ∧ (k = 1 → Q (.ref l) H) ∧ (2 ≤ k → ∀ p, H p = none → Q (.ref p) (upd H p (.tup (List.replicate k.toNat xs).flatten)))
theorem op_repA {X : Cx} : OpR X (binaryOp .Mult) (rRepA X.K) := by
  intro pins s σ H x y v u Q I rx ry ⟨a, k, xs, e1, e2, isT, full, lo, hi, short, q0, q1, q2⟩
  subst e1
  subst e2
  by_cases h2 : 2 ≤ k
  · exact op_repT pins s σ H _ _ v u Q I rx ry ⟨a, k, xs, rfl, rfl, isT, full, h2, hi, short, q2 h2⟩
  cases rx
  obtain ⟨tk, rfl⟩ := ry
  obtain ⟨its, vr, isAt, _⟩ := I.tuple isT
  obtain ⟨⟨oc, od, odat, osl⟩, look, hcls, m, hdat⟩ := isAt
  simp only at hcls hdat
  subst hcls
  subst hdat
  have some_ : its.toArray.isEmpty = false := by
    have hlen := vr.length
    cases its with
    | nil => exact absurd (List.eq_nil_of_length_eq_zero hlen) full
    | cons b bs => rfl
  have k0 : (decide (k < -(2 ^ 63)) || decide (k ≥ 2 ^ 63)) = false := by
    have n1 : ¬ k < -(2 ^ 63) := by omega
    have n2 : ¬ k ≥ 2 ^ 63 := by omega
    rw [decide_eq_false n1, decide_eq_false n2]
    rfl
  refine wpAny_binaryOp_repeat_ref (T := "tuple") (U := "int") (by decide) ⟨_, look, rfl⟩ (fun _ => typeIs_int _ k tk) noFill_tuple_mul F.fills_int_mul F.slot_int_rmul repeat_tuple F.slot_int_index.lookup ?_
  refine call_meets F.slot_int_rmul (typeIs_int s k tk) F.entry_int_rmul (F.args_int_rmul_2 _ _) (int_rmul_tuple k tk a its.toArray m od osl) ⟨look, rfl, ⟨_, look, rfl⟩, ?_⟩
  by_cases h1 : k = 1
  · subst h1
    refine call_meets F.slot_tuple_mul ⟨_, look, rfl⟩ F.entry_tuple_mul (F.args_tuple_mul_2 _ _) (tupTimes_one a its.toArray m od osl tk k0 (by rw [some_]; rfl)) ⟨look, ?_⟩
    exact ⟨.ref a, H, I, rfl, q1 rfl⟩
  · refine call_meets F.slot_tuple_mul ⟨_, look, rfl⟩ F.entry_tuple_mul (F.args_tuple_mul_2 _ _) (tupTimes_none a its.toArray m od osl k tk k0 (by rw [some_, Bool.false_or]; exact beq_eq_false_iff_ne.mpr h1) (by rw [decide_eq_true (show k ≤ 0 by omega)]; rfl)) ⟨look, ?_⟩
    refine ⟨.ref s.heap.objs.size, _, I.laid (t' := s.toks) (o := .tup []) (fun _ _ z => Heap.get?_push_of_some _ z) (Nat.le_refl _) ?_, rfl, q0 (by omega) _ (I.hok.fresh (Nat.le_refl _))⟩
    exact ⟨Nat.zero_le _, [], .nil, IsTup.new _ _⟩
end
/-- what a tuple times a number asks -/
def wRepT (a b : WE) : WE := fun env Q => a env fun x => b env fun y => match x, y with
  | .tuple ds, .int k => ds ≠ [] ∧ (-1000 ≤ k ∧ k ≤ 1000) ∧ ds.length ≤ 1000 ∧ Q (.tuple (List.replicate k.toNat ds).flatten)
  | _, _ => False
theorem Rps.reps {K : PySem.W.Frag} {H : Hp} {vs : List V} {ds : List D} (r : Rps K H vs ds) : ∀ n : Nat, Rps K H (List.replicate n vs).flatten (List.replicate n ds).flatten
  | 0 => .nil
  | n + 1 => by
    rw [List.replicate_succ, List.flatten_cons, List.replicate_succ, List.flatten_cons]
    exact r.append (Rps.reps r n)
theorem se_repT {K : PySem.W.Frag} {ok : List D → Prop} {ta tb : TE} {wa wb : WE} (ha : SndE K ok ta wa) (hb : SndE K ok tb wb) : SndE K ok (tOp (rRepA K) ta tb) (wRepT wa wb) := fun C H0 σ H env Q R rel hw k =>
  ha C H0 σ H env _ _ rel hw fun d v H1 H01 q r1 e1 x1 => hb C H01 σ H1 env _ _ r1 q fun e u H2 H02 q2 r2 e2 x2 => by
    try dsimp only at q2
    split at q2
    · rename_i ds j
      obtain ⟨n0, ⟨lo, hi⟩, sh, q3⟩ := q2
      cases x2
      generalize hd : PyData.tuple ds = dd at x1
      cases x1 with
      | tup h r =>
        cases hd
        have h2 := Same.tup e2 h
        have rr := r.mono e2
        have l := r.length
        refine ⟨_, _, _, rfl, rfl, Same.tup r2.sub h2, fun z => n0 (List.eq_nil_of_length_eq_zero (by rw [← l, z]; rfl)), lo, hi, by rw [l]; exact sh, fun z p np => ?_, fun z => ?_, fun z p np => ?_⟩
        · obtain ⟨r4, e4⟩ := r2.laid (o := .tup []) np
          refine k _ _ _ _ q3 r4 ((e1.trans e2).trans e4) (.tup (SqT.of upd_same) ?_)
          rw [show j.toNat = 0 by omega]
          exact .nil
        · subst z
          refine k _ _ _ _ q3 r2 (e1.trans e2) (.tup h2 ?_)
          have := rr.reps 1
          rw [show (List.replicate 1 _).flatten = _ ++ [] from rfl, List.append_nil] at this
          exact this
        · obtain ⟨r4, e4⟩ := r2.laid (o := .tup (_ : List V)) np
          exact k _ _ _ _ q3 r4 ((e1.trans e2).trans e4) (.tup (SqT.of upd_same) ((rr.reps j.toNat).mono e4))
      | _ => cases hd
    · exact q2.elim
theorem d_repT {X : Cx} {ok : List D → Prop} {a b : Expr} {wa wb : WE} {pos : Pos} (ha : PDE X ok a wa) (hb : PDE X ok b wb) : PDE X ok (.BinOp a .Mult b pos) (wRepT wa wb) := let ⟨_, a1, a2⟩ := ha; let ⟨_, b1, b2⟩ := hb; ⟨_, pe_op op_repA a1 b1, se_repT a2 b2⟩
end DL
/-! DL, part j: isinstance of built-in kinds; a list unpacked. -/
namespace DL
open PySem L2
def tyN : D → String
  | .none => "NoneType"
  | .bool _ => "bool"
  | .int _ => "int"
  | .str _ => "str"
  | .list _ => "list"
  | .tuple _ => "tuple"
  | .dict _ => "list"
def fIsI (T : String) : D → (D → Prop) → Prop := fun d Q => ∃ b, kitB (tyN d) T = some b ∧ Q (.bool b)
theorem Rp.ty {K : PySem.W.Frag} {H : Hp} {v : V} {d : D} (h : Rp K H v d) (nd : ∀ kv, d ≠ .dict kv) : TyX K H v (.type (tyN d)) := by
  cases h with
  | non => exact .base .non
  | bl b => exact .base (.bl b)
  | int i => exact .base (.int i)
  | str x => exact .base (.str x)
  | lst h _ => exact .base (.lst h)
  | tup h _ =>
    rcases h with (h | ⟨o, h⟩) | ⟨o, its, n, h, hc, _⟩
    · exact .base (.tup h)
    · exact .fTuple h
    · exact .kTuple h hc
  | scr h => exact absurd rfl (nd _)
def wIsI (T : String) (a : WE) : WE := fun env Q => a env fun d => match d with
  | .dict _ => False
  | d => fIsI T d Q
section
variable {K : PySem.W.Frag} {ok : List D → Prop} {ta te : TE} {wa we : WE}
theorem snd_isi {T : String} (ha : SndE K ok ta wa) : SndE K ok (tCB (rIsi K) (tCons ta (tCons (tC (.ty T)) tNil))) (wIsI T wa) := fun C H0 σ H env Q R rel hw k =>
  ha C H0 σ H env _ _ rel hw fun d v H1 H01 q r1 e1 x1 => by
    try dsimp only at q
    split at q
    · exact q.elim
    · rename_i nd
      obtain ⟨b, hb, q⟩ := q
      exact ⟨v, .ty T, _, _, b, rfl, .ty T, (x1.mono r1.sub).ty (fun kv z => nd kv z), kit_ty hb, k _ _ _ _ q r1 e1 (.bl b)⟩
theorem sg_unl {vs : List Nat} {n : Nat} {gs : TGs} {wgs : WGs} (h : SndGs K ok vs gs wgs) : SndG K ok vs (gUnl K n gs) (fun d env Q => match d with | .list ds => ds.length = n ∧ wgs ds env Q | _ => False) := fun C H0 σ H env x d Q R rel hx q k => by
  try dsimp only at q
  split at q
  · cases hx with
    | lst ha hr => exact ⟨_, _, rfl, SqL.of (rel.sub _ _ ha), by rw [hr.length]; exact q.1, h C H0 σ H env _ _ _ _ rel hr q.2 k⟩
  · exact q.elim
end
/-- a, b, .. = a list -/
def gL (n : Nat) (r : WGs) : WG := fun d env Q => match d with
  | .list ds => ds.length = n ∧ r ds env Q
  | _ => False
section
variable {X : Cx} {ok : List D → Prop} {a b c e : Expr} {es : List Expr} {wa wb wc we : WE} {pos p p2 apos : Pos} {x : Str}
theorem g_lstN {vs : List Nat} {k n : Nat} {wg : WGs} (hc : X.calm = true) (h : PDGs X ok vs es wg) (hg : ∀ t, PGs X es t → PG X (.Tuple es k pos) (gUnl X.K n t) := by exact fun _ h => pg_unl rfl h) : PDG X ok vs (.Tuple es k pos) (gL n wg) := let ⟨_, a, b⟩ := h; ⟨_, hg _ a, sg_unl b⟩
theorem d_isi {T : String} (hm : X.mg "isinstance" = none) (hmT : X.mg (Str.ofString T) = none) (hv : bootBuiltins (Str.ofString T) = some (.type T)) (ha : PDE X ok a wa) (hg : Gl X "isinstance" := by rfl) (hgT : Gl X (Str.ofString T) := by rfl)
    (hn : (Str.ofString T) ≠ "__name__" := by decide) (hdT : ((Str.ofString T) == ("__debug__" : Str)) = false := by decide)
    (hs : starEach [a, .Name (Str.ofString T) p2] X.env = (false, eval a X.env) :: starEach [.Name (Str.ofString T) p2] X.env := by rfl) (hs2 : starEach [.Name (Str.ofString T) p2] X.env = (false, eval (.Name (Str.ofString T) p2) X.env) :: starEach [] X.env := by rfl)
    (hpl : (backTo pos (starEach [.Name (Str.ofString T) p2] X.env)).any (·.1) = false := by rfl) :
    PDE X ok (.Call (.Name "isinstance" p) [a, .Name (Str.ofString T) p2] [] pos) (wIsI T wa) := let ⟨_, a1, a2⟩ := ha; ⟨_, pe_callB call_isi hg hm (by decide +kernel) (pa_cons a1 (pa_cons (pe_bltn (v := .ty T) hgT hmT hv rfl hn hdT) pa_nil hs2) hs) (by decide) (by decide) hs hpl, snd_isi a2⟩
end
end DL
/-! DL, part k: a comparison of four terms. -/
namespace DL
open PySem PySem.Spec PyProof.Rows L2
section
variable {X : Cx} {ok : List D → Prop} {a b c e : Expr} {wa wb wc we : WE} {pos : Pos}
def tChain4 (r r' r2 : R2) (ta tb tc td : TE) : TE := fun σ H Q => ta σ H fun x H1 => tb σ H1 fun y H2 => r x y H2 fun z H3 => ∃ k, z = .bl k ∧
  (if k = true then tc σ H3 fun u H4 => r' y u H4 fun z' H5 => ∃ k', z' = .bl k' ∧ (if k' = true then td σ H5 fun v H6 => r2 u v H6 Q else Q (.bl false) H5) else Q (.bl false) H3)
theorem pe_chain4 {o1 o2 o3 : CmpOp} {r r' r2 : R2} {ta tb tc td : TE} (h1 : OpR X (compareOp o1) r) (h2 : OpR X (compareOp o2) r') (h3 : OpR X (compareOp o3) r2) (ha : PE X a ta) (hb : PE X b tb) (hc : PE X c tc) (he : PE X e td)
    (hm : lastMarks [o1, o2, o3] [b, c, e] = false := by with_unfolding_all rfl) : PE X (.Compare a [o1, o2, o3] [b, c, e] pos) (tChain4 r r' r2 ta tb tc td) := by
  refine ⟨fun pins s σ H Q I h => ?_⟩
  refine Compare_chain (thn (ha.run pins s σ H _ I h) fun va s1 ⟨x, H1, I1, rx, q1⟩ => chain_link (thn (hb.run pins s1 σ H1 _ I1 q1) fun vb s2 ⟨y, H2, I2, ry, q2⟩ =>
    thn (h1 pins s2 σ H2 x y va vb _ I2 rx ry q2) fun _ s3 ⟨z, H3, I3, rz, k, ez, q3⟩ => ?_)) hm
  subst ez
  cases rz
  refine wpAny_truthy_bool ?_
  cases k with
  | false => exact ite_ff ⟨.bl false, H3, I3, rfl, q3⟩
  | true =>
    refine ite_tt (chain_link (thn (hc.run pins s3 σ H3 _ I3 q3) fun vc s4 ⟨w, H4, I4, rw_, q4⟩ => thn (h2 pins s4 σ H4 y w vb vc _ I4 ry rw_ q4) fun _ s5 ⟨z2, H5, I5, rz2, k2, ez2, q5⟩ => ?_))
    subst ez2
    cases rz2
    refine wpAny_truthy_bool ?_
    cases k2 with
    | false => exact ite_ff ⟨.bl false, H5, I5, rfl, q5⟩
    | true => exact ite_tt (chain_last (thn (he.run pins s5 σ H5 _ I5 q5) fun vd s6 ⟨v, H6, I6, rv, q6⟩ => h3 pins s6 σ H6 w v vc vd Q I6 rw_ rv q6))
/-- both later answers told -/
def wChn4 (f f' f2 : D → D → (D → Prop) → Prop) (a b c e : WE) : WE := fun env Q => a env fun x => b env fun y => f x y fun z => match z with
  | .bool k => ∃ d : Bool, (k = true → c env fun w => f' y w fun z' => match z' with
      | .bool k' => ∃ d' : Bool, (k' = true → e env fun v => f2 w v fun z2 => z2 = .bool d') ∧ (k' && d') = d
      | _ => False) ∧ Q (.bool (k && d))
  | _ => False
theorem snd_chn4 {K : PySem.W.Frag} {ok : List D → Prop} {r r' r2 : R2} {f f' f2 : D → D → (D → Prop) → Prop} {ta tb tc td : TE} {wa wb wc we : WE} (hr : OpD K r f) (hr' : OpD K r' f') (hr2 : OpD K r2 f2) (ha : SndE K ok ta wa) (hb : SndE K ok tb wb) (hc : SndE K ok tc wc) (he : SndE K ok td we) : SndE K ok (tChain4 r r' r2 ta tb tc td) (wChn4 f f' f2 wa wb wc we) := fun C H0 σ H env Q R rel hw k =>
  ha C H0 σ H env _ _ rel hw fun d v H1 H01 q r1 e1 x1 => hb C H01 σ H1 env _ _ r1 q fun e u H2 H02 q2 rl2 e2 x2 =>
    hr H02 H2 v u d e _ _ rl2.sub (x1.mono e2) x2 q2 fun z w qz rz => by
      try dsimp only at qz
      split at qz
      · rename_i k1
        cases rz
        obtain ⟨d1, q3, q4⟩ := qz
        refine ⟨k1, rfl, ?_⟩
        cases k1 with
        | false => exact iteF (k _ _ _ _ q4 rl2 (e1.trans e2) (.bl _))
        | true =>
          refine iteT (hc C H02 σ H2 env _ _ rl2 (q3 rfl) fun g t H3 H03 q5 rl3 e3 x3 => hr' H03 H3 u t e g _ _ rl3.sub (x2.mono e3) x3 q5 fun z2 w2 qz2 rz2 => ?_)
          try dsimp only at qz2
          split at qz2
          · rename_i k2
            cases rz2
            obtain ⟨d2, q6, q7⟩ := qz2
            refine ⟨k2, rfl, ?_⟩
            cases k2 with
            | false =>
              refine iteF (k _ _ _ _ ?_ rl3 ((e1.trans e2).trans e3) (.bl _))
              rw [← q7] at q4
              exact q4
            | true =>
              refine iteT (he C H03 σ H3 env _ _ rl3 (q6 rfl) fun g2 t2 H4 H04 q8 rl4 e4 x4 => hr2 H04 H4 t t2 g g2 _ _ rl4.sub (x3.mono e4) x4 q8 fun z3 w3 qz3 rz3 => ?_)
              subst qz3
              cases rz3
              refine k _ _ _ _ ?_ rl4 (((e1.trans e2).trans e3).trans e4) (.bl _)
              rw [← q7] at q4
              exact q4
          · exact qz2.elim
      · exact qz.elim
theorem d_chn4 {o1 o2 o3 : CmpOp} {r r' r2 : R2} {f f' f2 : D → D → (D → Prop) → Prop} (h1 : OpR X (compareOp o1) r) (f1 : OpD X.K r f) (h2 : OpR X (compareOp o2) r') (g2 : OpD X.K r' f') (h3 : OpR X (compareOp o3) r2) (g3 : OpD X.K r2 f2) (ha : PDE X ok a wa) (hb : PDE X ok b wb) (hc : PDE X ok c wc) (he : PDE X ok e we)
    (hm : lastMarks [o1, o2, o3] [b, c, e] = false := by with_unfolding_all rfl) : PDE X ok (.Compare a [o1, o2, o3] [b, c, e] pos) (wChn4 f f' f2 wa wb wc we) :=
  let ⟨_, a1, a2⟩ := ha; let ⟨_, b1, b2⟩ := hb; let ⟨_, c1, c2⟩ := hc; let ⟨_, e1, e2⟩ := he; ⟨_, pe_chain4 h1 h2 h3 a1 b1 c1 e1 hm, snd_chn4 f1 g2 g3 a2 b2 c2 e2⟩
end
end DL
/-! DL, part l: a dict of one's own, keyed by ints and texts. -/
namespace DL
open PySem PySem.Spec PyProof.Rows L2
def dKey : D → Option Key
  | .int i => some (.inl i)
  | .str s => some (.inr s)
  | _ => none
/-- what a dict holds at a key -/
def dAt : List (Key × D) → Key → Option D
  | [], _ => none
  | p :: r, k => if p.1 = k then some p.2 else dAt r k
def dRep : List (Key × D) → Key → D → List (Key × D)
  | [], _, _ => []
  | p :: r, k, d => (if p.1 = k then (p.1, d) else p) :: dRep r k d
def dSet (kvs : List (Key × D)) (k : Key) (d : D) : List (Key × D) := if (dAt kvs k).isSome = true then dRep kvs k d else kvs ++ [(k, d)]
theorem dAt_snoc (k j : Key) (d : D) : ∀ kvs : List (Key × D), dAt kvs k = none → dAt (kvs ++ [(k, d)]) j = if j = k then some d else dAt kvs j
  | [], _ => by
    show (if k = j then some d else none) = _
    by_cases h : k = j
    · rw [if_pos h, if_pos h.symm]
    · rw [if_neg h, if_neg fun z => h z.symm]; rfl
  | p :: r, hn => by
    have hp : ¬ p.1 = k := fun z => by
      have : dAt (p :: r) k = some p.2 := if_pos z
      rw [this] at hn; cases hn
    have hr : dAt r k = none := by
      have : dAt (p :: r) k = dAt r k := if_neg hp
      rw [← this]; exact hn
    show (if p.1 = j then some p.2 else dAt (r ++ [(k, d)]) j) = if j = k then some d else (if p.1 = j then some p.2 else dAt r j)
    rw [dAt_snoc k j d r hr]
    by_cases h : p.1 = j
    · rw [if_pos h, if_pos h, if_neg fun z => hp (h.trans z)]
    · rw [if_neg h, if_neg h]
theorem dAt_rep (k j : Key) (d : D) : ∀ kvs : List (Key × D), dAt (dRep kvs k d) j = if j = k then (dAt kvs k).map (fun _ => d) else dAt kvs j
  | [] => by
    show none = _
    by_cases h : j = k
    · rw [if_pos h]; rfl
    · rw [if_neg h]; rfl
  | p :: r => by
    have ih := dAt_rep k j d r
    show (if (if p.1 = k then (p.1, d) else p).1 = j then some (if p.1 = k then (p.1, d) else p).2 else dAt (dRep r k d) j) = if j = k then (if p.1 = k then some p.2 else dAt r k).map (fun _ => d) else (if p.1 = j then some p.2 else dAt r j)
    by_cases hk : p.1 = k
    · rw [if_pos hk, if_pos hk]
      show (if p.1 = j then some d else dAt (dRep r k d) j) = _
      by_cases hj : j = k
      · rw [if_pos (hk.trans hj.symm), if_pos hj]; rfl
      · rw [if_neg fun z => hj (z.symm.trans hk), if_neg hj, if_neg fun z => hj (z.symm.trans hk), ih, if_neg hj]
    · rw [if_neg hk, if_neg hk]
      by_cases hj : j = k
      · rw [if_pos hj, if_neg fun z => hk (z.trans hj), ih, if_pos hj]
      · rw [if_neg hj, ih, if_neg hj]
theorem dAt_set (kvs : List (Key × D)) (k j : Key) (d : D) : dAt (dSet kvs k d) j = if j = k then some d else dAt kvs j := by
  unfold dSet
  cases h : dAt kvs k with
  | none => rw [if_neg (show ¬ (none : Option D).isSome = true by decide)]; exact dAt_snoc k j d kvs h
  | some x =>
    rw [if_pos (show (some x).isSome = true from rfl), dAt_rep, h]
    rfl
theorem dRep_len (k : Key) (d : D) : ∀ kvs : List (Key × D), (dRep kvs k d).length = kvs.length
  | [] => rfl
  | p :: r => by
    show (dRep r k d).length + 1 = r.length + 1
    rw [dRep_len k d r]
theorem dSet_len (kvs : List (Key × D)) (k : Key) (d : D) : (dSet kvs k d).length ≤ kvs.length + 1 := by
  unfold dSet
  split
  · rw [dRep_len]; omega
  · rw [List.length_append]; exact Nat.le_refl _
/-! ### what is asked -/
def wSetD (i : Nat) : WS := fun W env => W.nx (env.set i (some (.dct [])))
def wDGet1 (i : Nat) (k : WE) : WE := fun env Q => match get env i with
  | some (.dct kvs) => k env fun y => ∃ z v, dKey y = some z ∧ (dAt kvs z).getD .none = v ∧ Q v
  | _ => False
def wDGet2 (i : Nat) (k a : WE) : WE := fun env Q => match get env i with
  | some (.dct kvs) => k env fun y => a env fun d => ∃ z v, dKey y = some z ∧ (dAt kvs z).getD d = v ∧ Q v
  | _ => False
def wDIx (i : Nat) (k : WE) : WE := fun env Q => match get env i with
  | some (.dct kvs) => k env fun y => ∃ z d, dKey y = some z ∧ dAt kvs z = some d ∧ Q d
  | _ => False
def wDIn (i : Nat) (k : WE) : WE := fun env Q => match get env i with
  | some (.dct kvs) => k env fun y => ∃ z b, dKey y = some z ∧ (dAt kvs z).isSome = b ∧ Q (.bool b)
  | _ => False
def wDNin (i : Nat) (k : WE) : WE := fun env Q => match get env i with
  | some (.dct kvs) => k env fun y => ∃ z b, dKey y = some z ∧ (dAt kvs z).isSome = b ∧ Q (.bool (!b))
  | _ => False
def wDPut (i : Nat) (k a : WE) : WS := fun W env => match get env i with
  | some (.dct kvs) => a env fun d => k env fun y => ∃ z, dKey y = some z ∧ kvs.length < 1000000 ∧ W.nx (env.set i (some (.dct (dSet kvs z d))))
  | _ => False
/-! ### soundness -/
section
variable {K : PySem.W.Frag} {ok : List D → Prop} {C : Ctx} {H0 H : Hp}
theorem dKey_V {v : V} {y : D} {z : Key} (h : Rp K H v y) (e : dKey y = some z) : v = kV z := by
  cases y with
  | int i => cases e; cases h; rfl
  | str s => cases e; cases h; rfl
  | none => cases e
  | bool b => cases e
  | list ds => cases e
  | tuple ds => cases e
  | dict ds => cases e
theorem krps_at : ∀ {ks : List (Key × V)} {es : List (Key × D)}, KRps K H ks es → ∀ z : Key, (valV ks z = none ∧ dAt es z = none) ∨ ∃ v d, valV ks z = some v ∧ dAt es z = some d ∧ Rp K H v d
  | [], [], _, z => .inl ⟨rfl, rfl⟩
  | [], _ :: _, h, _ => by have := h.1; simp at this
  | _ :: _, [], h, _ => by have := h.1; simp at this
  | p :: ks, q :: es, h, z => by
    obtain ⟨h1, h2⟩ := h
    rw [List.map_cons, List.map_cons] at h1 h2
    injection h1 with h3 h4
    obtain ⟨v, ws, e, r1, r2⟩ := h2.cons_inv
    injection e with e1 e2
    by_cases hz : q.1 = z
    · refine .inr ⟨p.2, q.2, valV_pos (h3.trans hz), if_pos hz, ?_⟩
      rw [e1]; exact r1
    · have := krps_at (ks := ks) (es := es) ⟨h4, by rw [e2]; exact r2⟩ z
      rw [valV_neg fun y => hz (h3.symm.trans y)]
      show (_ ∧ (if q.1 = z then some q.2 else dAt es z) = none) ∨ ∃ v d, _ ∧ (if q.1 = z then some q.2 else dAt es z) = some d ∧ _
      rw [if_neg hz]
      exact this
theorem krps_rep : ∀ {ks : List (Key × V)} {es : List (Key × D)}, KRps K H ks es → ∀ (z : Key) {v : V} {d : D}, Rp K H v d → KRps K H (ks.map fun kv => if kv.1 = z then (kv.1, v) else kv) (dRep es z d)
  | [], [], _, z, v, d, _ => ⟨rfl, .nil⟩
  | [], _ :: _, h, _, _, _, _ => by have := h.1; simp at this
  | _ :: _, [], h, _, _, _, _ => by have := h.1; simp at this
  | p :: ks, q :: es, h, z, v, d, hr => by
    obtain ⟨h1, h2⟩ := h
    rw [List.map_cons, List.map_cons] at h1 h2
    injection h1 with h3 h4
    obtain ⟨v', ws, e, r1, r2⟩ := h2.cons_inv
    injection e with e1 e2
    have ih := krps_rep (ks := ks) (es := es) ⟨h4, by rw [e2]; exact r2⟩ z hr
    by_cases hz : q.1 = z
    · rw [List.map_cons, if_pos (h3.trans hz)]
      show KRps K H ((p.1, v) :: _) ((if q.1 = z then (q.1, d) else q) :: _)
      rw [if_pos hz]
      exact ⟨by rw [List.map_cons, List.map_cons, ih.1, h3], .cons hr ih.2⟩
    · rw [List.map_cons, if_neg fun y => hz (h3.symm.trans y)]
      show KRps K H (p :: _) ((if q.1 = z then (q.1, d) else q) :: _)
      rw [if_neg hz]
      exact ⟨by rw [List.map_cons, List.map_cons, ih.1, h3], .cons (by rw [e1]; exact r1) ih.2⟩
theorem krps_set {ks : List (Key × V)} {es : List (Key × D)} (h : KRps K H ks es) (z : Key) {v : V} {d : D} (hr : Rp K H v d) : KRps K H (putK ks z v) (dSet es z d) := by
  unfold putK dSet
  rw [valV_any]
  rcases krps_at h z with ⟨e1, e2⟩ | ⟨w, x, e1, e2, _⟩
  · rw [e1, e2]
    refine ⟨?_, ?_⟩
    · show (ks ++ [(z, v)]).map Prod.fst = (es ++ [(z, d)]).map Prod.fst
      rw [List.map_append, List.map_append, h.1]; rfl
    · show Rps K H ((ks ++ [(z, v)]).map Prod.snd) ((es ++ [(z, d)]).map Prod.snd)
      rw [List.map_append, List.map_append]
      exact h.2.append (.one hr)
  · rw [e1, e2]
    exact krps_rep h z hr
theorem krps_len {ks : List (Key × V)} {es : List (Key × D)} (h : KRps K H ks es) : ks.length = es.length := by
  have := congrArg List.length h.1
  rwa [List.length_map, List.length_map] at this
variable {tk ta : TE} {wk wa : WE} {i : Nat}
theorem ss_setD : SndS K ok (tAsg tDNewK (gName i)) (wSetD i) := fun C H0 σ H env E W rel hw h => by
  show ∀ p, H p = none → _
  intro p hp
  exact h.nx _ _ _ H0 (Same.refl _) ((rel.laid0 hp).setO (s := .dct []) ⟨p, [], rfl, rel.fresh hp, rel.sub.free hp, upd_same, rfl, .nil⟩ rfl (rel.kp.free hp) fun j t _ ht ot => rel.noslot hp j t ht ot) hw
theorem snd_dget1 (hk : SndE K ok tk wk) : SndE K ok (tDGet1 (tVar i) tk) (wDGet1 i wk) := fun C H0 σ H env Q R rel hw k => by
  unfold wDGet1 at hw
  split at hw
  · rename_i kvs hd
    obtain ⟨p, ks, e, n, n0, hp, kr⟩ := rel.slot i _ (get_eq hd)
    refine ⟨.ref p, e, p, rfl, .inl ⟨ks, .inl hp⟩, hk C H0 σ H env _ _ rel hw fun y v H1 H01 q r1 e1 x1 => ?_⟩
    obtain ⟨p', ks1, e', n, n0, hp1, kr1⟩ := r1.slot i _ (get_eq hd)
    rw [e] at e'
    cases e'
    obtain ⟨z, w0, hz, hw0, q⟩ := q
    subst hw0
    have ev := dKey_V x1 hz
    subst ev
    refine ⟨_, DGet.k hp1, ?_⟩
    rcases krps_at kr1 z with ⟨a1, a2⟩ | ⟨w, d, a1, a2, r⟩
    · rw [a1]
      rw [a2] at q
      exact k _ _ H1 H01 q r1 e1 .non
    · rw [a1]
      rw [a2] at q
      exact k _ _ H1 H01 q r1 e1 r
  · exact hw.elim
theorem snd_dget2 (hk : SndE K ok tk wk) (ha : SndE K ok ta wa) : SndE K ok (tDGet2 (tVar i) tk ta) (wDGet2 i wk wa) := fun C H0 σ H env Q R rel hw k => by
  unfold wDGet2 at hw
  split at hw
  · rename_i kvs hd
    obtain ⟨p, ks, e, n, n0, hp, kr⟩ := rel.slot i _ (get_eq hd)
    refine ⟨.ref p, e, p, rfl, .inl ⟨ks, .inl hp⟩, hk C H0 σ H env _ _ rel hw fun y v H1 H01 q r1 e1 x1 => ha C H01 σ H1 env _ _ r1 q fun d u H2 H02 q r2 e2 x2 => ?_⟩
    obtain ⟨p', ks1, e', n, n0, hp1, kr1⟩ := r2.slot i _ (get_eq hd)
    rw [e] at e'
    cases e'
    obtain ⟨z, w0, hz, hw0, q⟩ := q
    subst hw0
    have ev := dKey_V x1 hz
    subst ev
    refine ⟨_, DGet.k hp1, ?_⟩
    rcases krps_at kr1 z with ⟨a1, a2⟩ | ⟨w, d', a1, a2, r⟩
    · rw [a1]
      rw [a2] at q
      exact k _ _ H2 H02 q r2 (e1.trans e2) x2
    · rw [a1]
      rw [a2] at q
      exact k _ _ H2 H02 q r2 (e1.trans e2) r
  · exact hw.elim
theorem snd_dix (hk : SndE K ok tk wk) : SndE K ok (tDGet (tVar i) tk) (wDIx i wk) := fun C H0 σ H env Q R rel hw k => by
  unfold wDIx at hw
  split at hw
  · rename_i kvs hd
    obtain ⟨p, ks, e, n, n0, hp, kr⟩ := rel.slot i _ (get_eq hd)
    refine ⟨.ref p, e, hk C H0 σ H env _ _ rel hw fun y v H1 H01 q r1 e1 x1 => ?_⟩
    obtain ⟨p', ks1, e', n, n0, hp1, kr1⟩ := r1.slot i _ (get_eq hd)
    rw [e] at e'
    cases e'
    obtain ⟨z, d, hz, hd', q⟩ := q
    have ev := dKey_V x1 hz
    subst ev
    rcases krps_at kr1 z with ⟨a1, a2⟩ | ⟨w, d', a1, a2, r⟩
    · rw [hd'] at a2; cases a2
    · rw [hd'] at a2
      cases a2
      exact ⟨p, w, rfl, by rw [← a1]; exact DGet.k hp1, k _ _ H1 H01 q r1 e1 r⟩
  · exact hw.elim
theorem snd_din (hk : SndE K ok tk wk) : SndE K ok (tDIn tk (tVar i)) (wDIn i wk) := fun C H0 σ H env Q R rel hw k => by
  unfold wDIn at hw
  split at hw
  · rename_i kvs hd
    refine hk C H0 σ H env _ _ rel hw fun y v H1 H01 q r1 e1 x1 => ?_
    obtain ⟨p, ks1, e, n, n0, hp1, kr1⟩ := r1.slot i _ (get_eq hd)
    obtain ⟨z, w0, hz, hw0, q⟩ := q
    subst hw0
    have ev := dKey_V x1 hz
    subst ev
    refine ⟨.ref p, e, p, _, rfl, DGet.k hp1, ?_⟩
    have : (valV ks1 z).isSome = (dAt kvs z).isSome := by
      rcases krps_at kr1 z with ⟨a1, a2⟩ | ⟨w, d', a1, a2, r⟩ <;> rw [a1, a2] <;> rfl
    rw [this]
    exact k _ _ H1 H01 q r1 e1 (.bl _)
  · exact hw.elim
theorem snd_dnin (hk : SndE K ok tk wk) : SndE K ok (tDNotIn tk (tVar i)) (wDNin i wk) := fun C H0 σ H env Q R rel hw k => by
  unfold wDNin at hw
  split at hw
  · rename_i kvs hd
    refine hk C H0 σ H env _ _ rel hw fun y v H1 H01 q r1 e1 x1 => ?_
    obtain ⟨p, ks1, e, n, n0, hp1, kr1⟩ := r1.slot i _ (get_eq hd)
    obtain ⟨z, w0, hz, hw0, q⟩ := q
    subst hw0
    have ev := dKey_V x1 hz
    subst ev
    refine ⟨.ref p, e, p, _, rfl, DGet.k hp1, ?_⟩
    have : (valV ks1 z).isSome = (dAt kvs z).isSome := by
      rcases krps_at kr1 z with ⟨a1, a2⟩ | ⟨w, d', a1, a2, r⟩ <;> rw [a1, a2] <;> rfl
    rw [this]
    exact k _ _ H1 H01 q r1 e1 (.bl _)
  · exact hw.elim
theorem ss_dput (ha : SndE K ok ta wa) (hk : SndE K ok tk wk) : SndS K ok (sDPut (tVar i) tk ta) (wDPut i wk wa) := fun C H0 σ H env E W rel hw h => by
  unfold wDPut at hw
  split at hw
  · rename_i kvs hd
    refine ha C H0 σ H env _ _ rel hw fun d v H1 H01 q r1 e1 x1 => ?_
    obtain ⟨p, ks, e, n, n0, hp, kr⟩ := r1.slot i _ (get_eq hd)
    refine ⟨.ref p, e, hk C H01 σ H1 env _ _ r1 q fun y u H2 H02 q r2 e2 x2 => ?_⟩
    obtain ⟨p', ks1, e', n, n0, hp1, kr1⟩ := r2.slot i _ (get_eq hd)
    rw [e] at e'
    cases e'
    obtain ⟨z, hz, hl, q⟩ := q
    have ev := dKey_V x2 hz
    subst ev
    refine ⟨p, _, rfl, DPut.k hp1 (by rw [krps_len kr1]; exact lt_size hl), ?_⟩
    exact h.nx _ _ _ H02 (e1.trans e2) (r2.put (s := .dct kvs) (t := .dct (dSet kvs z d)) (get_eq hd) rfl e (fun y => by obtain ⟨⟨o, w⟩, _⟩ := r2.hv p y; rw [n] at w; cases w) rfl ⟨p, _, rfl, n, n0, upd_same, krps_set kr1 z (x1.mono e2)⟩) q
  · exact hw.elim
end
section
variable {X : Cx} {ok : List D → Prop} {a b e : Expr} {wa wb we : WE} {pos : Pos} {x : Str}
theorem s_setD (i : Nat) {pos' dpos : Pos} (hN : X.N.Nodup) (hi : X.N[i]? = some x := by rfl) (hx : Loc X.env.scope x := by first | exact Or.inl rfl | exact Or.inr rfl) (hs : swapsWith (.Dict [] [] dpos) (some (.Name x pos')) pos.line X.env = pure false := by rfl) (hf : X.fn x = true ∨ X.env.scope.names.lookup x = some .local := by first | exact .inl rfl | exact .inr rfl) :
    PDS X ok (.Assign [.Name x pos'] (.Dict [] [] dpos) pos) (wSetD i) := ⟨_, ps_set hN hi hx pe_dnewK hs hf, ss_setD⟩
theorem d_dget1 {k : Nat} (i : Nat) {apos mp : Pos} (hr : Room k X.A) (ha : PDE X ok a wa) (hN : X.N[i]? = some x := by rfl) (hv : Vis X.env.scope x := by first | exact Or.inl rfl | exact Or.inr (Or.inl rfl) | exact Or.inr (Or.inr rfl)) (hd : (x == ("__debug__" : Str)) = false := by decide) (hcd : (x == ("__classdict__" : Str)) = false := by decide)
    (m1 : attributeBase (.Name x mp) "get" X.env (eval (.Name x mp) X.env) = eval (.Name x mp) X.env := by rfl)
    (m2 : ((backTo pos (starEach [a] X.env)).all (fun x => !x.1) && (backToKw pos (keywordEach [] X.env)).all (fun x => x.1.isSome) && decide (([a] : List Expr).length + ([] : List Keyword).length + (if ([] : List Keyword).isEmpty then 0 else 1) < 30)) = true := by rfl)
    (m3 : (apos.endLine == pos.line) = true := by rfl) (m4 : backTo pos (starEach [a] X.env) = [(false, eval a X.env)] := by rfl) :
    PDE X ok (.Call (.Attribute (.Name x mp) "get" apos) [a] [] pos) (wDGet1 i wa) := let ⟨_, a1, a2⟩ := ha; ⟨_, pe_dget1 (by have := units65 hr; omega) (pe_var hN hv hd hcd) a1 ⟨m1, m2, m3, m4⟩, snd_dget1 a2⟩
theorem d_dget2 {k : Nat} (i : Nat) {apos mp : Pos} (hr : Room k X.A) (ha : PDE X ok a wa) (hb : PDE X ok b wb) (hN : X.N[i]? = some x := by rfl) (hv : Vis X.env.scope x := by first | exact Or.inl rfl | exact Or.inr (Or.inl rfl) | exact Or.inr (Or.inr rfl)) (hd : (x == ("__debug__" : Str)) = false := by decide) (hcd : (x == ("__classdict__" : Str)) = false := by decide)
    (m1 : attributeBase (.Name x mp) "get" X.env (eval (.Name x mp) X.env) = eval (.Name x mp) X.env := by rfl)
    (m2 : ((backTo pos (starEach [a, b] X.env)).all (fun x => !x.1) && (backToKw pos (keywordEach [] X.env)).all (fun x => x.1.isSome) && decide (([a, b] : List Expr).length + ([] : List Keyword).length + (if ([] : List Keyword).isEmpty then 0 else 1) < 30)) = true := by rfl)
    (m3 : (apos.endLine == pos.line) = true := by rfl) (m4 : backTo pos (starEach [a, b] X.env) = [(false, eval a X.env), (false, eval b X.env)] := by rfl) :
    PDE X ok (.Call (.Attribute (.Name x mp) "get" apos) [a, b] [] pos) (wDGet2 i wa wb) := let ⟨_, a1, a2⟩ := ha; let ⟨_, b1, b2⟩ := hb; ⟨_, pe_dget2 (by have := units65 hr; omega) (pe_var hN hv hd hcd) a1 b1 ⟨m1, m2, m3, m4⟩, snd_dget2 a2 b2⟩
theorem d_dix {k : Nat} (i : Nat) {mp : Pos} (hr : Room k X.A) (ha : PDE X ok a wa) (hN : X.N[i]? = some x := by rfl) (hv : Vis X.env.scope x := by first | exact Or.inl rfl | exact Or.inr (Or.inl rfl) | exact Or.inr (Or.inr rfl)) (hd : (x == ("__debug__" : Str)) = false := by decide) (hcd : (x == ("__classdict__" : Str)) = false := by decide)
    (hs : NoSl a := by exact fun _ _ _ => rfl) : PDE X ok (.Subscript (.Name x mp) a pos) (wDIx i wa) := let ⟨_, a1, a2⟩ := ha; ⟨_, pe_dget (by have := units65 hr; omega) (pe_var hN hv hd hcd) a1 hs, snd_dix a2⟩
theorem d_din {k : Nat} (i : Nat) {mp : Pos} (hr : Room k X.A) (ha : PDE X ok a wa) (hN : X.N[i]? = some x := by rfl) (hv : Vis X.env.scope x := by first | exact Or.inl rfl | exact Or.inr (Or.inl rfl) | exact Or.inr (Or.inr rfl)) (hd : (x == ("__debug__" : Str)) = false := by decide) (hcd : (x == ("__classdict__" : Str)) = false := by decide)
    (hm : behindInMarks .In (.Name x mp) = false := by rfl) : PDE X ok (.Compare a [.In] [.Name x mp] pos) (wDIn i wa) := let ⟨_, a1, a2⟩ := ha; ⟨_, pe_cmp (pc_din (by have := units65 hr; omega) a1 (pe_var hN hv hd hcd)) hm, snd_din a2⟩
theorem d_dnin {k : Nat} (i : Nat) {mp : Pos} (hr : Room k X.A) (ha : PDE X ok a wa) (hN : X.N[i]? = some x := by rfl) (hv : Vis X.env.scope x := by first | exact Or.inl rfl | exact Or.inr (Or.inl rfl) | exact Or.inr (Or.inr rfl)) (hd : (x == ("__debug__" : Str)) = false := by decide) (hcd : (x == ("__classdict__" : Str)) = false := by decide)
    (hm : behindInMarks .NotIn (.Name x mp) = false := by rfl) : PDE X ok (.Compare a [.NotIn] [.Name x mp] pos) (wDNin i wa) := let ⟨_, a1, a2⟩ := ha; ⟨_, pe_cmp (pc_dnotin (by have := units65 hr; omega) a1 (pe_var hN hv hd hcd)) hm, snd_dnin a2⟩
theorem t_din {k : Nat} (i : Nat) {mp : Pos} (hr : Room k X.A) (ha : PDE X ok a wa) (hN : X.N[i]? = some x := by rfl) (hv : Vis X.env.scope x := by first | exact Or.inl rfl | exact Or.inr (Or.inl rfl) | exact Or.inr (Or.inr rfl)) (hd : (x == ("__debug__" : Str)) = false := by decide) (hcd : (x == ("__classdict__" : Str)) = false := by decide)
    (hm : behindInMarks .In (.Name x mp) = false := by rfl) : PDT X ok (.Compare a [.In] [.Name x mp] pos) (wTest (wDIn i wa)) := let ⟨_, a1, a2⟩ := ha; ⟨_, pt_cmp (pc_din (by have := units65 hr; omega) a1 (pe_var hN hv hd hcd)) hm, snd_tB (snd_din a2)⟩
theorem t_dnin {k : Nat} (i : Nat) {mp : Pos} (hr : Room k X.A) (ha : PDE X ok a wa) (hN : X.N[i]? = some x := by rfl) (hv : Vis X.env.scope x := by first | exact Or.inl rfl | exact Or.inr (Or.inl rfl) | exact Or.inr (Or.inr rfl)) (hd : (x == ("__debug__" : Str)) = false := by decide) (hcd : (x == ("__classdict__" : Str)) = false := by decide)
    (hm : behindInMarks .NotIn (.Name x mp) = false := by rfl) : PDT X ok (.Compare a [.NotIn] [.Name x mp] pos) (wTest (wDNin i wa)) := let ⟨_, a1, a2⟩ := ha; ⟨_, pt_cmp (pc_dnotin (by have := units65 hr; omega) a1 (pe_var hN hv hd hcd)) hm, snd_tB (snd_dnin a2)⟩
theorem s_dput {k : Nat} (i : Nat) {tp mp : Pos} {ix : Expr} (hr : Room k X.A) (he : PDE X ok e we) (hk : PDE X ok ix wa) (hN : X.N[i]? = some x := by rfl) (hv : Vis X.env.scope x := by first | exact Or.inl rfl | exact Or.inr (Or.inl rfl) | exact Or.inr (Or.inr rfl)) (hd : (x == ("__debug__" : Str)) = false := by decide) (hcd : (x == ("__classdict__" : Str)) = false := by decide)
    (hs : swapsWith e (some (.Subscript (.Name x mp) ix tp)) pos.line X.env = pure false := by rfl) :
    PDS X ok (.Assign [.Subscript (.Name x mp) ix tp] e pos) (wDPut i wa we) := let ⟨_, e1, e2⟩ := he; let ⟨_, k1, k2⟩ := hk; ⟨_, ps_dput (by have := units65 hr; omega) (pe_var hN hv hd hcd) k1 e1 hs, ss_dput e2 k2⟩
end
end DL
/-! DL, part m: a list of one's own, lent to a call that hands back no list. -/
namespace DL
open PySem PySem.Spec PyProof.Rows L2
/-- no list within -/
def noL : Nat → D → Bool
  | _, .none => true
  | _, .bool _ => true
  | _, .int _ => true
  | _, .str _ => true
  | k + 1, .tuple ds => ds.all (noL k)
  | _, _ => false
def delA (H : Hp) (p : Addr) : Hp := fun b => if b = p then none else H b
theorem delA_ne {H : Hp} {p b : Addr} (h : b ≠ p) : delA H p b = H b := if_neg h
theorem delA_self {H : Hp} {p : Addr} : delA H p p = none := if_pos rfl
section
variable {K : PySem.W.Frag} {ok : List D → Prop}
theorem sqT_del {H : Hp} {p a : Addr} {xs ws : List V} (hp : H p = some (.lst ws)) (h : SqT K H a xs) : SqT K (delA H p) a xs := by
  rcases h with (h | ⟨o, h⟩) | h
  · refine .inl (.inl ?_)
    rw [delA_ne fun z => by subst z; rw [hp] at h; cases h]
    exact h
  · refine .inl (.inr ⟨o, ?_⟩)
    rw [delA_ne fun z => by subst z; rw [hp] at h; cases h]
    exact h
  · exact .inr h
theorem rps_del {H : Hp} {p : Addr} {k : Nat} (ih : ∀ v d, Rp K H v d → noL k d = true → Rp K (delA H p) v d) : ∀ {vs : List V} {ds : List D}, Rps K H vs ds → ds.all (noL k) = true → Rps K (delA H p) vs ds
  | _, _, .nil, _ => .nil
  | _, _, .cons h t, e => by
    rw [List.all_cons, Bool.and_eq_true] at e
    exact .cons (ih _ _ h e.1) (rps_del ih t e.2)
theorem rp_del {H : Hp} {p : Addr} {ws : List V} (hp : H p = some (.lst ws)) : ∀ (k : Nat) (v : V) (d : D), Rp K H v d → noL k d = true → Rp K (delA H p) v d
  | k, _, _, .non, _ => .non
  | k, _, _, .bl b, _ => .bl b
  | k, _, _, .int i, _ => .int i
  | k, _, _, .str x, _ => .str x
  | 0, _, _, .lst _ _, e => by cases e
  | 0, _, _, .tup _ _, e => by cases e
  | 0, _, _, .scr _, e => by cases e
  | k + 1, _, _, .lst _ _, e => by cases e
  | k + 1, _, _, .scr _, e => by cases e
  | k + 1, _, _, .tup h r, e => .tup (sqT_del hp h) (rps_del (rp_del hp k) r e)
end
def wLend2 (M : WM) (a : WE) (i : Nat) : WE := fun env Q => match get env i with
  | some (.own ds) => a env fun x => M [.v x, .v (.list ds)] fun r => (∃ k, noL k r.val = true) ∧ Q r.val
  | _ => False
section
variable {K : PySem.W.Frag} {ok : List D → Prop}
theorem snd_lend2 {M : WM} {te : TE} {we : WE} {i : Nat} {E : XK} (he : SndE K ok te we) : SndE K ok (tCall (SpD K ok 2 M) [] E (tCons te (tCons (tVar i) tNil))) (wLend2 M we i) := fun C H0 σ H env Q R rel hw k => by
  unfold wLend2 at hw
  split at hw
  · rename_i ds hd
    refine he C H0 σ H env _ _ rel hw fun x u H1 H01 q r1 e1 x1 => ?_
    obtain ⟨p, e, n, n0, vs, hp, hr⟩ := r1.slot i _ (get_eq hd)
    refine ⟨.ref p, e, ?_⟩
    show SpD K ok 2 M ([u, .ref p] ++ []) H1 R E
    rw [List.append_nil]
    have g0 : Same H01 (upd H01 p (.lst vs)) := same_new n0
    refine ⟨upd H01 p (.lst vs), none, [.v x, .v (.list ds)], _, rfl, rfl, rfl, fun b o hb => ?_, .cons (x1.mono g0) (.cons (.lst upd_same (hr.mono g0)) .nil), fun a z => (by cases z), q, fun v H' r H02 hq P => ?_⟩
    · by_cases h : b = p
      · subst h; rw [upd_same] at hb; rw [hp]; exact hb
      · rw [upd_ne h] at hb; exact r1.sub _ _ hb
    have hp2 : H02 p = some (.lst vs) := P.grow _ _ upd_same
    have e0 : Same H01 (delA H02 p) := fun b o hb => by
      have hbp : b ≠ p := fun z => by subst z; rw [n0] at hb; cases hb
      rw [delA_ne hbp]
      exact P.grow _ _ (g0 _ _ hb)
    have kp : Same H1 H' := fun b o hb => P.fr b o hb (by simp)
    have r2 := r1.step e0 (H1 := H') (fun b o hb => by
      have hbp : b ≠ p := fun z => by subst z; rw [delA_self] at hb; cases hb
      rw [delA_ne hbp] at hb
      exact P.sub _ _ hb) (fun b o hb => by
      have hbp : b ≠ p := fun z => by subst z; rw [delA_self] at hb; cases hb
      rw [delA_ne hbp] at hb
      rcases P.new b o hb with z | z
      · rw [upd_ne hbp] at z; exact .inl z
      · exact .inr z) kp
    obtain ⟨⟨m, hm⟩, hq2⟩ := hq
    have z := P.res
    cases r with
    | v d => exact k _ _ H' _ hq2 r2 (e1.trans e0) (rp_del hp2 m _ _ z hm)
    | own ds' => cases m <;> cases hm
  · exact hw.elim
end
section
variable {X : Cx} {ok : List D → Prop} {a : Expr} {wa : WE} {pos : Pos} {x : Str}
theorem d_lend2 {k j : Nat} {M : WM} {f : Str} {p mp : Pos} (i : Nat) (h : Has X.prog X.w X.K X.mg X.base ok k f 2 M) (hr : Room j X.A) (hk : k ≤ j) (ha : PDE X ok a wa) (hN : X.N[i]? = some x := by rfl) (hv : Vis X.env.scope x := by first | exact Or.inl rfl | exact Or.inr (Or.inl rfl) | exact Or.inr (Or.inr rfl)) (hd : (x == ("__debug__" : Str)) = false := by decide) (hcd : (x == ("__classdict__" : Str)) = false := by decide)
    (hg : Gl X f := by rfl) (hdb : (f == ("__debug__" : Str)) = false := by decide)
    (he : starEach [a, .Name x mp] X.env = (false, eval a X.env) :: starEach [.Name x mp] X.env := by rfl) (hpl : (backTo pos (starEach [.Name x mp] X.env)).any (·.1) = false := by rfl)
    (hs2 : starEach [.Name x mp] X.env = (false, eval (.Name x mp) X.env) :: starEach [] X.env := by rfl) :
    PDE X ok (.Call (.Name f p) [a, .Name x mp] [] pos) (wLend2 M wa i) :=
  let ⟨f, fd, ps, G, hm, kp, bs⟩ := h.ex; let ⟨_, a1, a2⟩ := ha; ⟨_, pe_call G (hr.mono hk) hg hm kp bs .nil pass0 (pa_cons a1 (pa_cons (pe_var hN hv hd hcd) pa_nil hs2) he) hdb he hpl, snd_lend2 a2⟩
end
end DL
/-! DL, part n: a, b, c = x, y, z. -/
namespace DL
open PySem PySem.Spec PyProof.Rows L2
def wPar3 (i j l : Nat) (a : WA) : WS := fun W env => a env fun as => match as with
  | [.v x, .v y, .v z] => W.nx (((env.set i (some (.v x))).set j (some (.v y))).set l (some (.v z)))
  | _ => False
theorem ss_par3 {K : PySem.W.Frag} {ok : List D → Prop} {i j l : Nat} {ta : TA} {wa : WA} (ha : SndA K ok ta wa) : SndS K ok (tPar3 i j l ta) (wPar3 i j l wa) := fun C H0 σ H env E W rel hw h =>
  ha C H0 σ H env _ _ rel hw fun as vs H1 H01 q r e x => by
    try dsimp only at q
    split at q
    · cases x with
      | cons x1 x =>
        cases x with
        | cons x2 x =>
          cases x with
          | cons x3 x =>
            cases x
            refine ⟨_, _, _, rfl, ?_⟩
            exact h.nx _ _ _ H01 e (((r.setV (show Rp K H01 _ _ from x1)).setV (show Rp K H01 _ _ from x2)).setV (show Rp K H01 _ _ from x3)) q
    · exact q.elim
section
variable {X : Cx} {ok : List D → Prop} {a b c : Expr} {wr : WA} {pos : Pos} {x : Str}
theorem s_par3 (i j l : Nat) {y z : Str} {px py pz pt : Pos} {kt k2 pt2} (hc : X.calm = true) (hN : X.N.Nodup) (hij : i ≠ j) (hil : i ≠ l) (hjl : j ≠ l) (ha : PDA X ok [a, b, c] wr) (hi : X.N[i]? = some x := by rfl) (hj : X.N[j]? = some y := by rfl) (hl : X.N[l]? = some z := by rfl)
    (hx : X.env.scope.names.lookup x = some .local := by rfl) (hy : X.env.scope.names.lookup y = some .local := by rfl) (hz : X.env.scope.names.lookup z = some .local := by rfl)
    (hw : swappedStores [.Tuple [.Name x px, .Name y py, .Name z pz] kt pt] (.Tuple [a, b, c] k2 pt2) X.env = pure (some [x, y, z]) := by rfl)
    (hs : swapsWithSole [.Tuple [.Name x px, .Name y py, .Name z pz] kt pt] (.Tuple [a, b, c] k2 pt2) pos.line X.env = pure false := by rfl) :
    PDS X ok (.Assign [.Tuple [.Name x px, .Name y py, .Name z pz] kt pt] (.Tuple [a, b, c] k2 pt2) pos) (wPar3 i j l wr) := let ⟨_, a1, a2⟩ := ha; ⟨_, ps_par3 hc hN hi hj hl hij hil hjl hx hy hz a1 hw hs, ss_par3 a2⟩
end
end DL
/-! DL, part o: str of an int. -/
namespace DL
open PySem PySem.Spec PyProof.Rows L2
def fStr : D → (D → Prop) → Prop := fun d Q => match d with
  | .int i => i.natAbs.log2 < 1920 ∧ Q (.str (toString i))
  | _ => False
theorem cd_str {K : PySem.W.Frag} : CallD1 K (fun xs H Q => ∃ i, xs = [.int i] ∧ i.natAbs.log2 < 1920 ∧ Q (.str (toString i)) H) fStr := fun H0 H x d Q R s hx q k => by
  unfold fStr at q
  split at q
  · cases hx
    exact ⟨_, rfl, q.1, k _ _ q.2 (.str _)⟩
  · exact q.elim
section
variable {X : Cx} {ok : List D → Prop} {a : Expr} {wa : WE} {pos p : Pos}
theorem d_strc (hm : X.mg "str" = none) (ha : PDE X ok a wa) (hg : Gl X "str" := by rfl) (hs : starEach [a] X.env = (false, eval a X.env) :: starEach [] X.env := by rfl) (hpl : (backTo pos (starEach [] X.env)).any (·.1) = false := by rfl) :
    PDE X ok (.Call (.Name "str" p) [a] [] pos) (wUn fStr wa) := d_T1 call_str_int cd_str (by decide +kernel) hm ha (by decide) (by decide) hg hs hpl
end
end DL
/-! DL, part p: xs[i] += e on a list of one's own. -/
namespace DL
open PySem PySem.Spec PyProof.Rows L2
def rGetL : V → V → Hp → VK → Prop := fun o i H Q => ∃ p xs k v, o = .ref p ∧ i = .int k ∧ H p = some (.lst xs) ∧ 0 ≤ k ∧ xs[k.toNat]? = some v ∧ Q v H
theorem get_listP {X : Cx} : PGet X rGetL := by
  intro pins s σ H o i ov iv Q I ro ri h
  obtain ⟨p, xs, k, v, rfl, rfl, hp, h0, hv, q⟩ := h
  cases ro
  obtain ⟨t, rfl⟩ := ri
  obtain ⟨its, r, pl, hz⟩ := I.list (SqL.of hp)
  obtain ⟨w, ew, rw'⟩ := r.get hv
  have hl := r.length
  have hn := line63
  have hk : k.toNat < xs.length := (List.getElem?_eq_some_iff.mp hv).1
  exact wpAny_getItem_list pl.isList h0 (by omega) (by simpa using ew) ⟨v, H, I, rw', q⟩
def wAugI (i : Nat) (k a : WE) : WS := fun W env => match get env i with
  | some (.own ds) => k env fun j => match j with
    | .int z => 0 ≤ z ∧ ∃ x, ds[z.toNat]? = some (.int x) ∧ a env fun y => match y with
      | .int w => W.nx (env.set i (some (.own (ds.set z.toNat (.int (x + w))))))
      | _ => False
    | _ => False
  | _ => False
theorem ss_augI {K : PySem.W.Frag} {ok : List D → Prop} {i : Nat} {tk te : TE} {wk we : WE} (hk : SndE K ok tk wk) (he : SndE K ok te we) : SndS K ok (tAugS (tVar i) tk te rGetL (ipI fun i j => i + j) rSetL) (wAugI i wk we) := fun C H0 σ H env E W rel hw h => by
  unfold wAugI at hw
  split at hw
  · rename_i ds hd
    obtain ⟨p, e, n, n0, vs0, hp0, hr0⟩ := rel.slot i _ (get_eq hd)
    refine ⟨.ref p, e, hk C H0 σ H env _ _ rel hw fun j u H1 H01 q r1 e1 x1 => ?_⟩
    try dsimp only at q
    split at q
    · rename_i z
      cases x1
      obtain ⟨hz, x, hx, q⟩ := q
      obtain ⟨p', e', n, n0, vs, hp, hr⟩ := r1.slot i _ (get_eq hd)
      rw [e] at e'
      cases e'
      have hlt : z.toNat < ds.length := (List.getElem?_eq_some_iff.mp hx).1
      have hv : vs[z.toNat]? = some (vs[z.toNat]'(by rw [hr.length]; exact hlt)) := List.getElem?_eq_getElem _
      have hat : atI ds z = some (.int x) := by
        have : z = ((z.toNat : Nat) : Int) := by omega
        rw [this]
        exact atI_nat hx
      obtain ⟨v, ev, rv⟩ := atI_rel hr hat
      have hv2 : vs[z.toNat]? = some v := by
        have hzz : z = ((z.toNat : Nat) : Int) := by omega
        rw [hzz] at ev
        rw [atI_nat hv] at ev
        rw [hv]
        exact ev
      cases rv
      refine ⟨p, vs, z, _, rfl, rfl, hp, hz, hv2, he C H01 σ H1 env _ _ r1 q fun y w H2 H02 q2 r2 e2 x2 => ?_⟩
      try dsimp only at q2
      split at q2
      · cases x2
        obtain ⟨p', e', n, n0, ws, hp2, hr2⟩ := r2.slot i _ (get_eq hd)
        rw [e] at e'
        cases e'
        refine ⟨_, _, rfl, rfl, p, ws, z, z.toNat, rfl, rfl, hp2, ?_, ?_⟩
        · unfold ixN
          rw [hr2.length, if_pos hz, if_pos (by omega)]
        · exact h.nx _ _ _ H02 (e1.trans e2) (r2.putL (get_eq hd) e n n0 (hr2.set (.int _) _)) q2
      · exact q2.elim
    · exact q.elim
  · exact hw.elim
section
variable {X : Cx} {ok : List D → Prop} {e : Expr} {wa we : WE} {pos : Pos} {x : Str}
theorem s_augI (i : Nat) {tp mp : Pos} {ix : Expr} (hk : PDE X ok ix wa) (he : PDE X ok e we) (hN : X.N[i]? = some x := by rfl) (hv : Vis X.env.scope x := by first | exact Or.inl rfl | exact Or.inr (Or.inl rfl) | exact Or.inr (Or.inr rfl)) (hd : (x == ("__debug__" : Str)) = false := by decide) (hcd : (x == ("__classdict__" : Str)) = false := by decide)
    (ha : ∀ ov iv new, augStore ix ov iv new = (do holding [new, ov, iv] (setItem ov iv new); release [new, ov, iv] []; pure .next) := by intros; rfl) :
    PDS X ok (.AugAssign (.Subscript (.Name x mp) ix tp) .Add e pos) (wAugI i wa we) := let ⟨_, e1, e2⟩ := he; let ⟨_, k1, k2⟩ := hk; ⟨_, ps_augS (pe_var hN hv hd hcd) k1 get_listP e1 ip_add set_list ha, ss_augI k2 e2⟩
end
end DL
/-! mathematics: remainders and powers. -/
namespace MB
theorem emod_mul_l (a b m : Int) : (a % m) * b % m = a * b % m := by
  rw [Int.mul_emod, Int.emod_emod_of_dvd _ (Int.dvd_refl m), ← Int.mul_emod]
theorem emod_mul_r (a b m : Int) : a * (b % m) % m = a * b % m := by
  rw [Int.mul_emod, Int.emod_emod_of_dvd _ (Int.dvd_refl m), ← Int.mul_emod]
theorem emod_pow (a m : Int) (k : Nat) : (a % m) ^ k % m = a ^ k % m := by
  induction k with
  | zero => rw [Int.pow_zero, Int.pow_zero]
  | succ k ih =>
    rw [Int.pow_succ, Int.pow_succ, emod_mul_r, Int.mul_emod, ih, ← Int.mul_emod]
theorem cong_mul {a b c d m : Int} (h : a % m = b % m) (k : c % m = d % m) : a * c % m = b * d % m := by
  rw [Int.mul_emod, h, k, ← Int.mul_emod]
theorem cong_add {a b c d m : Int} (h : a % m = b % m) (k : c % m = d % m) : (a + c) % m = (b + d) % m := by
  rw [Int.add_emod, h, k, ← Int.add_emod]
theorem cong_pow {a b m : Int} (h : a % m = b % m) (k : Nat) : a ^ k % m = b ^ k % m := by
  rw [← emod_pow, h, emod_pow]
/-- one turn of the ladder -/
theorem ladder_odd (r b m : Int) {j : Int} (h0 : 0 ≤ j) (h : j % 2 = 1) : (r * b % m) * (b * b % m) ^ (j / 2).toNat % m = r * b ^ j.toNat % m := by
  have e : j.toNat = (j / 2).toNat + (j / 2).toNat + 1 := by omega
  rw [emod_mul_l, ← emod_mul_r, emod_pow, emod_mul_r, e, Int.pow_succ, Int.pow_add, Int.mul_pow]
  congr 1
  grind
theorem ladder_even (r b m : Int) {j : Int} (h0 : 0 ≤ j) (h : ¬ j % 2 = 1) : r * (b * b % m) ^ (j / 2).toNat % m = r * b ^ j.toNat % m := by
  have e : j.toNat = (j / 2).toNat + (j / 2).toNat := by omega
  rw [← emod_mul_r, emod_pow, emod_mul_r, e, Int.pow_add, Int.mul_pow]
theorem two_pow_cast (k : Nat) : ((2 ^ k : Nat) : Int) = 2 ^ k := by rw [Int.natCast_pow]; rfl
theorem mul_bd {u v A B : Int} (u0 : -A ≤ u) (u1 : u ≤ A) (v0 : 0 ≤ v) (v1 : v ≤ B) (A0 : 0 ≤ A) : -(A * B) ≤ u * v ∧ u * v ≤ A * B := by
  have h1 := Int.mul_le_mul_of_nonneg_right u1 v0
  have h2 := Int.mul_le_mul_of_nonneg_left v1 A0
  have h3 := Int.mul_le_mul_of_nonneg_right u0 v0
  rw [Int.neg_mul] at h3
  omega
theorem sq_nonneg (a : Int) : 0 ≤ a * a := by
  rcases Int.le_total 0 a with h | h
  · exact Int.mul_nonneg h h
  · have := Int.mul_nonneg (a := -a) (b := -a) (by omega) (by omega)
    rwa [Int.neg_mul_neg] at this
theorem gcd_dvd_iff {a b c d : Int} (h1 : ∀ k : Int, k ∣ a ∧ k ∣ b ↔ k ∣ c ∧ k ∣ d) : Int.gcd a b = Int.gcd c d := by
  apply Nat.dvd_antisymm
  · have := (h1 (Int.gcd a b)).mp ⟨Int.gcd_dvd_left _ _, Int.gcd_dvd_right _ _⟩
    exact Int.natCast_dvd_natCast.mp (Int.dvd_coe_gcd this.1 this.2)
  · have := (h1 (Int.gcd c d)).mpr ⟨Int.gcd_dvd_left _ _, Int.gcd_dvd_right _ _⟩
    exact Int.natCast_dvd_natCast.mp (Int.dvd_coe_gcd this.1 this.2)
theorem gcd_mod (n v : Int) : Int.gcd n (v % n) = Int.gcd n v := gcd_dvd_iff fun k => by
  constructor
  · rintro ⟨h1, h2⟩
    refine ⟨h1, ?_⟩
    have := Int.dvd_add h2 (Int.dvd_trans h1 (Int.dvd_mul_right n (v / n)))
    rwa [Int.emod_add_mul_ediv] at this
  · rintro ⟨h1, h2⟩
    refine ⟨h1, ?_⟩
    rw [Int.emod_def]
    exact Int.dvd_sub h2 (Int.dvd_trans h1 (Int.dvd_mul_right n (v / n)))
theorem gcd_mod_r (a b : Int) : Int.gcd b (a % b) = Int.gcd a b := by rw [gcd_mod, Int.gcd_comm]
theorem dvd_of_gcd_one {k m n : Int} (h : Int.gcd k m = 1) (hd : k ∣ m * n) : k ∣ n := by
  rw [← Int.natAbs_dvd_natAbs, Int.natAbs_mul] at hd
  rw [← Int.natAbs_dvd_natAbs]
  exact Nat.Coprime.dvd_of_dvd_mul_left h hd
end MB
namespace DL
open PySem L2
theorem rng_at {lo : Int} {n i : Nat} {d : D} (h : (rng lo n)[i]? = some d) : i < n ∧ d = .int (lo + i) := by
  by_cases hi : i < n
  · rw [rng_get hi] at h
    exact ⟨hi, (Option.some.inj h).symm⟩
  · rw [List.getElem?_eq_none (by rw [rng_len]; omega)] at h
    cases h
theorem dr {n : Int} {Q : Rt → Prop} (h0 : 0 < n) (h : n < 2 ^ 200) (hq : ∀ r : Int, 0 ≤ r → r < n → Q (.v (.int r))) : oneH [.hnd, .v (.int n)] = true ∧ [Ar.hnd, Ar.v (.int n)].length = 2 ∧ M_draw [.hnd, .v (.int n)] Q := ⟨rfl, rfl, n, rfl, h0, h, hq⟩
theorem lk {n : Nat} (h : Nat.ble n 1000 = true) : n ≤ 1000 := Nat.le_of_ble_eq_true h
theorem no_ne {i j : Int} (e : i = j) : (!decide (i = j)) = false := by rw [decide_eq_true e]; rfl
theorem pass {i j : Int} {P Q : Prop} (e : i = j) (q : Q) : ((!decide (i = j)) = true → P) ∧ ((!decide (i = j)) = false → Q) := ⟨fun h => (by rw [no_ne e] at h; cases h), fun _ => q⟩
/-- a break, a fall through: told by what stands behind (the kernel must not unfold a named tail first) -/
theorem onBk {W : WEnds} {env : EnvD} (h : W.bk env) : wBk W env := h
theorem onNx {W : WEnds} {env : EnvD} (h : W.nx env) : wNx W env := h
end DL
/-! plain data: no dict, no truth value, at most k deep. Equality of such data is being alike. -/
namespace DL
open PySem L2
def pl : Nat → D → Bool
  | _, .none => true
  | _, .int _ => true
  | 0, _ => false
  | k + 1, .list ds => ds.all (pl k)
  | k + 1, .tuple ds => ds.all (pl k)
  | _, _ => false
theorem pl_none (k : Nat) : pl k .none = true := by cases k <;> rfl
theorem pl_int (k : Nat) (i : Int) : pl k (.int i) = true := by cases k <;> rfl
theorem pl_ints (k : Nat) (ns : List Int) : (dints ns).all (pl k) = true := by
  rw [List.all_eq_true]
  intro x hx
  obtain ⟨i, _, rfl⟩ := List.mem_map.mp hx
  exact pl_int k i
theorem pl_dlist (k : Nat) (ns : List Int) : pl (k + 1) (.list (dints ns)) = true := pl_ints k ns
theorem pl_dtup (k : Nat) (ns : List Int) : pl (k + 1) (.tuple (dints ns)) = true := pl_ints k ns
theorem canAll {k : Nat} (ih : ∀ d : D, pl k d = true → d.canLay0 = true ∧ d.depth ≤ k) : ∀ ds : List D, ds.all (pl k) = true → PyData.canLayAll0 ds = true ∧ PyData.depthAll ds ≤ k
  | [], _ => ⟨rfl, Nat.zero_le _⟩
  | d :: ds, h => by
    rw [List.all_cons, Bool.and_eq_true] at h
    have h1 := ih d h.1
    have h2 := canAll ih ds h.2
    refine ⟨?_, ?_⟩
    · show (_ && _) = true
      rw [h1.1, h2.1]
      rfl
    · show max _ _ ≤ k
      omega
theorem pl_can : ∀ (k : Nat) (d : D), pl k d = true → d.canLay0 = true ∧ d.depth ≤ k
  | k, .none, _ => ⟨rfl, Nat.zero_le _⟩
  | k, .int _, _ => ⟨rfl, Nat.zero_le _⟩
  | 0, .bool _, h => by cases h
  | 0, .str _, h => by cases h
  | 0, .list _, h => by cases h
  | 0, .tuple _, h => by cases h
  | 0, .dict _, h => by cases h
  | k + 1, .bool _, h => by cases h
  | k + 1, .str _, h => by cases h
  | k + 1, .dict _, h => by cases h
  | k + 1, .list ds, h => by
    have := canAll (pl_can k) ds h
    exact ⟨this.1, Nat.succ_le_succ this.2⟩
  | k + 1, .tuple ds, h => by
    have := canAll (pl_can k) ds h
    exact ⟨this.1, Nat.succ_le_succ this.2⟩
theorem shp {k : Nat} {d : D} (h : pl k d = true) (hk : k ≤ 64 := by decide) : SeqAt.shaped d = true := by
  have := pl_can k d h
  unfold SeqAt.shaped
  rw [this.1, Bool.true_and, decide_eq_true_iff]
  omega
theorem eqvAll_iff {k : Nat} (ih : ∀ d e : D, pl k d = true → pl k e = true → (PyData.eqv d e = true ↔ d = e)) : ∀ ds es : List D, ds.all (pl k) = true → es.all (pl k) = true → (PyData.eqvAll ds es = true ↔ ds = es)
  | [], [], _, _ => ⟨fun _ => rfl, fun _ => rfl⟩
  | [], _ :: _, _, _ => ⟨(nomatch ·), (nomatch ·)⟩
  | _ :: _, [], _, _ => ⟨(nomatch ·), (nomatch ·)⟩
  | d :: ds, e :: es, h1, h2 => by
    rw [List.all_cons, Bool.and_eq_true] at h1 h2
    show (_ && _) = true ↔ _
    rw [Bool.and_eq_true, ih d e h1.1 h2.1, eqvAll_iff ih ds es h1.2 h2.2, List.cons.injEq]
theorem eqv_iff : ∀ (k : Nat) (d e : D), pl k d = true → pl k e = true → (PyData.eqv d e = true ↔ d = e)
  | k, .none, .none, _, _ => ⟨fun _ => rfl, fun _ => rfl⟩
  | k, .int i, .int j, _, _ => by
    show (i == j) = true ↔ _
    rw [beq_iff_eq, PyData.int.injEq]
  | k, .none, .int _, _, _ => ⟨(nomatch ·), (nomatch ·)⟩
  | k, .int _, .none, _, _ => ⟨(nomatch ·), (nomatch ·)⟩
  | k + 1, .list ds, .list es, h1, h2 => by
    show PyData.eqvAll ds es = true ↔ _
    rw [eqvAll_iff (eqv_iff k) ds es h1 h2, PyData.list.injEq]
  | k + 1, .tuple ds, .tuple es, h1, h2 => by
    show PyData.eqvAll ds es = true ↔ _
    rw [eqvAll_iff (eqv_iff k) ds es h1 h2, PyData.tuple.injEq]
  | k + 1, .none, .list _, _, _ => ⟨(nomatch ·), (nomatch ·)⟩
  | k + 1, .none, .tuple _, _, _ => ⟨(nomatch ·), (nomatch ·)⟩
  | k + 1, .int _, .list _, _, _ => ⟨(nomatch ·), (nomatch ·)⟩
  | k + 1, .int _, .tuple _, _, _ => ⟨(nomatch ·), (nomatch ·)⟩
  | k + 1, .list _, .none, _, _ => ⟨(nomatch ·), (nomatch ·)⟩
  | k + 1, .tuple _, .none, _, _ => ⟨(nomatch ·), (nomatch ·)⟩
  | k + 1, .list _, .int _, _, _ => ⟨(nomatch ·), (nomatch ·)⟩
  | k + 1, .tuple _, .int _, _, _ => ⟨(nomatch ·), (nomatch ·)⟩
  | k + 1, .list _, .tuple _, _, _ => ⟨(nomatch ·), (nomatch ·)⟩
  | k + 1, .tuple _, .list _, _, _ => ⟨(nomatch ·), (nomatch ·)⟩
  | 0, .bool _, _, h, _ => by cases h
  | 0, .str _, _, h, _ => by cases h
  | 0, .list _, _, h, _ => by cases h
  | 0, .tuple _, _, h, _ => by cases h
  | 0, .dict _, _, h, _ => by cases h
  | k + 1, .bool _, _, h, _ => by cases h
  | k + 1, .str _, _, h, _ => by cases h
  | k + 1, .dict _, _, h, _ => by cases h
  | 0, _, .bool _, _, h => by cases h
  | 0, _, .str _, _, h => by cases h
  | 0, _, .list _, _, h => by cases h
  | 0, _, .tuple _, _, h => by cases h
  | 0, _, .dict _, _, h => by cases h
  | k + 1, _, .bool _, _, h => by cases h
  | k + 1, _, .str _, _, h => by cases h
  | k + 1, _, .dict _, _, h => by cases h
theorem eqv_self {k : Nat} {d : D} (h : pl k d = true) : PyData.eqv d d = true := (eqv_iff k d d h h).mpr rfl
theorem eqv_ne {k : Nat} {d e : D} (h : pl k d = true) (h2 : pl k e = true) (n : d ≠ e) : PyData.eqv d e = false := by
  cases hh : PyData.eqv d e with
  | false => rfl
  | true => exact absurd ((eqv_iff k d e h h2).mp hh) n
theorem eqv_dec {k : Nat} {d e : D} [Decidable (d = e)] (h : pl k d = true) (h2 : pl k e = true) : PyData.eqv d e = decide (d = e) := by
  by_cases n : d = e
  · rw [decide_eq_true n, (eqv_iff k d e h h2).mpr n]
  · rw [decide_eq_false n, eqv_ne h h2 n]
/-- a comparison that answers: alike -/
theorem same {k : Nat} {d e : D} {P Q : Prop} (h : pl k d = true) (he : d = e) (q : Q) : ((!PyData.eqv d e) = true → P) ∧ ((!PyData.eqv d e) = false → Q) := by
  subst he
  rw [eqv_self h]
  exact ⟨fun h => (by cases h), fun _ => q⟩
theorem tk {n : Int} {Q : Rt → Prop} (h0 : 0 < n) (h : n < 2 ^ 200) (hq : ∀ r : Int, 0 ≤ r → r < n → Q (.v (.int r))) : oneH [.hnd, .v (.int n)] = true ∧ [Ar.hnd, Ar.v (.int n)].length = 2 ∧ M_take [.hnd, .v (.int n)] Q := ⟨rfl, rfl, n, rfl, h0, h, hq⟩
theorem nxt {ms : List Int} {n : Int} {Q : Rt → Prop} (h0 : 0 < n) (hq : ∀ r : Int, 0 ≤ r → r < n → Q (.v (.int r))) : oneH [.v (.list (dints ms)), .hnd, .v (.int n)] = true ∧ [Ar.v (.list (dints ms)), Ar.hnd, Ar.v (.int n)].length = 3 ∧ M_next [.v (.list (dints ms)), .hnd, .v (.int n)] Q := ⟨rfl, rfl, ms, n, rfl, h0, hq⟩
end DL
namespace DL
open PySem L2
theorem cut_lo {α : Type} (xs : List α) (k : Nat) : cutD xs (some (k : Int)) none = xs.drop k := by
  unfold cutD
  rw [HT.sIx_nat, HT.sIx_none]
  by_cases h : k ≤ xs.length
  · rw [Nat.min_eq_left h, List.take_of_length_le (by rw [List.length_drop]; omega)]
  · rw [Nat.min_eq_right (by omega), List.drop_of_length_le (by omega), List.drop_of_length_le (by omega), List.take_nil]
theorem cut_hi {α : Type} (xs : List α) (k : Nat) : cutD xs none (some (k : Int)) = xs.take k := by
  unfold cutD
  rw [HT.sIx_nat, HT.sIx_none, List.drop_zero, Nat.sub_zero]
  by_cases h : k ≤ xs.length
  · rw [Nat.min_eq_left h]
  · rw [Nat.min_eq_right (by omega), List.take_of_length_le (by omega), List.take_of_length_le (by omega)]
theorem cut_no {α : Type} (xs : List α) : cutD xs none none = xs := by
  unfold cutD
  rw [HT.sIx_none, HT.sIx_none, List.drop_zero, Nat.sub_zero, List.take_length]
theorem cut_mid {α : Type} (xs : List α) (k m : Nat) (h : k ≤ m) (hm : m ≤ xs.length) : cutD xs (some (k : Int)) (some (m : Int)) = (xs.drop k).take (m - k) := by
  unfold cutD
  rw [HT.sIx_nat, HT.sIx_nat, Nat.min_eq_left (by omega), Nat.min_eq_left (by omega)]
/-- f 0, .. f (n - 1) -/
abbrev tab (n : Nat) (f : Nat → Int) : List Int := (List.range n).map f
theorem dints_app (a b : List Int) : dints (a ++ b) = dints a ++ dints b := List.map_append
theorem dints_snoc (a : List Int) (x : Int) : dints (a ++ [x]) = dints a ++ [.int x] := List.map_append
theorem tab_len (n : Nat) (f : Nat → Int) : (tab n f).length = n := by rw [List.length_map, List.length_range]
theorem dtab_len (n : Nat) (f : Nat → Int) : (dints (tab n f)).length = n := by rw [List.length_map, tab_len]
theorem tab_succ (n : Nat) (f : Nat → Int) : dints (tab (n + 1) f) = dints (tab n f) ++ [.int (f n)] := by
  unfold tab
  rw [List.range_succ, List.map_append]
  show ((List.range n).map f ++ [f n]).map PyData.int = _
  rw [List.map_append]
  rfl
theorem tab_get {n i : Nat} {f : Nat → Int} (h : i < n) : (dints (tab n f))[i]? = some (.int (f i)) := by
  rw [List.getElem?_map, List.getElem?_map, List.getElem?_range h]
  rfl
theorem tab_at {n i : Nat} {f : Nat → Int} {d : D} (h : (dints (tab n f))[i]? = some d) : i < n ∧ d = .int (f i) := by
  by_cases hi : i < n
  · rw [tab_get hi] at h
    exact ⟨hi, (Option.some.inj h).symm⟩
  · rw [List.getElem?_eq_none (by rw [dtab_len]; omega)] at h
    cases h
theorem tab_atI {n i : Nat} {f : Nat → Int} {j : Int} (e : j = i) (h : i < n) : atI (dints (tab n f)) j = some (.int (f i)) := by
  rw [e]
  exact atI_nat (tab_get h)
theorem tab_drop {n k : Nat} {f : Nat → Int} (h : k ≤ n) : (dints (tab n f)).drop k = dints (tab (n - k) fun i => f (k + i)) := by
  apply List.ext_getElem?
  intro i
  rw [List.getElem?_drop]
  by_cases hi : i < n - k
  · rw [tab_get hi, tab_get (by omega)]
  · rw [List.getElem?_eq_none (by rw [dtab_len]; omega), List.getElem?_eq_none (by rw [dtab_len]; omega)]
theorem tab_take {n k : Nat} {f : Nat → Int} (h : k ≤ n) : (dints (tab n f)).take k = dints (tab k f) := by
  apply List.ext_getElem?
  intro i
  by_cases hi : i < k
  · rw [List.getElem?_take_of_lt hi, tab_get hi, tab_get (by omega)]
  · rw [List.getElem?_eq_none (by rw [List.length_take, dtab_len]; omega), List.getElem?_eq_none (by rw [dtab_len]; omega)]
theorem atI_nats {α : Type} {xs : List α} {j : Int} {i : Nat} {v : α} (e : j = i) (h : xs[i]? = some v) : atI xs j = some v := by
  rw [e]
  exact atI_nat h
/-- an item of a list of ints, told by its bounds -/
theorem atI_ints {xs : List Int} {j : Int} (h0 : 0 ≤ j) (h : j < xs.length) : ∃ v, atI (dints xs) j = some (.int v) ∧ v ∈ xs := by
  obtain ⟨i, rfl⟩ : ∃ i : Nat, j = i := ⟨j.toNat, by omega⟩
  have hi : i < xs.length := by omega
  refine ⟨xs[i], atI_nat ?_, List.getElem_mem hi⟩
  rw [List.getElem?_map, List.getElem?_eq_getElem hi]
  rfl
theorem wtrue {P Q : Prop} (p : P) : ((true : Bool) = true → P) ∧ ((true : Bool) = false → Q) := ⟨fun _ => p, (nomatch ·)⟩
theorem wfalse {P Q : Prop} (q : Q) : ((false : Bool) = true → P) ∧ ((false : Bool) = false → Q) := ⟨(nomatch ·), fun _ => q⟩
/-- what a slot holds that is wiped by a block -/
abbrev Val (t : Option Sl) : Prop := t = none ∨ ∃ d, t = some (.v d)
theorem valN {t : Option Sl} : Val t → (match t with | some s => s.isOwn = false | none => True)
  | .inl e => by subst e; exact trivial
  | .inr ⟨d, e⟩ => by subst e; exact rfl
theorem map_comp {ms : List Int} {f : Int → Int} {k : Nat} {m : Int} (h : ms[k]? = some m) : dints ((ms.take k).map f) ++ [PyData.int (f m)] = dints ((ms.take (k + 1)).map f) := by
  rw [List.take_add_one, h, List.map_append]
  show _ = dints (_ ++ [f m])
  rw [dints_snoc]
theorem dints_at {ms : List Int} {i : Nat} {d : D} (h : (dints ms)[i]? = some d) : ∃ m, ms[i]? = some m ∧ d = .int m := by
  rw [List.getElem?_map] at h
  obtain ⟨m, hm, rfl⟩ := Option.map_eq_some_iff.mp h
  exact ⟨m, hm, rfl⟩
theorem dints_len (ms : List Int) : (dints ms).length = ms.length := List.length_map _
theorem sameF {k : Nat} {d e : D} {P Q : Prop} (h : pl k d = true) (he : d = e) (q : Q) : ((!PyData.eqv d e || false) = true → P) ∧ ((!PyData.eqv d e || false) = false → Q) := by
  subst he
  rw [eqv_self h]
  exact ⟨fun h => (by cases h), fun _ => q⟩
theorem eqT {k : Nat} {d e : D} {Q : Rt → Prop} (h : pl k d = true) (he : d = e) (q : Q (.v (.bool true))) : Q (.v (.bool (PyData.eqv d e))) := by
  subst he
  rw [eqv_self h]
  exact q
end DL
namespace DL
open PySem L2
theorem ixN_nat {n j : Nat} {z : Int} (e : z = j) (h : j < n) : ixN n z = some j := by
  subst e
  unfold ixN
  rw [if_pos (by omega), if_pos (by omega), Int.toNat_natCast]
theorem rep_zero (n : Nat) (c : Int) : (List.replicate n [PyData.int c]).flatten = dints (List.replicate n c) := by
  induction n with
  | zero => rfl
  | succ n ih => rw [List.replicate_succ, List.flatten_cons, ih, List.replicate_succ]; rfl
theorem dints_set (f : List Int) (i : Nat) (v : Int) : (dints f).set i (.int v) = dints (f.set i v) := List.map_set.symm
theorem dints_drop (f : List Int) : (dints f).dropLast = dints f.dropLast := List.map_dropLast.symm
theorem dints_get {f : List Int} {i : Nat} {v : Int} (h : f[i]? = some v) : (dints f)[i]? = some (.int v) := by
  rw [List.getElem?_map, h]; rfl
theorem dints_atI {f : List Int} {i : Nat} {j v : Int} (e : j = i) (h : f[i]? = some v) : atI (dints f) j = some (.int v) := atI_nats e (dints_get h)
theorem ixN_neg {n : Nat} (k : Nat) (h0 : 0 < k) (h : k ≤ n) : ixN n (-(k : Int)) = some (n - k) := by
  unfold ixN
  rw [if_neg (by omega), if_pos (by omega)]
  congr 1
  omega
theorem atI_neg {α : Type} {xs : List α} {n : Nat} {v : α} (hl : xs.length = n) (k : Nat) (h0 : 0 < k ∧ k ≤ n) (h : xs[n - k]? = some v) : atI xs (-(k : Int)) = some v := by
  unfold atI
  rw [hl, ixN_neg k h0.1 h0.2]
  exact h
/-- comparisons of data that are not seen through -/
theorem fNe_of {d e : D} {Q : D → Prop} (h1 : SeqAt.shaped d = true) (h2 : SeqAt.shaped e = true) (q : Q (.bool (!PyData.eqv d e))) : fNe d e Q := by
  unfold fNe
  split
  · rw [eqv_int] at q; exact q
  · exact ⟨h1, h2, q⟩
theorem fEq_of {d e : D} {Q : D → Prop} (h1 : SeqAt.shaped d = true) (h2 : SeqAt.shaped e = true) (q : Q (.bool (PyData.eqv d e))) : fEq d e Q := by
  unfold fEq
  split
  · rw [eqv_int] at q; exact q
  · exact ⟨h1, h2, q⟩
theorem wVar_at {i : Nat} {env : EnvD} {d : D} {Q : D → Prop} (h : get env i = some (.v d)) (q : Q d) : wVar i env Q := by
  unfold wVar
  rw [h]
  exact q
end DL
/-! primes, by divisors -/
namespace MB
def PrimeI (p : Int) : Prop := 2 ≤ p ∧ ∀ d : Int, 2 ≤ d → d < p → p % d ≠ 0
theorem prime_of_trial {p : Int} (m : Int) (h2 : 2 ≤ p) (hp : p < m * m) (hm : 0 < m) (h : ∀ d : Int, 2 ≤ d → d < m → d * d ≤ p → p % d ≠ 0) : PrimeI p := by
  refine ⟨h2, fun d d2 dp e => ?_⟩
  obtain ⟨q, hq⟩ := Int.dvd_of_emod_eq_zero e
  have q0 : 0 < q := by
    apply Int.not_le.mp
    intro z
    have := Int.mul_nonpos_of_nonneg_of_nonpos (a := d) (b := q) (by omega) z
    omega
  have q1 : q ≠ 1 := fun z => by rw [z, Int.mul_one] at hq; omega
  have lt : ∀ x : Int, 0 ≤ x → x * x ≤ p → x < m := fun x x0 hx => by
    apply Int.not_le.mp
    intro z
    have := Int.mul_le_mul z z (by omega) x0
    omega
  rcases Int.le_total d q with l | l
  · have := Int.mul_le_mul_of_nonneg_left l (by omega : 0 ≤ d)
    exact h d d2 (lt d (by omega) (by omega)) (by omega) e
  · have := Int.mul_le_mul_of_nonneg_right l (by omega : 0 ≤ q)
    exact h q (by omega) (lt q (by omega) (by omega)) (by omega) (by rw [hq]; exact Int.mul_emod_left _ _)
end MB
/-! numbers of places by degrees: n divides the sum -/
namespace MB
/-- traces -/
def lu (p t : Int) : Nat → Int
  | 0 => 2
  | 1 => t
  | n + 2 => t * lu p t (n + 1) - p * lu p t n
/-- the loop of signs; none: not done in k turns -/
def sgnO : Nat → Nat → Int → Nat → Option Int
  | 0, n, s, _ => if 1 < n then none else some s
  | k + 1, n, s, d => if 1 < n then (if n % d = 0 then (if n / d % d = 0 then some 0 else sgnO k (n / d) (-s) (d + 1)) else sgnO k n s (d + 1)) else some s
def mob (n : Nat) : Int := (sgnO 59 n 1 2).getD 0
/-- what stands ahead of the count of degree d in the sum for n, a remainder by q -/
def cf (q n d : Nat) : Nat := if n % d = 0 then ((mob (n / d)) % (q : Int)).toNat else 0
def cfs (q n : Nat) : Nat → Nat → List Nat
  | _, 0 => []
  | i, k + 1 => cf q n (i + 1) :: cfs q n (i + 1) k
/-- the sum by remainders: w a power, x and y the trace and the one before -/
def go (q a b : Nat) : List Nat → Nat → Nat → Nat → Nat → Nat
  | [], _, _, _, s => s
  | c :: r, w, x, y, s => go q a b r (w * a % q) ((b * x + (q - a) * y) % q) x (if c = 0 then s else (s + c * (w + 1 + (q - x))) % q)
def qs (n : Nat) : List Nat := [4, 8, 16, 32, 2, 9, 27, 3, 25, 5, 49, 7, 11, 13, 17, 19, 23, 29, 31, 37, 41, 43, 47, 53, 59].filter fun q => n % q == 0
def chk (n q : Nat) (cs : List Nat) : Bool := (List.range q).all fun a => (List.range q).all fun b => go q a b cs a b (2 % q) 0 % q == 0
def count (p t : Int) (d : Nat) : Int := p ^ d + 1 - lu p t d
/-- the sum over the divisors up to m -/
def placeS (p t : Int) (n : Nat) : Nat → Int
  | 0 => 0
  | m + 1 => if n % (m + 1) = 0 then placeS p t n m + mob (n / (m + 1)) * count p t (m + 1) else placeS p t n m
theorem cong_sub {a b c d m : Int} (h : a % m = b % m) (k : c % m = d % m) : (a - c) % m = (b - d) % m := by
  rw [Int.sub_emod, h, k, ← Int.sub_emod]
theorem go_ok {p t : Int} {q n : Nat} {a b : Nat} (q0 : 0 < q) (ha : ((a : Nat) : Int) % q = p % q) (hb : ((b : Nat) : Int) % q = t % q) (la : a ≤ q) : ∀ (k i w x y s : Nat), i + k = n → x ≤ q → ((w : Nat) : Int) % q = p ^ (i + 1) % q → ((x : Nat) : Int) % q = lu p t (i + 1) % q → ((y : Nat) : Int) % q = lu p t i % q → ((s : Nat) : Int) % q = placeS p t n i % q →
    ((go q a b (cfs q n i k) w x y s : Nat) : Int) % q = placeS p t n n % q
  | 0, i, w, x, y, s, hi, _, _, _, _, hs => by
    have : i = n := by omega
    subst this
    exact hs
  | k + 1, i, w, x, y, s, hi, lx, hw, hx, hy, hs => by
    show ((go q a b (cfs q n (i + 1) k) (w * a % q) ((b * x + (q - a) * y) % q) x (if cf q n (i + 1) = 0 then s else (s + cf q n (i + 1) * (w + 1 + (q - x))) % q) : Nat) : Int) % q = _
    have em : ∀ z : Nat, (((z % q : Nat)) : Int) % q = (z : Int) % q := fun z => by rw [Int.natCast_emod]; exact Int.emod_emod_of_dvd _ (Int.dvd_refl _)
    refine go_ok q0 ha hb la k (i + 1) _ _ _ _ (by omega) (Nat.le_of_lt (Nat.mod_lt _ q0)) ?_ ?_ hx ?_
    · rw [em, Int.natCast_mul, Int.pow_succ]
      exact cong_mul hw ha
    · rw [em, Int.natCast_add, Int.natCast_mul, Int.natCast_mul]
      have e1 : (((q - a : Nat)) : Int) % q = (-p) % q := by
        have : (((q - a : Nat)) : Int) = (q : Int) - a := by omega
        rw [this, Int.sub_emod, Int.emod_self, Int.zero_sub]
        have := cong_sub (a := 0) (b := 0) (c := (a : Int) % q) (d := p) (m := (q : Int)) rfl (by rw [Int.emod_emod_of_dvd _ (Int.dvd_refl _), ha])
        rw [Int.zero_sub, Int.zero_sub] at this
        exact this
      have := cong_add (cong_mul hb hx) (cong_mul e1 hy)
      rw [this]
      congr 1
      show _ = t * lu p t (i + 1) - p * lu p t i
      grind
    · have hstep : placeS p t n (i + 1) = if n % (i + 1) = 0 then placeS p t n i + mob (n / (i + 1)) * count p t (i + 1) else placeS p t n i := rfl
      have hc : ((cf q n (i + 1) : Nat) : Int) % q = (if n % (i + 1) = 0 then mob (n / (i + 1)) else 0) % q := by
        unfold cf
        split
        · have h1 : 0 ≤ mob (n / (i + 1)) % (q : Int) := Int.emod_nonneg _ (by omega)
          rw [show (((mob (n / (i + 1)) % (q : Int)).toNat : Nat) : Int) = mob (n / (i + 1)) % (q : Int) by omega]
          exact Int.emod_emod_of_dvd _ (Int.dvd_refl _)
        · rfl
      have hcount : (((w + 1 + (q - x) : Nat)) : Int) % q = count p t (i + 1) % q := by
        have : (((w + 1 + (q - x) : Nat)) : Int) = ((w : Int) + 1 - x) + q := by omega
        rw [this, Int.add_emod_right]
        exact cong_sub (cong_add hw rfl) hx
      rw [hstep]
      split
      · rename_i z
        rw [z] at hc
        split
        · rename_i z2
          rw [if_pos z2] at hc
          have h2 : mob (n / (i + 1)) * count p t (i + 1) % (q : Int) = 0 % (q : Int) := by
            have := cong_mul (c := count p t (i + 1)) (d := count p t (i + 1)) hc.symm rfl
            rw [this]
            rw [show (((0 : Nat) : Int)) = 0 from rfl, Int.zero_mul]
          have := cong_add hs h2.symm
          rw [Int.add_zero] at this
          exact this
        · exact hs
      · rw [em, Int.natCast_add, Int.natCast_mul]
        have := cong_add hs (cong_mul hc hcount)
        rw [this]
        split
        · rfl
        · rw [Int.zero_mul, Int.add_zero]
theorem chk_ok {n q : Nat} (q0 : 0 < q) (h : chk n q (cfs q n 0 n) = true) (p t : Int) : (q : Int) ∣ placeS p t n n := by
  have mp0 : 0 ≤ p % (q : Int) := Int.emod_nonneg _ (by omega)
  have mp1 : p % (q : Int) < q := Int.emod_lt_of_pos _ (by omega)
  have mt0 : 0 ≤ t % (q : Int) := Int.emod_nonneg _ (by omega)
  have mt1 : t % (q : Int) < q := Int.emod_lt_of_pos _ (by omega)
  obtain ⟨a, ha⟩ : ∃ a : Nat, p % (q : Int) = a := ⟨(p % (q : Int)).toNat, by omega⟩
  obtain ⟨b, hb⟩ : ∃ b : Nat, t % (q : Int) = b := ⟨(t % (q : Int)).toNat, by omega⟩
  have h1 := List.all_eq_true.mp (List.all_eq_true.mp h a (List.mem_range.mpr (by omega))) b (List.mem_range.mpr (by omega))
  have h1 := beq_iff_eq.mp h1
  have ea : ((a : Nat) : Int) % q = p % q := by rw [← ha]; exact Int.emod_emod_of_dvd _ (Int.dvd_refl _)
  have eb : ((b : Nat) : Int) % q = t % q := by rw [← hb]; exact Int.emod_emod_of_dvd _ (Int.dvd_refl _)
  have h2 := go_ok (p := p) (t := t) (n := n) q0 ea eb (by omega) n 0 a b (2 % q) 0 (by omega) (by omega) (by rw [ea, Int.pow_succ, Int.pow_zero, Int.one_mul]) eb (by
    rw [Int.natCast_emod]
    exact Int.emod_emod_of_dvd _ (Int.dvd_refl _)) rfl
  have h3 : ((go q a b (cfs q n 0 n) a b (2 % q) 0 : Nat) : Int) % q = 0 := by
    rw [← Int.natCast_emod, h1]
    rfl
  rw [h3] at h2
  exact Int.dvd_of_emod_eq_zero h2.symm
def exact_ (n : Nat) : List Nat := [2, 4, 8, 16, 32, 3, 9, 27, 5, 25, 7, 49, 11, 13, 17, 19, 23, 29, 31, 37, 41, 43, 47, 53, 59].filter fun q => n % q == 0 && Nat.gcd (n / q) q == 1
theorem exact_lcm : (List.range 61).all (fun n => n = 0 || (exact_ n).foldr Nat.lcm 1 == n && (exact_ n).all fun q => 0 < q) = true := by decide +kernel
theorem ck1 : (exact_ 1).all (fun q => chk 1 q (cfs q 1 0 1)) = true := by decide +kernel
theorem ck2 : (exact_ 2).all (fun q => chk 2 q (cfs q 2 0 2)) = true := by decide +kernel
theorem ck3 : (exact_ 3).all (fun q => chk 3 q (cfs q 3 0 3)) = true := by decide +kernel
theorem ck4 : (exact_ 4).all (fun q => chk 4 q (cfs q 4 0 4)) = true := by decide +kernel
theorem ck5 : (exact_ 5).all (fun q => chk 5 q (cfs q 5 0 5)) = true := by decide +kernel
theorem ck6 : (exact_ 6).all (fun q => chk 6 q (cfs q 6 0 6)) = true := by decide +kernel
theorem ck7 : (exact_ 7).all (fun q => chk 7 q (cfs q 7 0 7)) = true := by decide +kernel
theorem ck8 : (exact_ 8).all (fun q => chk 8 q (cfs q 8 0 8)) = true := by decide +kernel
theorem ck9 : (exact_ 9).all (fun q => chk 9 q (cfs q 9 0 9)) = true := by decide +kernel
theorem ck10 : (exact_ 10).all (fun q => chk 10 q (cfs q 10 0 10)) = true := by decide +kernel
theorem ck11 : (exact_ 11).all (fun q => chk 11 q (cfs q 11 0 11)) = true := by decide +kernel
theorem ck12 : (exact_ 12).all (fun q => chk 12 q (cfs q 12 0 12)) = true := by decide +kernel
theorem ck13 : (exact_ 13).all (fun q => chk 13 q (cfs q 13 0 13)) = true := by decide +kernel
theorem ck14 : (exact_ 14).all (fun q => chk 14 q (cfs q 14 0 14)) = true := by decide +kernel
theorem ck15 : (exact_ 15).all (fun q => chk 15 q (cfs q 15 0 15)) = true := by decide +kernel
theorem ck16 : (exact_ 16).all (fun q => chk 16 q (cfs q 16 0 16)) = true := by decide +kernel
theorem ck17 : (exact_ 17).all (fun q => chk 17 q (cfs q 17 0 17)) = true := by decide +kernel
theorem ck18 : (exact_ 18).all (fun q => chk 18 q (cfs q 18 0 18)) = true := by decide +kernel
theorem ck19 : (exact_ 19).all (fun q => chk 19 q (cfs q 19 0 19)) = true := by decide +kernel
theorem ck20 : (exact_ 20).all (fun q => chk 20 q (cfs q 20 0 20)) = true := by decide +kernel
theorem ck21 : (exact_ 21).all (fun q => chk 21 q (cfs q 21 0 21)) = true := by decide +kernel
theorem ck22 : (exact_ 22).all (fun q => chk 22 q (cfs q 22 0 22)) = true := by decide +kernel
theorem ck23 : (exact_ 23).all (fun q => chk 23 q (cfs q 23 0 23)) = true := by decide +kernel
theorem ck24 : (exact_ 24).all (fun q => chk 24 q (cfs q 24 0 24)) = true := by decide +kernel
theorem ck25 : (exact_ 25).all (fun q => chk 25 q (cfs q 25 0 25)) = true := by decide +kernel
theorem ck26 : (exact_ 26).all (fun q => chk 26 q (cfs q 26 0 26)) = true := by decide +kernel
theorem ck27 : (exact_ 27).all (fun q => chk 27 q (cfs q 27 0 27)) = true := by decide +kernel
theorem ck28 : (exact_ 28).all (fun q => chk 28 q (cfs q 28 0 28)) = true := by decide +kernel
theorem ck29 : (exact_ 29).all (fun q => chk 29 q (cfs q 29 0 29)) = true := by decide +kernel
theorem ck30 : (exact_ 30).all (fun q => chk 30 q (cfs q 30 0 30)) = true := by decide +kernel
theorem ck31 : (exact_ 31).all (fun q => chk 31 q (cfs q 31 0 31)) = true := by decide +kernel
theorem ck32 : (exact_ 32).all (fun q => chk 32 q (cfs q 32 0 32)) = true := by decide +kernel
theorem ck33 : (exact_ 33).all (fun q => chk 33 q (cfs q 33 0 33)) = true := by decide +kernel
theorem ck34 : (exact_ 34).all (fun q => chk 34 q (cfs q 34 0 34)) = true := by decide +kernel
theorem ck35 : (exact_ 35).all (fun q => chk 35 q (cfs q 35 0 35)) = true := by decide +kernel
theorem ck36 : (exact_ 36).all (fun q => chk 36 q (cfs q 36 0 36)) = true := by decide +kernel
theorem ck37 : (exact_ 37).all (fun q => chk 37 q (cfs q 37 0 37)) = true := by decide +kernel
theorem ck38 : (exact_ 38).all (fun q => chk 38 q (cfs q 38 0 38)) = true := by decide +kernel
theorem ck39 : (exact_ 39).all (fun q => chk 39 q (cfs q 39 0 39)) = true := by decide +kernel
theorem ck40 : (exact_ 40).all (fun q => chk 40 q (cfs q 40 0 40)) = true := by decide +kernel
theorem ck41 : (exact_ 41).all (fun q => chk 41 q (cfs q 41 0 41)) = true := by decide +kernel
theorem ck42 : (exact_ 42).all (fun q => chk 42 q (cfs q 42 0 42)) = true := by decide +kernel
theorem ck43 : (exact_ 43).all (fun q => chk 43 q (cfs q 43 0 43)) = true := by decide +kernel
theorem ck44 : (exact_ 44).all (fun q => chk 44 q (cfs q 44 0 44)) = true := by decide +kernel
theorem ck45 : (exact_ 45).all (fun q => chk 45 q (cfs q 45 0 45)) = true := by decide +kernel
theorem ck46 : (exact_ 46).all (fun q => chk 46 q (cfs q 46 0 46)) = true := by decide +kernel
theorem ck47 : (exact_ 47).all (fun q => chk 47 q (cfs q 47 0 47)) = true := by decide +kernel
theorem ck48 : (exact_ 48).all (fun q => chk 48 q (cfs q 48 0 48)) = true := by decide +kernel
theorem ck49 : (exact_ 49).all (fun q => chk 49 q (cfs q 49 0 49)) = true := by decide +kernel
theorem ck50 : (exact_ 50).all (fun q => chk 50 q (cfs q 50 0 50)) = true := by decide +kernel
theorem ck51 : (exact_ 51).all (fun q => chk 51 q (cfs q 51 0 51)) = true := by decide +kernel
theorem ck52 : (exact_ 52).all (fun q => chk 52 q (cfs q 52 0 52)) = true := by decide +kernel
theorem ck53 : (exact_ 53).all (fun q => chk 53 q (cfs q 53 0 53)) = true := by decide +kernel
theorem ck54 : (exact_ 54).all (fun q => chk 54 q (cfs q 54 0 54)) = true := by decide +kernel
theorem ck55 : (exact_ 55).all (fun q => chk 55 q (cfs q 55 0 55)) = true := by decide +kernel
theorem ck56 : (exact_ 56).all (fun q => chk 56 q (cfs q 56 0 56)) = true := by decide +kernel
theorem ck57 : (exact_ 57).all (fun q => chk 57 q (cfs q 57 0 57)) = true := by decide +kernel
theorem ck58 : (exact_ 58).all (fun q => chk 58 q (cfs q 58 0 58)) = true := by decide +kernel
theorem ck59 : (exact_ 59).all (fun q => chk 59 q (cfs q 59 0 59)) = true := by decide +kernel
theorem ck60 : (exact_ 60).all (fun q => chk 60 q (cfs q 60 0 60)) = true := by decide +kernel
theorem all_chk : ∀ n : Nat, 0 < n → n ≤ 60 → (exact_ n).all (fun q => chk n q (cfs q n 0 n)) = true
  | 0, h, _ => absurd h (by decide)
  | 1, _, _ => ck1
  | 2, _, _ => ck2
  | 3, _, _ => ck3
  | 4, _, _ => ck4
  | 5, _, _ => ck5
  | 6, _, _ => ck6
  | 7, _, _ => ck7
  | 8, _, _ => ck8
  | 9, _, _ => ck9
  | 10, _, _ => ck10
  | 11, _, _ => ck11
  | 12, _, _ => ck12
  | 13, _, _ => ck13
  | 14, _, _ => ck14
  | 15, _, _ => ck15
  | 16, _, _ => ck16
  | 17, _, _ => ck17
  | 18, _, _ => ck18
  | 19, _, _ => ck19
  | 20, _, _ => ck20
  | 21, _, _ => ck21
  | 22, _, _ => ck22
  | 23, _, _ => ck23
  | 24, _, _ => ck24
  | 25, _, _ => ck25
  | 26, _, _ => ck26
  | 27, _, _ => ck27
  | 28, _, _ => ck28
  | 29, _, _ => ck29
  | 30, _, _ => ck30
  | 31, _, _ => ck31
  | 32, _, _ => ck32
  | 33, _, _ => ck33
  | 34, _, _ => ck34
  | 35, _, _ => ck35
  | 36, _, _ => ck36
  | 37, _, _ => ck37
  | 38, _, _ => ck38
  | 39, _, _ => ck39
  | 40, _, _ => ck40
  | 41, _, _ => ck41
  | 42, _, _ => ck42
  | 43, _, _ => ck43
  | 44, _, _ => ck44
  | 45, _, _ => ck45
  | 46, _, _ => ck46
  | 47, _, _ => ck47
  | 48, _, _ => ck48
  | 49, _, _ => ck49
  | 50, _, _ => ck50
  | 51, _, _ => ck51
  | 52, _, _ => ck52
  | 53, _, _ => ck53
  | 54, _, _ => ck54
  | 55, _, _ => ck55
  | 56, _, _ => ck56
  | 57, _, _ => ck57
  | 58, _, _ => ck58
  | 59, _, _ => ck59
  | 60, _, _ => ck60
  | n + 61, _, h => absurd h (by omega)
theorem dvd_lcm {z : Int} : ∀ l : List Nat, (∀ q ∈ l, ((q : Nat) : Int) ∣ z) → ((l.foldr Nat.lcm 1 : Nat) : Int) ∣ z
  | [], _ => Int.one_dvd z
  | q :: l, h => by
    have h1 := h q List.mem_cons_self
    have h2 := dvd_lcm l fun x hx => h x (List.mem_cons_of_mem _ hx)
    show ((Nat.lcm q (l.foldr Nat.lcm 1) : Nat) : Int) ∣ z
    rw [← Int.natAbs_dvd_natAbs, Int.natAbs_natCast] at h1 h2 ⊢
    exact Nat.lcm_dvd h1 h2
theorem place_dvd {n : Nat} (h0 : 0 < n) (h1 : n ≤ 60) (p t : Int) : (n : Int) ∣ placeS p t n n := by
  have hm : n ∈ List.range 61 := List.mem_range.mpr (by omega)
  have he := List.all_eq_true.mp exact_lcm n hm
  have hc := all_chk n h0 h1
  rw [decide_eq_false (by omega : ¬ n = 0), Bool.false_or, Bool.and_eq_true, beq_iff_eq] at he
  have := dvd_lcm (z := placeS p t n n) (exact_ n) fun q hq => chk_ok (of_decide_eq_true (List.all_eq_true.mp he.2 q hq)) (List.all_eq_true.mp hc q hq) p t
  rwa [he.1] at this
theorem all_sgn : (List.range 61).all (fun n => n = 0 || sgnO 59 n 1 2 == some (mob n)) = true := by decide +kernel
theorem sgn_some {n : Nat} (h0 : 0 < n) (h1 : n ≤ 60) : sgnO 59 n 1 2 = some (mob n) := by
  have := List.all_eq_true.mp all_sgn n (List.mem_range.mpr (by omega))
  rw [decide_eq_false (by omega : ¬ n = 0), Bool.false_or, beq_iff_eq] at this
  exact this
theorem all_mob : (List.range 61).all (fun n => n = 0 || (-1 ≤ mob n && mob n ≤ 1)) = true := by decide +kernel
theorem mob_bd {n : Nat} (h0 : 0 < n) (h1 : n ≤ 60) : -1 ≤ mob n ∧ mob n ≤ 1 := by
  have := List.all_eq_true.mp all_mob n (List.mem_range.mpr (by omega))
  rw [decide_eq_false (by omega : ¬ n = 0), Bool.false_or, Bool.and_eq_true] at this
  exact ⟨of_decide_eq_true this.1, of_decide_eq_true this.2⟩
end MB
/-! numbers of divisors, made of numbers of places -/
namespace MZ
def tt (p : Int) : Nat → Int
  | 0 => 1
  | k + 1 => tt p k + p ^ (k + 1)
/-- numbers of divisors -/
def dv (p N : Int) : Nat → Int
  | 0 => 1
  | k + 1 => N * tt p k
/-- ways to take t of c, some more than once -/
def wy (c : Int) : Nat → Int
  | 0 => 1
  | t + 1 => wy c t * (c + ((t + 1 : Nat) : Int) - 1) / ((t + 1 : Nat) : Int)
def sm (d : Nat) (w R : Nat → Int) (j : Nat) : Nat → Int
  | 0 => 0
  | m + 1 => if m * d ≤ j then sm d w R j m + w m * R (j - m * d) else sm d w R j m
/-- divisors made of places of degrees up to d -/
def F (c : Nat → Int) : Nat → Nat → Int
  | 0, j => if j = 0 then 1 else 0
  | d + 1, j => sm (d + 1) (wy (c d)) (F c d) j (j + 1)
theorem sm_stable {d : Nat} {w R : Nat → Int} {j m : Nat} : ∀ k : Nat, (∀ i, m ≤ i → j < i * d) → sm d w R j (m + k) = sm d w R j m
  | 0, _ => rfl
  | k + 1, h => by
    show (if (m + k) * d ≤ j then _ else sm d w R j (m + k)) = _
    rw [if_neg (by have := h (m + k) (by omega); omega)]
    exact sm_stable k h
theorem sm_congr {d : Nat} {w w' R R' : Nat → Int} {j : Nat} : ∀ m : Nat, (∀ i, i < m → i * d ≤ j → w i = w' i) → (∀ i, i ≤ j → R i = R' i) → sm d w R j m = sm d w' R' j m
  | 0, _, _ => rfl
  | m + 1, h, h2 => by
    show (if m * d ≤ j then sm d w R j m + w m * R (j - m * d) else sm d w R j m) = if m * d ≤ j then sm d w' R' j m + w' m * R' (j - m * d) else sm d w' R' j m
    rw [sm_congr m (fun i hi => h i (by omega)) h2]
    by_cases hm : m * d ≤ j
    · rw [if_pos hm, if_pos hm, h m (by omega) hm, h2 _ (by omega)]
    · rw [if_neg hm, if_neg hm]
def nextL (d : Nat) (c : Int) (L : List Int) : List Int :=
  let ws := (List.range (12 / d + 1)).map (wy c)
  (List.range 13).map fun j => sm d (fun i => ws.getD i 0) (fun i => L.getD i 0) j (j / d + 1)
/-- what numbers of points make of numbers of divisors -/
def nw (n : Nat → Int) (D : Nat → Int) (k : Nat) : Nat → Int
  | 0 => k * D k
  | m + 1 => nw n D k m - n (m + 1) * D (k - (m + 1))
def plc (p t : Int) (d : Nat) : Int := MB.placeS p t (d + 1) (d + 1) / ((d + 1 : Nat) : Int)
def small (i : Int) : Bool := decide (i < 18446744073709551616) && decide (-18446744073709551616 < i)
def chkL (c : Nat → Int) (ds : List Int) : Nat → Nat → List Int → Bool
  | 0, d, L => (List.range (d + 1)).all fun j => L.getD j 0 == ds.getD j 0
  | k + 1, d, L => ((List.range (d + 1)).all fun j => L.getD j 0 == ds.getD j 0) && small (c d) && ((List.range (12 / (d + 1) + 1)).all fun i => small (wy (c d) i)) && chkL c ds k (d + 1) (nextL (d + 1) (c d) L)
def L0 : List Int := [1, 0, 0, 0, 0, 0, 0, 0, 0, 0, 0, 0, 0]
def chkP (p N : Int) : Bool := chkL (plc p (p + 1 - N)) ((List.range 13).map (dv p N)) 12 0 L0
def chkN (p N : Int) : Bool := (List.range 12).all fun k => nw (MB.count p (p + 1 - N)) (dv p N) (k + 1) k == MB.count p (p + 1 - N) (k + 1) && small (MB.count p (p + 1 - N) (k + 1))
def all (p : Nat) (chk : Int → Int → Bool) : Bool := (List.range (2 * p + 1)).all fun N => chk p ((N + 1 : Nat) : Int)
theorem n5 : all 5 chkN = true := by decide +kernel
theorem p5 : all 5 chkP = true := by decide +kernel
theorem n7 : all 7 chkN = true := by decide +kernel
theorem p7 : all 7 chkP = true := by decide +kernel
theorem n11 : all 11 chkN = true := by decide +kernel
theorem p11 : all 11 chkP = true := by decide +kernel
theorem n13 : all 13 chkN = true := by decide +kernel
theorem p13 : all 13 chkP = true := by decide +kernel
theorem n17 : all 17 chkN = true := by decide +kernel
theorem p17 : all 17 chkP = true := by decide +kernel
theorem n19 : all 19 chkN = true := by decide +kernel
theorem p19 : all 19 chkP = true := by decide +kernel
theorem n23 : all 23 chkN = true := by decide +kernel
theorem p23 : all 23 chkP = true := by decide +kernel
theorem n29 : all 29 chkN = true := by decide +kernel
theorem p29 : all 29 chkP = true := by decide +kernel
def pr (p : Int) : Prop := p = 5 ∨ p = 7 ∨ p = 11 ∨ p = 13 ∨ p = 17 ∨ p = 19 ∨ p = 23 ∨ p = 29
theorem all_at {p : Nat} {chk : Int → Int → Bool} (h : all p chk = true) {N : Int} (h0 : 1 ≤ N) (h1 : N ≤ 2 * p + 1) : chk p N = true := by
  have := List.all_eq_true.mp h (N - 1).toNat (List.mem_range.mpr (by omega))
  rwa [show (((N - 1).toNat + 1 : Nat) : Int) = N by omega] at this
theorem okN {p N : Int} (hp : pr p) (h0 : 1 ≤ N) (h1 : N ≤ 2 * p + 1) : chkN p N = true := by
  rcases hp with rfl | rfl | rfl | rfl | rfl | rfl | rfl | rfl
  · exact all_at n5 h0 h1
  · exact all_at n7 h0 h1
  · exact all_at n11 h0 h1
  · exact all_at n13 h0 h1
  · exact all_at n17 h0 h1
  · exact all_at n19 h0 h1
  · exact all_at n23 h0 h1
  · exact all_at n29 h0 h1
theorem okP {p N : Int} (hp : pr p) (h0 : 1 ≤ N) (h1 : N ≤ 2 * p + 1) : chkP p N = true := by
  rcases hp with rfl | rfl | rfl | rfl | rfl | rfl | rfl | rfl
  · exact all_at p5 h0 h1
  · exact all_at p7 h0 h1
  · exact all_at p11 h0 h1
  · exact all_at p13 h0 h1
  · exact all_at p17 h0 h1
  · exact all_at p19 h0 h1
  · exact all_at p23 h0 h1
  · exact all_at p29 h0 h1
theorem small_ok {i : Int} (h : small i = true) : i < 18446744073709551616 ∧ -18446744073709551616 < i := by
  unfold small at h
  rw [Bool.and_eq_true, decide_eq_true_iff, decide_eq_true_iff] at h
  exact h
theorem newton {p N : Int} (hp : pr p) (h0 : 1 ≤ N) (h1 : N ≤ 2 * p + 1) {k : Nat} (hk : k < 12) : nw (MB.count p (p + 1 - N)) (dv p N) (k + 1) k = MB.count p (p + 1 - N) (k + 1) ∧ MB.count p (p + 1 - N) (k + 1) < 18446744073709551616 ∧ -18446744073709551616 < MB.count p (p + 1 - N) (k + 1) := by
  have := List.all_eq_true.mp (okN hp h0 h1) k (List.mem_range.mpr hk)
  rw [Bool.and_eq_true, beq_iff_eq] at this
  exact ⟨this.1, small_ok this.2⟩
theorem getD_tab (n : Nat) (f : Nat → Int) {i : Nat} (h : i < n) : ((List.range n).map f).getD i 0 = f i := by
  rw [List.getD_eq_getElem?_getD, List.getElem?_map, List.getElem?_range h]
  rfl
theorem map_ext {n : Nat} {f g : Nat → Int} (h : ∀ i, i < n → f i = g i) : (List.range n).map f = (List.range n).map g :=
  List.map_congr_left fun i hi => h i (List.mem_range.mp hi)
theorem next_ok (c : Nat → Int) {d : Nat} (hd : d < 12) : nextL (d + 1) (c d) ((List.range 13).map (F c d)) = (List.range 13).map (F c (d + 1)) := by
  unfold nextL
  refine map_ext fun j hj => ?_
  have h1 : sm (d + 1) (fun i => ((List.range (12 / (d + 1) + 1)).map (wy (c d))).getD i 0) (fun i => ((List.range 13).map (F c d)).getD i 0) j (j / (d + 1) + 1) = sm (d + 1) (wy (c d)) (F c d) j (j / (d + 1) + 1) := by
    refine sm_congr _ (fun i hi hij => getD_tab _ _ ?_) fun i hi => getD_tab _ _ (by omega)
    have : i ≤ 12 / (d + 1) := (Nat.le_div_iff_mul_le (by omega)).mpr (by omega)
    omega
  show sm (d + 1) (fun i => ((List.range (12 / (d + 1) + 1)).map (wy (c d))).getD i 0) (fun i => ((List.range 13).map (F c d)).getD i 0) j (j / (d + 1) + 1) = _
  rw [h1]
  show _ = sm (d + 1) (wy (c d)) (F c d) j (j + 1)
  have hle : j / (d + 1) ≤ j := Nat.div_le_self _ _
  have := sm_stable (d := d + 1) (w := wy (c d)) (R := F c d) (j := j) (m := j / (d + 1) + 1) (j - j / (d + 1)) fun i hi => by
    apply Nat.not_le.mp
    intro z
    have := (Nat.le_div_iff_mul_le (show 0 < d + 1 by omega)).mpr z
    omega
  rw [← this]
  congr 1
  omega
theorem L0_ok (c : Nat → Int) : L0 = (List.range 13).map (F c 0) := rfl
theorem chkL_ok (c ds' : Nat → Int) : ∀ (k d : Nat), d + k = 12 → chkL c ((List.range 13).map ds') k d ((List.range 13).map (F c d)) = true →
    (∀ e, d ≤ e → e ≤ 12 → ∀ j, j ≤ e → F c e j = ds' j) ∧ ∀ e, d ≤ e → e < 12 → ∀ i, i * (e + 1) ≤ 12 → wy (c e) i < 18446744073709551616 ∧ -18446744073709551616 < wy (c e) i
  | 0, d, hd, h => by
    have hd' : d = 12 := by omega
    subst hd'
    refine ⟨fun e h1 h2 j hj => ?_, fun e h1 h2 => absurd h2 (by omega)⟩
    have : e = 12 := by omega
    subst this
    have := beq_iff_eq.mp (List.all_eq_true.mp h j (List.mem_range.mpr (by omega)))
    rwa [getD_tab _ _ (by omega), getD_tab _ _ (by omega)] at this
  | k + 1, d, hd, h => by
    have h' : (((List.range (d + 1)).all fun j => ((List.range 13).map (F c d)).getD j 0 == ((List.range 13).map ds').getD j 0) && small (c d) && ((List.range (12 / (d + 1) + 1)).all fun i => small (wy (c d) i)) && chkL c ((List.range 13).map ds') k (d + 1) (nextL (d + 1) (c d) ((List.range 13).map (F c d)))) = true := h
    rw [next_ok c (by omega), Bool.and_eq_true, Bool.and_eq_true, Bool.and_eq_true] at h'
    obtain ⟨⟨⟨q1, q2⟩, q3⟩, q4⟩ := h'
    have ih := chkL_ok c ds' k (d + 1) (by omega) q4
    refine ⟨fun e h1 h2 j hj => ?_, fun e h1 h2 i hi => ?_⟩
    · by_cases hde : e = d
      · subst hde
        have := beq_iff_eq.mp (List.all_eq_true.mp q1 j (List.mem_range.mpr (by omega)))
        rwa [getD_tab _ _ (by omega), getD_tab _ _ (by omega)] at this
      · exact ih.1 e (by omega) h2 j hj
    · by_cases hde : e = d
      · subst hde
        have hi' : i ≤ 12 / (e + 1) := (Nat.le_div_iff_mul_le (by omega)).mpr hi
        have := small_ok (List.all_eq_true.mp q3 i (List.mem_range.mpr (by omega)))
        exact this
      · exact ih.2 e (by omega) h2 i hi
theorem places_ok {p N : Int} (hp : pr p) (h0 : 1 ≤ N) (h1 : N ≤ 2 * p + 1) : (∀ e, e ≤ 12 → ∀ j, j ≤ e → F (plc p (p + 1 - N)) e j = dv p N j) ∧ ∀ e, e < 12 → ∀ i, i * (e + 1) ≤ 12 → wy (plc p (p + 1 - N) e) i < 18446744073709551616 ∧ -18446744073709551616 < wy (plc p (p + 1 - N) e) i := by
  have h : chkL (plc p (p + 1 - N)) ((List.range 13).map (dv p N)) 12 0 ((List.range 13).map (F (plc p (p + 1 - N)) 0)) = true := okP hp h0 h1
  have := chkL_ok _ _ 12 0 rfl h
  exact ⟨fun e he j hj => this.1 e (by omega) he j hj, fun e he i hi => this.2 e (by omega) he i hi⟩
theorem F_congr {c c' : Nat → Int} : ∀ d : Nat, (∀ i, i < d → c i = c' i) → ∀ j, F c d j = F c' d j
  | 0, _, _ => rfl
  | d + 1, h, j => by
    show sm (d + 1) (wy (c d)) (F c d) j (j + 1) = sm (d + 1) (wy (c' d)) (F c' d) j (j + 1)
    rw [h d (by omega)]
    exact sm_congr _ (fun _ _ _ => rfl) fun i _ => F_congr d (fun i hi => h i (by omega)) i
/-! ways, counted one place after the other -/
def cum (w : Nat → Int) : Nat → Int
  | 0 => 1
  | t + 1 => w (t + 1) + cum w t
def ch : Nat → Nat → Int
  | 0 => fun t => match t with
    | 0 => 1
    | _ + 1 => 0
  | c + 1 => cum (ch c)
theorem ch_zero (c : Nat) : ch c 0 = 1 := by cases c <;> rfl
theorem wy_ch_all : ((List.range 12).all fun c => (List.range 8).all fun t => wy (c : Nat) t == ch c t && decide (0 ≤ ch c t) && decide (ch c t < 100000)) = true := by decide +kernel
theorem wy_ch {c t : Nat} (hc : c < 12) (ht : t < 8) : wy (c : Nat) t = ch c t ∧ 0 ≤ ch c t ∧ ch c t < 100000 := by
  have := List.all_eq_true.mp (List.all_eq_true.mp wy_ch_all c (List.mem_range.mpr hc)) t (List.mem_range.mpr ht)
  rw [Bool.and_eq_true, Bool.and_eq_true, beq_iff_eq, decide_eq_true_iff, decide_eq_true_iff] at this
  exact ⟨this.1.1, this.1.2, this.2⟩
/-- all the ways with c places of degree d -/
def T (d : Nat) (R : Nat → Int) (c j : Nat) : Int := sm d (ch c) R j (j + 1)
theorem sm_shift {d : Nat} {w R : Nat → Int} {j : Nat} (hd : 0 < d) : ∀ m : Nat, sm d w R j (m + 1) = w 0 * R j + if d ≤ j then sm d (fun i => w (i + 1)) R (j - d) m else 0
  | 0 => by
    show (if 0 * d ≤ j then 0 + w 0 * R (j - 0 * d) else 0) = _
    rw [if_pos (by omega), Nat.zero_mul, Nat.sub_zero]
    split
    · show _ = w 0 * R j + 0; omega
    · omega
  | m + 1 => by
    show (if (m + 1) * d ≤ j then sm d w R j (m + 1) + w (m + 1) * R (j - (m + 1) * d) else sm d w R j (m + 1)) = _
    rw [sm_shift hd m]
    have e : (m + 1) * d = m * d + d := Nat.succ_mul m d
    by_cases h : d ≤ j
    · rw [if_pos h, if_pos h]
      show _ = w 0 * R j + if m * d ≤ j - d then sm d (fun i => w (i + 1)) R (j - d) m + w (m + 1) * R (j - d - m * d) else sm d (fun i => w (i + 1)) R (j - d) m
      by_cases h2 : m * d ≤ j - d
      · rw [if_pos h2, if_pos (by omega), show j - (m + 1) * d = j - d - m * d by omega]
        omega
      · rw [if_neg h2, if_neg (by omega)]
    · rw [if_neg h, if_neg h, if_neg (by omega)]
theorem T_zero {d : Nat} (hd : 0 < d) (R : Nat → Int) (j : Nat) : T d R 0 j = R j := by
  unfold T
  rw [sm_shift hd]
  have z : ∀ m, sm d (fun i => ch 0 (i + 1)) R (j - d) m = 0 := by
    intro m
    induction m with
    | zero => rfl
    | succ m ih =>
      show (if m * d ≤ j - d then sm d (fun i => ch 0 (i + 1)) R (j - d) m + 0 * R (j - d - m * d) else sm d (fun i => ch 0 (i + 1)) R (j - d) m) = 0
      rw [ih, Int.zero_mul]
      split <;> rfl
  rw [z, ch_zero, Int.one_mul]
  split <;> omega
theorem sm_add {d : Nat} {w w' R : Nat → Int} {j : Nat} : ∀ m : Nat, sm d (fun i => w i + w' i) R j m = sm d w R j m + sm d w' R j m
  | 0 => rfl
  | m + 1 => by
    show (if m * d ≤ j then sm d (fun i => w i + w' i) R j m + (w m + w' m) * R (j - m * d) else sm d (fun i => w i + w' i) R j m) = (if m * d ≤ j then sm d w R j m + w m * R (j - m * d) else sm d w R j m) + if m * d ≤ j then sm d w' R j m + w' m * R (j - m * d) else sm d w' R j m
    rw [sm_add m]
    split
    · rw [Int.add_mul]; omega
    · rfl
theorem T_succ {d : Nat} (hd : 0 < d) (R : Nat → Int) (c j : Nat) : T d R (c + 1) j = T d R c j + if d ≤ j then T d R (c + 1) (j - d) else 0 := by
  show sm d (ch (c + 1)) R j (j + 1) = sm d (ch c) R j (j + 1) + if d ≤ j then sm d (ch (c + 1)) R (j - d) (j - d + 1) else 0
  rw [sm_shift hd, sm_shift hd, ch_zero, ch_zero]
  by_cases h : d ≤ j
  · rw [if_pos h, if_pos h, if_pos h]
    have e : (fun i => ch (c + 1) (i + 1)) = fun i => (fun i => ch c (i + 1)) i + ch (c + 1) i := funext fun i => rfl
    rw [e, sm_add]
    have := sm_stable (d := d) (w := ch (c + 1)) (R := R) (j := j - d) (m := j - d + 1) (d - 1) fun i hi => by
      have := Nat.mul_le_mul hi (show 1 ≤ d from hd)
      omega
    rw [show j - d + 1 + (d - 1) = j by omega] at this
    rw [this]
    omega
  · rw [if_neg h, if_neg h, if_neg h]
    omega
theorem T_bd {d : Nat} {R : Nat → Int} {j : Nat} (c : Nat) : True := trivial
/-- F by ch -/
theorem F_T {c : Nat → Int} {cn : Nat → Nat} (h : ∀ i, i < 7 → c i = (cn i : Int)) (h2 : ∀ i, i < 7 → cn i < 12) {d j : Nat} (hd : d < 7) (hj : j < 8) : F c (d + 1) j = T (d + 1) (F c d) (cn d) j := by
  show sm (d + 1) (wy (c d)) (F c d) j (j + 1) = sm (d + 1) (ch (cn d)) (F c d) j (j + 1)
  refine sm_congr _ (fun i hi _ => ?_) fun _ _ => rfl
  rw [h d hd]
  exact (wy_ch (h2 d hd) (by omega)).1
end MZ
namespace DL
open PySem L2
theorem tab_set {n i : Nat} {f : Nat → Int} {v : Int} : (dints (tab n f)).set i (.int v) = dints (tab n fun j => if j = i then v else f j) := by
  apply List.ext_getElem?
  intro k
  rw [List.getElem?_set]
  by_cases hk : k < n
  · rw [tab_get (f := fun j => if j = i then v else f j) hk]
    by_cases h : i = k
    · subst h
      rw [if_pos rfl, if_pos (by rw [dtab_len]; exact hk)]
      show _ = some (PyData.int (if i = i then v else f i))
      rw [if_pos rfl]
    · rw [if_neg h, tab_get hk]
      show _ = some (PyData.int (if k = i then v else f k))
      rw [if_neg (Ne.symm h)]
  · rw [List.getElem?_eq_none (l := dints (tab n fun j => if j = i then v else f j)) (by rw [dtab_len]; omega), List.getElem?_eq_none (l := dints (tab n f)) (by rw [dtab_len]; omega)]
    split
    · rw [if_neg (by rw [dtab_len]; omega)]
    · rfl
theorem tab_ext {n : Nat} {f g : Nat → Int} (h : ∀ i, i < n → f i = g i) : dints (tab n f) = dints (tab n g) := congrArg dints (MZ.map_ext h)
theorem zeros_tab (n : Nat) : (List.replicate n [PyData.int 0]).flatten = dints (tab n fun _ => 0) := by
  rw [rep_zero]
  congr 1
  induction n with
  | zero => rfl
  | succ n ih =>
    rw [List.replicate_succ', ih]
    unfold tab
    rw [List.range_succ, List.map_append]
    rfl
end DL
namespace G
open PySem L2 DL
def topS (i : Nat) : Stmt := PySem.Challenge.pw_curvetally_k78_whole_divisors.main.body.getD i (.Pass ⟨0, 0, 0, 0⟩)
abbrev okH : List D → Prop := okF3
section
variable {P : Program} {w : World} {K : PySem.W.Frag} {mg : Str → Option Value} {base : Heap}
/-! ### common -/
abbrev s_common : Stmt := topS 1
theorem sc_common : FnScope ["x", "y"] ["x", "y"] (defScope s_common) := ⟨rfl, rfl, rfl, by decide +kernel, rfl, by decide +kernel, by decide +kernel⟩
/-- common(x, y): the greatest common divisor -/
def M_common : WM := fun as Q => ∃ x y : Int, as = [.v (.int x), .v (.int y)] ∧ Q (.v (.int (Int.gcd x y)))

def w_common : WS := (wSeq (wSet 0 (wUn fAbs (wVar 0)))
 (wSeq (wSet 1 (wUn fAbs (wVar 1)))
 (wSeq (wWhile (wTest (wBin fGt (wVar 1) (wC (.int 0))))
 (wPar 0 1 (wCons (wVar 1) (wCons (wBin fMod (wVar 0) (wVar 1)) wNil))))
 (wRet (wVar 0)))))
theorem mf_common : ∀ as Q, as.length = 2 → M_common as Q → w_common { nx := fun _ => Q (.v .none), rt := Q } (stE as 0) := by
  rintro as Q _ ⟨x, y, rfl, hq⟩
  have ab : ∀ z : Int, (if z < 0 then -z else z) = (z.natAbs : Int) := fun z => by split <;> omega
  let I : Nat → EnvD → Prop := fun k env => ∃ a b : Nat, env = [some (.v (.int a)), some (.v (.int b))] ∧ k = b ∧ Nat.gcd a b = Int.gcd x y
  refine ⟨I, ⟨y.natAbs, x.natAbs, y.natAbs, ?_, rfl, rfl⟩, fun k env hI => ?_⟩
  · rw [← ab x, ← ab y]
    rfl
  obtain ⟨a, b, rfl, rfl, e⟩ := hI
  refine ⟨fun h => ?_, fun h => ?_⟩
  · have hb : (0 : Int) < k := of_decide_eq_true h
    refine ⟨fun e => ∃ m', m' < k ∧ I m' e, fun _ z => z, ?_⟩
    refine ⟨hb, ?_⟩
    refine ⟨a % k, Nat.mod_lt _ (by omega), k, a % k, ?_, rfl, ?_⟩
    · rw [Int.natCast_emod]
      rfl
    · rw [← e, Nat.gcd_comm a k, Nat.gcd_rec k a, Nat.gcd_comm]
  · have hb : ¬ (0 : Int) < k := of_decide_eq_false h
    have e0 : k = 0 := by omega
    subst e0
    rw [Nat.gcd_zero_right] at e
    show Q (.v (.int (a : Int)))
    rw [e]
    exact hq

theorem ok_common {f : Addr} {fd : FuncData} (F : Fun K "common" "common" s_common f fd)  (m_abs : mg "abs" = none)  : FnOk P w K mg base CX0 1 f fd ["x", "y"] (SpD K okH 2 M_common) :=
  def_ok F sc_common rfl (fun cdv A outer s H E hr =>
 (s_cons (s_set 0 sc_common.nd (d_abs m_abs (d_var 0)))
 (s_cons (s_set 1 sc_common.nd (d_abs m_abs (d_var 1)))
 (s_cons (s_while PassesOwn.never (t_gt (d_var 1) d_int)
 (s_one (s_par 0 1 rfl sc_common.nd (by decide) (a_cons (d_var 1) (a_cons (d_mod (d_var 0) (d_var 1)) a_nil)))))
 (s_one (s_ret (d_var 0))))))) mf_common
/-! ### divisors -/
abbrev s_divisors : Stmt := topS 3
theorem sc_divisors : FnScope ["p", "number", "most", "rows", "total", "size", "_"] ["p", "number", "most"] (defScope s_divisors) := ⟨rfl, rfl, rfl, by decide +kernel, rfl, by decide +kernel, by decide +kernel⟩
def M_divisors : WM := fun as Q => ∃ (p N : Int) (n : Nat), as = [.v (.int p), .v (.int N), .v (.int n)] ∧ -(2 ^ 60) < p ∧ p < 2 ^ 60 ∧ -(2 ^ 60) < N ∧ N < 2 ^ 60 ∧ n < 1000 ∧ Q (.own (dints (tab (n + 1) (MZ.dv p N))))

def w_divisors : WS := (wSeq (wSetO 3 (wLstP (wCons (wC (.int 1)) wNil)))
 (wSeq (wSet 4 (wC (.int 1)))
 (wSeq (wSet 5 (wC (.int 1)))
 (wSeq (wFor (iR1 (wVar 2)) (gN 6)
 (wSeq (wApp 3 (wBin fMul (wVar 1) (wVar 4)))
 (wSeq (wSet 5 (wBin fMul (wVar 5) (wVar 0)))
 (wSet 4 (wBin fAdd (wVar 4) (wVar 5))))))
 (wRetV 3)))))
theorem mf_divisors : ∀ as Q, as.length = 3 → M_divisors as Q → w_divisors { nx := fun _ => Q (.v .none), rt := Q } (stE as 4) := by
  rintro as Q _ ⟨p, N, n, rfl, p0, p1, N0, N1, n1, hq⟩
  have cp : ∀ z, CMul z p := fun z => .inr ⟨by omega, by omega⟩
  have cN : ∀ z, CMul N z := fun z => .inl ⟨by omega, by omega⟩
  refine ⟨rfl, lk rfl, ⟨by omega, by omega⟩, fun k env => ∃ t6, env = [some (.v (.int p)), some (.v (.int N)), some (.v (.int n)), some (.own (dints (tab (k + 1) (MZ.dv p N)))), some (.v (.int (MZ.tt p k))), some (.v (.int (p ^ k))), t6], ⟨none, by rw [Int.pow_zero]; rfl⟩, ?_, ?_⟩
  · rintro i d env hd ⟨t6, rfl⟩
    obtain ⟨hi, rfl⟩ := rng_at hd
    refine ⟨cN _, by rw [dtab_len]; omega, cp _, some (.v (.int (0 + (i : Int)))), ?_⟩
    rw [tab_succ (i + 1), show MZ.tt p (i + 1) = MZ.tt p i + p ^ i * p by show MZ.tt p i + p ^ (i + 1) = _; rw [Int.pow_succ], Int.pow_succ]
    rfl
  · rintro env ⟨t6, rfl⟩
    rw [rng_len]
    exact hq

theorem ok_divisors {f : Addr} {fd : FuncData} (F : Fun K "divisors" "divisors" s_divisors f fd)  (m_range : mg "range" = none)  : FnOk P w K mg base CX0 1 f fd ["p", "number", "most"] (SpD K okH 3 M_divisors) :=
  def_ok F sc_divisors rfl (fun cdv A outer s H E hr =>
 (s_cons (s_setO 3 sc_divisors.nd (l_lst (a_cons d_int a_nil)))
 (s_cons (s_set 4 sc_divisors.nd d_int)
 (s_cons (s_set 5 sc_divisors.nd d_int)
 (s_cons (s_for (vs := [6]) PassesOwn.never rfl (i_r1 m_range (d_var 2)) (g_name 6 sc_divisors.nd)
 (s_cons (s_app 3 (d_mul (d_var 1) (d_var 4)))
 (s_cons (s_set 5 sc_divisors.nd (d_mul (d_var 5) (d_var 0)))
 (s_one (s_set 4 sc_divisors.nd (d_add (d_var 4) (d_var 5)))))))
 (s_one (s_retV 3))))))) mf_divisors
/-! ### from_places -/
abbrev s_from_places : Stmt := topS 4
theorem sc_from_places : FnScope ["counts", "most", "rows", "degree", "taken", "ways", "times", "k"] ["counts", "most"] (defScope s_from_places) := ⟨rfl, rfl, rfl, by decide +kernel, rfl, by decide +kernel, by decide +kernel⟩
def M_from_places : WM := fun as Q => ∃ (cs : List Int) (n : Nat), as = [.v (.list (dints cs)), .v (.int n)] ∧ n ≤ cs.length ∧ n ≤ 1000 ∧ (∀ d, d < n → ∀ i, i * (d + 1) ≤ n → MZ.wy (cs.getD d 0) i < 18446744073709551616 ∧ -18446744073709551616 < MZ.wy (cs.getD d 0) i) ∧ Q (.v (.list (dints (tab (n + 1) (MZ.F (fun i => cs.getD i 0) n)))))

def w_from_places_L9 : WS := (wSeq (wSet 6 (wBin fAdd (wVar 6) (wC (.int 1))))
 (wSet 5 (wBin fDiv (wBin fMul (wVar 5) (wBin fSub (wBin fAdd (wIx (wVar 0) (wBin fSub (wVar 3) (wC (.int 1)))) (wVar 6)) (wC (.int 1)))) (wVar 6))))
def w_from_places_L11 : WS := (wFrz 4 (wSet 2 (wVar 4)))
def w_from_places_L12 : WS := (wRet (wVar 2))
def w_from_places : WS := (wSeq (wSet 2 (wFz (wCat (wFz (wLstP (wCons (wC (.int 1)) wNil))) (wFz (wRep (wFz (wLstP (wCons (wC (.int 0)) wNil))) (wVar 1))))))
 (wSeq (wFor (iR2 (wC (.int 1)) (wBin fAdd (wVar 1) (wC (.int 1)))) (gN 3)
 (wSeq (wSetO 4 (wRep (wFz (wLstP (wCons (wC (.int 0)) wNil))) (wBin fAdd (wVar 1) (wC (.int 1)))))
 (wSeq (wSet 5 (wC (.int 1)))
 (wSeq (wSet 6 (wC (.int 0)))
 (wSeq (wWhile (wTest (wBin fLe (wBin fMul (wVar 6) (wVar 3)) (wVar 1)))
 (wSeq (wFor (iR1 (wBin fSub (wBin fAdd (wVar 1) (wC (.int 1))) (wBin fMul (wVar 6) (wVar 3)))) (gN 7)
 (wPut 4 (wBin fAdd (wVar 7) (wBin fMul (wVar 6) (wVar 3))) (wBin fAdd (wIx (wBor 4) (wBin fAdd (wVar 7) (wBin fMul (wVar 6) (wVar 3)))) (wBin fMul (wVar 5) (wIx (wVar 2) (wVar 7))))))
 w_from_places_L9))
 w_from_places_L11)))))
 w_from_places_L12))
theorem mf_from_places_end {W : WEnds} {cs : List Int} {n i k : Nat} {t7 : Option Sl} {f : Nat → Int} {R : Nat → Int} {x : Int} (hx : cs[i]? = some x) (hk : k ≤ 1000) (hw : MZ.wy x k < 18446744073709551616 ∧ -18446744073709551616 < MZ.wy x k)
    (h : W.nx [some (.v (.list (dints cs))), some (.v (.int n)), some (.v (.list (dints (tab (n + 1) R)))), some (.v (.int (1 + (i : Int)))), some (.own (dints (tab (n + 1) f))), some (.v (.int (MZ.wy x (k + 1)))), some (.v (.int ((k + 1 : Nat) : Int))), t7]) :
    w_from_places_L9 W [some (.v (.list (dints cs))), some (.v (.int n)), some (.v (.list (dints (tab (n + 1) R)))), some (.v (.int (1 + (i : Int)))), some (.own (dints (tab (n + 1) f))), some (.v (.int (MZ.wy x k))), some (.v (.int (k : Int))), t7] := by
  refine ⟨.int x, atI_nats (i := i) (by omega) (by rw [List.getElem?_map, hx]; rfl), .inl ⟨by omega, by omega⟩, div200 (by omega) (by omega) _, h⟩
theorem mf_from_places : ∀ as Q, as.length = 2 → M_from_places as Q → w_from_places { nx := fun _ => Q (.v .none), rt := Q } (stE as 6) := by
  rintro as Q _ ⟨cs, n, rfl, ncs, n1, hb, hq⟩
  have l0 : ∀ (f : Nat → Int), (dints (tab (n + 1) f)).length = n + 1 := fun f => dtab_len _ _
  refine ⟨rfl, lk rfl, rfl, lk rfl, by omega, by omega, by show 1 * _ < _; omega, ?_, ?_⟩
  · show 1 + (List.replicate n [PyData.int 0]).flatten.length < 1000000
    rw [zeros_tab, dtab_len]
    omega
  refine ⟨⟨by decide, by decide, by omega, by omega⟩, fun i env => ∃ t3 t4 t5 t6 t7, env = [some (.v (.list (dints cs))), some (.v (.int n)), some (.v (.list (dints (tab (n + 1) (MZ.F (fun i => cs.getD i 0) i))))), t3, t4, t5, t6, t7], ⟨none, none, none, none, none, ?_⟩, ?_, ?_⟩
  · show [_, _, some (Sl.v (.list ([PyData.int 1] ++ (List.replicate n [PyData.int 0]).flatten))), _, _, _, _, _] = _
    rw [zeros_tab]
    have : [PyData.int 1] ++ dints (tab n fun _ => 0) = dints (tab (n + 1) (MZ.F (fun i => cs.getD i 0) 0)) := by
      unfold tab
      rw [List.range_succ_eq_map, List.map_cons, List.map_map]
      rfl
    rw [this]
  · rintro i d env hd ⟨t3, t4, t5, t6, t7, rfl⟩
    obtain ⟨hi, rfl⟩ := rng_at hd
    have hi' : i < n := by omega
    obtain ⟨x, hx⟩ : ∃ x, cs[i]? = some x := ⟨cs[i], List.getElem?_eq_getElem (by omega)⟩
    have hxd : cs.getD i 0 = x := by rw [List.getD_eq_getElem?_getD, hx]; rfl
    have hb' := hb i hi'
    rw [hxd] at hb'
    refine ⟨rfl, lk rfl, by omega, by omega, by show 1 * _ < _; omega, ?_⟩
    refine ⟨fun m env => ∃ (k : Nat) (t7 : Option Sl), m = n + 1 - k ∧ k ≤ n + 1 ∧ env = [some (.v (.list (dints cs))), some (.v (.int n)), some (.v (.list (dints (tab (n + 1) (MZ.F (fun i => cs.getD i 0) i))))), some (.v (.int (1 + (i : Int)))), some (.own (dints (tab (n + 1) fun j => MZ.sm (i + 1) (MZ.wy x) (MZ.F (fun i => cs.getD i 0) i) j k))), some (.v (.int (MZ.wy x k))), some (.v (.int (k : Int))), t7], ⟨n + 1, 0, t7, rfl, by omega, ?_⟩, ?_⟩
    · show [_, _, _, _, some (Sl.own (List.replicate ((n : Int) + 1).toNat [PyData.int 0]).flatten), _, _, _] = _
      rw [zeros_tab]
      rfl
    rintro m env ⟨k, t7, rfl, hk, rfl⟩
    have ck : CMul (k : Int) (1 + (i : Int)) := .inl ⟨by omega, by omega⟩
    have ek : (k : Int) * (1 + (i : Int)) = ((k * (i + 1) : Nat) : Int) := by
      rw [Int.natCast_mul, show (((i + 1 : Nat)) : Int) = 1 + (i : Int) by omega]
    refine ⟨ck, fun h => ?_, fun h => ?_⟩
    · have h' : (k : Int) * (1 + (i : Int)) ≤ n := of_decide_eq_true h
      rw [ek] at h'
      have h2 : k * (i + 1) ≤ n := by omega
      have kle : k ≤ k * (i + 1) := Nat.le_mul_of_pos_right _ (by omega)
      have bw := hb' k h2
      refine ⟨fun e => ∃ m', m' < n + 1 - k ∧ ∃ (k : Nat) (t7 : Option Sl), m' = n + 1 - k ∧ k ≤ n + 1 ∧ e = [some (.v (.list (dints cs))), some (.v (.int n)), some (.v (.list (dints (tab (n + 1) (MZ.F (fun i => cs.getD i 0) i))))), some (.v (.int (1 + (i : Int)))), some (.own (dints (tab (n + 1) fun j => MZ.sm (i + 1) (MZ.wy x) (MZ.F (fun i => cs.getD i 0) i) j k))), some (.v (.int (MZ.wy x k))), some (.v (.int (k : Int))), t7], fun _ z => z, ?_⟩
      let G : Nat → Nat → Int := fun q j => if j < k * (i + 1) + q then MZ.sm (i + 1) (MZ.wy x) (MZ.F (fun i => cs.getD i 0) i) j (k + 1) else MZ.sm (i + 1) (MZ.wy x) (MZ.F (fun i => cs.getD i 0) i) j k
      refine ⟨ck, ?_⟩
      refine ⟨by rw [ek]; omega, fun q env => ∃ t7, env = [some (.v (.list (dints cs))), some (.v (.int n)), some (.v (.list (dints (tab (n + 1) (MZ.F (fun i => cs.getD i 0) i))))), some (.v (.int (1 + (i : Int)))), some (.own (dints (tab (n + 1) (G q)))), some (.v (.int (MZ.wy x k))), some (.v (.int (k : Int))), t7], ⟨t7, ?_⟩, ?_, ?_⟩
      · have : dints (tab (n + 1) (G 0)) = dints (tab (n + 1) fun j => MZ.sm (i + 1) (MZ.wy x) (MZ.F (fun i => cs.getD i 0) i) j k) := tab_ext fun j hj => by
          show (if j < k * (i + 1) + 0 then MZ.sm (i + 1) (MZ.wy x) (MZ.F (fun i => cs.getD i 0) i) j (k + 1) else _) = _
          by_cases hjk : j < k * (i + 1) + 0
          · rw [if_pos hjk]
            exact if_neg (by omega)
          · rw [if_neg hjk]
        rw [this]
      · rintro q d env hd ⟨t7, rfl⟩
        obtain ⟨hq', rfl⟩ := rng_at hd
        rw [ek] at hq'
        have hq2 : q + k * (i + 1) < n + 1 := by omega
        have eq1 : (0 : Int) + (q : Int) + (k : Int) * (1 + (i : Int)) = ((q + k * (i + 1) : Nat) : Int) := by rw [ek]; omega
        refine ⟨ck, _, tab_atI (i := q + k * (i + 1)) eq1 hq2, _, tab_atI (i := q) (by omega) (by omega), .inl ⟨by omega, by omega⟩, ck, q + k * (i + 1), ixN_nat eq1 (by rw [l0]; exact hq2), some (.v (.int (0 + (q : Int)))), ?_⟩
        show [_, _, _, _, some (Sl.own ((dints (tab (n + 1) (G q))).set (q + k * (i + 1)) (.int (G q (q + k * (i + 1)) + MZ.wy x k * MZ.F (fun i => cs.getD i 0) i q)))), _, _, _] = _
        rw [tab_set]
        have : dints (tab (n + 1) fun j => if j = q + k * (i + 1) then G q (q + k * (i + 1)) + MZ.wy x k * MZ.F (fun i => cs.getD i 0) i q else G q j) = dints (tab (n + 1) (G (q + 1))) := tab_ext fun j hj => by
          show _ = if j < k * (i + 1) + (q + 1) then MZ.sm (i + 1) (MZ.wy x) (MZ.F (fun i => cs.getD i 0) i) j (k + 1) else MZ.sm (i + 1) (MZ.wy x) (MZ.F (fun i => cs.getD i 0) i) j k
          by_cases e : j = q + k * (i + 1)
          · rw [if_pos e, if_pos (by omega)]
            subst e
            show (if q + k * (i + 1) < k * (i + 1) + q then _ else MZ.sm (i + 1) (MZ.wy x) (MZ.F (fun i => cs.getD i 0) i) (q + k * (i + 1)) k) + _ = if k * (i + 1) ≤ q + k * (i + 1) then MZ.sm (i + 1) (MZ.wy x) (MZ.F (fun i => cs.getD i 0) i) (q + k * (i + 1)) k + MZ.wy x k * MZ.F (fun i => cs.getD i 0) i (q + k * (i + 1) - k * (i + 1)) else _
            rw [if_neg (by omega), if_pos (by omega), show q + k * (i + 1) - k * (i + 1) = q by omega]
          · rw [if_neg e]
            show (if j < k * (i + 1) + q then _ else _) = _
            by_cases hj2 : j < k * (i + 1) + q
            · rw [if_pos hj2, if_pos (by omega)]
            · rw [if_neg hj2, if_neg (by omega)]
        rw [this]
      · rintro env ⟨t7, rfl⟩
        rw [rng_len, ek]
        have : dints (tab (n + 1) (G ((n : Int) + 1 - ((k * (i + 1) : Nat) : Int)).toNat)) = dints (tab (n + 1) fun j => MZ.sm (i + 1) (MZ.wy x) (MZ.F (fun i => cs.getD i 0) i) j (k + 1)) := tab_ext fun j hj => by
          show (if j < k * (i + 1) + ((n : Int) + 1 - ((k * (i + 1) : Nat) : Int)).toNat then _ else _) = _
          rw [if_pos (by omega)]
        rw [this]
        exact mf_from_places_end hx (by omega) bw ⟨n - k, by omega, k + 1, t7, by omega, by omega, rfl⟩
    · have h' : ¬ (k : Int) * (1 + (i : Int)) ≤ n := of_decide_eq_false h
      rw [ek] at h'
      have h2 : ¬ k * (i + 1) ≤ n := by omega
      have : dints (tab (n + 1) fun j => MZ.sm (i + 1) (MZ.wy x) (MZ.F (fun i => cs.getD i 0) i) j k) = dints (tab (n + 1) (MZ.F (fun i => cs.getD i 0) (i + 1))) := tab_ext fun j hj => by
        show _ = MZ.sm (i + 1) (MZ.wy (cs.getD i 0)) (MZ.F (fun i => cs.getD i 0) i) j (j + 1)
        rw [hxd]
        have s1 := MZ.sm_stable (d := i + 1) (w := MZ.wy x) (R := MZ.F (fun i => cs.getD i 0) i) (j := j) (m := k) (n + 1) fun q hq' => by
          have := Nat.mul_le_mul_right (i + 1) hq'
          omega
        have s2 := MZ.sm_stable (d := i + 1) (w := MZ.wy x) (R := MZ.F (fun i => cs.getD i 0) i) (j := j) (m := j + 1) (k + n - j) fun q hq' => by
          have := Nat.mul_le_mul hq' (show 1 ≤ i + 1 by omega)
          omega
        rw [show k + (n + 1) = j + 1 + (k + n - j) by omega] at s1
        rw [← s1, s2]
      refine onNx ?_
      refine ⟨some (.v (.int (1 + (i : Int)))), some (.v (.list (dints (tab (n + 1) (MZ.F (fun i => cs.getD i 0) (i + 1)))))), some (.v (.int (MZ.wy x k))), some (.v (.int k)), t7, ?_⟩
      rw [← this]
      rfl
  · rintro env ⟨t3, t4, t5, t6, t7, rfl⟩
    rw [rng_len, show ((n : Int) + 1 - 1).toNat = n by omega]
    exact hq

theorem ok_from_places {f : Addr} {fd : FuncData} (F : Fun K "from_places" "from_places" s_from_places f fd)  (m_range : mg "range" = none)  : FnOk P w K mg base CX0 1 f fd ["counts", "most"] (SpD K okH 2 M_from_places) :=
  def_ok F sc_from_places rfl (fun cdv A outer s H E hr =>
 (s_cons (s_set 2 sc_from_places.nd (d_fz (l_cat (d_b (d_fz (l_lst (a_cons d_int a_nil)))) (d_b (d_fz (l_rep (d_b (d_fz (l_lst (a_cons d_int a_nil)))) (d_var 1)))))))
 (s_cons (s_for (vs := [3]) PassesOwn.never rfl (i_r2 m_range d_int (d_add (d_var 1) d_int)) (g_name 3 sc_from_places.nd)
 (s_cons (s_setO 4 sc_from_places.nd (l_rep (d_b (d_fz (l_lst (a_cons d_int a_nil)))) (d_add (d_var 1) d_int)))
 (s_cons (s_set 5 sc_from_places.nd d_int)
 (s_cons (s_set 6 sc_from_places.nd d_int)
 (s_cons (s_while PassesOwn.never (t_le (d_mul (d_var 6) (d_var 3)) (d_var 1))
 (s_cons (s_for (vs := [7]) PassesOwn.never rfl (i_r1 m_range (d_sub (d_add (d_var 1) d_int) (d_mul (d_var 6) (d_var 3)))) (g_name 7 sc_from_places.nd)
 (s_one (s_put 4 (d_add (d_ix (d_bor 4) (d_add (d_var 7) (d_mul (d_var 6) (d_var 3)))) (d_mul (d_var 5) (d_ix (d_b (d_var 2)) (d_var 7)))) (d_add (d_var 7) (d_mul (d_var 6) (d_var 3))))))
 (s_cons (s_set 6 sc_from_places.nd (d_add (d_var 6) d_int))
 (s_one (s_set 5 sc_from_places.nd (d_div (d_mul (d_var 5) (d_sub (d_add (d_ix (d_b (d_var 0)) (d_sub (d_var 3) d_int)) (d_var 6)) d_int)) (d_var 6)))))))
 (s_one (s_frz 4 (s_set 2 sc_from_places.nd (d_var 4)))))))))
 (s_one (s_ret (d_var 2)))))) mf_from_places
/-! ### fraction_at -/
abbrev s_fraction_at : Stmt := topS 5
theorem sc_fraction_at : FnScope ["p", "number", "top", "bottom", "trace", "above", "below", "part"] ["p", "number", "top", "bottom"] (defScope s_fraction_at) := ⟨rfl, rfl, rfl, by decide +kernel, rfl, by decide +kernel, by decide +kernel⟩
def frA (p t x y : Int) : Int := y * y - t * x * y + p * x * x
def frB (p x y : Int) : Int := (y - x) * (y - p * x)
def frN (p t x y : Int) : Int := if frB p x y < 0 then -frA p t x y else frA p t x y
def frD (p x y : Int) : Int := if frB p x y < 0 then -frB p x y else frB p x y
def frQ (p t x y : Int) : D := if frB p x y = 0 then .none else .tuple [.int (frN p t x y / (Int.gcd (frN p t x y) (frD p x y) : Nat)), .int (frD p x y / (Int.gcd (frN p t x y) (frD p x y) : Nat))]
def M_fraction_at : WM := fun as Q => ∃ p N x y : Int, as = [.v (.int p), .v (.int N), .v (.int x), .v (.int y)] ∧ -(2 ^ 20) < p ∧ p < 2 ^ 20 ∧ -(2 ^ 20) < p + 1 - N ∧ p + 1 - N < 2 ^ 20 ∧ -(2 ^ 20) < x ∧ x < 2 ^ 20 ∧ -(2 ^ 20) < y ∧ y < 2 ^ 20 ∧ (-(2 ^ 60) < frD p x y ∧ frD p x y < 2 ^ 60) ∧ ∀ d, d = frQ p (p + 1 - N) x y → Q (.v d)

def w_fraction_at_L8 : WS := (wSeq (wSet 7 (wCallP 2 M_common (wCons (wVar 5) (wCons (wVar 6) wNil))))
 (wRet (wTupP (wCons (wBin fDiv (wVar 5) (wVar 7)) (wCons (wBin fDiv (wVar 6) (wVar 7)) wNil)))))
def w_fraction_at_L6 : WS := (wSeq (wIf (wTest (wBin fLt (wVar 6) (wC (.int 0))))
 (wPar 5 6 (wCons (wUn fNeg (wVar 5)) (wCons (wUn fNeg (wVar 6)) wNil)))
 wNx)
 w_fraction_at_L8)
def w_fraction_at : WS := (wSeq (wSet 4 (wBin fSub (wBin fAdd (wVar 0) (wC (.int 1))) (wVar 1)))
 (wSeq (wSet 5 (wBin fAdd (wBin fSub (wBin fMul (wVar 3) (wVar 3)) (wBin fMul (wBin fMul (wVar 4) (wVar 2)) (wVar 3))) (wBin fMul (wBin fMul (wVar 0) (wVar 2)) (wVar 2))))
 (wSeq (wSet 6 (wBin fMul (wBin fSub (wVar 3) (wVar 2)) (wBin fSub (wVar 3) (wBin fMul (wVar 0) (wVar 2)))))
 (wSeq (wIf (wTest (wBin fEq (wVar 6) (wC (.int 0))))
 (wRet (wC .none))
 wNx)
 w_fraction_at_L6))))
theorem fr_gcd {n d : Int} (h : 0 < d) (h2 : d < 2 ^ 60) : 0 < ((Int.gcd n d : Nat) : Int) ∧ ((Int.gcd n d : Nat) : Int) < 2 ^ 61 := by
  have h1 : 0 < Int.gcd n d := Int.gcd_pos_of_ne_zero_right n (by omega)
  have h3 := Int.le_of_dvd h (Int.gcd_dvd_right n d)
  omega
theorem mf_fraction_end {W : WEnds} {p N x y t n d : Int} {t7 : Option Sl} (d0 : 0 < d) (d1 : d < 2 ^ 60) (h : W.rt (.v (.tuple [.int (n / (Int.gcd n d : Nat)), .int (d / (Int.gcd n d : Nat))]))) :
    w_fraction_at_L8 W [some (.v (.int p)), some (.v (.int N)), some (.v (.int x)), some (.v (.int y)), some (.v (.int t)), some (.v (.int n)), some (.v (.int d)), t7] := by
  obtain ⟨g0, g1⟩ := fr_gcd (n := n) d0 d1
  exact ⟨rfl, rfl, n, d, rfl, div200 (by omega) (by omega) _, div200 (by omega) (by omega) _, rfl, lk rfl, h⟩
theorem mf_fraction_at : ∀ as Q, as.length = 4 → M_fraction_at as Q → w_fraction_at { nx := fun _ => Q (.v .none), rt := Q } (stE as 4) := by
  rintro as Q _ ⟨p, N, x, y, rfl, p0, p1, t0, t1, x0, x1, y0, y1, hd, hq⟩
  have hq := hq _ rfl
  have cp : ∀ z, CMul p z := fun z => .inl ⟨by omega, by omega⟩
  have ct : ∀ z, CMul (p + 1 - N) z := fun z => .inl ⟨by omega, by omega⟩
  have cx : ∀ z, CMul z x := fun z => .inr ⟨by omega, by omega⟩
  have cy : ∀ z, CMul z y := fun z => .inr ⟨by omega, by omega⟩
  refine ⟨cy _, ct _, cy _, cp _, cx _, cp _, .inl ⟨by omega, by omega⟩, fun h => ?_, fun h => ?_⟩
  · have hz : frB p x y = 0 := of_decide_eq_true h
    have : frQ p (p + 1 - N) x y = .none := if_pos hz
    rw [this] at hq
    exact hq
  · have hz : ¬ frB p x y = 0 := of_decide_eq_false h
    have e : frQ p (p + 1 - N) x y = .tuple [.int (frN p (p + 1 - N) x y / (Int.gcd (frN p (p + 1 - N) x y) (frD p x y) : Nat)), .int (frD p x y / (Int.gcd (frN p (p + 1 - N) x y) (frD p x y) : Nat))] := if_neg hz
    rw [e] at hq
    refine ⟨fun h => ?_, fun h => ?_⟩
    · have hl : frB p x y < 0 := of_decide_eq_true h
      have e1 : frN p (p + 1 - N) x y = -frA p (p + 1 - N) x y := if_pos hl
      have e2 : frD p x y = -frB p x y := if_pos hl
      rw [e1, e2] at hq
      rw [e2] at hd
      exact mf_fraction_end (t7 := none) (n := -frA p (p + 1 - N) x y) (d := -frB p x y) (by omega) (by omega) hq
    · have hl : ¬ frB p x y < 0 := of_decide_eq_false h
      have e1 : frN p (p + 1 - N) x y = frA p (p + 1 - N) x y := if_neg hl
      have e2 : frD p x y = frB p x y := if_neg hl
      rw [e1, e2] at hq
      rw [e2] at hd
      exact mf_fraction_end (t7 := none) (n := frA p (p + 1 - N) x y) (d := frB p x y) (by omega) (by omega) hq

theorem ok_fraction_at {f : Addr} {fd : FuncData} (F : Fun K "fraction_at" "fraction_at" s_fraction_at f fd) (h_common : Has P w K mg base okH 1 "common" 2 M_common)   : FnOk P w K mg base CX0 2 f fd ["p", "number", "top", "bottom"] (SpD K okH 4 M_fraction_at) :=
  def_ok F sc_fraction_at rfl (fun cdv A outer s H E hr =>
 (s_cons (s_set 4 sc_fraction_at.nd (d_sub (d_add (d_var 0) d_int) (d_var 1)))
 (s_cons (s_set 5 sc_fraction_at.nd (d_add (d_sub (d_mul (d_var 3) (d_var 3)) (d_mul (d_mul (d_var 4) (d_var 2)) (d_var 3))) (d_mul (d_mul (d_var 0) (d_var 2)) (d_var 2))))
 (s_cons (s_set 6 sc_fraction_at.nd (d_mul (d_sub (d_var 3) (d_var 2)) (d_sub (d_var 3) (d_mul (d_var 0) (d_var 2)))))
 (s_cons (s_if (t_eq hr (d_var 6) d_int)
 (s_one (s_ret d_non))
 s_nil)
 (s_cons (s_if (t_lt (d_var 6) d_int)
 (s_one (s_par 5 6 rfl sc_fraction_at.nd (by decide) (a_cons (d_neg (d_var 5)) (a_cons (d_neg (d_var 6)) a_nil))))
 s_nil)
 (s_cons (s_set 7 sc_fraction_at.nd (d_call h_common hr (by decide) (a_cons (d_var 5) (a_cons (d_var 6) a_nil))))
 (s_one (s_ret (d_tup (a_cons (d_div (d_var 5) (d_var 7)) (a_cons (d_div (d_var 6) (d_var 7)) a_nil)))))))))))) mf_fraction_at
/-! ### numbers_again -/
abbrev s_numbers_again : Stmt := topS 6
theorem sc_numbers_again : FnScope ["p", "counts", "rows", "n", "total", "k"] ["p", "counts"] (defScope s_numbers_again) := ⟨rfl, rfl, rfl, by decide +kernel, rfl, by decide +kernel, by decide +kernel⟩
def M_numbers_again : WM := fun as Q => ∃ (p : Int) (n : Nat) (D N : Nat → Int), as = [.v (.int p), .v (.list (dints (tab (n + 1) D)))] ∧ n ≤ 1000 ∧ (∀ k, k < n → N (k + 1) < 18446744073709551616 ∧ -18446744073709551616 < N (k + 1)) ∧ (∀ k, k < n → MZ.nw N D (k + 1) k = N (k + 1)) ∧ Q (.own (dints (tab n fun i => N (i + 1))))

def w_numbers_again : WS := (wSeq (wSetO 2 (wLstP wNil))
 (wSeq (wFor (iR2 (wC (.int 1)) (wLen (wVar 1))) (gN 3)
 (wSeq (wSet 4 (wBin fMul (wVar 3) (wIx (wVar 1) (wVar 3))))
 (wSeq (wFor (iR2 (wC (.int 1)) (wVar 3)) (gN 5)
 (wSet 4 (wBin fSub (wVar 4) (wBin fMul (wIx (wBor 2) (wBin fSub (wVar 5) (wC (.int 1)))) (wIx (wVar 1) (wBin fSub (wVar 3) (wVar 5)))))))
 (wApp 2 (wVar 4)))))
 (wRetV 2)))
theorem mf_numbers_again : ∀ as Q, as.length = 2 → M_numbers_again as Q → w_numbers_again { nx := fun _ => Q (.v .none), rt := Q } (stE as 4) := by
  rintro as Q _ ⟨p, n, D, N, rfl, n1, hb, hN, hq⟩
  refine ⟨rfl, lk rfl, ⟨by decide, by decide, by rw [dtab_len]; omega, by rw [dtab_len]; omega⟩, fun i env => ∃ t3 t4 t5, env = [some (.v (.int p)), some (.v (.list (dints (tab (n + 1) D)))), some (.own (dints (tab i fun i => N (i + 1)))), t3, t4, t5], ⟨none, none, none, rfl⟩, ?_, ?_⟩
  · rintro i d env hd ⟨t3, t4, t5, rfl⟩
    obtain ⟨hi, rfl⟩ := rng_at hd
    rw [dtab_len] at hi
    have hi' : i < n := by omega
    refine ⟨_, tab_atI (i := i + 1) (by omega) (by omega), .inl ⟨by omega, by omega⟩, ⟨by decide, by decide, by omega, by omega⟩, ?_⟩
    refine ⟨fun k env => ∃ t5, env = [some (.v (.int p)), some (.v (.list (dints (tab (n + 1) D)))), some (.own (dints (tab i fun i => N (i + 1)))), some (.v (.int (1 + (i : Int)))), some (.v (.int (MZ.nw N D (i + 1) k))), t5], ⟨t5, ?_⟩, ?_, ?_⟩
    · show [_, _, _, _, some (Sl.v (.int ((1 + (i : Int)) * D (i + 1)))), _] = [_, _, _, _, some (Sl.v (.int (((i + 1 : Nat) : Int) * D (i + 1)))), _]
      rw [show ((i + 1 : Nat) : Int) = 1 + (i : Int) by omega]
    · rintro k d env hd ⟨t5, rfl⟩
      obtain ⟨hk, rfl⟩ := rng_at hd
      have hk' : k < i := by omega
      have := hb k (by omega)
      exact ⟨_, tab_atI (i := k) (f := fun i => N (i + 1)) (by omega) hk', _, tab_atI (i := i + 1 - (k + 1)) (by omega) (by omega), .inl ⟨by omega, by omega⟩, some (.v (.int (1 + (k : Int)))), rfl⟩
    · rintro env ⟨t5, rfl⟩
      rw [rng_len, show (1 + (i : Int) - 1).toNat = i by omega]
      refine onNx ?_
      show _ ∧ _
      refine ⟨by rw [dtab_len]; omega, some (.v (.int (1 + (i : Int)))), some (.v (.int (MZ.nw N D (i + 1) i))), t5, ?_⟩
      rw [tab_succ i fun i => N (i + 1)]
      show _ = [_, _, some (Sl.own (_ ++ [PyData.int (N (i + 1))])), _, _, _]
      rw [← hN i hi']
      rfl
  · rintro env ⟨t3, t4, t5, rfl⟩
    rw [rng_len, dtab_len, show (((n + 1 : Nat) : Int) - 1).toNat = n by omega]
    exact hq

theorem ok_numbers_again {f : Addr} {fd : FuncData} (F : Fun K "numbers_again" "numbers_again" s_numbers_again f fd)  (m_len : mg "len" = none) (m_range : mg "range" = none)  : FnOk P w K mg base CX0 1 f fd ["p", "counts"] (SpD K okH 2 M_numbers_again) :=
  def_ok F sc_numbers_again rfl (fun cdv A outer s H E hr =>
 (s_cons (s_setO 2 sc_numbers_again.nd (l_lst a_nil))
 (s_cons (s_for (vs := [3]) PassesOwn.never rfl (i_r2 m_range d_int (d_len m_len (d_b (d_var 1)))) (g_name 3 sc_numbers_again.nd)
 (s_cons (s_set 4 sc_numbers_again.nd (d_mul (d_var 3) (d_ix (d_b (d_var 1)) (d_var 3))))
 (s_cons (s_for (vs := [5]) PassesOwn.never rfl (i_r2 m_range d_int (d_var 3)) (g_name 5 sc_numbers_again.nd)
 (s_one (s_set 4 sc_numbers_again.nd (d_sub (d_var 4) (d_mul (d_ix (d_bor 2) (d_sub (d_var 5) d_int)) (d_ix (d_b (d_var 1)) (d_sub (d_var 3) (d_var 5))))))))
 (s_one (s_app 2 (d_var 4))))))
 (s_one (s_retV 2))))) mf_numbers_again
/-! ### traces -/
abbrev s_traces : Stmt := topS 8
theorem sc_traces : FnScope ["p", "number", "most", "trace", "rows"] ["p", "number", "most"] (defScope s_traces) := ⟨rfl, rfl, rfl, by decide +kernel, rfl, by decide +kernel, by decide +kernel⟩
def M_traces : WM := fun as Q => ∃ (p number : Int) (n : Nat), as = [.v (.int p), .v (.int number), .v (.int n)] ∧ 0 < p ∧ p < 2 ^ 40 ∧ -(2 ^ 40) < p + 1 - number ∧ p + 1 - number < 2 ^ 40 ∧ 1 ≤ n ∧ n < 100000 ∧ Q (.v (.list (dints (tab n fun i => MB.lu p (p + 1 - number) (i + 1)))))

def w_traces : WS := (wSeq (wSet 3 (wBin fSub (wBin fAdd (wVar 0) (wC (.int 1))) (wVar 1)))
 (wSeq (wSetO 4 (wLstP (wCons (wC (.int 2)) (wCons (wVar 3) wNil))))
 (wSeq (wWhile (wTest (wBin fLe (wLen (wBor 4)) (wVar 2)))
 (wApp 4 (wBin fSub (wBin fMul (wVar 3) (wIx (wBor 4) (wUn fNeg (wC (.int 1))))) (wBin fMul (wVar 0) (wIx (wBor 4) (wUn fNeg (wC (.int 2))))))))
 (wRet (wFz (wSlL (wBor 4) (woS (wC (.int 1))) woN))))))
theorem mf_traces : ∀ as Q, as.length = 3 → M_traces as Q → w_traces { nx := fun _ => Q (.v .none), rt := Q } (stE as 2) := by
  rintro as Q _ ⟨p, number, n, rfl, p0, p1, t0, t1, n1, n2, hq⟩
  refine ⟨rfl, lk rfl, ?_⟩
  generalize p + 1 - number = t at *
  refine ⟨fun m env => ∃ k : Nat, m = n - k ∧ 1 ≤ k ∧ k ≤ n ∧ env = [some (.v (.int p)), some (.v (.int number)), some (.v (.int n)), some (.v (.int t)), some (.own (dints (tab (k + 1) (MB.lu p t))))], ⟨n - 1, 1, rfl, Nat.le_refl _, n1, rfl⟩, ?_⟩
  rintro m env ⟨k, rfl, k1, k2, rfl⟩
  have hl : (dints (tab (k + 1) (MB.lu p t))).length = k + 1 := dtab_len _ _
  have cp : ∀ z, CMul p z := fun z => .inl ⟨by omega, by omega⟩
  have ct : ∀ z, CMul t z := fun z => .inl ⟨by omega, by omega⟩
  refine ⟨fun h => ?_, fun h => ?_⟩
  · have hk : ((dints (tab (k + 1) (MB.lu p t))).length : Int) ≤ n := of_decide_eq_true h
    rw [hl] at hk
    refine ⟨fun e => ∃ m', m' < n - k ∧ ∃ k : Nat, m' = n - k ∧ 1 ≤ k ∧ k ≤ n ∧ e = [some (.v (.int p)), some (.v (.int number)), some (.v (.int n)), some (.v (.int t)), some (.own (dints (tab (k + 1) (MB.lu p t))))], fun _ z => z, ?_⟩
    refine ⟨_, atI_neg hl 1 (by omega) (tab_get (i := k) (by omega)), ct _, ?_⟩
    refine ⟨_, atI_neg hl 2 (by omega) (tab_get (i := k - 1) (by omega)), cp _, by rw [hl]; omega, n - (k + 1), by omega, k + 1, rfl, by omega, by omega, ?_⟩
    obtain ⟨j, rfl⟩ : ∃ j, k = j + 1 := ⟨k - 1, by omega⟩
    rw [tab_succ (j + 1 + 1) (MB.lu p t)]
    rfl
  · have hk : ¬ ((dints (tab (k + 1) (MB.lu p t))).length : Int) ≤ n := of_decide_eq_false h
    rw [hl] at hk
    have : k = n := by omega
    subst this
    show Q _
    have e := cut_lo (dints (tab (k + 1) (MB.lu p t))) 1
    rw [tab_drop (by omega)] at e
    have e2 : (fun i => MB.lu p t (1 + i)) = fun i => MB.lu p t (i + 1) := funext fun i => by rw [Nat.add_comm]
    rw [e2] at e
    have e' : cutD (dints (tab (k + 1) (MB.lu p t))) (some 1) none = _ := e
    rw [e']
    exact hq

theorem ok_traces {f : Addr} {fd : FuncData} (F : Fun K "traces" "traces" s_traces f fd)  (m_len : mg "len" = none)  : FnOk P w K mg base CX0 1 f fd ["p", "number", "most"] (SpD K okH 3 M_traces) :=
  def_ok F sc_traces rfl (fun cdv A outer s H E hr =>
 (s_cons (s_set 3 sc_traces.nd (d_sub (d_add (d_var 0) d_int) (d_var 1)))
 (s_cons (s_setO 4 sc_traces.nd (l_lst (a_cons d_int (a_cons (d_var 3) a_nil))))
 (s_cons (s_while PassesOwn.never (t_le (d_len m_len (d_bor 4)) (d_var 2))
 (s_one (s_app 4 (d_sub (d_mul (d_var 3) (d_ix (d_bor 4) (d_neg d_int))) (d_mul (d_var 0) (d_ix (d_bor 4) (d_neg d_int)))))))
 (s_one (s_ret (d_fz (l_sl (d_bor 4) (o_s d_int) o_n)))))))) mf_traces
/-! ### numbers -/
abbrev s_numbers : Stmt := topS 9
theorem sc_numbers : FnScope ["p", "number", "most", "found", "size", "trace"] ["p", "number", "most"] (defScope s_numbers) := ⟨rfl, rfl, rfl, by decide +kernel, rfl, by decide +kernel, by decide +kernel⟩
def M_numbers : WM := fun as Q => ∃ (p number : Int) (n : Nat), as = [.v (.int p), .v (.int number), .v (.int n)] ∧ 0 < p ∧ p < 2 ^ 40 ∧ -(2 ^ 40) < p + 1 - number ∧ p + 1 - number < 2 ^ 40 ∧ 1 ≤ n ∧ n < 100000 ∧ Q (.own (dints (tab n fun i => MB.count p (p + 1 - number) (i + 1))))

def w_numbers : WS := (wSeq (wSetO 3 (wLstP wNil))
 (wSeq (wSet 4 (wC (.int 1)))
 (wSeq (wFor (iS (wCallP 3 M_traces (wCons (wVar 0) (wCons (wVar 1) (wCons (wVar 2) wNil))))) (gN 5)
 (wSeq (wSet 4 (wBin fMul (wVar 4) (wVar 0)))
 (wApp 3 (wBin fSub (wBin fAdd (wVar 4) (wC (.int 1))) (wVar 5)))))
 (wRetV 3))))
theorem mf_numbers : ∀ as Q, as.length = 3 → M_numbers as Q → w_numbers { nx := fun _ => Q (.v .none), rt := Q } (stE as 3) := by
  rintro as Q _ ⟨p, number, n, rfl, p0, p1, t0, t1, n1, n2, hq⟩
  have cp : ∀ z, CMul z p := fun z => .inr ⟨by omega, by omega⟩
  refine ⟨rfl, lk rfl, rfl, rfl, p, number, n, rfl, p0, p1, t0, t1, n1, n2, ?_⟩
  refine ⟨fun k env => ∃ t5, env = [some (.v (.int p)), some (.v (.int number)), some (.v (.int n)), some (.own (dints (tab k fun i => MB.count p (p + 1 - number) (i + 1)))), some (.v (.int (p ^ k))), t5], ⟨none, by rw [Int.pow_zero]; rfl⟩, ?_, ?_⟩
  · rintro i d env hd ⟨t5, rfl⟩
    obtain ⟨hi, rfl⟩ := tab_at hd
    refine ⟨cp _, by rw [dtab_len]; omega, some (.v (.int (MB.lu p (p + 1 - number) (i + 1)))), ?_⟩
    rw [tab_succ, Int.pow_succ]
    show _ = [_, _, _, some (Sl.own (_ ++ [.int (p ^ (i + 1) + 1 - MB.lu p (p + 1 - number) (i + 1))])), _, _]
    rw [Int.pow_succ]
    rfl
  · rintro env ⟨t5, rfl⟩
    rw [dtab_len]
    exact hq

theorem ok_numbers {f : Addr} {fd : FuncData} (F : Fun K "numbers" "numbers" s_numbers f fd) (h_traces : Has P w K mg base okH 1 "traces" 3 M_traces)   : FnOk P w K mg base CX0 2 f fd ["p", "number", "most"] (SpD K okH 3 M_numbers) :=
  def_ok F sc_numbers rfl (fun cdv A outer s H E hr =>
 (s_cons (s_setO 3 sc_numbers.nd (l_lst a_nil))
 (s_cons (s_set 4 sc_numbers.nd d_int)
 (s_cons (s_for (vs := [5]) PassesOwn.never rfl (i_seq (d_call h_traces hr (by decide) (a_cons (d_var 0) (a_cons (d_var 1) (a_cons (d_var 2) a_nil))))) (g_name 5 sc_numbers.nd)
 (s_cons (s_set 4 sc_numbers.nd (d_mul (d_var 4) (d_var 0)))
 (s_one (s_app 3 (d_sub (d_add (d_var 4) d_int) (d_var 5))))))
 (s_one (s_retV 3)))))) mf_numbers
/-! ### sign_of -/
abbrev s_sign_of : Stmt := topS 10
theorem sc_sign_of : FnScope ["n", "sign", "divisor"] ["n"] (defScope s_sign_of) := ⟨rfl, rfl, rfl, by decide +kernel, rfl, by decide +kernel, by decide +kernel⟩
def M_sign_of : WM := fun as Q => ∃ n : Nat, as = [.v (.int n)] ∧ 0 < n ∧ n ≤ 60 ∧ Q (.v (.int (MB.mob n)))

def w_sign_of : WS := (wSeq (wSet 1 (wC (.int 1)))
 (wSeq (wSet 2 (wC (.int 2)))
 (wSeq (wWhile (wTest (wBin fGt (wVar 0) (wC (.int 1))))
 (wSeq (wIf (wTest (wBin fEq (wBin fMod (wVar 0) (wVar 2)) (wC (.int 0))))
 (wSeq (wSet 0 (wBin fDiv (wVar 0) (wVar 2)))
 (wSeq (wSet 1 (wUn fNeg (wVar 1)))
 (wIf (wTest (wBin fEq (wBin fMod (wVar 0) (wVar 2)) (wC (.int 0))))
 (wRet (wC (.int 0)))
 wNx)))
 wNx)
 (wSet 2 (wBin fAdd (wVar 2) (wC (.int 1))))))
 (wRet (wVar 1)))))
theorem mf_sign_of : ∀ as Q, as.length = 1 → M_sign_of as Q → w_sign_of { nx := fun _ => Q (.v .none), rt := Q } (stE as 2) := by
  rintro as Q _ ⟨n, rfl, n0, n1, hq⟩
  have some_ := MB.sgn_some n0 n1
  refine ⟨fun m env => ∃ (k d : Nat) (s : Int), env = [some (.v (.int k)), some (.v (.int s)), some (.v (.int d))] ∧ 0 < k ∧ 0 < d ∧ d < 200 ∧ d + m = 61 ∧ MB.sgnO m k s d = some (MB.mob n), ⟨59, n, 2, 1, rfl, n0, by decide, by decide, rfl, some_⟩, ?_⟩
  rintro m env ⟨k, d, s, rfl, k0, d0, d1, dm, he⟩
  have cd : ∀ z, CDivW z (d : Int) := div200 (by omega) (by omega)
  refine ⟨fun h => ?_, fun h => ?_⟩
  · have hk : (1 : Int) < k := of_decide_eq_true h
    obtain ⟨m, rfl⟩ : ∃ j, m = j + 1 := by
      cases m with
      | zero => 
        have : MB.sgnO 0 k s d = none := if_pos (by omega)
        rw [this] at he
        cases he
      | succ j => exact ⟨j, rfl⟩
    have he' : (if 1 < k then (if k % d = 0 then (if k / d % d = 0 then some 0 else MB.sgnO m (k / d) (-s) (d + 1)) else MB.sgnO m k s (d + 1)) else some s) = some (MB.mob n) := he
    rw [if_pos (by omega)] at he'
    refine ⟨fun e => ∃ m', m' < m + 1 ∧ ∃ (k d : Nat) (s : Int), e = [some (.v (.int k)), some (.v (.int s)), some (.v (.int d))] ∧ 0 < k ∧ 0 < d ∧ d < 200 ∧ d + m' = 61 ∧ MB.sgnO m' k s d = some (MB.mob n), fun _ z => z, ?_⟩
    refine ⟨by omega, fun h => ?_, fun h => ?_⟩
    · have hm : (k : Int) % d = 0 := of_decide_eq_true h
      have hm' : k % d = 0 := by omega
      rw [if_pos hm'] at he'
      have hkd : 0 < k / d := Nat.div_pos (Nat.le_of_dvd k0 (Nat.dvd_of_mod_eq_zero hm')) d0
      refine ⟨cd _, by omega, fun h => ?_, fun h => ?_⟩
      · have h2 : (k : Int) / d % d = 0 := of_decide_eq_true h
        have h2' : k / d % d = 0 := Int.natCast_inj.mp h2
        rw [if_pos h2'] at he'
        have := Option.some.inj he'
        rw [← this] at hq
        exact hq
      · have h2 : ¬ (k : Int) / d % d = 0 := of_decide_eq_false h
        have h2' : ¬ k / d % d = 0 := fun z => h2 (Int.natCast_inj.mpr z)
        rw [if_neg h2'] at he'
        exact ⟨m, by omega, k / d, d + 1, -s, rfl, hkd, by omega, by omega, by omega, he'⟩
    · have hm : ¬ (k : Int) % d = 0 := of_decide_eq_false h
      have hm' : ¬ k % d = 0 := by omega
      rw [if_neg hm'] at he'
      exact ⟨m, by omega, k, d + 1, s, rfl, k0, by omega, by omega, by omega, he'⟩
  · have hk : ¬ (1 : Int) < k := of_decide_eq_false h
    have : MB.sgnO m k s d = some s := by
      cases m with
      | zero => exact if_neg (by omega)
      | succ j => exact if_neg (by omega)
    rw [this] at he
    rw [← Option.some.inj he] at hq
    exact hq

theorem ok_sign_of {f : Addr} {fd : FuncData} (F : Fun K "sign_of" "sign_of" s_sign_of f fd)    : FnOk P w K mg base CX0 1 f fd ["n"] (SpD K okH 1 M_sign_of) :=
  def_ok F sc_sign_of rfl (fun cdv A outer s H E hr =>
 (s_cons (s_set 1 sc_sign_of.nd d_int)
 (s_cons (s_set 2 sc_sign_of.nd d_int)
 (s_cons (s_while PassesOwn.never (t_gt (d_var 0) d_int)
 (s_cons (s_if (t_eq hr (d_mod (d_var 0) (d_var 2)) d_int)
 (s_cons (s_set 0 sc_sign_of.nd (d_div (d_var 0) (d_var 2)))
 (s_cons (s_set 1 sc_sign_of.nd (d_neg (d_var 1)))
 (s_one (s_if (t_eq hr (d_mod (d_var 0) (d_var 2)) d_int)
 (s_one (s_ret d_int))
 s_nil))))
 s_nil)
 (s_one (s_set 2 sc_sign_of.nd (d_add (d_var 2) d_int)))))
 (s_one (s_ret (d_var 1))))))) mf_sign_of
/-! ### places -/
abbrev s_places : Stmt := topS 11
theorem sc_places : FnScope ["p", "number", "n", "rows", "total", "divisor"] ["p", "number", "n"] (defScope s_places) := ⟨rfl, rfl, rfl, by decide +kernel, rfl, by decide +kernel, by decide +kernel⟩
def M_places : WM := fun as Q => ∃ (p number : Int) (n : Nat), as = [.v (.int p), .v (.int number), .v (.int n)] ∧ 0 < p ∧ p < 2 ^ 40 ∧ -(2 ^ 40) < p + 1 - number ∧ p + 1 - number < 2 ^ 40 ∧ 1 ≤ n ∧ n ≤ 60 ∧ Q (.v (.int (MB.placeS p (p + 1 - number) n n / n)))

def w_places : WS := (wSeq (wSet 3 (wCallP 3 M_numbers (wCons (wVar 0) (wCons (wVar 1) (wCons (wVar 2) wNil)))))
 (wSeq (wSet 4 (wC (.int 0)))
 (wSeq (wFor (iR2 (wC (.int 1)) (wBin fAdd (wVar 2) (wC (.int 1)))) (gN 5)
 (wIf (wTest (wBin fEq (wBin fMod (wVar 2) (wVar 5)) (wC (.int 0))))
 (wSet 4 (wBin fAdd (wVar 4) (wBin fMul (wCallP 1 M_sign_of (wCons (wBin fDiv (wVar 2) (wVar 5)) wNil)) (wIx (wVar 3) (wBin fSub (wVar 5) (wC (.int 1)))))))
 wNx))
 (wRet (wBin fDiv (wVar 4) (wVar 2))))))
theorem mf_places : ∀ as Q, as.length = 3 → M_places as Q → w_places { nx := fun _ => Q (.v .none), rt := Q } (stE as 3) := by
  rintro as Q _ ⟨p, number, n, rfl, p0, p1, t0, t1, n1, n2, hq⟩
  refine ⟨rfl, rfl, p, number, n, rfl, p0, p1, t0, t1, n1, by omega, ?_⟩
  generalize p + 1 - number = t at *
  refine ⟨⟨by decide, by decide, by omega, by omega⟩, fun i env => ∃ t5, env = [some (.v (.int p)), some (.v (.int number)), some (.v (.int n)), some (.v (.list (dints (tab n fun i => MB.count p t (i + 1))))), some (.v (.int (MB.placeS p t n i))), t5], ⟨none, rfl⟩, ?_, ?_⟩
  · rintro i d env hd ⟨t5, rfl⟩
    obtain ⟨hi, e⟩ := rng_at hd
    have hi' : i < n := by omega
    rw [show (1 : Int) + i = ((i + 1 : Nat) : Int) by omega] at e
    subst e
    have ste : MB.placeS p t n (i + 1) = if n % (i + 1) = 0 then MB.placeS p t n i + MB.mob (n / (i + 1)) * MB.count p t (i + 1) else MB.placeS p t n i := rfl
    refine ⟨by omega, fun h => ?_, fun h => ?_⟩
    · have hm : (n : Int) % ((i + 1 : Nat) : Int) = 0 := of_decide_eq_true h
      have hm' : n % (i + 1) = 0 := by omega
      have hq0 : 0 < n / (i + 1) := Nat.div_pos (by omega) (by omega)
      have hq1 : n / (i + 1) ≤ 60 := Nat.le_trans (Nat.div_le_self _ _) n2
      have mb := MB.mob_bd hq0 hq1
      rw [if_pos hm'] at ste
      refine ⟨div200 (by omega) (by omega) _, rfl, rfl, n / (i + 1), rfl, hq0, hq1, ?_⟩
      refine ⟨_, tab_atI (i := i) (by omega) hi', .inl ⟨by omega, by omega⟩, some (.v (.int ((i + 1 : Nat) : Int))), ?_⟩
      rw [ste]
      rfl
    · have hm : ¬ (n : Int) % ((i + 1 : Nat) : Int) = 0 := of_decide_eq_false h
      have hm' : ¬ n % (i + 1) = 0 := by omega
      rw [if_neg hm'] at ste
      refine ⟨some (.v (.int ((i + 1 : Nat) : Int))), ?_⟩
      rw [ste]
      rfl
  · rintro env ⟨t5, rfl⟩
    rw [rng_len]
    rw [show ((n : Int) + 1 - 1).toNat = n by omega]
    exact ⟨div200 (by omega) (by omega) _, hq⟩

theorem ok_places {f : Addr} {fd : FuncData} (F : Fun K "places" "places" s_places f fd) (h_numbers : Has P w K mg base okH 2 "numbers" 3 M_numbers) (h_sign_of : Has P w K mg base okH 1 "sign_of" 1 M_sign_of) (m_range : mg "range" = none)  : FnOk P w K mg base CX0 3 f fd ["p", "number", "n"] (SpD K okH 3 M_places) :=
  def_ok F sc_places rfl (fun cdv A outer s H E hr =>
 (s_cons (s_set 3 sc_places.nd (d_call h_numbers hr (by decide) (a_cons (d_var 0) (a_cons (d_var 1) (a_cons (d_var 2) a_nil)))))
 (s_cons (s_set 4 sc_places.nd d_int)
 (s_cons (s_for (vs := [5]) PassesOwn.never rfl (i_r2 m_range d_int (d_add (d_var 2) d_int)) (g_name 5 sc_places.nd)
 (s_one (s_if (t_eq hr (d_mod (d_var 2) (d_var 5)) d_int)
 (s_one (s_set 4 sc_places.nd (d_add (d_var 4) (d_mul (d_call h_sign_of hr (by decide) (a_cons (d_div (d_var 2) (d_var 5)) a_nil)) (d_ix (d_b (d_var 3)) (d_sub (d_var 5) d_int))))))
 s_nil)))
 (s_one (s_ret (d_div (d_var 4) (d_var 2)))))))) mf_places
/-! ### _law_draws -/
abbrev s__law_draws : Stmt := topS 13
theorem sc__law_draws : FnScope ["script", "draws", "k", "cell", "step", "mixed"] ["script"] (defScope s__law_draws) := ⟨rfl, rfl, rfl, by decide +kernel, rfl, by decide +kernel, by decide +kernel⟩
def M__law_draws : WM := fun as Q => ∃ ns : List Int, as = [.v (scr ns)] ∧ ns.length ≤ 63 ∧ ∀ ms : List Int, Q (.own (dints ms))

def w__law_draws : WS := (wSeq (wSetO 1 (wLstP wNil))
 (wSeq (wFor (iR1 (wLen (wVar 0))) (gN 2)
 (wSeq (wSet 3 (wUn fAbs (wIx (wVar 0) (wVar 2))))
 (wIf (wTest (wBin fGe (wVar 3) (wBin fPow (wC (.int 10)) (wC (.int 18)))))
 (wFor (iR1 (wC (.int 40))) (gN 4)
 (wSeq (wApp 1 (wBin fMod (wUn fInt (wVar 3)) (wC (.int 1000))))
 (wSet 3 (wBin fDiv (wVar 3) (wC (.int 1000))))))
 (wSeq (wSet 5 (wBin fAdd (wVar 3) (wC (.int 1))))
 (wFor (iR1 (wC (.int 8))) (gN 4)
 (wSeq (wSet 5 (wBin fMod (wUn fInt (wBin fAdd (wBin fAdd (wBin fMul (wVar 5) (wC (.int 48271))) (wBin fMul (wC (.int 7919)) (wBin fAdd (wVar 2) (wVar 4)))) (wC (.int 11)))) (wC (.int 2147483647))))
 (wSeq (wSet 5 (wBin fMod (wUn fInt (wBin fAdd (wBin fMul (wVar 5) (wC (.int 69621))) (wC (.int 13)))) (wC (.int 2147483629))))
 (wApp 1 (wBin fMod (wUn fInt (wBin fDiv (wVar 5) (wC (.int 5)))) (wC (.int 1000)))))))))))
 (wRetV 1)))
theorem mf__law_draws : ∀ as Q, as.length = 1 → M__law_draws as Q → w__law_draws { nx := fun _ => Q (.v .none), rt := Q } (stE as 5) := by
  rintro as Q _ ⟨ns, rfl, hl, hq⟩
  have nl := dints_len ns
  refine ⟨rfl, lk rfl, ⟨by rw [nl]; omega, by rw [nl]; omega⟩, fun k env => ∃ (ms : List Int) (t2 t3 t4 t5 : Option Sl), env = [some (.v (scr ns)), some (.own (dints ms)), t2, t3, t4, t5] ∧ ms.length ≤ 40 * k, ⟨[], none, none, none, none, rfl, Nat.zero_le _⟩, ?_, ?_⟩
  · rintro i d env hd ⟨ms, t2, t3, t4, t5, rfl, hm⟩
    obtain ⟨hi, rfl⟩ := rng_at hd
    rw [nl] at hi
    obtain ⟨v, hv, _⟩ := atI_ints (xs := ns) (j := 0 + (i : Int)) (by omega) (by omega)
    obtain ⟨c, hc⟩ : ∃ c : Int, c = if v < 0 then -v else v := ⟨_, rfl⟩
    refine ⟨_, hv, ⟨by decide, by decide, by decide⟩, fun _ => ?_, fun _ => ?_⟩
    · refine ⟨⟨by decide, by decide⟩, fun k env => ∃ (ms' : List Int) (cc : Int) (t4 : Option Sl), env = [some (.v (scr ns)), some (.own (dints ms')), some (.v (.int (0 + (i : Int)))), some (.v (.int cc)), t4, t5] ∧ ms'.length ≤ 40 * i + k, ⟨ms, _, t4, rfl, by omega⟩, ?_, ?_⟩
      · rintro j e env he ⟨ms', cc, t4, rfl, hm'⟩
        obtain ⟨hj, rfl⟩ := rng_at he
        have hj : j < 40 := hj
        refine ⟨(by decide : (0 : Int) < 1000), by rw [dints_len]; omega, div200 (by decide) (by decide) _, ms' ++ [cc % 1000], cc / 1000, some (.v (.int (0 + (j : Int)))), by rw [dints_snoc]; rfl, by rw [List.length_append, List.length_singleton]; omega⟩
      · rintro env ⟨ms', cc, t4, rfl, hm'⟩
        rw [rng_len] at hm'
        exact ⟨ms', _, _, _, _, rfl, by have : Int.toNat 40 = 40 := rfl; omega⟩
    · refine ⟨⟨by decide, by decide⟩, fun k env => ∃ (ms' : List Int) (mm : Int) (t4 : Option Sl), env = [some (.v (scr ns)), some (.own (dints ms')), some (.v (.int (0 + (i : Int)))), some (.v (.int (if v < 0 then -v else v))), t4, some (.v (.int mm))] ∧ ms'.length ≤ 40 * i + k, ⟨ms, _, t4, rfl, by omega⟩, ?_, ?_⟩
      · rintro j e env he ⟨ms', mm, t4, rfl, hm'⟩
        obtain ⟨hj, rfl⟩ := rng_at he
        have hj : j < 8 := hj
        exact ⟨.inr ⟨by decide, by decide⟩, .inl ⟨by decide, by decide⟩, (by decide : (0 : Int) < 2147483647), .inr ⟨by decide, by decide⟩, (by decide : (0 : Int) < 2147483629), div200 (by decide) (by decide) _, (by decide : (0 : Int) < 1000), by rw [dints_len]; omega, ms' ++ [_], _, some (.v (.int (0 + (j : Int)))), by rw [dints_snoc]; rfl, by rw [List.length_append, List.length_singleton]; omega⟩
      · rintro env ⟨ms', mm, t4, rfl, hm'⟩
        rw [rng_len] at hm'
        exact ⟨ms', _, _, _, _, rfl, by have : Int.toNat 8 = 8 := rfl; omega⟩
  · rintro env ⟨ms, t2, t3, t4, t5, rfl, hm⟩
    exact hq ms

theorem ok__law_draws {f : Addr} {fd : FuncData} (F : Fun K "_law_draws" "_law_draws" s__law_draws f fd)  (m_abs : mg "abs" = none) (m_int : mg "int" = none) (m_len : mg "len" = none) (m_range : mg "range" = none)  : FnOk P w K mg base CX0 1 f fd ["script"] (SpD K okH 1 M__law_draws) :=
  def_ok F sc__law_draws rfl (fun cdv A outer s H E hr =>
 (s_cons (s_setO 1 sc__law_draws.nd (l_lst a_nil))
 (s_cons (s_for (vs := [2]) PassesOwn.never rfl (i_r1 m_range (d_len m_len (d_b (d_var 0)))) (g_name 2 sc__law_draws.nd)
 (s_cons (s_set 3 sc__law_draws.nd (d_abs m_abs (d_ix (d_b (d_var 0)) (d_var 2))))
 (s_one (s_if (t_ge (d_var 3) (d_pow d_int d_int))
 (s_one (s_for (vs := [4]) PassesOwn.never rfl (i_r1 m_range d_int) (g_name 4 sc__law_draws.nd)
 (s_cons (s_app 1 (d_mod (d_intc m_int (d_var 3)) d_int))
 (s_one (s_set 3 sc__law_draws.nd (d_div (d_var 3) d_int))))))
 (s_cons (s_set 5 sc__law_draws.nd (d_add (d_var 3) d_int))
 (s_one (s_for (vs := [4]) PassesOwn.never rfl (i_r1 m_range d_int) (g_name 4 sc__law_draws.nd)
 (s_cons (s_set 5 sc__law_draws.nd (d_mod (d_intc m_int (d_add (d_add (d_mul (d_var 5) d_int) (d_mul d_int (d_add (d_var 2) (d_var 4)))) d_int)) d_int))
 (s_cons (s_set 5 sc__law_draws.nd (d_mod (d_intc m_int (d_add (d_mul (d_var 5) d_int) d_int)) d_int))
 (s_one (s_app 1 (d_mod (d_intc m_int (d_div (d_var 5) d_int)) d_int))))))))))))
 (s_one (s_retV 1))))) mf__law_draws
/-! ### _law_next -/
abbrev s__law_next : Stmt := topS 14
theorem sc__law_next : FnScope ["draws", "at", "many", "index"] ["draws", "at", "many"] (defScope s__law_next) := ⟨rfl, rfl, rfl, by decide +kernel, rfl, by decide +kernel, by decide +kernel⟩
abbrev M__law_next : WM := DL.M_next
theorem ok__law_next {f : Addr} {fd : FuncData} (F : Fun K "_law_next" "_law_next" s__law_next f fd)  (m_int : mg "int" = none) (m_len : mg "len" = none) : FnOk P w K mg base CX0 1 f fd ["draws", "at", "many"] (SpD K okH 3 M__law_next) := next_ok F sc__law_next (fun cdv A outer s H E => (pss_cons (ps_set (i := 3) sc__law_next.nd rfl (Or.inl rfl) (pe_ix ix_seq (pv 1) pe_int (fun _ _ => rfl))) (pss_cons (ps_asg (pe_op op_add (pv 3) pe_int) (pg_sub (pv 1) pe_int set_list)) (pss_cons (ps_if (pt_cmpR op_lt (pv 3) (pe_callB call_len_seq (by rfl) m_len PySem.boot_len (pa_cons (pv 0) pa_nil)) (nomark _)) (pss_one (ps_ret (pe_op op_mod (pe_callTy call_int1 (by rfl) m_int (by decide +kernel) (pa_cons (pe_ix ix_seq (pv 0) (pv 3) (fun _ _ => rfl)) pa_nil)) (pv 2)))) pss_nil) (pss_one (ps_ret pe_int))))))
/-! ### _law_curve -/
abbrev s__law_curve : Stmt := topS 17
theorem sc__law_curve : FnScope ["draws", "at", "primes", "p", "a", "b"] ["draws", "at", "primes"] (defScope s__law_curve) := ⟨rfl, rfl, rfl, by decide +kernel, rfl, by decide +kernel, by decide +kernel⟩
def M__law_curve : WM := fun as Q => ∃ ms ps : List Int, as = [.v (.list (dints ms)), .hnd, .v (.list (dints ps))] ∧ 0 < ps.length ∧ ps.length < 1000 ∧ (∀ p ∈ ps, 1 < p ∧ p < 2 ^ 60) ∧ ∀ p a b : Int, p ∈ ps → 0 ≤ a → a < p → 0 ≤ b → b < p → Q (.v (.tuple [.int p, .int a, .int b]))

def w__law_curve_L8 : WS := (wRet (wTupP (wCons (wVar 3) (wCons (wVar 4) (wCons (wVar 5) wNil)))))
def w__law_curve_L6 : WS := (wSeq (wIf (wTest (wBin fEq (wBin fMod (wUn fInt (wBin fAdd (wBin fMul (wBin fMul (wBin fMul (wC (.int 4)) (wVar 4)) (wVar 4)) (wVar 4)) (wBin fMul (wBin fMul (wC (.int 27)) (wVar 5)) (wVar 5)))) (wVar 3)) (wC (.int 0))))
 (wSet 5 (wBin fMod (wUn fInt (wBin fAdd (wVar 5) (wC (.int 1)))) (wVar 3)))
 wNx)
 w__law_curve_L8)
def w__law_curve : WS := (wSeq (wSet 3 (wIx (wVar 2) (wCallP 3 M__law_next (wCons (wVar 0) (wConsH 1 (wCons (wLen (wVar 2)) wNil))))))
 (wSeq (wSet 4 (wCallP 3 M__law_next (wCons (wVar 0) (wConsH 1 (wCons (wVar 3) wNil)))))
 (wSeq (wSet 5 (wCallP 3 M__law_next (wCons (wVar 0) (wConsH 1 (wCons (wVar 3) wNil)))))
 (wSeq (wIf (wTest (wBin fEq (wBin fMod (wUn fInt (wBin fAdd (wBin fMul (wBin fMul (wBin fMul (wC (.int 4)) (wVar 4)) (wVar 4)) (wVar 4)) (wBin fMul (wBin fMul (wC (.int 27)) (wVar 5)) (wVar 5)))) (wVar 3)) (wC (.int 0))))
 (wSet 5 (wBin fMod (wUn fInt (wBin fAdd (wVar 5) (wC (.int 1)))) (wVar 3)))
 wNx)
 w__law_curve_L6))))
theorem mf__law_curve_L8 {W : WEnds} {ms ps : List Int} {p a b : Int} (h : W.rt (.v (.tuple [.int p, .int a, .int b]))) : w__law_curve_L8 W [some (.v (.list (dints ms))), some .hnd, some (.v (.list (dints ps))), some (.v (.int p)), some (.v (.int a)), some (.v (.int b))] := ⟨rfl, lk rfl, h⟩
theorem mf__law_curve_L6 {W : WEnds} {ms ps : List Int} {p a b : Int} (p1 : 1 < p) (p2 : p < 2 ^ 60) (a0 : 0 ≤ a) (a1 : a < p) (b0 : 0 ≤ b) (b1 : b < p) (h : ∀ b : Int, 0 ≤ b → b < p → W.rt (.v (.tuple [.int p, .int a, .int b]))) : w__law_curve_L6 W [some (.v (.list (dints ms))), some .hnd, some (.v (.list (dints ps))), some (.v (.int p)), some (.v (.int a)), some (.v (.int b))] := by
  have cm : ∀ a : Int, 0 ≤ a → a < p → ∀ z, CMul z a := fun a h0 h1 z => .inr ⟨by omega, by omega⟩
  refine ⟨cm a a0 a1 _, cm a a0 a1 _, cm a a0 a1 _, cm b b0 b1 _, cm b b0 b1 _, by omega, fun _ => ⟨by omega, ?_⟩, fun _ => ?_⟩
  · exact onNx (mf__law_curve_L8 (ms := ms) (ps := ps) (h _ (Int.emod_nonneg _ (by omega)) (Int.emod_lt_of_pos _ (by omega))))
  · exact onNx (mf__law_curve_L8 (ms := ms) (ps := ps) (h b b0 b1))
theorem mf__law_curve : ∀ as Q, as.length = 3 → M__law_curve as Q → w__law_curve { nx := fun _ => Q (.v .none), rt := Q } (stE as 3) := by
  rintro as Q _ ⟨ms, ps, rfl, l0, l1, hps, hq⟩
  refine nxt (by rw [dints_len]; omega) fun r r0 r1 => ?_
  rw [dints_len] at r1
  obtain ⟨p, hp, hm⟩ := atI_ints (xs := ps) r0 r1
  obtain ⟨p1, p2⟩ := hps p hm
  have cm : ∀ a : Int, 0 ≤ a → a < p → ∀ z, CMul z a := fun a h0 h1 z => .inr ⟨by omega, by omega⟩
  refine ⟨.int p, hp, ?_⟩
  refine nxt (by omega) fun a a0 a1 => ?_
  refine nxt (by omega) fun b b0 b1 => ?_
  refine ⟨cm a a0 a1 _, cm a a0 a1 _, cm a a0 a1 _, cm b b0 b1 _, cm b b0 b1 _, by omega, fun _ => ⟨by omega, ?_⟩, fun _ => ?_⟩
  · exact onNx (mf__law_curve_L6 (ms := ms) (ps := ps) p1 p2 a0 a1 (Int.emod_nonneg _ (by omega)) (Int.emod_lt_of_pos _ (by omega)) fun b h0 h1 => hq p a b hm a0 a1 h0 h1)
  · exact onNx (mf__law_curve_L6 (ms := ms) (ps := ps) p1 p2 a0 a1 b0 b1 fun b h0 h1 => hq p a b hm a0 a1 h0 h1)

theorem ok__law_curve {f : Addr} {fd : FuncData} (F : Fun K "_law_curve" "_law_curve" s__law_curve f fd) (h__law_next : Has P w K mg base okH 1 "_law_next" 3 M__law_next) (m_int : mg "int" = none) (m_len : mg "len" = none)  : FnOk P w K mg base CX0 2 f fd ["draws", "at", "primes"] (SpD K okH 3 M__law_curve) :=
  def_ok F sc__law_curve rfl (fun cdv A outer s H E hr =>
 (s_cons (s_set 3 sc__law_curve.nd (d_ix (d_b (d_var 2)) (d_call h__law_next hr (by decide) (a_cons (d_var 0) (a_hnd 1 (a_cons (d_len m_len (d_b (d_var 2))) a_nil))))))
 (s_cons (s_set 4 sc__law_curve.nd (d_call h__law_next hr (by decide) (a_cons (d_var 0) (a_hnd 1 (a_cons (d_var 3) a_nil)))))
 (s_cons (s_set 5 sc__law_curve.nd (d_call h__law_next hr (by decide) (a_cons (d_var 0) (a_hnd 1 (a_cons (d_var 3) a_nil)))))
 (s_cons (s_if (t_eq hr (d_mod (d_intc m_int (d_add (d_mul (d_mul (d_mul d_int (d_var 4)) (d_var 4)) (d_var 4)) (d_mul (d_mul d_int (d_var 5)) (d_var 5)))) (d_var 3)) d_int)
 (s_one (s_set 5 sc__law_curve.nd (d_mod (d_intc m_int (d_add (d_var 5) d_int)) (d_var 3))))
 s_nil)
 (s_cons (s_if (t_eq hr (d_mod (d_intc m_int (d_add (d_mul (d_mul (d_mul d_int (d_var 4)) (d_var 4)) (d_var 4)) (d_mul (d_mul d_int (d_var 5)) (d_var 5)))) (d_var 3)) d_int)
 (s_one (s_set 5 sc__law_curve.nd (d_mod (d_intc m_int (d_add (d_var 5) d_int)) (d_var 3))))
 s_nil)
 (s_one (s_ret (d_tup (a_cons (d_var 3) (a_cons (d_var 4) (a_cons (d_var 5) a_nil)))))))))))) mf__law_curve
/-! ### _law_count -/
abbrev s__law_count : Stmt := topS 18
theorem sc__law_count : FnScope ["curve", "p", "a", "b", "squares", "y", "x"] ["curve"] (defScope s__law_count) := ⟨rfl, rfl, rfl, by decide +kernel, rfl, by decide +kernel, by decide +kernel⟩
def M__law_count : WM := fun as Q => ∃ p a b : Int, as = [.v (.tuple [.int p, .int a, .int b])] ∧ MZ.pr p ∧ 0 ≤ a ∧ a < p ∧ 0 ≤ b ∧ b < p ∧ ∀ N : Int, 1 ≤ N → N ≤ 2 * p + 1 → Q (.v (.int N))

def w__law_count_L5 : WS := (wRet (wBin fAdd (wC (.int 1)) (wSum (wFz (wLc (iR1 (wVar 1)) (gN 6) wYes (wIx (wBor 4) (wBin fMod (wUn fInt (wBin fAdd (wBin fAdd (wBin fMul (wBin fMul (wVar 6) (wVar 6)) (wVar 6)) (wBin fMul (wVar 2) (wVar 6))) (wVar 3))) (wVar 1))) [6])))))
def w__law_count : WS := (wSeq (wAsg (wVar 0) (gT 3 (gsCons (gN 1) (gsCons (gN 2) (gsCons (gN 3) gsNil)))))
 (wSeq (wSetO 4 (wRep (wFz (wLstP (wCons (wC (.int 0)) wNil))) (wVar 1)))
 (wSeq (wFor (iR1 (wVar 1)) (gN 5)
 (wAugI 4 (wBin fMod (wUn fInt (wBin fMul (wVar 5) (wVar 5))) (wVar 1)) (wC (.int 1))))
 w__law_count_L5)))
def sqc (p : Nat) : Nat → Nat → Int
  | 0, _ => 0
  | k + 1, r => if r = k * k % p then sqc p k r + 1 else sqc p k r
theorem sqc_all : ([5, 7, 11, 13, 17, 19, 23, 29].all fun p => (List.range p).all fun r => decide (0 ≤ sqc p p r) && decide (sqc p p r ≤ 2)) = true := by decide +kernel
theorem sqc_bd {p : Nat} (hp : MZ.pr (p : Int)) {r : Nat} (hr : r < p) : 0 ≤ sqc p p r ∧ sqc p p r ≤ 2 := by
  have hm : p ∈ [5, 7, 11, 13, 17, 19, 23, 29] := by
    unfold MZ.pr at hp
    simp only [List.mem_cons, List.not_mem_nil, or_false]
    omega
  have := List.all_eq_true.mp (List.all_eq_true.mp sqc_all p hm) r (List.mem_range.mpr hr)
  rw [Bool.and_eq_true, decide_eq_true_iff, decide_eq_true_iff] at this
  exact this
theorem mf__law_count_L5 {W : WEnds} {c : D} {p a b : Int} {sq : List Int} {t5 t6 : Option Sl} (h5 : Val t5) (h6 : Val t6) (hl : (sq.length : Int) = p) (p1 : 0 < p) (p2 : p < 1000) (a0 : 0 ≤ a) (a1 : a < p) (b0 : 0 ≤ b) (b1 : b < p) (hs : ∀ v ∈ sq, 0 ≤ v ∧ v ≤ 2) (h : ∀ N : Int, 1 ≤ N → N ≤ 2 * p + 1 → W.rt (.v (.int N))) :
    w__law_count_L5 W [some (.v c), some (.v (.int p)), some (.v (.int a)), some (.v (.int b)), some (.own (dints sq)), t5, t6] := by
  have cm : ∀ a : Int, 0 ≤ a → a < p → ∀ z, CMul z a := fun a h0 h1 z => .inr ⟨by omega, by omega⟩
  have hfin : ∀ ns : List Int, ns.length = p.toNat → (0 ≤ ns.sum ∧ ns.sum ≤ 2 * ns.length) → ∃ ns', PyData.list (dints ns) = .list (dints ns') ∧ W.rt (.v (.int (1 + ns'.sum))) := fun ns e bd => ⟨ns, rfl, h _ (by omega) (by omega)⟩
  refine ⟨⟨by omega, by omega⟩, by rw [rng_len]; omega, ?_, fun k acc => ∃ ns : List Int, acc = dints ns ∧ ns.length = k ∧ 0 ≤ ns.sum ∧ ns.sum ≤ 2 * ns.length, ⟨[], rfl, rfl, by decide, by decide⟩, ?_, ?_⟩
  · rcases h6 with rfl | ⟨d, rfl⟩ <;> exact ⟨by first | trivial | rfl, trivial⟩
  · rintro k d acc hd ⟨ns, rfl, hk, s0, s1⟩
    obtain ⟨hk', rfl⟩ := rng_at hd
    have cx : ∀ z, CMul z (0 + (k : Int)) := fun z => .inr ⟨by omega, by omega⟩
    have e1 := Int.emod_nonneg ((0 + (k : Int)) * (0 + (k : Int)) * (0 + (k : Int)) + a * (0 + (k : Int)) + b) (show p ≠ 0 by omega)
    have e2 := Int.emod_lt_of_pos ((0 + (k : Int)) * (0 + (k : Int)) * (0 + (k : Int)) + a * (0 + (k : Int)) + b) p1
    obtain ⟨v, hv, hm⟩ := atI_ints (xs := sq) e1 (by omega)
    have := hs v hm
    refine ⟨fun _ => ?_, (nomatch ·)⟩
    refine ⟨cx _, cx _, cx _, p1, .int v, hv, ns ++ [v], ?_, ?_, ?_, ?_⟩
    · rw [dints_snoc]
    · rw [List.length_append, hk]; rfl
    · rw [List.sum_append]
      show 0 ≤ ns.sum + (v + 0)
      omega
    · rw [List.sum_append, List.length_append]
      show ns.sum + (v + 0) ≤ 2 * ((ns.length + 1 : Nat) : Int)
      omega
  · rintro acc ⟨ns, rfl, hk, s0, s1⟩
    rw [rng_len] at hk
    obtain ⟨ns', e, hh⟩ := hfin ns hk ⟨s0, s1⟩
    exact ⟨ns', e, hh⟩
theorem mf__law_count : ∀ as Q, as.length = 1 → M__law_count as Q → w__law_count { nx := fun _ => Q (.v .none), rt := Q } (stE as 6) := by
  rintro as Q _ ⟨p, a, b, rfl, hp, a0, a1, b0, b1, hq⟩
  have pb : 5 ≤ p ∧ p ≤ 29 := by unfold MZ.pr at hp; omega
  obtain ⟨n, rfl⟩ : ∃ n : Nat, p = n := ⟨p.toNat, by omega⟩
  refine ⟨rfl, rfl, rfl, lk rfl, by omega, by omega, by show 1 * _ < _; omega, ⟨by omega, by omega⟩, fun k env => ∃ t5, Val t5 ∧ env = [some (.v (.tuple [.int n, .int a, .int b])), some (.v (.int n)), some (.v (.int a)), some (.v (.int b)), some (.own (dints (tab n (sqc n k)))), t5, none], ⟨none, .inl rfl, ?_⟩, ?_, ?_⟩
  · show [_, _, _, _, some (Sl.own (List.replicate n [PyData.int 0]).flatten), _, _] = _
    rw [zeros_tab]
    rfl
  · rintro k d env hd ⟨t5, h5, rfl⟩
    obtain ⟨hk, rfl⟩ := rng_at hd
    have hm : k * k % n < n := Nat.mod_lt _ (by omega)
    have ek : (0 + (k : Int)) * (0 + (k : Int)) % (n : Int) = ((k * k % n : Nat) : Int) := by
      rw [Int.zero_add, ← Int.natCast_mul, Int.natCast_emod]
    refine ⟨.inl ⟨by omega, by omega⟩, by omega, ?_⟩
    show 0 ≤ (0 + (k : Int)) * (0 + (k : Int)) % (n : Int) ∧ _
    refine ⟨by rw [ek]; omega, sqc n k (k * k % n), ?_, ?_⟩
    · rw [ek, Int.toNat_natCast]
      exact tab_get hm
    · refine ⟨some (.v (.int (0 + (k : Int)))), .inr ⟨_, rfl⟩, ?_⟩
      show [_, _, _, _, some (Sl.own ((dints (tab n (sqc n k))).set ((0 + (k : Int)) * (0 + (k : Int)) % (n : Int)).toNat (.int (sqc n k (k * k % n) + 1)))), _, _] = _
      rw [ek, Int.toNat_natCast, tab_set]
      have : dints (tab n fun j => if j = k * k % n then sqc n k (k * k % n) + 1 else sqc n k j) = dints (tab n (sqc n (k + 1))) := tab_ext fun j hj => by
        show _ = if j = k * k % n then sqc n k j + 1 else sqc n k j
        by_cases h : j = k * k % n
        · rw [if_pos h, if_pos h, h]
        · rw [if_neg h, if_neg h]
      rw [this]
  · rintro env ⟨t5, h5, rfl⟩
    rw [rng_len, Int.toNat_natCast]
    refine mf__law_count_L5 h5 (.inl rfl) (by rw [tab_len]) (by omega) (by omega) a0 a1 b0 b1 (fun v hv => ?_) hq
    obtain ⟨r, hr, rfl⟩ := List.mem_map.mp hv
    exact sqc_bd hp (List.mem_range.mp hr)

theorem ok__law_count {f : Addr} {fd : FuncData} (F : Fun K "_law_count" "_law_count" s__law_count f fd)  (m_int : mg "int" = none) (m_range : mg "range" = none) (m_sum : mg "sum" = none)  : FnOk P w K mg base CX0 1 f fd ["curve"] (SpD K okH 1 M__law_count) :=
  def_ok F sc__law_count rfl (fun cdv A outer s H E hr =>
 (s_cons (s_asg (vs := [1, 2, 3]) (d_var 0) (g_tupN (g_cons (g_name 1 sc__law_count.nd) (g_cons (g_name 2 sc__law_count.nd) (g_cons (g_name 3 sc__law_count.nd) g_nil)))))
 (s_cons (s_setO 4 sc__law_count.nd (l_rep (d_b (d_fz (l_lst (a_cons d_int a_nil)))) (d_var 1)))
 (s_cons (s_for (vs := [5]) PassesOwn.never rfl (i_r1 m_range (d_var 1)) (g_name 5 sc__law_count.nd)
 (s_one (s_augI 4 (d_mod (d_intc m_int (d_mul (d_var 5) (d_var 5))) (d_var 1)) d_int)))
 (s_one (s_ret (d_add d_int (d_sum rfl m_sum (d_b (d_fz (l_lc (own := [("x", 6)]) rfl sc__law_count.nd (i_r1 m_range (d_var 1)) (blkOk_by (N := ["curve", "p", "a", "b", "squares", "y", "x"]) (sc := defScope s__law_count) (by decide +kernel)) ⟨(gName 6), fun _ _ _ _ _ => (pg_name (i := 6) sc__law_count.nd rfl (Or.inl rfl)), (sg_name (i := 6) (by decide))⟩ ⟨tYes, fun _ _ _ _ _ => pts_nil, st_yes⟩ ⟨(tOp (rIx K) (tVar 4) (tOp (rI (fun _ j => 0 < j) fun i j => .int (i % j)) (tCB rInt (tCons (tOp (rI0 fun i j => .int (i + j)) (tOp (rI0 fun i j => .int (i + j)) (tOp (rI CMul fun i j => .int (i * j)) (tOp (rI CMul fun i j => .int (i * j)) (tVar 6) (tVar 6)) (tVar 6)) (tOp (rI CMul fun i j => .int (i * j)) (tVar 2) (tVar 6))) (tVar 3)) tNil)) (tVar 1))), fun _ _ _ _ _ => (pe_ix ix_seq (pv 4) (pe_op op_mod (pe_callTy call_int1 (by rfl) m_int (by decide +kernel) (pa_cons (pe_op op_add (pe_op op_add (pe_op op_mul (pe_op op_mul (pv 6) (pv 6)) (pv 6)) (pe_op op_mul (pv 2) (pv 6))) (pv 3)) pa_nil)) (pv 1)) (fun _ _ => rfl)), (snd_ix snd_bor (snd_bin opd_mod (snd_c1 cd_int (snd_bin opd_add (snd_bin opd_add (snd_bin opd_mul (snd_bin opd_mul snd_var snd_var) snd_var) (snd_bin opd_mul snd_var snd_var)) snd_var)) snd_var))⟩))))))))))) mf__law_count
/-! ### _law_ways -/
abbrev s__law_ways : Stmt := topS 19
theorem sc__law_ways : FnScope ["counts", "most", "rows", "degree", "place", "k"] ["counts", "most"] (defScope s__law_ways) := ⟨rfl, rfl, rfl, by decide +kernel, rfl, by decide +kernel, by decide +kernel⟩
def M__law_ways : WM := fun as Q => ∃ (cs : List Int) (n : Nat), as = [.v (.list (dints cs)), .v (.int n)] ∧ n ≤ 7 ∧ cs.length = 7 ∧ (∀ c ∈ cs, 0 ≤ c ∧ c < 12) ∧ Q (.own (dints (tab (n + 1) (MZ.F (fun i => cs.getD i 0) n))))

def w__law_ways : WS := (wSeq (wSetO 2 (wCat (wFz (wLstP (wCons (wC (.int 1)) wNil))) (wFz (wRep (wFz (wLstP (wCons (wC (.int 0)) wNil))) (wVar 1)))))
 (wSeq (wFor (iR2 (wC (.int 1)) (wBin fAdd (wVar 1) (wC (.int 1)))) (gN 3)
 (wFor (iR1 (wIx (wVar 0) (wBin fSub (wVar 3) (wC (.int 1))))) (gN 4)
 (wFor (iR2 (wVar 3) (wBin fAdd (wVar 1) (wC (.int 1)))) (gN 5)
 (wPut 2 (wVar 5) (wBin fAdd (wIx (wBor 2) (wVar 5)) (wIx (wBor 2) (wBin fSub (wVar 5) (wVar 3))))))))
 (wRetV 2)))
theorem mf__law_ways : ∀ as Q, as.length = 2 → M__law_ways as Q → w__law_ways { nx := fun _ => Q (.v .none), rt := Q } (stE as 4) := by
  rintro as Q _ ⟨cs, n, rfl, n7, l7, hc, hq⟩
  let c : Nat → Int := fun i => cs.getD i 0
  let cn : Nat → Nat := fun i => (cs.getD i 0).toNat
  have hci : ∀ i, i < 7 → cs[i]? = some (c i) ∧ 0 ≤ c i ∧ c i < 12 := fun i hi => by
    have h1 : cs[i]? = some cs[i] := List.getElem?_eq_getElem (by omega)
    have h2 : c i = cs[i] := by show cs.getD i 0 = _; rw [List.getD_eq_getElem?_getD, h1]; rfl
    rw [h2]
    exact ⟨h1, hc _ (List.getElem_mem (by omega))⟩
  have hcn : ∀ i, i < 7 → c i = (cn i : Int) := fun i hi => by
    have := (hci i hi).2
    show c i = ((c i).toNat : Int)
    omega
  have hcn2 : ∀ i, i < 7 → cn i < 12 := fun i hi => by
    have := (hci i hi).2
    show (c i).toNat < 12
    omega
  refine ⟨rfl, lk rfl, rfl, lk rfl, by omega, by omega, by show 1 * _ < _; omega, ?_, ?_⟩
  · show 1 + (List.replicate n [PyData.int 0]).flatten.length < 1000000
    rw [zeros_tab, dtab_len]
    omega
  refine ⟨⟨by decide, by decide, by omega, by omega⟩, fun i env => ∃ t3 t4 t5, env = [some (.v (.list (dints cs))), some (.v (.int n)), some (.own (dints (tab (n + 1) (MZ.F c i)))), t3, t4, t5], ⟨none, none, none, ?_⟩, ?_, ?_⟩
  · show [_, _, some (Sl.own ([PyData.int 1] ++ (List.replicate n [PyData.int 0]).flatten)), _, _, _] = _
    rw [zeros_tab]
    have : [PyData.int 1] ++ dints (tab n fun _ => 0) = dints (tab (n + 1) (MZ.F c 0)) := by
      unfold tab
      rw [List.range_succ_eq_map, List.map_cons, List.map_map]
      rfl
    rw [this]
  · rintro i d env hd ⟨t3, t4, t5, rfl⟩
    obtain ⟨hi, rfl⟩ := rng_at hd
    have hi' : i < n := by omega
    obtain ⟨hx, x0, x1⟩ := hci i (by omega)
    refine ⟨.int (c i), atI_nats (i := i) (by omega) (by rw [List.getElem?_map, hx]; rfl), ⟨by omega, by omega⟩, fun k env => ∃ t4 t5, env = [some (.v (.list (dints cs))), some (.v (.int n)), some (.own (dints (tab (n + 1) (MZ.T (i + 1) (MZ.F c i) k)))), some (.v (.int (1 + (i : Int)))), t4, t5], ⟨t4, t5, ?_⟩, ?_, ?_⟩
    · have : dints (tab (n + 1) (MZ.T (i + 1) (MZ.F c i) 0)) = dints (tab (n + 1) (MZ.F c i)) := tab_ext fun j hj => MZ.T_zero (by omega) _ _
      rw [this]
      rfl
    · rintro k d env hd ⟨t4, t5, rfl⟩
      obtain ⟨hk, rfl⟩ := rng_at hd
      refine ⟨⟨by omega, by omega, by omega, by omega⟩, fun q env => ∃ t5, env = [some (.v (.list (dints cs))), some (.v (.int n)), some (.own (dints (tab (n + 1) fun j => if j < i + 1 + q then MZ.T (i + 1) (MZ.F c i) (k + 1) j else MZ.T (i + 1) (MZ.F c i) k j))), some (.v (.int (1 + (i : Int)))), some (.v (.int (0 + (k : Int)))), t5], ⟨t5, ?_⟩, ?_, ?_⟩
      · have : dints (tab (n + 1) fun j => if j < i + 1 + 0 then MZ.T (i + 1) (MZ.F c i) (k + 1) j else MZ.T (i + 1) (MZ.F c i) k j) = dints (tab (n + 1) (MZ.T (i + 1) (MZ.F c i) k)) := tab_ext fun j hj => by
          by_cases h : j < i + 1 + 0
          · rw [if_pos h, MZ.T_succ (by omega), if_neg (by omega), Int.add_zero]
          · rw [if_neg h]
        rw [this]
        rfl
      · rintro q d env hd ⟨t5, rfl⟩
        obtain ⟨hq', rfl⟩ := rng_at hd
        have hq2 : i + 1 + q < n + 1 := by omega
        refine ⟨_, tab_atI (i := i + 1 + q) (by omega) hq2, _, tab_atI (i := q) (by omega) (by omega), i + 1 + q, ixN_nat (by omega) (by rw [dtab_len]; exact hq2), some (.v (.int (1 + (i : Int) + (q : Int)))), ?_⟩
        have : (dints (tab (n + 1) fun j => if j < i + 1 + q then MZ.T (i + 1) (MZ.F c i) (k + 1) j else MZ.T (i + 1) (MZ.F c i) k j)).set (i + 1 + q) (.int ((if i + 1 + q < i + 1 + q then MZ.T (i + 1) (MZ.F c i) (k + 1) (i + 1 + q) else MZ.T (i + 1) (MZ.F c i) k (i + 1 + q)) + (if q < i + 1 + q then MZ.T (i + 1) (MZ.F c i) (k + 1) q else MZ.T (i + 1) (MZ.F c i) k q))) = dints (tab (n + 1) fun j => if j < i + 1 + (q + 1) then MZ.T (i + 1) (MZ.F c i) (k + 1) j else MZ.T (i + 1) (MZ.F c i) k j) := by
          rw [tab_set]
          refine tab_ext fun j hj => ?_
          by_cases h : j = i + 1 + q
          · subst h
            rw [if_pos rfl, if_neg (Nat.lt_irrefl _), if_pos (show q < i + 1 + q by omega), if_pos (by omega), MZ.T_succ (by omega) (MZ.F c i) k (i + 1 + q), if_pos (by omega), show i + 1 + q - (i + 1) = q by omega]
          · rw [if_neg h]
            by_cases h2 : j < i + 1 + q
            · rw [if_pos h2, if_pos (by omega)]
            · rw [if_neg h2, if_neg (by omega)]
        rw [← this]
        rfl
      · rintro env ⟨t5, rfl⟩
        rw [rng_len]
        refine ⟨some (.v (.int (0 + (k : Int)))), t5, ?_⟩
        have : dints (tab (n + 1) fun j => if j < i + 1 + ((n : Int) + 1 - (1 + (i : Int))).toNat then MZ.T (i + 1) (MZ.F c i) (k + 1) j else MZ.T (i + 1) (MZ.F c i) k j) = dints (tab (n + 1) (MZ.T (i + 1) (MZ.F c i) (k + 1))) := tab_ext fun j hj => if_pos (by omega)
        rw [this]
    · rintro env ⟨t4, t5, rfl⟩
      rw [rng_len]
      refine ⟨some (.v (.int (1 + (i : Int)))), t4, t5, ?_⟩
      have : dints (tab (n + 1) (MZ.T (i + 1) (MZ.F c i) (c i).toNat)) = dints (tab (n + 1) (MZ.F c (i + 1))) := tab_ext fun j hj => (MZ.F_T (cn := cn) hcn hcn2 (by omega) (by omega)).symm
      rw [← this]
  · rintro env ⟨t3, t4, t5, rfl⟩
    rw [rng_len, show ((n : Int) + 1 - 1).toNat = n by omega]
    exact hq

theorem ok__law_ways {f : Addr} {fd : FuncData} (F : Fun K "_law_ways" "_law_ways" s__law_ways f fd)  (m_range : mg "range" = none)  : FnOk P w K mg base CX0 1 f fd ["counts", "most"] (SpD K okH 2 M__law_ways) :=
  def_ok F sc__law_ways rfl (fun cdv A outer s H E hr =>
 (s_cons (s_setO 2 sc__law_ways.nd (l_cat (d_b (d_fz (l_lst (a_cons d_int a_nil)))) (d_b (d_fz (l_rep (d_b (d_fz (l_lst (a_cons d_int a_nil)))) (d_var 1))))))
 (s_cons (s_for (vs := [3]) PassesOwn.never rfl (i_r2 m_range d_int (d_add (d_var 1) d_int)) (g_name 3 sc__law_ways.nd)
 (s_one (s_for (vs := [4]) PassesOwn.never rfl (i_r1 m_range (d_ix (d_b (d_var 0)) (d_sub (d_var 3) d_int))) (g_name 4 sc__law_ways.nd)
 (s_one (s_for (vs := [5]) PassesOwn.never rfl (i_r2 m_range (d_var 3) (d_add (d_var 1) d_int)) (g_name 5 sc__law_ways.nd)
 (s_one (s_put 2 (d_add (d_ix (d_bor 2) (d_var 5)) (d_ix (d_bor 2) (d_sub (d_var 5) (d_var 3)))) (d_var 5))))))))
 (s_one (s_retV 2))))) mf__law_ways
/-! ### _law_common -/
abbrev s__law_common : Stmt := topS 20
theorem sc__law_common : FnScope ["one", "two"] ["one", "two"] (defScope s__law_common) := ⟨rfl, rfl, rfl, by decide +kernel, rfl, by decide +kernel, by decide +kernel⟩
def M__law_common : WM := fun as Q => ∃ x y : Int, as = [.v (.int x), .v (.int y)] ∧ -(2 ^ 60) < y ∧ y < 2 ^ 60 ∧ Q (.v (.int (Int.gcd x y)))

def w__law_common : WS := (wSeq (wSet 0 (wUn fAbs (wVar 0)))
 (wSeq (wSet 1 (wUn fAbs (wVar 1)))
 (wSeq (wWhile (wTest (wBin fGt (wVar 1) (wC (.int 0))))
 (wPar 0 1 (wCons (wVar 1) (wCons (wBin fSub (wVar 0) (wBin fMul (wVar 1) (wBin fDiv (wVar 0) (wVar 1)))) wNil))))
 (wRet (wVar 0)))))
theorem mf__law_common : ∀ as Q, as.length = 2 → M__law_common as Q → w__law_common { nx := fun _ => Q (.v .none), rt := Q } (stE as 0) := by
  rintro as Q _ ⟨x, y, rfl, y0, y1, hq⟩
  have ab : ∀ z : Int, (if z < 0 then -z else z) = (z.natAbs : Int) := fun z => by split <;> omega
  let I : Nat → EnvD → Prop := fun k env => ∃ a b : Nat, env = [some (.v (.int a)), some (.v (.int b))] ∧ k = b ∧ b < 2 ^ 60 ∧ Nat.gcd a b = Int.gcd x y
  refine ⟨I, ⟨y.natAbs, x.natAbs, y.natAbs, ?_, rfl, by omega, rfl⟩, fun k env hI => ?_⟩
  · rw [← ab x, ← ab y]
    rfl
  obtain ⟨a, b, rfl, rfl, kb, e⟩ := hI
  refine ⟨fun h => ?_, fun h => ?_⟩
  · have hb : (0 : Int) < k := of_decide_eq_true h
    refine ⟨fun e => ∃ m', m' < k ∧ I m' e, fun _ z => z, ?_⟩
    refine ⟨div200 (by omega) (by omega) _, .inl ⟨by omega, by omega⟩, ?_⟩
    refine ⟨a % k, Nat.mod_lt _ (by omega), k, a % k, ?_, rfl, Nat.lt_trans (Nat.mod_lt _ (by omega)) kb, ?_⟩
    · rw [Int.natCast_emod, Int.emod_def]
      rfl
    · rw [← e, Nat.gcd_comm a k, Nat.gcd_rec k a, Nat.gcd_comm]
  · have hb : ¬ (0 : Int) < k := of_decide_eq_false h
    have e0 : k = 0 := by omega
    subst e0
    rw [Nat.gcd_zero_right] at e
    show Q (.v (.int (a : Int)))
    rw [e]
    exact hq

theorem ok__law_common {f : Addr} {fd : FuncData} (F : Fun K "_law_common" "_law_common" s__law_common f fd)  (m_abs : mg "abs" = none)  : FnOk P w K mg base CX0 1 f fd ["one", "two"] (SpD K okH 2 M__law_common) :=
  def_ok F sc__law_common rfl (fun cdv A outer s H E hr =>
 (s_cons (s_set 0 sc__law_common.nd (d_abs m_abs (d_var 0)))
 (s_cons (s_set 1 sc__law_common.nd (d_abs m_abs (d_var 1)))
 (s_cons (s_while PassesOwn.never (t_gt (d_var 1) d_int)
 (s_one (s_par 0 1 rfl sc__law_common.nd (by decide) (a_cons (d_var 1) (a_cons (d_sub (d_var 0) (d_mul (d_var 1) (d_div (d_var 0) (d_var 1)))) a_nil)))))
 (s_one (s_ret (d_var 0))))))) mf__law_common
/-! ### law -/
abbrev s_law : Stmt := topS 21
theorem sc_law : FnScope ["script", "draws", "at", "curve", "p", "number", "trace", "most", "rows", "k", "part", "told", "size", "counts", "many", "turn", "top", "bottom", "above", "below", "actual"] ["script"] (defScope s_law) := ⟨rfl, rfl, rfl, by decide +kernel, rfl, by decide +kernel, by decide +kernel⟩

def w_law_L15 : WS := (wApp 8 (wVar 10))
def w_law_L13 : WS := (wSeq (wIf (wTest (wBin fGt (wVar 9) (wC (.int 1))))
 (wSet 10 (wBin fSub (wVar 10) (wBin fMul (wVar 4) (wIx (wBor 8) (wBin fSub (wVar 9) (wC (.int 2)))))))
 wNx)
 w_law_L15)
def w_law_L11 : WS := (wSeq (wIf (wTest (wBin fGt (wVar 9) (wC (.int 0))))
 (wSet 10 (wBin fAdd (wVar 10) (wBin fMul (wBin fAdd (wVar 4) (wC (.int 1))) (wIx (wBor 8) (wBin fSub (wVar 9) (wC (.int 1)))))))
 wNx)
 w_law_L13)
def w_law_L42 : WS := (wIf (wAndD (wTest (wBin fNe (wVar 16) (wC (.int 0)))) (wTest (wBin fNe (wVar 20) (wCallP 4 M_fraction_at (wCons (wVar 4) (wCons (wVar 5) (wCons (wVar 17) (wCons (wBin fMul (wVar 4) (wVar 16)) wNil))))))))
 (wRet (wC (.bool false)))
 wNx)
def w_law_L40 : WS := (wSeq (wIf (wAndD (wTest (wNotN (wVar 20))) (wOrD (wTest (wBin fNe (wBin fMul (wIx (wVar 20) (wC (.int 0))) (wVar 19)) (wBin fMul (wIx (wVar 20) (wC (.int 1))) (wVar 18)))) (wOrD (wTest (wBin fLt (wIx (wVar 20) (wC (.int 1))) (wC (.int 1)))) (wTest (wBin fNe (wCallP 2 M__law_common (wCons (wIx (wVar 20) (wC (.int 0))) (wCons (wIx (wVar 20) (wC (.int 1))) wNil))) (wC (.int 1)))))))
 (wRet (wC (.bool false)))
 wNx)
 w_law_L42)
def w_law_L38 : WS := (wSeq (wIf (wTest (wBin fNe (wIsN (wVar 20)) (wBin fEq (wVar 19) (wC (.int 0)))))
 (wRet (wC (.bool false)))
 wNx)
 w_law_L40)
def w_law_L44 : WS := (wRet (wBl (wAndD (wTest (wIsN (wCallP 4 M_fraction_at (wCons (wVar 4) (wCons (wVar 5) (wCons (wC (.int 1)) (wCons (wC (.int 1)) wNil))))))) (wTest (wIsN (wCallP 4 M_fraction_at (wCons (wVar 4) (wCons (wVar 5) (wCons (wC (.int 1)) (wCons (wVar 4) wNil))))))))))
def w_law_L32 : WS := (wSeq (wFor (iR1 (wC (.int 3))) (gN 15)
 (wSeq (wSet 16 (wBin fSub (wCallP 3 M__law_next (wCons (wVar 1) (wConsH 2 (wCons (wC (.int 60)) wNil)))) (wC (.int 20))))
 (wSeq (wSet 17 (wBin fMul (wIx (wFz (wLstP (wCons (wC (.int 1)) (wCons (wUn fNeg (wC (.int 1))) wNil)))) (wCallP 3 M__law_next (wCons (wVar 1) (wConsH 2 (wCons (wC (.int 2)) wNil))))) (wBin fAdd (wC (.int 1)) (wCallP 3 M__law_next (wCons (wVar 1) (wConsH 2 (wCons (wC (.int 40)) wNil)))))))
 (wSeq (wSet 18 (wBin fAdd (wBin fSub (wBin fMul (wVar 17) (wVar 17)) (wBin fMul (wBin fMul (wVar 6) (wVar 16)) (wVar 17))) (wBin fMul (wBin fMul (wVar 4) (wVar 16)) (wVar 16))))
 (wSeq (wSet 19 (wBin fMul (wBin fSub (wVar 17) (wVar 16)) (wBin fSub (wVar 17) (wBin fMul (wVar 4) (wVar 16)))))
 (wSeq (wSet 20 (wCallP 4 M_fraction_at (wCons (wVar 4) (wCons (wVar 5) (wCons (wVar 16) (wCons (wVar 17) wNil))))))
 w_law_L38))))))
 w_law_L44)
def w_law_L30 : WS := (wSeq (wIf (wTest (wBin fNe (wCallP 2 M_from_places (wCons (wVar 13) (wCons (wVar 14) wNil))) (wCallP 2 M__law_ways (wCons (wVar 13) (wCons (wVar 14) wNil)))))
 (wRet (wC (.bool false)))
 wNx)
 w_law_L32)
def w_law_L28 : WS := (wSeq (wSetF 13 (wLc (iR1 (wC (.int 7))) (gN 9) wYes (wCallP 3 M__law_next (wCons (wVar 1) (wConsH 2 (wCons (wC (.int 12)) wNil)))) [9]))
 (wSeq (wSet 14 (wCallP 3 M__law_next (wCons (wVar 1) (wConsH 2 (wCons (wC (.int 8)) wNil)))))
 w_law_L30))
def w_law_L26 : WS := (wSeq (wIf (wTest (wBin fNe (wCallP 2 M_numbers_again (wCons (wVar 4) (wCons (wVar 11) wNil))) (wFz (wSlL (wCallP 3 M_numbers (wCons (wVar 4) (wCons (wVar 5) (wCons (wBin fAdd (wVar 7) (wC (.int 1))) wNil)))) woN (woS (wVar 7))))))
 (wRet (wC (.bool false)))
 wNx)
 w_law_L28)
def w_law_L24 : WS := (wSeq (wIf (wTest (wBin fNe (wCallP 2 M_from_places (wCons (wFz (wLc (iR2 (wC (.int 1)) (wBin fAdd (wVar 7) (wC (.int 1)))) (gN 9) wYes (wCallP 3 M_places (wCons (wVar 4) (wCons (wVar 5) (wCons (wVar 9) wNil)))) [9])) (wCons (wVar 7) wNil))) (wVar 11)))
 (wRet (wC (.bool false)))
 wNx)
 w_law_L26)
def w_law_L19 : WS := (wSeq (wSet 12 (wC (.int 1)))
 (wSeq (wFor (iR2 (wC (.int 1)) (wBin fAdd (wVar 7) (wC (.int 1)))) (gN 9)
 (wSeq (wSet 12 (wBin fMul (wVar 12) (wVar 4)))
 (wIf (wTest (wBin fNe (wBin fMul (wIx (wVar 11) (wVar 9)) (wBin fSub (wVar 4) (wC (.int 1)))) (wBin fMul (wVar 5) (wBin fSub (wVar 12) (wC (.int 1))))))
 (wRet (wC (.bool false)))
 wNx)))
 w_law_L24))
def w_law_L16 : WS := (wSeq (wSet 11 (wCallP 3 M_divisors (wCons (wVar 4) (wCons (wVar 5) (wCons (wVar 7) wNil)))))
 (wSeq (wFrz 8 (wIf (wOrD (wTest (wBin fNe (wVar 11) (wVar 8))) (wNot (wTest (wIsI "list" (wVar 11)))))
 (wRet (wC (.bool false)))
 wNx))
 w_law_L19))
def w_law_L6 : WS := (wSeq (wSet 6 (wBin fSub (wBin fAdd (wVar 4) (wC (.int 1))) (wVar 5)))
 (wSeq (wSet 7 (wCallP 3 M__law_next (wCons (wVar 1) (wConsH 2 (wCons (wC (.int 13)) wNil)))))
 (wSeq (wSetO 8 (wLstP wNil))
 (wSeq (wFor (iR1 (wBin fAdd (wVar 7) (wC (.int 1)))) (gN 9)
 (wSeq (wSet 10 (wIfE (wTest (wBin fLt (wVar 9) (wC (.int 3)))) (wIx (wFz (wLstP (wCons (wC (.int 1)) (wCons (wUn fNeg (wVar 6)) (wCons (wVar 4) wNil))))) (wVar 9)) (wC (.int 0))))
 w_law_L11))
 w_law_L16))))
def w_law : WS := (wSeq (wSet 1 (wFz (wCallOP 1 M__law_draws (wCons (wVar 0) wNil))))
 (wSeq (wSetH okH 2 (wLstP (wCons (wC (.int 0)) wNil)))
 (wSeq (wSet 3 (wCallP 3 M__law_curve (wCons (wVar 1) (wConsH 2 (wCons (wFz (wLstP (wCons (wC (.int 5)) (wCons (wC (.int 7)) (wCons (wC (.int 11)) (wCons (wC (.int 13)) (wCons (wC (.int 17)) (wCons (wC (.int 19)) (wCons (wC (.int 23)) (wCons (wC (.int 29)) wNil)))))))))) wNil)))))
 (wSeq (wSet 4 (wIx (wVar 3) (wC (.int 0))))
 (wSeq (wSet 5 (wCallP 1 M__law_count (wCons (wVar 3) wNil)))
 w_law_L6)))))
theorem sh_bl (b : Bool) : SeqAt.shaped (.bool b) = true := by cases b <;> rfl
theorem frB_bd {p x y : Int} (p0 : 0 ≤ p) (p1 : p ≤ 30) (x0 : -2000 ≤ x) (x1 : x ≤ 2000) (y0 : -2000 ≤ y) (y1 : y ≤ 2000) : -(2 ^ 60) < frB p x y ∧ frB p x y < 2 ^ 60 := by
  have h1 : (frB p x y).natAbs = (y - x).natAbs * (y - p * x).natAbs := Int.natAbs_mul _ _
  have h2 : (p * x).natAbs = p.natAbs * x.natAbs := Int.natAbs_mul _ _
  have h3 := Nat.mul_le_mul (show p.natAbs ≤ 30 by omega) (show x.natAbs ≤ 2000 by omega)
  have h4 := Nat.mul_le_mul (show (y - x).natAbs ≤ 4000 by omega) (show (y - p * x).natAbs ≤ 62000 by omega)
  omega
theorem frD_bd {p x y : Int} (p0 : 0 ≤ p) (p1 : p ≤ 30) (x0 : -2000 ≤ x) (x1 : x ≤ 2000) (y0 : -2000 ≤ y) (y1 : y ≤ 2000) : -(2 ^ 60) < frD p x y ∧ frD p x y < 2 ^ 60 := by
  have := frB_bd p0 p1 x0 x1 y0 y1
  unfold frD
  split <;> omega
theorem frQ_swap {p : Int} (t x y : Int) (p0 : 0 < p) : frQ p t y (p * x) = frQ p t x y := by
  have eA : frA p t y (p * x) = p * frA p t x y := by unfold frA; grind
  have eB : frB p y (p * x) = p * frB p x y := by unfold frB; grind
  have sg : frB p y (p * x) < 0 ↔ frB p x y < 0 := by
    rw [eB]
    constructor
    · intro h
      apply Int.not_le.mp
      intro z
      have := Int.mul_nonneg (show 0 ≤ p by omega) z
      omega
    · intro h
      exact Int.mul_neg_of_pos_of_neg p0 h
  have zr : frB p y (p * x) = 0 ↔ frB p x y = 0 := by
    rw [eB]
    constructor
    · intro h
      rcases Int.mul_eq_zero.mp h with h | h
      · omega
      · exact h
    · intro h
      rw [h, Int.mul_zero]
  have eN : frN p t y (p * x) = p * frN p t x y := by
    unfold frN
    by_cases h : frB p x y < 0
    · rw [if_pos h, if_pos (sg.mpr h), eA, Int.mul_neg]
    · rw [if_neg h, if_neg fun z => h (sg.mp z), eA]
  have eD : frD p y (p * x) = p * frD p x y := by
    unfold frD
    by_cases h : frB p x y < 0
    · rw [if_pos h, if_pos (sg.mpr h), eB, Int.mul_neg]
    · rw [if_neg h, if_neg fun z => h (sg.mp z), eB]
  unfold frQ
  by_cases h : frB p x y = 0
  · rw [if_pos h, if_pos (zr.mpr h)]
  · rw [if_neg h, if_neg fun z => h (zr.mp z), eN, eD, Int.gcd_mul_left, Int.natCast_mul, show ((p.natAbs : Nat) : Int) = p by omega, Int.mul_ediv_mul_of_pos _ _ p0, Int.mul_ediv_mul_of_pos _ _ p0]
theorem frQ_case (p t x y : Int) : (frB p x y = 0 ∧ frQ p t x y = .none) ∨ (frB p x y ≠ 0 ∧ ∃ u v : Int, frQ p t x y = .tuple [.int u, .int v] ∧ u * frB p x y = v * frA p t x y ∧ 1 ≤ v ∧ Int.gcd u v = 1 ∧ v ≤ frD p x y) := by
  by_cases h : frB p x y = 0
  · exact .inl ⟨h, if_pos h⟩
  · refine .inr ⟨h, _, _, if_neg h, ?_⟩
    have d0 : 0 < frD p x y := by
      unfold frD
      split <;> omega
    have g0 : 0 < Int.gcd (frN p t x y) (frD p x y) := Int.gcd_pos_of_ne_zero_right _ (by omega)
    have g1 : 0 < ((Int.gcd (frN p t x y) (frD p x y) : Nat) : Int) := by omega
    have e1 := Int.ediv_mul_cancel (Int.gcd_dvd_left (frN p t x y) (frD p x y))
    have e2 := Int.ediv_mul_cancel (Int.gcd_dvd_right (frN p t x y) (frD p x y))
    have hg := Int.gcd_ediv_gcd_ediv_gcd g0
    generalize hu : frN p t x y / ((Int.gcd (frN p t x y) (frD p x y) : Nat) : Int) = u at *
    generalize hv : frD p x y / ((Int.gcd (frN p t x y) (frD p x y) : Nat) : Int) = v at *
    generalize ((Int.gcd (frN p t x y) (frD p x y) : Nat) : Int) = g at *
    have e3 : u * frD p x y = v * frN p t x y := by rw [← e1, ← e2]; grind
    have v1 : 1 ≤ v := by
      apply Int.not_lt.mp
      intro z
      have := Int.mul_nonpos_of_nonpos_of_nonneg (a := v) (b := g) (by omega) (by omega)
      omega
    refine ⟨?_, v1, hg, ?_⟩
    · unfold frD frN at e3
      split at e3
      · rw [Int.mul_neg, Int.mul_neg] at e3
        omega
      · exact e3
    · have := Int.mul_le_mul_of_nonneg_left (show 1 ≤ g by omega) (show 0 ≤ v by omega)
      omega
theorem tt_mul (p : Int) : ∀ i : Nat, MZ.tt p i * (p - 1) = p ^ (i + 1) - 1
  | 0 => by show 1 * (p - 1) = p ^ 1 - 1; rw [Int.pow_succ, Int.pow_zero]; omega
  | i + 1 => by
    show (MZ.tt p i + p ^ (i + 1)) * (p - 1) = p ^ (i + 1 + 1) - 1
    rw [Int.add_mul, tt_mul p i, Int.pow_succ p (i + 1)]
    grind
def pvk (p t : Int) : Nat → Int
  | 0 => 1
  | 1 => -t
  | 2 => p
  | _ + 3 => 0
section
variable {W : WEnds} {ns ms : List Int} {c3 : D} {p N : Int} {n : Nat}
/-- the frame -/
abbrev EV (ns ms : List Int) (c3 : D) (p N : Int) (n : Nat) (t8 t9 t10 t11 t12 t13 t14 t15 t16 t17 t18 t19 t20 : Option Sl) : EnvD :=
  [some (.v (scr ns)), some (.v (.list (dints ms))), some .hnd, some (.v c3), some (.v (.int p)), some (.v (.int N)), some (.v (.int (p + 1 - N))), some (.v (.int n)), t8, t9, t10, t11, t12, t13, t14, t15, t16, t17, t18, t19, t20]
/-- what is known -/
structure KN (p N : Int) (n : Nat) : Prop where
  hp : MZ.pr p
  N0 : 1 ≤ N
  N1 : N ≤ 2 * p + 1
  n1 : n ≤ 12
theorem KN.pb (k : KN p N n) : 5 ≤ p ∧ p ≤ 29 := by
  have := k.hp
  unfold MZ.pr at this
  omega
theorem law_L44 (k : KN p N n) {t8 t9 t10 t11 t12 t13 t14 t15 t16 t17 t18 t19 t20 : Option Sl} (h : W.rt (.v (.bool true))) : w_law_L44 W (EV ns ms c3 p N n t8 t9 t10 t11 t12 t13 t14 t15 t16 t17 t18 t19 t20) := by
  obtain ⟨p0, p1⟩ := k.pb
  have := k.N0; have := k.N1
  have e1 : frQ p (p + 1 - N) 1 1 = .none := if_pos (show ((1 : Int) - 1) * _ = 0 by rw [show (1 : Int) - 1 = 0 from rfl, Int.zero_mul])
  have e2 : frQ p (p + 1 - N) 1 p = .none := if_pos (show (p - 1) * (p - p * 1) = 0 by rw [Int.mul_one, Int.sub_self, Int.mul_zero])
  refine ⟨rfl, rfl, p, N, 1, 1, rfl, by omega, by omega, by omega, by omega, by decide, by decide, by decide, by decide, frD_bd (by omega) (by omega) (by decide) (by decide) (by decide) (by decide), fun d hd => ?_⟩
  rw [e1] at hd
  subst hd
  refine ⟨true, fun _ => ⟨rfl, rfl, p, N, 1, p, rfl, by omega, by omega, by omega, by omega, by decide, by decide, by omega, by omega, frD_bd (by omega) (by omega) (by decide) (by decide) (by omega) (by omega), fun d hd => ?_⟩, h⟩
  rw [e2] at hd
  subst hd
  exact rfl
theorem law_L42 (k : KN p N n) {t8 t9 t10 t11 t12 t13 t14 t15 t18 t19 : Option Sl} {x y : Int} (x0 : -20 ≤ x) (x1 : x ≤ 40) (y0 : -40 ≤ y) (y1 : y ≤ 40) (h : W.nx (EV ns ms c3 p N n t8 t9 t10 t11 t12 t13 t14 t15 (some (.v (.int x))) (some (.v (.int y))) t18 t19 (some (.v (frQ p (p + 1 - N) x y))))) :
    w_law_L42 W (EV ns ms c3 p N n t8 t9 t10 t11 t12 t13 t14 t15 (some (.v (.int x))) (some (.v (.int y))) t18 t19 (some (.v (frQ p (p + 1 - N) x y)))) := by
  obtain ⟨p0, p1⟩ := k.pb
  have := k.N0; have := k.N1
  have px : -2000 ≤ p * x ∧ p * x ≤ 2000 := by
    have h2 : (p * x).natAbs = p.natAbs * x.natAbs := Int.natAbs_mul _ _
    have h3 := Nat.mul_le_mul (show p.natAbs ≤ 29 by omega) (show x.natAbs ≤ 40 by omega)
    omega
  refine ⟨false, fun _ => ?_, ?_⟩
  · have sw := frQ_swap (p + 1 - N) x y (show 0 < p by omega)
    rcases frQ_case p (p + 1 - N) x y with ⟨_, e⟩ | ⟨_, u, v, e, _⟩
    · rw [e] at sw ⊢
      refine ⟨.inl ⟨by omega, by omega⟩, rfl, rfl, p, N, y, p * x, rfl, by omega, by omega, by omega, by omega, by omega, by omega, by omega, by omega, frD_bd (by omega) (by omega) (by omega) (by omega) (by omega) (by omega), fun d hd => ?_⟩
      rw [sw] at hd
      subst hd
      exact ⟨rfl, rfl, congrArg (!·) (eqv_self (k := 1) (d := .none) rfl)⟩
    · rw [e] at sw ⊢
      refine ⟨.inl ⟨by omega, by omega⟩, rfl, rfl, p, N, y, p * x, rfl, by omega, by omega, by omega, by omega, by omega, by omega, by omega, by omega, frD_bd (by omega) (by omega) (by omega) (by omega) (by omega) (by omega), fun d hd => ?_⟩
      rw [sw] at hd
      subst hd
      exact ⟨rfl, rfl, congrArg (!·) (eqv_self (k := 1) (d := .tuple [.int u, .int v]) rfl)⟩
  · rw [Bool.and_false]
    exact wfalse (onNx h)
theorem law_L40 (k : KN p N n) {t8 t9 t10 t11 t12 t13 t14 t15 : Option Sl} {x y : Int} (x0 : -20 ≤ x) (x1 : x ≤ 40) (y0 : -40 ≤ y) (y1 : y ≤ 40) (h : W.nx (EV ns ms c3 p N n t8 t9 t10 t11 t12 t13 t14 t15 (some (.v (.int x))) (some (.v (.int y))) (some (.v (.int (frA p (p + 1 - N) x y)))) (some (.v (.int (frB p x y)))) (some (.v (frQ p (p + 1 - N) x y))))) :
    w_law_L40 W (EV ns ms c3 p N n t8 t9 t10 t11 t12 t13 t14 t15 (some (.v (.int x))) (some (.v (.int y))) (some (.v (.int (frA p (p + 1 - N) x y)))) (some (.v (.int (frB p x y)))) (some (.v (frQ p (p + 1 - N) x y)))) := by
  obtain ⟨p0, p1⟩ := k.pb
  have bd := frB_bd (p := p) (x := x) (y := y) (by omega) (by omega) (by omega) (by omega) (by omega) (by omega)
  have bd2 := frD_bd (p := p) (x := x) (y := y) (by omega) (by omega) (by omega) (by omega) (by omega) (by omega)
  have l42 := law_L42 (t18 := (some (.v (.int (frA p (p + 1 - N) x y))))) (t19 := (some (.v (.int (frB p x y))))) k x0 x1 y0 y1 h
  rcases frQ_case p (p + 1 - N) x y with ⟨hB, e⟩ | ⟨hB, u, v, e, q1, q2, q3, q4⟩
  · rw [e] at l42 ⊢
    exact ⟨false, (nomatch ·), wfalse (onNx l42)⟩
  · rw [e] at l42 ⊢
    have r3 : (decide (v < 1) || false) = false := by rw [decide_eq_false (by omega)]; rfl
    have r1 : (!decide (u * frB p x y = v * frA p (p + 1 - N) x y)) = false := by rw [decide_eq_true q1]; rfl
    have r2 : (!decide (((Int.gcd u v : Nat) : Int) = 1)) = false := by rw [q3]; rfl
    refine ⟨false, fun _ => ?_, wfalse (onNx l42)⟩
    refine ⟨.int u, rfl, .inr ⟨by omega, by omega⟩, .int v, rfl, .inl ⟨by omega, by omega⟩, false, fun _ => ?_, ?_⟩
    · refine ⟨.int v, rfl, false, fun _ => ?_, r3⟩
      exact ⟨.int u, rfl, .int v, rfl, rfl, rfl, u, v, rfl, by omega, by omega, r2⟩
    · show (!decide (u * frB p x y = v * frA p (p + 1 - N) x y) || false) = false
      rw [r1]
      rfl
theorem law_L38 (k : KN p N n) {t8 t9 t10 t11 t12 t13 t14 t15 : Option Sl} {x y : Int} (x0 : -20 ≤ x) (x1 : x ≤ 40) (y0 : -40 ≤ y) (y1 : y ≤ 40) (h : W.nx (EV ns ms c3 p N n t8 t9 t10 t11 t12 t13 t14 t15 (some (.v (.int x))) (some (.v (.int y))) (some (.v (.int (frA p (p + 1 - N) x y)))) (some (.v (.int (frB p x y)))) (some (.v (frQ p (p + 1 - N) x y))))) :
    w_law_L38 W (EV ns ms c3 p N n t8 t9 t10 t11 t12 t13 t14 t15 (some (.v (.int x))) (some (.v (.int y))) (some (.v (.int (frA p (p + 1 - N) x y)))) (some (.v (.int (frB p x y)))) (some (.v (frQ p (p + 1 - N) x y)))) := by
  have l40 := law_L40 k x0 x1 y0 y1 h
  rcases frQ_case p (p + 1 - N) x y with ⟨hB, e⟩ | ⟨hB, u, v, e, _⟩
  · rw [e] at l40 ⊢
    refine ⟨sh_bl _, sh_bl _, ?_⟩
    have : (!PyData.eqv (.bool true) (.bool (decide (frB p x y = 0)))) = false := by rw [decide_eq_true hB]; rfl
    exact ⟨fun z => absurd (this.symm.trans z) (by decide), fun _ => onNx l40⟩
  · rw [e] at l40 ⊢
    refine ⟨sh_bl _, sh_bl _, ?_⟩
    have : (!PyData.eqv (.bool false) (.bool (decide (frB p x y = 0)))) = false := by rw [decide_eq_false hB]; rfl
    exact ⟨fun z => absurd (this.symm.trans z) (by decide), fun _ => onNx l40⟩
theorem law_L32 (k : KN p N n) {t8 t9 t10 t11 t12 t13 t14 : Option Sl} (h : W.rt (.v (.bool true))) : w_law_L32 W (EV ns ms c3 p N n t8 t9 t10 t11 t12 t13 t14 none none none none none none) := by
  obtain ⟨p0, p1⟩ := k.pb
  have := k.N0; have := k.N1
  refine ⟨⟨by decide, by decide⟩, fun i env => ∃ t15 t16 t17 t18 t19 t20, env = EV ns ms c3 p N n t8 t9 t10 t11 t12 t13 t14 t15 t16 t17 t18 t19 t20, ⟨_, _, _, _, _, _, rfl⟩, ?_, ?_⟩
  · rintro i d env hd ⟨t15, t16, t17, t18, t19, t20, rfl⟩
    refine nxt (by decide) fun a a0 a1 => ?_
    refine ⟨rfl, lk rfl, ?_⟩
    refine nxt (by decide) fun s s0 s1 => ?_
    obtain ⟨sg, hs, sg0⟩ : ∃ sg : Int, atI [PyData.int 1, .int (-1)] s = some (.int sg) ∧ (sg = 1 ∨ sg = -1) := by
      have : s = 0 ∨ s = 1 := by omega
      rcases this with rfl | rfl
      · exact ⟨1, rfl, .inl rfl⟩
      · exact ⟨-1, rfl, .inr rfl⟩
    refine ⟨.int sg, hs, ?_⟩
    refine nxt (by decide) fun b b0 b1 => ?_
    have yb : -40 ≤ sg * (1 + b) ∧ sg * (1 + b) ≤ 40 := by
      rcases sg0 with rfl | rfl <;> omega
    refine ⟨.inl ⟨by omega, by omega⟩, ?_⟩
    generalize sg * (1 + b) = y at *
    have cy : ∀ z, CMul z y := fun z => .inr ⟨by omega, by omega⟩
    have ca : ∀ z, CMul z (a - 20) := fun z => .inr ⟨by omega, by omega⟩
    have cp : ∀ z, CMul p z := fun z => .inl ⟨by omega, by omega⟩
    refine ⟨cy _, ca _, cy _, cp _, ca _, cp _, .inl ⟨by omega, by omega⟩, rfl, rfl, p, N, a - 20, y, rfl, by omega, by omega, by omega, by omega, by omega, by omega, by omega, by omega, frD_bd (by omega) (by omega) (by omega) (by omega) (by omega) (by omega), fun d2 hd2 => ?_⟩
    subst hd2
    exact law_L38 k (by omega) (by omega) (by omega) (by omega) ⟨_, _, _, _, _, _, rfl⟩
  · rintro env ⟨t15, t16, t17, t18, t19, t20, rfl⟩
    exact law_L44 k h
theorem law_L30 (k : KN p N n) {t8 t9 t10 t11 t12 : Option Sl} {cs : List Int} {m : Nat} (hm : m ≤ 7) (hl : cs.length = 7) (hc : ∀ c ∈ cs, 0 ≤ c ∧ c < 12) (h : W.rt (.v (.bool true))) : w_law_L30 W (EV ns ms c3 p N n t8 t9 t10 t11 t12 (some (.v (.list (dints cs)))) (some (.v (.int m))) none none none none none none) := by
  have hcd : ∀ d, d < 7 → 0 ≤ cs.getD d 0 ∧ cs.getD d 0 < 12 := fun d hd => by
    have h1 : cs[d]? = some cs[d] := List.getElem?_eq_getElem (by omega)
    rw [List.getD_eq_getElem?_getD, h1]
    exact hc _ (List.getElem_mem (by omega))
  refine ⟨rfl, rfl, cs, m, rfl, by omega, by omega, fun d hd i hi => ?_, rfl, rfl, cs, m, rfl, hm, hl, hc, ?_⟩
  · obtain ⟨c0, c1⟩ := hcd d (by omega)
    have hi' : i < 8 := by
      have := Nat.le_mul_of_pos_right i (show 0 < d + 1 by omega)
      omega
    have := MZ.wy_ch (c := (cs.getD d 0).toNat) (t := i) (by omega) hi'
    rw [show (((cs.getD d 0).toNat : Nat) : Int) = cs.getD d 0 by omega] at this
    omega
  · exact ⟨shp (pl_dlist 0 _), shp (pl_dlist 0 _), same (k := 1) (pl_dlist 0 _) rfl (onNx (law_L32 k h))⟩
theorem law_L28 (k : KN p N n) {t8 t9 t10 t11 t12 : Option Sl} (h9 : Val t9) (h : W.rt (.v (.bool true))) : w_law_L28 W (EV ns ms c3 p N n t8 t9 t10 t11 t12 none none none none none none none none) := by
  refine ⟨⟨by decide, by decide⟩, by decide, ?_, fun i acc => ∃ cs : List Int, acc = dints cs ∧ cs.length = i ∧ ∀ c ∈ cs, 0 ≤ c ∧ c < 12, ⟨[], rfl, rfl, by intro c hc; cases hc⟩, ?_, ?_⟩
  · rcases h9 with rfl | ⟨d, rfl⟩ <;> exact ⟨by first | trivial | rfl, trivial⟩
  · rintro i d acc hd ⟨cs, rfl, hl, hc⟩
    refine ⟨fun _ => ?_, (nomatch ·)⟩
    refine nxt (by decide) fun c c0 c1 => ⟨cs ++ [c], (dints_snoc _ _).symm, by rw [List.length_append, hl]; rfl, fun x hx => ?_⟩
    rcases List.mem_append.mp hx with hx | hx
    · exact hc x hx
    · rw [List.mem_singleton.mp hx]
      exact ⟨c0, c1⟩
  · rintro acc ⟨cs, rfl, hl, hc⟩
    rw [rng_len] at hl
    refine nxt (by decide) fun m m0 m1 => ?_
    obtain ⟨m, rfl⟩ : ∃ k : Nat, m = k := ⟨m.toNat, by omega⟩
    exact law_L30 k (by omega) hl hc h
theorem law_L26 (k : KN p N n) {t8 t9 t10 t12 : Option Sl} (h9 : Val t9) (h : W.rt (.v (.bool true))) : w_law_L26 W (EV ns ms c3 p N n t8 t9 t10 (some (.v (.list (dints (tab (n + 1) (MZ.dv p N)))))) t12 none none none none none none none none) := by
  obtain ⟨p0, p1⟩ := k.pb
  have := k.N0; have := k.N1; have := k.n1
  have nt := fun {j : Nat} (hj : j < 12) => MZ.newton k.hp k.N0 k.N1 hj
  refine ⟨rfl, rfl, p, n, MZ.dv p N, MB.count p (p + 1 - N), rfl, by omega, fun j hj => (nt (by omega)).2, fun j hj => (nt (by omega)).1, ?_⟩
  refine ⟨rfl, rfl, p, N, n + 1, rfl, by omega, by omega, by omega, by omega, by omega, by omega, ?_⟩
  have e : cutD (dints (tab (n + 1) fun i => MB.count p (p + 1 - N) (i + 1))) none (some (n : Int)) = dints (tab n fun i => MB.count p (p + 1 - N) (i + 1)) := (cut_hi _ _).trans (tab_take (by omega))
  refine ⟨shp (pl_dlist 0 _), ?_, ?_⟩
  · show SeqAt.shaped (.list (cutD _ none (some (n : Int)))) = true
    rw [e]
    exact shp (pl_dlist 0 _)
  · exact same (k := 1) (pl_dlist 0 _) (congrArg PyData.list e.symm) (onNx (law_L28 k h9 h))
theorem law_L24 (k : KN p N n) {t8 t9 t10 t12 : Option Sl} (h9 : Val t9) (h : W.rt (.v (.bool true))) : w_law_L24 W (EV ns ms c3 p N n t8 t9 t10 (some (.v (.list (dints (tab (n + 1) (MZ.dv p N)))))) t12 none none none none none none none none) := by
  obtain ⟨p0, p1⟩ := k.pb
  have := k.N0; have := k.N1; have hn := k.n1
  obtain ⟨k1, k2⟩ := MZ.places_ok k.hp k.N0 k.N1
  refine ⟨⟨by decide, by decide, by omega, by omega⟩, by rw [rng_len]; omega, ?_, fun i acc => acc = dints (tab i (MZ.plc p (p + 1 - N))), rfl, ?_, ?_⟩
  · rcases h9 with rfl | ⟨d, rfl⟩ <;> exact ⟨by first | trivial | rfl, trivial⟩
  · rintro i d acc hd rfl
    obtain ⟨hi, e⟩ := rng_at hd
    rw [show (1 : Int) + i = ((i + 1 : Nat) : Int) by omega] at e
    subst e
    refine ⟨fun _ => ⟨rfl, rfl, p, N, i + 1, rfl, by omega, by omega, by omega, by omega, by omega, by omega, ?_⟩, (nomatch ·)⟩
    show dints (tab i _) ++ [_] = dints (tab (i + 1) _)
    rw [tab_succ i]
    rfl
  · rintro acc rfl
    rw [rng_len, show ((n : Int) + 1 - 1).toNat = n by omega]
    have hg : ∀ d, d < n → (tab n (MZ.plc p (p + 1 - N))).getD d 0 = MZ.plc p (p + 1 - N) d := fun d hd => MZ.getD_tab _ _ hd
    refine ⟨rfl, rfl, tab n (MZ.plc p (p + 1 - N)), n, rfl, by rw [tab_len]; omega, by omega, fun d hd i hi => ?_, ?_⟩
    · rw [hg d hd]
      exact k2 d (by omega) i (by omega)
    · have e : dints (tab (n + 1) (MZ.F (fun i => (tab n (MZ.plc p (p + 1 - N))).getD i 0) n)) = dints (tab (n + 1) (MZ.dv p N)) := tab_ext fun j hj => (MZ.F_congr n hg j).trans (k1 n (by omega) j (by omega))
      exact ⟨shp (pl_dlist 0 _), shp (pl_dlist 0 _), same (k := 1) (pl_dlist 0 _) (congrArg PyData.list e) (onNx (law_L26 k h9 h))⟩
theorem law_L19 (k : KN p N n) {t8 t9 t10 : Option Sl} (h9 : Val t9) (h : W.rt (.v (.bool true))) : w_law_L19 W (EV ns ms c3 p N n t8 t9 t10 (some (.v (.list (dints (tab (n + 1) (MZ.dv p N)))))) none none none none none none none none none) := by
  obtain ⟨p0, p1⟩ := k.pb
  have := k.N0; have := k.N1; have hn := k.n1
  refine ⟨⟨by decide, by decide, by omega, by omega⟩, fun i env => ∃ t9, Val t9 ∧ env = EV ns ms c3 p N n t8 t9 t10 (some (.v (.list (dints (tab (n + 1) (MZ.dv p N)))))) (some (.v (.int (p ^ i)))) none none none none none none none none, ⟨t9, h9, by rw [Int.pow_zero]; rfl⟩, ?_, ?_⟩
  · rintro i d env hd ⟨t9, h9, rfl⟩
    obtain ⟨hi, rfl⟩ := rng_at hd
    have e : MZ.dv p N (i + 1) * (p - 1) = N * (p ^ i * p - 1) := by
      show N * MZ.tt p i * (p - 1) = _
      rw [Int.mul_assoc, tt_mul, Int.pow_succ]
    refine ⟨.inr ⟨by omega, by omega⟩, _, tab_atI (i := i + 1) (by omega) (by omega), .inr ⟨by omega, by omega⟩, .inl ⟨by omega, by omega⟩, pass e ⟨some (.v (.int (1 + (i : Int)))), .inr ⟨_, rfl⟩, ?_⟩⟩
    rw [Int.pow_succ]
    rfl
  · rintro env ⟨t9, h9, rfl⟩
    exact law_L24 k h9 h
theorem law_L16 (k : KN p N n) {t9 t10 : Option Sl} (h9 : Val t9) (h : W.rt (.v (.bool true))) : w_law_L16 W (EV ns ms c3 p N n (some (.own (dints (tab (n + 1) (MZ.dv p N))))) t9 t10 none none none none none none none none none none) := by
  obtain ⟨p0, p1⟩ := k.pb
  have := k.N0; have := k.N1; have hn := k.n1
  refine ⟨rfl, rfl, p, N, n, rfl, by omega, by omega, by omega, by omega, by omega, ?_⟩
  refine ⟨shp (pl_dlist 0 _), shp (pl_dlist 0 _), false, fun _ => ⟨true, rfl, rfl⟩, ?_⟩
  have l := law_L19 (ns := ns) (ms := ms) (c3 := c3) (t8 := some (.v (.list (dints (tab (n + 1) (MZ.dv p N)))))) (t10 := t10) k h9 h
  have e : (!PyData.eqv (.list (dints (tab (n + 1) (MZ.dv p N)))) (.list (dints (tab (n + 1) (MZ.dv p N)))) || false) = false := by rw [eqv_self (pl_dlist 0 _)]; rfl
  exact ⟨fun z => absurd (e.symm.trans z) (by decide), fun _ => onNx l⟩
theorem law_L13 {t8 t11 t12 t13 t14 t15 t16 t17 t18 t19 t20 : Option Sl} {i : Nat} {z : Int} (p0 : 0 ≤ p) (p1 : p < 100) (i1 : i < 100) (h2 : 2 ≤ i → z - p * MZ.dv p N (i - 2) = MZ.dv p N i) (h1 : i < 2 → z = MZ.dv p N i)
    (h : W.nx (EV ns ms c3 p N n (some (.own (dints (tab (i + 1) (MZ.dv p N))))) (some (.v (.int (0 + (i : Int))))) (some (.v (.int (MZ.dv p N i)))) t11 t12 t13 t14 t15 t16 t17 t18 t19 t20)) :
    w_law_L13 W (EV ns ms c3 p N n (some (.own (dints (tab i (MZ.dv p N))))) (some (.v (.int (0 + (i : Int))))) (some (.v (.int z))) t11 t12 t13 t14 t15 t16 t17 t18 t19 t20) := by
  have end_ : w_law_L15 W (EV ns ms c3 p N n (some (.own (dints (tab i (MZ.dv p N))))) (some (.v (.int (0 + (i : Int))))) (some (.v (.int (MZ.dv p N i)))) t11 t12 t13 t14 t15 t16 t17 t18 t19 t20) := by
    refine ⟨by rw [dtab_len]; omega, ?_⟩
    rw [tab_succ i] at h
    exact h
  refine ⟨fun hh => ?_, fun hh => ?_⟩
  · have hh' : (1 : Int) < 0 + (i : Int) := of_decide_eq_true hh
    refine ⟨_, tab_atI (i := i - 2) (by omega) (by omega), .inl ⟨by omega, by omega⟩, ?_⟩
    rw [← h2 (by omega)] at end_
    exact onNx end_
  · have hh' : ¬ (1 : Int) < 0 + (i : Int) := of_decide_eq_false hh
    rw [← h1 (by omega)] at end_
    exact onNx end_
theorem law_L11 {t8 t11 t12 t13 t14 t15 t16 t17 t18 t19 t20 : Option Sl} {i : Nat} (p0 : 0 ≤ p) (p1 : p < 90) (i1 : i < 100)
    (h : W.nx (EV ns ms c3 p N n (some (.own (dints (tab (i + 1) (MZ.dv p N))))) (some (.v (.int (0 + (i : Int))))) (some (.v (.int (MZ.dv p N i)))) t11 t12 t13 t14 t15 t16 t17 t18 t19 t20)) :
    w_law_L11 W (EV ns ms c3 p N n (some (.own (dints (tab i (MZ.dv p N))))) (some (.v (.int (0 + (i : Int))))) (some (.v (.int (pvk p (p + 1 - N) i)))) t11 t12 t13 t14 t15 t16 t17 t18 t19 t20) := by
  refine ⟨fun hh => ?_, fun hh => ?_⟩
  · have hh' : (0 : Int) < 0 + (i : Int) := of_decide_eq_true hh
    refine ⟨_, tab_atI (i := i - 1) (by omega) (by omega), .inl ⟨by omega, by omega⟩, ?_⟩
    refine onNx (law_L13 (t8 := none) p0 (by omega) i1 (fun i2 => ?_) (fun i2 => ?_) h)
    · obtain ⟨j, rfl⟩ : ∃ j, i = j + 2 := ⟨i - 2, by omega⟩
      show pvk p (p + 1 - N) (j + 2) + (p + 1) * (N * MZ.tt p j) - p * MZ.dv p N j = N * (MZ.tt p j + p ^ (j + 1))
      cases j with
      | zero =>
        show p + (p + 1) * (N * 1) - p * 1 = N * (1 + p ^ 1)
        rw [Int.pow_succ, Int.pow_zero]
        grind
      | succ j =>
        show 0 + (p + 1) * (N * (MZ.tt p j + p ^ (j + 1))) - p * (N * MZ.tt p j) = N * (MZ.tt p j + p ^ (j + 1) + p ^ (j + 1 + 1))
        rw [Int.pow_succ p (j + 1)]
        grind
    · have : i = 1 := by omega
      subst this
      show -(p + 1 - N) + (p + 1) * 1 = N * 1
      omega
  · have hh' : ¬ (0 : Int) < 0 + (i : Int) := of_decide_eq_false hh
    have : i = 0 := by omega
    subst this
    exact onNx (law_L13 (t8 := none) p0 (by omega) i1 (fun i2 => absurd i2 (by decide)) (fun _ => rfl) h)
end
theorem law_L6 {W : WEnds} {ns ms : List Int} {p a b N : Int} (k : ∀ n, n ≤ 12 → KN p N n) (h : W.rt (.v (.bool true))) : w_law_L6 W [some (.v (scr ns)), some (.v (.list (dints ms))), some .hnd, some (.v (.tuple [.int p, .int a, .int b])), some (.v (.int p)), some (.v (.int N)), none, none, none, none, none, none, none, none, none, none, none, none, none, none, none] := by
  obtain ⟨p0, p1⟩ := (k 0 (by decide)).pb
  refine nxt (by decide) fun n n0 n1 => ?_
  obtain ⟨n, rfl⟩ : ∃ k : Nat, n = k := ⟨n.toNat, by omega⟩
  refine ⟨rfl, lk rfl, ⟨by omega, by omega⟩, fun i env => ∃ t9 t10, Val t9 ∧ env = EV ns ms (.tuple [.int p, .int a, .int b]) p N n (some (.own (dints (tab i (MZ.dv p N))))) t9 t10 none none none none none none none none none none, ⟨none, none, .inl rfl, rfl⟩, ?_, ?_⟩
  · rintro i d env hd ⟨t9, t10, h9, rfl⟩
    obtain ⟨hi, rfl⟩ := rng_at hd
    have fin := fun t11 t12 t13 t14 t15 t16 t17 t18 t19 t20 => law_L11 (W := { W with nx := fun e => ∃ t9 t10, Val t9 ∧ e = EV ns ms (.tuple [.int p, .int a, .int b]) p N n (some (.own (dints (tab (i + 1) (MZ.dv p N))))) t9 t10 t11 t12 t13 t14 t15 t16 t17 t18 t19 t20, ct := fun e => ∃ t9 t10, Val t9 ∧ e = EV ns ms (.tuple [.int p, .int a, .int b]) p N n (some (.own (dints (tab (i + 1) (MZ.dv p N))))) t9 t10 t11 t12 t13 t14 t15 t16 t17 t18 t19 t20, bk := (w_law_L16 W) }) (ns := ns) (ms := ms) (c3 := .tuple [.int p, .int a, .int b]) (N := N) (n := n) (t8 := none) (i := i) (t11 := t11) (t12 := t12) (t13 := t13) (t14 := t14) (t15 := t15) (t16 := t16) (t17 := t17) (t18 := t18) (t19 := t19) (t20 := t20) (by omega : 0 ≤ p) (by omega) (by omega) ⟨_, _, .inr ⟨_, rfl⟩, rfl⟩
    refine ⟨fun hh => ⟨rfl, lk rfl, .int (pvk p (p + 1 - N) i), ?_, ?_⟩, fun hh => ?_⟩
    · have hh' : 0 + (i : Int) < 3 := of_decide_eq_true hh
      have : i = 0 ∨ i = 1 ∨ i = 2 := by omega
      rcases this with rfl | rfl | rfl <;> rfl
    · exact fin _ _ _ _ _ _ _ _ _ _
    · have hh' : ¬ 0 + (i : Int) < 3 := of_decide_eq_false hh
      obtain ⟨j, rfl⟩ : ∃ j, i = j + 3 := ⟨i - 3, by omega⟩
      exact fin _ _ _ _ _ _ _ _ _ _
  · rintro env ⟨t9, t10, h9, rfl⟩
    rw [rng_len, show ((n : Int) + 1).toNat = n + 1 by omega]
    exact law_L16 (k n (by omega)) h9 h
theorem mf_law : ∀ as Q, as.length = 1 → M_law as Q → w_law { nx := fun _ => Q (.v .none), rt := Q } (stE as 20) := by
  rintro as Q _ ⟨ns, rfl, hns, hq⟩
  refine ⟨rfl, rfl, ns, rfl, hns, fun ms => ⟨rfl, lk rfl, ⟨0, rfl, by decide⟩, rfl, lk rfl, ?_⟩⟩
  refine ⟨rfl, rfl, ms, [5, 7, 11, 13, 17, 19, 23, 29], rfl, by decide, by decide, by decide, fun p a b hm a0 a1 b0 b1 => ?_⟩
  have hp : MZ.pr p := by
    simp only [List.mem_cons, List.not_mem_nil, or_false] at hm
    exact hm
  refine ⟨.int p, rfl, rfl, rfl, p, a, b, rfl, hp, a0, a1, b0, b1, fun N N0 N1 => ?_⟩
  exact law_L6 (fun n hn => ⟨hp, N0, N1, hn⟩) hq

theorem ok_law {f : Addr} {fd : FuncData} (F : Fun K "law" "law" s_law f fd) (h__law_draws : Has P w K mg base okH 1 "_law_draws" 1 M__law_draws) (h__law_curve : Has P w K mg base okH 2 "_law_curve" 3 M__law_curve) (h__law_count : Has P w K mg base okH 1 "_law_count" 1 M__law_count) (h__law_next : Has P w K mg base okH 1 "_law_next" 3 M__law_next) (h_divisors : Has P w K mg base okH 1 "divisors" 3 M_divisors) (h_from_places : Has P w K mg base okH 1 "from_places" 2 M_from_places) (h_places : Has P w K mg base okH 3 "places" 3 M_places) (h_numbers_again : Has P w K mg base okH 1 "numbers_again" 2 M_numbers_again) (h_numbers : Has P w K mg base okH 2 "numbers" 3 M_numbers) (h__law_ways : Has P w K mg base okH 1 "_law_ways" 2 M__law_ways) (h_fraction_at : Has P w K mg base okH 2 "fraction_at" 4 M_fraction_at) (h__law_common : Has P w K mg base okH 1 "_law_common" 2 M__law_common) (m_isinstance : mg "isinstance" = none) (m_list : mg "list" = none) (m_range : mg "range" = none)  : FnOk P w K mg base CX0 4 f fd ["script"] (SpD K okH 1 M_law) :=
  def_ok F sc_law rfl (fun cdv A outer s H E hr =>
 (s_cons (s_set 1 sc_law.nd (d_fz (l_call h__law_draws hr (by decide) (a_cons (d_var 0) a_nil))))
 (s_cons (s_setH 2 sc_law.nd (l_lst (a_cons d_int a_nil)))
 (s_cons (s_set 3 sc_law.nd (d_call h__law_curve hr (by decide) (a_cons (d_var 1) (a_hnd 2 (a_cons (d_fz (l_lst (a_cons d_int (a_cons d_int (a_cons d_int (a_cons d_int (a_cons d_int (a_cons d_int (a_cons d_int (a_cons d_int a_nil)))))))))) a_nil)))))
 (s_cons (s_set 4 sc_law.nd (d_ix (d_b (d_var 3)) d_int))
 (s_cons (s_set 5 sc_law.nd (d_call h__law_count hr (by decide) (a_cons (d_var 3) a_nil)))
 (s_cons (s_set 6 sc_law.nd (d_sub (d_add (d_var 4) d_int) (d_var 5)))
 (s_cons (s_set 7 sc_law.nd (d_call h__law_next hr (by decide) (a_cons (d_var 1) (a_hnd 2 (a_cons d_int a_nil)))))
 (s_cons (s_setO 8 sc_law.nd (l_lst a_nil))
 (s_cons (s_for (vs := [9]) PassesOwn.never rfl (i_r1 m_range (d_add (d_var 7) d_int)) (g_name 9 sc_law.nd)
 (s_cons (s_set 10 sc_law.nd (d_ifE (t_lt (d_var 9) d_int) (d_ix (d_b (d_fz (l_lst (a_cons d_int (a_cons (d_neg (d_var 6)) (a_cons (d_var 4) a_nil)))))) (d_var 9)) d_int))
 (s_cons (s_if (t_gt (d_var 9) d_int)
 (s_one (s_set 10 sc_law.nd (d_add (d_var 10) (d_mul (d_add (d_var 4) d_int) (d_ix (d_bor 8) (d_sub (d_var 9) d_int))))))
 s_nil)
 (s_cons (s_if (t_gt (d_var 9) d_int)
 (s_one (s_set 10 sc_law.nd (d_sub (d_var 10) (d_mul (d_var 4) (d_ix (d_bor 8) (d_sub (d_var 9) d_int))))))
 s_nil)
 (s_one (s_app 8 (d_var 10)))))))
 (s_cons (s_set 11 sc_law.nd (d_call h_divisors hr (by decide) (a_cons (d_var 4) (a_cons (d_var 5) (a_cons (d_var 7) a_nil)))))
 (s_cons (s_frz 8 (s_if (t_w (w_or (t_ne hr (d_var 11) (d_var 8)) (w_or1 (t_not (t_val (d_isi (T := "list") m_isinstance m_list (by decide +kernel) (d_var 11)))))))
 (s_one (s_ret d_bl))
 s_nil))
 (s_cons (s_set 12 sc_law.nd d_int)
 (s_cons (s_for (vs := [9]) PassesOwn.never rfl (i_r2 m_range d_int (d_add (d_var 7) d_int)) (g_name 9 sc_law.nd)
 (s_cons (s_set 12 sc_law.nd (d_mul (d_var 12) (d_var 4)))
 (s_one (s_if (t_ne hr (d_mul (d_ix (d_b (d_var 11)) (d_var 9)) (d_sub (d_var 4) d_int)) (d_mul (d_var 5) (d_sub (d_var 12) d_int)))
 (s_one (s_ret d_bl))
 s_nil))))
 (s_cons (s_if (t_ne hr (d_call h_from_places hr (by decide) (a_cons (d_fz (l_lc (own := [("k", 9)]) rfl sc_law.nd (i_r2 m_range d_int (d_add (d_var 7) d_int)) (blkOk_by (N := ["script", "draws", "at", "curve", "p", "number", "trace", "most", "rows", "k", "part", "told", "size", "counts", "many", "turn", "top", "bottom", "above", "below", "actual"]) (sc := defScope s_law) (by decide +kernel)) ⟨(gName 9), fun _ _ _ _ _ => (pg_name (i := 9) sc_law.nd rfl (Or.inl rfl)), (sg_name (i := 9) (by decide))⟩ ⟨tYes, fun _ _ _ _ _ => pts_nil, st_yes⟩ ⟨(tCall (SpD K okH 3 M_places) [] E0 (tCons (tVar 4) (tCons (tVar 5) (tCons (tVar 9) tNil)))), fun _ _ _ _ _ => (pe_has h_places hr (by decide) (pa_cons (pv 4) (pa_cons (pv 5) (pa_cons (pv 9) pa_nil)))), (snd_call (snd_cons snd_var (snd_cons snd_var (snd_cons snd_var snd_nil))))⟩)) (a_cons (d_var 7) a_nil))) (d_var 11))
 (s_one (s_ret d_bl))
 s_nil)
 (s_cons (s_if (t_ne hr (d_call h_numbers_again hr (by decide) (a_cons (d_var 4) (a_cons (d_var 11) a_nil))) (d_fz (l_sl (d_b (d_call h_numbers hr (by decide) (a_cons (d_var 4) (a_cons (d_var 5) (a_cons (d_add (d_var 7) d_int) a_nil))))) o_n (o_s (d_var 7)))))
 (s_one (s_ret d_bl))
 s_nil)
 (s_cons (s_setLcF 13 (own := [("k", 9)]) rfl sc_law.nd (i_r1 m_range d_int) (blkOk_by (N := ["script", "draws", "at", "curve", "p", "number", "trace", "most", "rows", "k", "part", "told", "size", "counts", "many", "turn", "top", "bottom", "above", "below", "actual"]) (sc := defScope s_law) (by decide +kernel)) ⟨(gName 9), fun _ _ _ _ _ => (pg_name (i := 9) sc_law.nd rfl (Or.inl rfl)), (sg_name (i := 9) (by decide))⟩ ⟨tYes, fun _ _ _ _ _ => pts_nil, st_yes⟩ ⟨(tCall (SpD K okH 3 M__law_next) [] E0 (tCons (tVar 1) (tCons (tVar 2) (tCons (tC (.int 12)) tNil)))), fun _ _ _ _ _ => (pe_has h__law_next hr (by decide) (pa_cons (pv 1) (pa_cons (pv 2) (pa_cons pe_int pa_nil)))), (snd_call (snd_cons snd_var (snd_consH (snd_cons (snd_c fun _ => .int _) snd_nil))))⟩ (sw_true rfl rfl rfl (by decide +kernel)))
 (s_cons (s_set 14 sc_law.nd (d_call h__law_next hr (by decide) (a_cons (d_var 1) (a_hnd 2 (a_cons d_int a_nil)))))
 (s_cons (s_if (t_ne hr (d_call h_from_places hr (by decide) (a_cons (d_var 13) (a_cons (d_var 14) a_nil))) (d_call h__law_ways hr (by decide) (a_cons (d_var 13) (a_cons (d_var 14) a_nil))))
 (s_one (s_ret d_bl))
 s_nil)
 (s_cons (s_for (vs := [15]) PassesOwn.never rfl (i_r1 m_range d_int) (g_name 15 sc_law.nd)
 (s_cons (s_set 16 sc_law.nd (d_sub (d_call h__law_next hr (by decide) (a_cons (d_var 1) (a_hnd 2 (a_cons d_int a_nil)))) d_int))
 (s_cons (s_set 17 sc_law.nd (d_mul (d_ix (d_b (d_fz (l_lst (a_cons d_int (a_cons (d_neg d_int) a_nil))))) (d_call h__law_next hr (by decide) (a_cons (d_var 1) (a_hnd 2 (a_cons d_int a_nil))))) (d_add d_int (d_call h__law_next hr (by decide) (a_cons (d_var 1) (a_hnd 2 (a_cons d_int a_nil)))))))
 (s_cons (s_set 18 sc_law.nd (d_add (d_sub (d_mul (d_var 17) (d_var 17)) (d_mul (d_mul (d_var 6) (d_var 16)) (d_var 17))) (d_mul (d_mul (d_var 4) (d_var 16)) (d_var 16))))
 (s_cons (s_set 19 sc_law.nd (d_mul (d_sub (d_var 17) (d_var 16)) (d_sub (d_var 17) (d_mul (d_var 4) (d_var 16)))))
 (s_cons (s_set 20 sc_law.nd (d_call h_fraction_at hr (by decide) (a_cons (d_var 4) (a_cons (d_var 5) (a_cons (d_var 16) (a_cons (d_var 17) a_nil))))))
 (s_cons (s_if (t_ne hr (d_isN (d_var 20)) (d_eq hr (d_var 19) d_int))
 (s_one (s_ret d_bl))
 s_nil)
 (s_cons (s_if (t_w (w_and (t_notN (d_var 20)) (w_and1 (t_w (w_or (t_ne hr (d_mul (d_ix (d_b (d_var 20)) d_int) (d_var 19)) (d_mul (d_ix (d_b (d_var 20)) d_int) (d_var 18))) (w_or (t_lt (d_ix (d_b (d_var 20)) d_int) d_int) (w_or1 (t_ne hr (d_call h__law_common hr (by decide) (a_cons (d_ix (d_b (d_var 20)) d_int) (a_cons (d_ix (d_b (d_var 20)) d_int) a_nil))) d_int))))))))
 (s_one (s_ret d_bl))
 s_nil)
 (s_one (s_if (t_w (w_and (t_ne hr (d_var 16) d_int) (w_and1 (t_ne hr (d_var 20) (d_call h_fraction_at hr (by decide) (a_cons (d_var 4) (a_cons (d_var 5) (a_cons (d_var 17) (a_cons (d_mul (d_var 4) (d_var 16)) a_nil)))))))))
 (s_one (s_ret d_bl))
 s_nil))))))))))
 (s_one (s_ret (d_and (d_isN (d_call h_fraction_at hr (by decide) (a_cons (d_var 4) (a_cons (d_var 5) (a_cons d_int (a_cons d_int a_nil)))))) (d_one (d_isN (d_call h_fraction_at hr (by decide) (a_cons (d_var 4) (a_cons (d_var 5) (a_cons d_int (a_cons (d_var 4) a_nil)))))))))))))))))))))))))))))) mf_law
end
theorem all_mk {l : PySem.W.OpenLaw} {w : World} {K : PySem.W.Frag} {h : Heap} {mg : Str → Option Value} {fa f0 f1 f2 f3 f4 f5 f6 f7 f8 f9 f10 f11 f12 f13 f14 f15 : Addr} (X : K.In h) (G : h.Ns mainGlobals mg) (hfa : mg "law" = some (.ref fa))
    {od0 an0 : Option Addr} {sl0 : Array (Option Value)} {oc0 kV0 dc0 pm0 cd0 ct0 : Value}
    (a0 : PySem.W.nsIn K mainGlobals "common" = some (some (.ref f0))) (l0 : K.lookup f0 = some ⟨oc0, od0, .func (PySem.W.fnOf "common" "common" (defArgs s_common) (defBody s_common) (defScope s_common) .none kV0 dc0 pm0 an0 cd0 ct0), sl0⟩) (c0 : PySem.W.codeIn K cd0 "common" = true) (k0 : PySem.W.keepIn K (.ref f0) = true)
    {od1 an1 : Option Addr} {sl1 : Array (Option Value)} {oc1 kV1 dc1 pm1 cd1 ct1 : Value}
    (a1 : PySem.W.nsIn K mainGlobals "divisors" = some (some (.ref f1))) (l1 : K.lookup f1 = some ⟨oc1, od1, .func (PySem.W.fnOf "divisors" "divisors" (defArgs s_divisors) (defBody s_divisors) (defScope s_divisors) .none kV1 dc1 pm1 an1 cd1 ct1), sl1⟩) (c1 : PySem.W.codeIn K cd1 "divisors" = true) (k1 : PySem.W.keepIn K (.ref f1) = true)
    {od2 an2 : Option Addr} {sl2 : Array (Option Value)} {oc2 kV2 dc2 pm2 cd2 ct2 : Value}
    (a2 : PySem.W.nsIn K mainGlobals "from_places" = some (some (.ref f2))) (l2 : K.lookup f2 = some ⟨oc2, od2, .func (PySem.W.fnOf "from_places" "from_places" (defArgs s_from_places) (defBody s_from_places) (defScope s_from_places) .none kV2 dc2 pm2 an2 cd2 ct2), sl2⟩) (c2 : PySem.W.codeIn K cd2 "from_places" = true) (k2 : PySem.W.keepIn K (.ref f2) = true)
    {od3 an3 : Option Addr} {sl3 : Array (Option Value)} {oc3 kV3 dc3 pm3 cd3 ct3 : Value}
    (a3 : PySem.W.nsIn K mainGlobals "fraction_at" = some (some (.ref f3))) (l3 : K.lookup f3 = some ⟨oc3, od3, .func (PySem.W.fnOf "fraction_at" "fraction_at" (defArgs s_fraction_at) (defBody s_fraction_at) (defScope s_fraction_at) .none kV3 dc3 pm3 an3 cd3 ct3), sl3⟩) (c3 : PySem.W.codeIn K cd3 "fraction_at" = true) (k3 : PySem.W.keepIn K (.ref f3) = true)
    {od4 an4 : Option Addr} {sl4 : Array (Option Value)} {oc4 kV4 dc4 pm4 cd4 ct4 : Value}
    (a4 : PySem.W.nsIn K mainGlobals "numbers_again" = some (some (.ref f4))) (l4 : K.lookup f4 = some ⟨oc4, od4, .func (PySem.W.fnOf "numbers_again" "numbers_again" (defArgs s_numbers_again) (defBody s_numbers_again) (defScope s_numbers_again) .none kV4 dc4 pm4 an4 cd4 ct4), sl4⟩) (c4 : PySem.W.codeIn K cd4 "numbers_again" = true) (k4 : PySem.W.keepIn K (.ref f4) = true)
    {od5 an5 : Option Addr} {sl5 : Array (Option Value)} {oc5 kV5 dc5 pm5 cd5 ct5 : Value}
    (a5 : PySem.W.nsIn K mainGlobals "traces" = some (some (.ref f5))) (l5 : K.lookup f5 = some ⟨oc5, od5, .func (PySem.W.fnOf "traces" "traces" (defArgs s_traces) (defBody s_traces) (defScope s_traces) .none kV5 dc5 pm5 an5 cd5 ct5), sl5⟩) (c5 : PySem.W.codeIn K cd5 "traces" = true) (k5 : PySem.W.keepIn K (.ref f5) = true)
    {od6 an6 : Option Addr} {sl6 : Array (Option Value)} {oc6 kV6 dc6 pm6 cd6 ct6 : Value}
    (a6 : PySem.W.nsIn K mainGlobals "numbers" = some (some (.ref f6))) (l6 : K.lookup f6 = some ⟨oc6, od6, .func (PySem.W.fnOf "numbers" "numbers" (defArgs s_numbers) (defBody s_numbers) (defScope s_numbers) .none kV6 dc6 pm6 an6 cd6 ct6), sl6⟩) (c6 : PySem.W.codeIn K cd6 "numbers" = true) (k6 : PySem.W.keepIn K (.ref f6) = true)
    {od7 an7 : Option Addr} {sl7 : Array (Option Value)} {oc7 kV7 dc7 pm7 cd7 ct7 : Value}
    (a7 : PySem.W.nsIn K mainGlobals "sign_of" = some (some (.ref f7))) (l7 : K.lookup f7 = some ⟨oc7, od7, .func (PySem.W.fnOf "sign_of" "sign_of" (defArgs s_sign_of) (defBody s_sign_of) (defScope s_sign_of) .none kV7 dc7 pm7 an7 cd7 ct7), sl7⟩) (c7 : PySem.W.codeIn K cd7 "sign_of" = true) (k7 : PySem.W.keepIn K (.ref f7) = true)
    {od8 an8 : Option Addr} {sl8 : Array (Option Value)} {oc8 kV8 dc8 pm8 cd8 ct8 : Value}
    (a8 : PySem.W.nsIn K mainGlobals "places" = some (some (.ref f8))) (l8 : K.lookup f8 = some ⟨oc8, od8, .func (PySem.W.fnOf "places" "places" (defArgs s_places) (defBody s_places) (defScope s_places) .none kV8 dc8 pm8 an8 cd8 ct8), sl8⟩) (c8 : PySem.W.codeIn K cd8 "places" = true) (k8 : PySem.W.keepIn K (.ref f8) = true)
    {od9 an9 : Option Addr} {sl9 : Array (Option Value)} {oc9 kV9 dc9 pm9 cd9 ct9 : Value}
    (a9 : PySem.W.nsIn K mainGlobals "_law_draws" = some (some (.ref f9))) (l9 : K.lookup f9 = some ⟨oc9, od9, .func (PySem.W.fnOf "_law_draws" "_law_draws" (defArgs s__law_draws) (defBody s__law_draws) (defScope s__law_draws) .none kV9 dc9 pm9 an9 cd9 ct9), sl9⟩) (c9 : PySem.W.codeIn K cd9 "_law_draws" = true) (k9 : PySem.W.keepIn K (.ref f9) = true)
    {od10 an10 : Option Addr} {sl10 : Array (Option Value)} {oc10 kV10 dc10 pm10 cd10 ct10 : Value}
    (a10 : PySem.W.nsIn K mainGlobals "_law_next" = some (some (.ref f10))) (l10 : K.lookup f10 = some ⟨oc10, od10, .func (PySem.W.fnOf "_law_next" "_law_next" (defArgs s__law_next) (defBody s__law_next) (defScope s__law_next) .none kV10 dc10 pm10 an10 cd10 ct10), sl10⟩) (c10 : PySem.W.codeIn K cd10 "_law_next" = true) (k10 : PySem.W.keepIn K (.ref f10) = true)
    {od11 an11 : Option Addr} {sl11 : Array (Option Value)} {oc11 kV11 dc11 pm11 cd11 ct11 : Value}
    (a11 : PySem.W.nsIn K mainGlobals "_law_curve" = some (some (.ref f11))) (l11 : K.lookup f11 = some ⟨oc11, od11, .func (PySem.W.fnOf "_law_curve" "_law_curve" (defArgs s__law_curve) (defBody s__law_curve) (defScope s__law_curve) .none kV11 dc11 pm11 an11 cd11 ct11), sl11⟩) (c11 : PySem.W.codeIn K cd11 "_law_curve" = true) (k11 : PySem.W.keepIn K (.ref f11) = true)
    {od12 an12 : Option Addr} {sl12 : Array (Option Value)} {oc12 kV12 dc12 pm12 cd12 ct12 : Value}
    (a12 : PySem.W.nsIn K mainGlobals "_law_count" = some (some (.ref f12))) (l12 : K.lookup f12 = some ⟨oc12, od12, .func (PySem.W.fnOf "_law_count" "_law_count" (defArgs s__law_count) (defBody s__law_count) (defScope s__law_count) .none kV12 dc12 pm12 an12 cd12 ct12), sl12⟩) (c12 : PySem.W.codeIn K cd12 "_law_count" = true) (k12 : PySem.W.keepIn K (.ref f12) = true)
    {od13 an13 : Option Addr} {sl13 : Array (Option Value)} {oc13 kV13 dc13 pm13 cd13 ct13 : Value}
    (a13 : PySem.W.nsIn K mainGlobals "_law_ways" = some (some (.ref f13))) (l13 : K.lookup f13 = some ⟨oc13, od13, .func (PySem.W.fnOf "_law_ways" "_law_ways" (defArgs s__law_ways) (defBody s__law_ways) (defScope s__law_ways) .none kV13 dc13 pm13 an13 cd13 ct13), sl13⟩) (c13 : PySem.W.codeIn K cd13 "_law_ways" = true) (k13 : PySem.W.keepIn K (.ref f13) = true)
    {od14 an14 : Option Addr} {sl14 : Array (Option Value)} {oc14 kV14 dc14 pm14 cd14 ct14 : Value}
    (a14 : PySem.W.nsIn K mainGlobals "_law_common" = some (some (.ref f14))) (l14 : K.lookup f14 = some ⟨oc14, od14, .func (PySem.W.fnOf "_law_common" "_law_common" (defArgs s__law_common) (defBody s__law_common) (defScope s__law_common) .none kV14 dc14 pm14 an14 cd14 ct14), sl14⟩) (c14 : PySem.W.codeIn K cd14 "_law_common" = true) (k14 : PySem.W.keepIn K (.ref f14) = true)
    {od15 an15 : Option Addr} {sl15 : Array (Option Value)} {oc15 kV15 dc15 pm15 cd15 ct15 : Value}
    (a15 : PySem.W.nsIn K mainGlobals "law" = some (some (.ref f15))) (l15 : K.lookup f15 = some ⟨oc15, od15, .func (PySem.W.fnOf "law" "law" (defArgs s_law) (defBody s_law) (defScope s_law) .none kV15 dc15 pm15 an15 cd15 ct15), sl15⟩) (c15 : PySem.W.codeIn K cd15 "law" = true) (k15 : PySem.W.keepIn K (.ref f15) = true)
    (z_abs : PySem.W.nsIn K mainGlobals "abs" = some none)
    (z_int : PySem.W.nsIn K mainGlobals "int" = some none)
    (z_isinstance : PySem.W.nsIn K mainGlobals "isinstance" = some none)
    (z_len : PySem.W.nsIn K mainGlobals "len" = some none)
    (z_list : PySem.W.nsIn K mainGlobals "list" = some none)
    (z_range : PySem.W.nsIn K mainGlobals "range" = some none)
    (z_sum : PySem.W.nsIn K mainGlobals "sum" = some none)
    : ∃ fd : FuncData, (∀ (s : Shared) (v : Value), BindsTo s fd ⟨[v], []⟩ [("script", v)]) ∧ ∀ base : Heap, K.In base → base.Ns mainGlobals mg → FnOk l.prog w K mg base CX0 4 fa fd ["script"] (SpD K okH 1 M_law) := by
  have e := hfa.symm.trans (PySem.W.mg_of X G a15)
  cases e
  have F0 := fun_mk (st := s_common) l0 c0 k0
  have b0 := F0.binds (ps := ["x", "y"]) fun _ _ _ _ _ _ us hl => match us, hl with | [_, _], _ => rfl
  have F1 := fun_mk (st := s_divisors) l1 c1 k1
  have b1 := F1.binds (ps := ["p", "number", "most"]) fun _ _ _ _ _ _ us hl => match us, hl with | [_, _, _], _ => rfl
  have F2 := fun_mk (st := s_from_places) l2 c2 k2
  have b2 := F2.binds (ps := ["counts", "most"]) fun _ _ _ _ _ _ us hl => match us, hl with | [_, _], _ => rfl
  have F3 := fun_mk (st := s_fraction_at) l3 c3 k3
  have b3 := F3.binds (ps := ["p", "number", "top", "bottom"]) fun _ _ _ _ _ _ us hl => match us, hl with | [_, _, _, _], _ => rfl
  have F4 := fun_mk (st := s_numbers_again) l4 c4 k4
  have b4 := F4.binds (ps := ["p", "counts"]) fun _ _ _ _ _ _ us hl => match us, hl with | [_, _], _ => rfl
  have F5 := fun_mk (st := s_traces) l5 c5 k5
  have b5 := F5.binds (ps := ["p", "number", "most"]) fun _ _ _ _ _ _ us hl => match us, hl with | [_, _, _], _ => rfl
  have F6 := fun_mk (st := s_numbers) l6 c6 k6
  have b6 := F6.binds (ps := ["p", "number", "most"]) fun _ _ _ _ _ _ us hl => match us, hl with | [_, _, _], _ => rfl
  have F7 := fun_mk (st := s_sign_of) l7 c7 k7
  have b7 := F7.binds (ps := ["n"]) fun _ _ _ _ _ _ us hl => match us, hl with | [_], _ => rfl
  have F8 := fun_mk (st := s_places) l8 c8 k8
  have b8 := F8.binds (ps := ["p", "number", "n"]) fun _ _ _ _ _ _ us hl => match us, hl with | [_, _, _], _ => rfl
  have F9 := fun_mk (st := s__law_draws) l9 c9 k9
  have b9 := F9.binds (ps := ["script"]) fun _ _ _ _ _ _ us hl => match us, hl with | [_], _ => rfl
  have F10 := fun_mk (st := s__law_next) l10 c10 k10
  have b10 := F10.binds (ps := ["draws", "at", "many"]) fun _ _ _ _ _ _ us hl => match us, hl with | [_, _, _], _ => rfl
  have F11 := fun_mk (st := s__law_curve) l11 c11 k11
  have b11 := F11.binds (ps := ["draws", "at", "primes"]) fun _ _ _ _ _ _ us hl => match us, hl with | [_, _, _], _ => rfl
  have F12 := fun_mk (st := s__law_count) l12 c12 k12
  have b12 := F12.binds (ps := ["curve"]) fun _ _ _ _ _ _ us hl => match us, hl with | [_], _ => rfl
  have F13 := fun_mk (st := s__law_ways) l13 c13 k13
  have b13 := F13.binds (ps := ["counts", "most"]) fun _ _ _ _ _ _ us hl => match us, hl with | [_, _], _ => rfl
  have F14 := fun_mk (st := s__law_common) l14 c14 k14
  have b14 := F14.binds (ps := ["one", "two"]) fun _ _ _ _ _ _ us hl => match us, hl with | [_, _], _ => rfl
  have F15 := fun_mk (st := s_law) l15 c15 k15
  have m_abs := PySem.W.mg_none_of X G z_abs
  have m_int := PySem.W.mg_none_of X G z_int
  have m_isinstance := PySem.W.mg_none_of X G z_isinstance
  have m_len := PySem.W.mg_none_of X G z_len
  have m_list := PySem.W.mg_none_of X G z_list
  have m_range := PySem.W.mg_none_of X G z_range
  have m_sum := PySem.W.mg_none_of X G z_sum
  refine ⟨PySem.W.fnOf "law" "law" (defArgs s_law) (defBody s_law) (defScope s_law) .none kV15 dc15 pm15 an15 cd15 ct15, fun s v => .of_eq rfl, fun base _ _ => ?_⟩
  have h_common : Has l.prog w K mg base okH 1 "common" 2 M_common := ⟨⟨_, _, _, ok_common F0 m_abs, PySem.W.mg_of X G a0, F0.kp, b0⟩⟩
  have h_divisors : Has l.prog w K mg base okH 1 "divisors" 3 M_divisors := ⟨⟨_, _, _, ok_divisors F1 m_range, PySem.W.mg_of X G a1, F1.kp, b1⟩⟩
  have h_from_places : Has l.prog w K mg base okH 1 "from_places" 2 M_from_places := ⟨⟨_, _, _, ok_from_places F2 m_range, PySem.W.mg_of X G a2, F2.kp, b2⟩⟩
  have h_fraction_at : Has l.prog w K mg base okH 2 "fraction_at" 4 M_fraction_at := ⟨⟨_, _, _, ok_fraction_at F3 h_common, PySem.W.mg_of X G a3, F3.kp, b3⟩⟩
  have h_numbers_again : Has l.prog w K mg base okH 1 "numbers_again" 2 M_numbers_again := ⟨⟨_, _, _, ok_numbers_again F4 m_len m_range, PySem.W.mg_of X G a4, F4.kp, b4⟩⟩
  have h_traces : Has l.prog w K mg base okH 1 "traces" 3 M_traces := ⟨⟨_, _, _, ok_traces F5 m_len, PySem.W.mg_of X G a5, F5.kp, b5⟩⟩
  have h_numbers : Has l.prog w K mg base okH 2 "numbers" 3 M_numbers := ⟨⟨_, _, _, ok_numbers F6 h_traces, PySem.W.mg_of X G a6, F6.kp, b6⟩⟩
  have h_sign_of : Has l.prog w K mg base okH 1 "sign_of" 1 M_sign_of := ⟨⟨_, _, _, ok_sign_of F7, PySem.W.mg_of X G a7, F7.kp, b7⟩⟩
  have h_places : Has l.prog w K mg base okH 3 "places" 3 M_places := ⟨⟨_, _, _, ok_places F8 h_numbers h_sign_of m_range, PySem.W.mg_of X G a8, F8.kp, b8⟩⟩
  have h__law_draws : Has l.prog w K mg base okH 1 "_law_draws" 1 M__law_draws := ⟨⟨_, _, _, ok__law_draws F9 m_abs m_int m_len m_range, PySem.W.mg_of X G a9, F9.kp, b9⟩⟩
  have h__law_next : Has l.prog w K mg base okH 1 "_law_next" 3 M__law_next := ⟨⟨_, _, _, ok__law_next F10 m_int m_len, PySem.W.mg_of X G a10, F10.kp, b10⟩⟩
  have h__law_curve : Has l.prog w K mg base okH 2 "_law_curve" 3 M__law_curve := ⟨⟨_, _, _, ok__law_curve F11 h__law_next m_int m_len, PySem.W.mg_of X G a11, F11.kp, b11⟩⟩
  have h__law_count : Has l.prog w K mg base okH 1 "_law_count" 1 M__law_count := ⟨⟨_, _, _, ok__law_count F12 m_int m_range m_sum, PySem.W.mg_of X G a12, F12.kp, b12⟩⟩
  have h__law_ways : Has l.prog w K mg base okH 1 "_law_ways" 2 M__law_ways := ⟨⟨_, _, _, ok__law_ways F13 m_range, PySem.W.mg_of X G a13, F13.kp, b13⟩⟩
  have h__law_common : Has l.prog w K mg base okH 1 "_law_common" 2 M__law_common := ⟨⟨_, _, _, ok__law_common F14 m_abs, PySem.W.mg_of X G a14, F14.kp, b14⟩⟩
  exact ok_law F15 h__law_draws h__law_curve h__law_count h__law_next h_divisors h_from_places h_places h_numbers_again h_numbers h__law_ways h_fraction_at h__law_common m_isinstance m_list m_range
end G
open PySem PySem.W PyProof.Rows
set_option maxRecDepth 100000 in
set_option maxHeartbeats 0 in
theorem PySem.Challenge.cw_curvetally_k78_whole_divisors_holds : PySem.Challenge.rw_curvetally_k78_whole_divisors.Holds := by
  w_on; o_law; k_head; (case hw => w_witness2)
  k_fill
  refine L2.walk_of (l := PySem.Challenge.rw_curvetally_k78_whole_divisors) (n := 63) (k := 4) (x := "script") (CX := fun _ => L2.CX0) (sp := fun w => DL.SpD _ G.okH 1 DL.M_law) rfl (by decide) rfl ⟨rfl, by decide, by decide⟩ (fun w h Y => PySem.W.kIn_of Y) ?F (fun _ _ a ns hl _ hS => DL.law_sp hS hl) (fun _ _ _ _ _ h => h)
  case F =>
    intro w mg fa h KX GG hmg
    refine' G.all_mk KX GG hmg ?a0 ?l0 ?c0 ?k0 ?a1 ?l1 ?c1 ?k1 ?a2 ?l2 ?c2 ?k2 ?a3 ?l3 ?c3 ?k3 ?a4 ?l4 ?c4 ?k4 ?a5 ?l5 ?c5 ?k5 ?a6 ?l6 ?c6 ?k6 ?a7 ?l7 ?c7 ?k7 ?a8 ?l8 ?c8 ?k8 ?a9 ?l9 ?c9 ?k9 ?a10 ?l10 ?c10 ?k10 ?a11 ?l11 ?c11 ?k11 ?a12 ?l12 ?c12 ?k12 ?a13 ?l13 ?c13 ?k13 ?a14 ?l14 ?c14 ?k14 ?a15 ?l15 ?c15 ?k15 ?z_abs ?z_int ?z_isinstance ?z_len ?z_list ?z_range ?z_sum
    (case a0 => k_is)
    (case l0 => k_is)
    (case c0 => k_is)
    (case k0 => k_is)
    (case a1 => k_is)
    (case l1 => k_is)
    (case c1 => k_is)
    (case k1 => k_is)
    (case a2 => k_is)
    (case l2 => k_is)
    (case c2 => k_is)
    (case k2 => k_is)
    (case a3 => k_is)
    (case l3 => k_is)
    (case c3 => k_is)
    (case k3 => k_is)
    (case a4 => k_is)
    (case l4 => k_is)
    (case c4 => k_is)
    (case k4 => k_is)
    (case a5 => k_is)
    (case l5 => k_is)
    (case c5 => k_is)
    (case k5 => k_is)
    (case a6 => k_is)
    (case l6 => k_is)
    (case c6 => k_is)
    (case k6 => k_is)
    (case a7 => k_is)
    (case l7 => k_is)
    (case c7 => k_is)
    (case k7 => k_is)
    (case a8 => k_is)
    (case l8 => k_is)
    (case c8 => k_is)
    (case k8 => k_is)
    (case a9 => k_is)
    (case l9 => k_is)
    (case c9 => k_is)
    (case k9 => k_is)
    (case a10 => k_is)
    (case l10 => k_is)
    (case c10 => k_is)
    (case k10 => k_is)
    (case a11 => k_is)
    (case l11 => k_is)
    (case c11 => k_is)
    (case k11 => k_is)
    (case a12 => k_is)
    (case l12 => k_is)
    (case c12 => k_is)
    (case k12 => k_is)
    (case a13 => k_is)
    (case l13 => k_is)
    (case c13 => k_is)
    (case k13 => k_is)
    (case a14 => k_is)
    (case l14 => k_is)
    (case c14 => k_is)
    (case k14 => k_is)
    (case a15 => k_is)
    (case l15 => k_is)
    (case c15 => k_is)
    (case k15 => k_is)
    (case z_abs => k_is)
    (case z_int => k_is)
    (case z_isinstance => k_is)
    (case z_len => k_is)
    (case z_list => k_is)
    (case z_range => k_is)
    (case z_sum => k_is)
