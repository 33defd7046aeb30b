import PyProof.Rows.All
import Wide.All
import OpenK.AllK
import Wide.FinOn
import HandS.ForMost
import HandS.Wide
import HandS.WideBits
import HandS.Walk
import HandS.SortInts
import HandS.TupAny
import HandS.Rev
import HandS.Deep
import HandS.Style
import HandS.TupMul
import HandS.IsInst
import HandS.NoneIn
import HandS.Dict
import PySem.Challenge.RW_curvetally_k21_curves_known
set_option Elab.async false
set_option linter.all false
set_option maxRecDepth 100000
set_option maxHeartbeats 4000000
/-! DL, part a: data without a heap; slots of a frame; the relation between both. -/
namespace DL
open PySem L2

abbrev D := PyData
/-- the script: a list of ints that is read alone -/
abbrev scr (ns : List Int) : D := .dict [(.none, .list (ns.map PyData.int))]
mutual
inductive Rp (K : PySem.W.Frag) (H : Hp) : V → D → Prop
  | non : Rp K H .non .none
  | bl (b : Bool) : Rp K H (.bl b) (.bool b)
  | int (i : Int) : Rp K H (.int i) (.int i)
  | str (x : Str) : Rp K H (.str x) (.str x)
  | lst {a : Addr} {xs : List V} {ds : List D} : H a = some (.lst xs) → Rps K H xs ds → Rp K H (.ref a) (.list ds)
  | tup {a : Addr} {xs : List V} {ds : List D} : SqT K H a xs → Rps K H xs ds → Rp K H (.ref a) (.tuple ds)
  | scr {a : Addr} {ns : List Int} : SqL K H a (ns.map V.int) → Rp K H (.ref a) (scr ns)
inductive Rps (K : PySem.W.Frag) (H : Hp) : List V → List D → Prop
  | nil : Rps K H [] []
  | cons {v : V} {vs : List V} {d : D} {ds : List D} : Rp K H v d → Rps K H vs ds → Rps K H (v :: vs) (d :: ds)
end
theorem Same.tup {K : PySem.W.Frag} {H H' : Hp} {a : Addr} {xs : List V} (e : Same H H') (h : SqT K H a xs) : SqT K H' a xs := by
  rcases h with (h | ⟨o, h⟩) | h
  · exact .inl (.inl (e _ _ h))
  · exact .inl (.inr ⟨o, e _ _ h⟩)
  · exact .inr h
mutual
theorem Rp.mono {K : PySem.W.Frag} {H H' : Hp} (e : Same H H') : ∀ {v : V} {d : D}, Rp K H v d → Rp K H' v d
  | _, _, .non => .non
  | _, _, .bl b => .bl b
  | _, _, .int i => .int i
  | _, _, .str x => .str x
  | _, _, .lst h r => .lst (e _ _ h) (Rps.mono e r)
  | _, _, .tup h r => .tup (Same.tup e h) (Rps.mono e r)
  | _, _, .scr h => .scr (e.seq h)
theorem Rps.mono {K : PySem.W.Frag} {H H' : Hp} (e : Same H H') : ∀ {vs : List V} {ds : List D}, Rps K H vs ds → Rps K H' vs ds
  | _, _, .nil => .nil
  | _, _, .cons h r => .cons (Rp.mono e h) (Rps.mono e r)
end
mutual
theorem Rp.dp {K : PySem.W.Frag} {H : Hp} : ∀ {v : V} {d : D}, Rp K H v d → d.canLay0 = true → Dp K H v d
  | _, _, .non, _ => .non
  | _, _, .bl b, _ => .bl b
  | _, _, .int i, _ => .int i
  | _, _, .str x, _ => .str x
  | _, _, .lst h r, l => .lst (SqL.of h) (Rps.dp r (by simpa [PyData.canLay0] using l))
  | _, _, .tup h r, l => .tup h (Rps.dp r (by simpa [PyData.canLay0] using l))
  | _, _, .scr h, l => by simp [PyData.canLay0] at l
theorem Rps.dp {K : PySem.W.Frag} {H : Hp} : ∀ {vs : List V} {ds : List D}, Rps K H vs ds → PyData.canLayAll0 ds = true → DpAll K H vs ds
  | _, _, .nil, _ => .nil
  | _, _, .cons h r, l => by
    have l' := Bool.and_eq_true_iff.mp (by simpa [PyData.canLayAll0] using l)
    exact .cons (Rp.dp h l'.1) (Rps.dp r l'.2)
end
theorem Rp.sh {K : PySem.W.Frag} {H : Hp} {v : V} {d : D} (h : Rp K H v d) (s : SeqAt.shaped d = true) : Dp K H v d := h.dp (SeqAt.canLay_of_shaped s)
section
variable {K : PySem.W.Frag} {H : Hp} {vs ws : List V} {ds es : List D}
theorem Rps.length : ∀ {vs : List V} {ds : List D}, Rps K H vs ds → vs.length = ds.length
  | _, _, .nil => rfl
  | _, _, .cons _ r => by rw [List.length_cons, List.length_cons, Rps.length r]
theorem Rps.append : ∀ {vs ws : List V} {ds es : List D}, Rps K H vs ds → Rps K H ws es → Rps K H (vs ++ ws) (ds ++ es)
  | _, _, _, _, .nil, s => s
  | _, _, _, _, .cons h r, s => .cons h (Rps.append r s)
theorem Rps.get : ∀ {vs : List V} {ds : List D} {i : Nat} {d : D}, Rps K H vs ds → ds[i]? = some d → ∃ v, vs[i]? = some v ∧ Rp K H v d
  | _, _, _, _, .nil, e => by simp at e
  | _, _, 0, _, .cons h _, e => by simp at e; subst e; exact ⟨_, rfl, h⟩
  | _, _, i + 1, _, .cons _ r, e => by
    obtain ⟨v, h1, h2⟩ := Rps.get (i := i) r (by simpa using e)
    exact ⟨v, by simpa using h1, h2⟩
theorem Rps.getV : ∀ {vs : List V} {ds : List D} {i : Nat} {v : V}, Rps K H vs ds → vs[i]? = some v → ∃ d, ds[i]? = some d ∧ Rp K H v d
  | _, _, _, _, .nil, e => by simp at e
  | _, _, 0, _, .cons h _, e => by simp at e; subst e; exact ⟨_, rfl, h⟩
  | _, _, i + 1, _, .cons _ r, e => by
    obtain ⟨v, h1, h2⟩ := Rps.getV (i := i) r (by simpa using e)
    exact ⟨v, by simpa using h1, h2⟩
theorem Rps.set {x : V} {d : D} (h : Rp K H x d) : ∀ {vs : List V} {ds : List D} (i : Nat), Rps K H vs ds → Rps K H (vs.set i x) (ds.set i d)
  | _, _, _, .nil => .nil
  | _, _, 0, .cons _ t => .cons h t
  | _, _, i + 1, .cons q t => .cons q (Rps.set h i t)
theorem Rps.take : ∀ {vs : List V} {ds : List D} (n : Nat), Rps K H vs ds → Rps K H (vs.take n) (ds.take n)
  | _, _, 0, _ => .nil
  | _, _, _ + 1, .nil => .nil
  | _, _, n + 1, .cons r t => .cons r (Rps.take n t)
theorem Rps.drop : ∀ {vs : List V} {ds : List D} (n : Nat), Rps K H vs ds → Rps K H (vs.drop n) (ds.drop n)
  | _, _, 0, r => r
  | _, _, _ + 1, .nil => .nil
  | _, _, n + 1, .cons _ t => Rps.drop n t
theorem Rps.rev : ∀ {vs : List V} {ds : List D}, Rps K H vs ds → Rps K H vs.reverse ds.reverse
  | _, _, .nil => .nil
  | _, _, .cons h r => by
    rw [List.reverse_cons, List.reverse_cons]
    exact (Rps.rev r).append (.cons h .nil)
theorem Rps.dropLast (r : Rps K H vs ds) : Rps K H vs.dropLast ds.dropLast := by
  rw [List.dropLast_eq_take, List.dropLast_eq_take, r.length]
  exact r.take _
theorem Rps.rep (r : Rps K H vs ds) : ∀ k : Nat, Rps K H (List.replicate k vs).flatten (List.replicate k ds).flatten
  | 0 => .nil
  | k + 1 => by
    rw [List.replicate_succ, List.replicate_succ, List.flatten_cons, List.flatten_cons]
    exact r.append (Rps.rep r k)
theorem Rps.one {v : V} {d : D} (h : Rp K H v d) : Rps K H [v] [d] := .cons h .nil
theorem Rps.cons_inv {d : D} {ds : List D} {vs : List V} (h : Rps K H vs (d :: ds)) : ∃ v ws, vs = v :: ws ∧ Rp K H v d ∧ Rps K H ws ds := by
  cases h with
  | cons h r => exact ⟨_, _, rfl, h, r⟩
theorem Rps.nil_inv {vs : List V} (h : Rps K H vs []) : vs = [] := by cases h; rfl
end
/-- ints -/
abbrev dints (ns : List Int) : List D := ns.map PyData.int
theorem Rps.ints_inv {K : PySem.W.Frag} {H : Hp} : ∀ {ns : List Int} {vs : List V}, Rps K H vs (dints ns) → vs = ns.map V.int
  | [], _, h => h.nil_inv
  | n :: ns, _, h => by
    obtain ⟨v, ws, rfl, h1, h2⟩ := h.cons_inv
    cases h1
    rw [Rps.ints_inv h2]
    rfl
theorem Rps.of_ints {K : PySem.W.Frag} {H : Hp} : ∀ (ns : List Int), Rps K H (ns.map V.int) (dints ns)
  | [] => .nil
  | n :: ns => .cons (.int n) (Rps.of_ints ns)
theorem Rps.bools_inv {K : PySem.W.Frag} {H : Hp} : ∀ {ns : List Bool} {vs : List V}, Rps K H vs (ns.map PyData.bool) → vs = ns.map V.bl
  | [], _, h => h.nil_inv
  | n :: ns, _, h => by
    obtain ⟨v, ws, rfl, h1, h2⟩ := h.cons_inv
    cases h1
    rw [Rps.bools_inv h2]
    rfl

/-! ### slots -/
/-- what a slot of the frame holds: a value that no longer changes; a list of one's own; a handle (a list of one's own, its contents told by ok alone); a dict of one's own -/
inductive Sl where
  | v (d : D) | own (ds : List D) | hnd | dct (kvs : List (Key × D))
abbrev EnvD := List (Option Sl)
def Sl.isOwn : Sl → Bool
  | .v _ => false
  | _ => true
inductive Rt where
  | v (d : D) | own (ds : List D)
def Rt.val : Rt → D
  | .v d => d
  | .own ds => .list ds

structure Ctx where
  He : Hp
  H0e : Hp
  ha : Option Addr
  Kp : Hp

def KRps (K : PySem.W.Frag) (H : Hp) (ks : List (Key × V)) (es : List (Key × D)) : Prop := ks.map Prod.fst = es.map Prod.fst ∧ Rps K H (ks.map Prod.snd) (es.map Prod.snd)
section
variable (K : PySem.W.Frag) (ok : List D → Prop)
/-- a list of one's own at p: unknown to H0, its items known -/
structure OwnAt (H0 H : Hp) (p : Addr) (ds : List D) : Prop where
  n0 : H0 p = none
  ex : ∃ vs, H p = some (.lst vs) ∧ Rps K H0 vs ds
def SlotOk (C : Ctx) (H0 H : Hp) (x : Option (Option V)) : Sl → Prop
  | .v d => ∃ v, x = some (some v) ∧ Rp K H0 v d
  | .own ds => ∃ p, x = some (some (.ref p)) ∧ C.He p = none ∧ OwnAt K H0 H p ds
  | .hnd => ∃ a ds, x = some (some (.ref a)) ∧ (C.ha = some a ∨ C.He a = none) ∧ OwnAt K H0 H a ds ∧ ok ds
  | .dct kvs => ∃ p ks, x = some (some (.ref p)) ∧ C.He p = none ∧ H0 p = none ∧ H p = some (.dK ks) ∧ KRps K H0 ks kvs
structure Rel (C : Ctx) (H0 : Hp) (σ : St) (H : Hp) (env : EnvD) : Prop where
  sub : Same H0 H
  grow : Same C.H0e H0
  new : ∀ b o, H0 b = some o → C.H0e b = some o ∨ C.He b = none
  fr : ∀ b o, C.He b = some o → some b ≠ C.ha → H b = some o
  hv : ∀ a, C.ha = some a → (∃ o, C.He a = some o) ∧ ∃ ds, OwnAt K H0 H a ds ∧ ok ds
  len : σ.length = env.length
  slot : ∀ (i : Nat) s, env[i]? = some (some s) → SlotOk K ok C H0 H σ[i]? s
  dis : ∀ (i j : Nat) s t p, i ≠ j → env[i]? = some (some s) → env[j]? = some (some t) → s.isOwn = true → t.isOwn = true → σ[i]? = some (some (.ref p)) → σ[j]? ≠ some (some (.ref p))
  kp : Same C.Kp H
  kn : ∀ (i : Nat) s p, env[i]? = some (some s) → s.isOwn = true → σ[i]? = some (some (.ref p)) → C.Kp p = none
  kh : ∀ a, C.ha = some a → C.Kp a = none
  kz : ∀ b o, C.Kp b = some o → H0 b = none
end
section
variable {K : PySem.W.Frag} {ok : List D → Prop} {C : Ctx} {H0 H01 H H1 : Hp} {σ : St} {env : EnvD}
theorem OwnAt.is {p : Addr} {ds : List D} (h : OwnAt K H0 H p ds) : ∃ vs, H p = some (.lst vs) := let ⟨vs, hp, _⟩ := h.ex; ⟨vs, hp⟩
theorem KRps.mono {ks : List (Key × V)} {es : List (Key × D)} (e : Same H H1) (h : KRps K H ks es) : KRps K H1 ks es := ⟨h.1, h.2.mono e⟩
/-- an own slot's address -/
theorem Rel.own_addr (R : Rel K ok C H0 σ H env) {i : Nat} {s : Sl} (h : env[i]? = some (some s)) (o : s.isOwn = true) : ∃ p u, σ[i]? = some (some (.ref p)) ∧ H0 p = none ∧ H p = some u ∧ (C.ha = some p ∨ C.He p = none) ∧ Mut (some u) := by
  have q := R.slot i s h
  cases s with
  | v d => cases o
  | own ds => obtain ⟨p, e, n, n0, vs, hp, _⟩ := q; exact ⟨p, _, e, n0, hp, .inr n, trivial⟩
  | hnd => obtain ⟨a, ds, e, n, ⟨n0, vs, hp, _⟩, _⟩ := q; exact ⟨a, _, e, n0, hp, n, trivial⟩
  | dct kvs => obtain ⟨p, ks, e, n, n0, hp, _⟩ := q; exact ⟨p, _, e, n0, hp, .inr n, trivial⟩
/-- fresh for the whole: not tracked, so new since the entry too -/
theorem Rel.fresh (R : Rel K ok C H0 σ H env) {p : Addr} (h : H p = none) : C.He p = none := by
  cases e : C.He p with
  | none => rfl
  | some o =>
    by_cases ha : some p = C.ha
    · obtain ⟨_, ds, ⟨_, vs, hp, _⟩, _⟩ := R.hv p ha.symm
      rw [h] at hp; cases hp
    · have := R.fr p o e ha
      rw [h] at this; cases this
theorem OwnAt.keep {p : Addr} {ds : List D} (h : OwnAt K H0 H p ds) (e : Same H0 H01) (n : H01 p = none) (k : ∀ o, H p = some o → H1 p = some o) : OwnAt K H01 H1 p ds := by
  obtain ⟨_, vs, hp, r⟩ := h
  exact ⟨n, vs, k _ hp, r.mono e⟩
/-- THE STEP: all that was tracked is kept, what is known has grown by new objects -/
theorem Rel.step (R : Rel K ok C H0 σ H env) (e0 : Same H0 H01) (sub : Same H01 H1) (new : ∀ b o, H01 b = some o → H0 b = some o ∨ H b = none) (kp : Same H H1) : Rel K ok C H01 σ H1 env := by
  have non : ∀ p u, H0 p = none → H p = some u → H01 p = none := fun p u n h => by
    cases q : H01 p with
    | none => rfl
    | some o =>
      rcases new p o q with z | z
      · rw [n] at z; cases z
      · rw [h] at z; cases z
  refine ⟨sub, fun b o h => e0 _ _ (R.grow b o h), fun b o h => ?_, fun b o h n => kp _ _ (R.fr b o h n), fun a ha => ?_, R.len, fun i s h => ?_, R.dis, fun b o z => kp _ _ (R.kp b o z), R.kn, R.kh, fun b o z => non b o (R.kz b o z) (R.kp b o z)⟩
  · rcases new b o h with z | z
    · exact R.new b o z
    · exact .inr (R.fresh z)
  · obtain ⟨h1, ds, h2, h3⟩ := R.hv a ha
    obtain ⟨vs, hp⟩ := h2.is
    exact ⟨h1, ds, h2.keep e0 (non a _ h2.n0 hp) (kp a), h3⟩
  · have q := R.slot i s h
    cases s with
    | v d => obtain ⟨v, e, r⟩ := q; exact ⟨v, e, r.mono e0⟩
    | own ds =>
      obtain ⟨p, e, n, h2⟩ := q
      obtain ⟨vs, hp⟩ := h2.is
      exact ⟨p, e, n, h2.keep e0 (non p _ h2.n0 hp) (kp p)⟩
    | hnd =>
      obtain ⟨a, ds, e, n, h2, h3⟩ := q
      obtain ⟨vs, hp⟩ := h2.is
      exact ⟨a, ds, e, n, h2.keep e0 (non a _ h2.n0 hp) (kp a), h3⟩
    | dct kvs =>
      obtain ⟨p, ks, e, n, n0, hp, r⟩ := q
      exact ⟨p, ks, e, n, non p _ n0 hp, kp _ _ hp, r.mono e0⟩
theorem same_new {p : Addr} {o : HO} (h : H p = none) : Same H (upd H p o) := fun b x e => by
  rw [upd_ne (ne_of_none e h)]
  exact e
/-- a new object is laid and known -/
theorem Rel.laid (R : Rel K ok C H0 σ H env) {p : Addr} {o : HO} (h : H p = none) : Rel K ok C (upd H0 p o) σ (upd H p o) env ∧ Same H0 (upd H0 p o) := by
  have h0 : H0 p = none := R.sub.free h
  have e0 : Same H0 (upd H0 p o) := same_new h0
  refine ⟨R.step e0 (fun b x e => ?_) (fun b x e => ?_) (same_new h), e0⟩
  · by_cases hb : b = p
    · subst hb; rw [upd_same] at e ⊢; exact e
    · rw [upd_ne hb] at e ⊢; exact R.sub _ _ e
  · by_cases hb : b = p
    · subst hb; exact .inr h
    · rw [upd_ne hb] at e; exact .inl e
/-- a new object is laid, not known -/
theorem Rel.laid0 (R : Rel K ok C H0 σ H env) {p : Addr} {o : HO} (h : H p = none) : Rel K ok C H0 σ (upd H p o) env :=
  R.step (Same.refl _) (fun b x e => by rw [upd_ne (ne_of_none (R.sub b x e) h)]; exact R.sub b x e) (fun b x e => .inl e) (same_new h)
/-- what is unknown, of one's own and in no slot becomes known -/
theorem Rel.know (R : Rel K ok C H0 σ H env) {p : Addr} {o : HO} (h : H p = some o) (n0 : H0 p = none) (n : C.He p = none) (kq : C.Kp p = none) (ns : ∀ (i : Nat) s, env[i]? = some (some s) → s.isOwn = true → σ[i]? ≠ some (some (.ref p))) :
    Rel K ok C (upd H0 p o) σ H env ∧ Same H0 (upd H0 p o) := by
  have e0 : Same H0 (upd H0 p o) := same_new n0
  have non : ∀ q, q ≠ p → H0 q = none → (upd H0 p o) q = none := fun q hq z => by rw [upd_ne hq]; exact z
  refine ⟨⟨fun b x e => ?_, fun b x e => e0 _ _ (R.grow b x e), fun b x e => ?_, R.fr, fun a ha => ?_, R.len, fun i s hs => ?_, R.dis, R.kp, R.kn, R.kh, fun b x z => non b (fun y => by subst y; rw [kq] at z; cases z) (R.kz b x z)⟩, e0⟩
  · by_cases hb : b = p
    · subst hb; rw [upd_same] at e; rw [h]; exact e
    · rw [upd_ne hb] at e; exact R.sub _ _ e
  · by_cases hb : b = p
    · subst hb; exact .inr n
    · rw [upd_ne hb] at e; exact R.new _ _ e
  · obtain ⟨⟨oa, h1⟩, ds, h2, h3⟩ := R.hv a ha
    have hap : a ≠ p := fun z => by subst z; rw [n] at h1; cases h1
    exact ⟨⟨oa, h1⟩, ds, h2.keep e0 (non a hap h2.n0) (fun _ z => z), h3⟩
  · have q := R.slot i s hs
    cases s with
    | v d => obtain ⟨v, e, r⟩ := q; exact ⟨v, e, r.mono e0⟩
    | own ds =>
      obtain ⟨a, e, m, h2⟩ := q
      exact ⟨a, e, m, h2.keep e0 (non a (fun z => by subst z; exact ns i _ hs rfl e) h2.n0) (fun _ z => z)⟩
    | hnd =>
      obtain ⟨a, ds, e, m, h2, h3⟩ := q
      exact ⟨a, ds, e, m, h2.keep e0 (non a (fun z => by subst z; exact ns i _ hs rfl e) h2.n0) (fun _ z => z), h3⟩
    | dct kvs =>
      obtain ⟨a, ks, e, m, m0, hp, r⟩ := q
      exact ⟨a, ks, e, m, non a (fun z => by subst z; exact ns i _ hs rfl e) m0, hp, r.mono e0⟩
/-- what is not in any own slot: addresses that were untracked -/
theorem Rel.noslot (R : Rel K ok C H0 σ H env) {p : Addr} (h : H p = none) : ∀ (i : Nat) s, env[i]? = some (some s) → s.isOwn = true → σ[i]? ≠ some (some (.ref p)) := fun i s hs o z => by
  obtain ⟨q, u, e, _, hp, _⟩ := R.own_addr hs o
  rw [e] at z
  cases z
  rw [h] at hp; cases hp
/-- a slot is stored: a known value -/
theorem Rel.setV (R : Rel K ok C H0 σ H env) {i : Nat} {x : V} {d : D} (r : Rp K H0 x d) : Rel K ok C H0 (σ.set i (some x)) H (env.set i (some (.v d))) := by
  refine ⟨R.sub, R.grow, R.new, R.fr, R.hv, by rw [List.length_set, List.length_set]; exact R.len, fun j s hs => ?_, fun j k s t p hjk hs ht os ot => ?_, R.kp, fun j s p hs os => ?_, R.kh, R.kz⟩
  · by_cases hj : i = j
    · subst hj
      by_cases hi : i < env.length
      · rw [List.getElem?_set_self hi] at hs
        cases hs
        exact ⟨x, by rw [List.getElem?_set_self (by rw [R.len]; exact hi)], r⟩
      · rw [List.getElem?_eq_none (by rw [List.length_set]; omega)] at hs; cases hs
    · rw [List.getElem?_set_ne hj] at hs ⊢
      exact R.slot j s hs
  · have h1 : i ≠ j := fun z => by
      subst z
      by_cases hi : i < env.length
      · rw [List.getElem?_set_self hi] at hs; cases hs; cases os
      · rw [List.getElem?_eq_none (by rw [List.length_set]; omega)] at hs; cases hs
    have h2 : i ≠ k := fun z => by
      subst z
      by_cases hi : i < env.length
      · rw [List.getElem?_set_self hi] at ht; cases ht; cases ot
      · rw [List.getElem?_eq_none (by rw [List.length_set]; omega)] at ht; cases ht
    rw [List.getElem?_set_ne h1] at hs ⊢
    rw [List.getElem?_set_ne h2] at ht ⊢
    exact R.dis j k s t p hjk hs ht os ot
  · have h1 : i ≠ j := fun z => by
      subst z
      by_cases hi : i < env.length
      · rw [List.getElem?_set_self hi] at hs; cases hs; cases os
      · rw [List.getElem?_eq_none (by rw [List.length_set]; omega)] at hs; cases hs
    rw [List.getElem?_set_ne h1] at hs ⊢
    exact R.kn j s p hs os
/-- a slot is stored: a thing of one's own -/
theorem Rel.setO (R : Rel K ok C H0 σ H env) {i : Nat} {p : Addr} {s : Sl} (q : SlotOk K ok C H0 H (some (some (.ref p))) s) (os : s.isOwn = true) (kq : C.Kp p = none)
    (ns : ∀ (j : Nat) t, j ≠ i → env[j]? = some (some t) → t.isOwn = true → σ[j]? ≠ some (some (.ref p))) : Rel K ok C H0 (σ.set i (some (.ref p))) H (env.set i (some s)) := by
  refine ⟨R.sub, R.grow, R.new, R.fr, R.hv, by rw [List.length_set, List.length_set]; exact R.len, fun j t ht => ?_, fun j k t u a hjk ht hu ot ou e1 e2 => ?_, R.kp, fun j t a ht ot e1 => ?_, R.kh, R.kz⟩
  · by_cases hj : i = j
    · subst hj
      by_cases hi : i < env.length
      · rw [List.getElem?_set_self hi] at ht
        cases ht
        rw [List.getElem?_set_self (by rw [R.len]; exact hi)]
        exact q
      · rw [List.getElem?_eq_none (by rw [List.length_set]; omega)] at ht; cases ht
    · rw [List.getElem?_set_ne hj] at ht ⊢
      exact R.slot j t ht
  · have lt : ∀ {j : Nat} {t : Sl}, (env.set i (some s))[j]? = some (some t) → j < env.length := fun {j t} z => by
      have := (List.getElem?_eq_some_iff.mp z).1
      rw [List.length_set] at this
      exact this
    by_cases h1 : i = j
    · subst h1
      have h2 : i ≠ k := hjk
      rw [List.getElem?_set_ne h2] at hu e2
      rw [List.getElem?_set_self (by rw [R.len]; exact lt ht)] at e1
      cases e1
      exact ns k u (Ne.symm h2) hu ou e2
    · rw [List.getElem?_set_ne h1] at ht e1
      by_cases h2 : i = k
      · subst h2
        rw [List.getElem?_set_self (by rw [R.len]; exact lt hu)] at e2
        cases e2
        exact ns j t (Ne.symm h1) ht ot e1
      · rw [List.getElem?_set_ne h2] at hu e2
        exact R.dis j k t u a hjk ht hu ot ou e1 e2
  · by_cases h1 : i = j
    · subst h1
      by_cases hi : i < env.length
      · rw [List.getElem?_set_self (by rw [R.len]; exact hi)] at e1
        cases e1
        exact kq
      · rw [List.getElem?_eq_none (by rw [List.length_set]; omega)] at ht; cases ht
    · rw [List.getElem?_set_ne h1] at ht e1
      exact R.kn j t a ht ot e1
/-- a slot forgotten -/
theorem Rel.drop (R : Rel K ok C H0 σ H env) {i : Nat} {y : Option V} : Rel K ok C H0 (σ.set i y) H (env.set i none) := by
  refine ⟨R.sub, R.grow, R.new, R.fr, R.hv, by rw [List.length_set, List.length_set]; exact R.len, fun j s hs => ?_, fun j k s t p hjk hs ht os ot => ?_, R.kp, fun j s p hs os => ?_, R.kh, R.kz⟩
  · have hj : i ≠ j := fun z => by
      subst z
      by_cases hi : i < env.length
      · rw [List.getElem?_set_self hi] at hs; cases hs
      · rw [List.getElem?_eq_none (by rw [List.length_set]; omega)] at hs; cases hs
    rw [List.getElem?_set_ne hj] at hs ⊢
    exact R.slot j s hs
  · have ne : ∀ {j : Nat} {t : Sl}, (env.set i none)[j]? = some (some t) → i ≠ j := fun {j t} z q => by
      subst q
      by_cases hi : i < env.length
      · rw [List.getElem?_set_self hi] at z; cases z
      · rw [List.getElem?_eq_none (by rw [List.length_set]; omega)] at z; cases z
    have h1 := ne hs
    have h2 := ne ht
    rw [List.getElem?_set_ne h1] at hs ⊢
    rw [List.getElem?_set_ne h2] at ht ⊢
    exact R.dis j k s t p hjk hs ht os ot
  · have hj : i ≠ j := fun z => by
      subst z
      by_cases hi : i < env.length
      · rw [List.getElem?_set_self hi] at hs; cases hs
      · rw [List.getElem?_eq_none (by rw [List.length_set]; omega)] at hs; cases hs
    rw [List.getElem?_set_ne hj] at hs ⊢
    exact R.kn j s p hs os
/-- a thing of one's own changes -/
theorem Rel.put (R : Rel K ok C H0 σ H env) {i : Nat} {p : Addr} {s t : Sl} {o : HO} (hs : env[i]? = some (some s)) (os : s.isOwn = true) (e : σ[i]? = some (some (.ref p))) (nh : C.ha ≠ some p)
    (ot : t.isOwn = true) (q : SlotOk K ok C H0 (upd H p o) (some (some (.ref p))) t) : Rel K ok C H0 σ (upd H p o) (env.set i (some t)) := by
  obtain ⟨p', u, e', n0, hp, hn, _⟩ := R.own_addr hs os
  rw [e] at e'
  cases e'
  have hn : C.He p = none := hn.resolve_left nh
  have lt : i < env.length := (List.getElem?_eq_some_iff.mp hs).1
  have up : ∀ {b : Addr} {x : HO}, b ≠ p → H b = some x → (upd H p o) b = some x := fun {b x} hb z => by rw [upd_ne hb]; exact z
  refine ⟨fun b x z => up (fun y => by subst y; rw [n0] at z; cases z) (R.sub b x z), R.grow, R.new, fun b x z m => up (fun y => by subst y; rw [hn] at z; cases z) (R.fr b x z m), fun a ha => ?_, ?_, fun j r hr => ?_, fun j k r r' a hjk hr hr' o1 o2 e1 => ?_, fun b x z => up (fun y => by subst y; rw [R.kn i s b hs os e] at z; cases z) (R.kp b x z), fun j r a hr o' e1 => ?_, R.kh, R.kz⟩
  · obtain ⟨h1, ds, h2, h3⟩ := R.hv a ha
    have hap : a ≠ p := fun z => by subst z; exact nh ha
    exact ⟨h1, ds, h2.keep (Same.refl _) h2.n0 (fun x z => up hap z), h3⟩
  · rw [List.length_set]; exact R.len
  · by_cases hj : i = j
    · subst hj
      rw [List.getElem?_set_self lt] at hr
      cases hr
      rw [e]; exact q
    · rw [List.getElem?_set_ne hj] at hr
      have w := R.slot j r hr
      have other : ∀ {a : Addr}, r.isOwn = true → σ[j]? = some (some (.ref a)) → a ≠ p := fun {a} o' z y => by
        subst y
        exact R.dis i j s r a hj hs hr os o' e z
      cases r with
      | v d => exact w
      | own ds => obtain ⟨a, z, m, h2⟩ := w; exact ⟨a, z, m, h2.keep (Same.refl _) h2.n0 (fun x y => up (other rfl z) y)⟩
      | hnd => obtain ⟨a, ds, z, m, h2, h3⟩ := w; exact ⟨a, ds, z, m, h2.keep (Same.refl _) h2.n0 (fun x y => up (other rfl z) y), h3⟩
      | dct kvs => obtain ⟨a, ks, z, m, m0, hq, r'⟩ := w; exact ⟨a, ks, z, m, m0, up (other rfl z) hq, r'⟩
  · have old : ∀ {j : Nat} {r : Sl}, (env.set i (some t))[j]? = some (some r) → r.isOwn = true → ∃ r', env[j]? = some (some r') ∧ r'.isOwn = true := fun {j r} z o' => by
      by_cases hj : i = j
      · subst hj; exact ⟨s, hs, os⟩
      · rw [List.getElem?_set_ne hj] at z; exact ⟨r, z, o'⟩
    obtain ⟨r1, z1, y1⟩ := old hr o1
    obtain ⟨r2, z2, y2⟩ := old hr' o2
    exact R.dis j k r1 r2 a hjk z1 z2 y1 y2 e1
  · by_cases hj : i = j
    · subst hj; rw [e] at e1; cases e1; exact R.kn i s p hs os e
    · rw [List.getElem?_set_ne hj] at hr; exact R.kn j r a hr o' e1
/-- a call has run that may have changed the handle at a -/
theorem Rel.called (R : Rel K ok C H0 σ H env) {i : Nat} {a : Addr} (hs : env[i]? = some (some .hnd)) (ea : σ[i]? = some (some (.ref a))) (e0 : Same H0 H01) (sub : Same H01 H1) (new : ∀ b o, H01 b = some o → H0 b = some o ∨ H b = none)
    (kp : ∀ b o, H b = some o → b ≠ a → H1 b = some o) (na : H01 a = none) {ds' : List D} (ha' : OwnAt K H01 H1 a ds') (ok' : ok ds') : Rel K ok C H01 σ H1 env := by
  have non : ∀ p u, H0 p = none → H p = some u → H01 p = none := fun p u n h => by
    cases q : H01 p with
    | none => rfl
    | some o =>
      rcases new p o q with z | z
      · rw [n] at z; cases z
      · rw [h] at z; cases z
  obtain ⟨a', da, ea', na', ⟨na0, va, hva, _⟩, _⟩ := R.slot i .hnd hs
  rw [ea] at ea'
  cases ea'
  refine ⟨sub, fun b o h => e0 _ _ (R.grow b o h), fun b o h => ?_, fun b o h n => ?_, fun b hb => ?_, R.len, fun j s h => ?_, R.dis, fun b o z => kp _ _ (R.kp b o z) (fun y => by subst y; rw [R.kn i _ b hs rfl ea] at z; cases z), R.kn, R.kh, fun b o z => non b o (R.kz b o z) (R.kp b o z)⟩
  · rcases new b o h with z | z
    · exact R.new b o z
    · exact .inr (R.fresh z)
  · refine kp _ _ (R.fr b o h n) fun z => ?_
    subst z
    rcases na' with z | z
    · exact n z.symm
    · rw [h] at z; cases z
  · obtain ⟨h1, ds, h2, h3⟩ := R.hv b hb
    by_cases hba : b = a
    · subst hba; exact ⟨h1, ds', ha', ok'⟩
    · obtain ⟨vs, hp⟩ := h2.is
      exact ⟨h1, ds, h2.keep e0 (non b _ h2.n0 hp) (fun o z => kp b o z hba), h3⟩
  · have q := R.slot j s h
    have other : ∀ {b : Addr}, i ≠ j → s.isOwn = true → σ[j]? = some (some (.ref b)) → b ≠ a := fun {b} hij o' z y => by
      subst y
      exact R.dis i j .hnd s b hij hs h rfl o' ea z
    by_cases hij : i = j
    · subst hij
      rw [hs] at h
      cases h
      exact ⟨a, ds', ea, na', ha', ok'⟩
    · cases s with
      | v d => obtain ⟨v, e, r⟩ := q; exact ⟨v, e, r.mono e0⟩
      | own ds =>
        obtain ⟨p, e, n, h2⟩ := q
        obtain ⟨vs, hp⟩ := h2.is
        exact ⟨p, e, n, h2.keep e0 (non p _ h2.n0 hp) (fun o z => kp p o z (other hij rfl e))⟩
      | hnd =>
        obtain ⟨b, ds, e, n, h2, h3⟩ := q
        obtain ⟨vs, hp⟩ := h2.is
        exact ⟨b, ds, e, n, h2.keep e0 (non b _ h2.n0 hp) (fun o z => kp b o z (other hij rfl e)), h3⟩
      | dct kvs =>
        obtain ⟨p, ks, e, n, n0, hp, r⟩ := q
        exact ⟨p, ks, e, n, non p _ n0 hp, kp _ _ hp (other hij rfl e), r.mono e0⟩
/-- a thing that no slot holds is protected, or no longer -/
theorem Rel.guard (R : Rel K ok C H0 σ H env) {Kq : Hp} (h : Same Kq H) (ns : ∀ p o, Kq p = some o → C.Kp p = some o ∨ ((∀ (i : Nat) s, env[i]? = some (some s) → s.isOwn = true → σ[i]? ≠ some (some (.ref p))) ∧ C.ha ≠ some p ∧ H0 p = none)) : Rel K ok { C with Kp := Kq } H0 σ H env := by
  refine ⟨R.sub, R.grow, R.new, R.fr, R.hv, R.len, fun i s hs => ?_, R.dis, h, fun i s p hs os e => ?_, fun a ha => ?_, fun b o z => ?_⟩
  · have q := R.slot i s hs
    cases s <;> exact q
  · cases q : Kq p with
    | none => exact q
    | some o =>
      rcases ns p o q with z | z
      · rw [R.kn i s p hs os e] at z; cases z
      · exact absurd e (z.1 i s hs os)
  · cases q : Kq a with
    | none => exact q
    | some o =>
      rcases ns a o q with z | z
      · rw [R.kh a ha] at z; cases z
      · exact absurd ha z.2.1
  · rcases ns b o z with z | z
    · exact R.kz b o z
    · exact z.2.2
end
end DL
/-! DL, part b: expressions, tests, arguments: what is asked, without a heap; each rule sound. -/
namespace DL
open PySem L2

abbrev WE := EnvD → (D → Prop) → Prop
abbrev WL := EnvD → (List D → Prop) → Prop
abbrev WT := EnvD → (Bool → Prop) → Prop
inductive Ar where
  | v (d : D) | hnd
abbrev WA := EnvD → (List Ar → Prop) → Prop

/-- a slot by its place -/
def get : EnvD → Nat → Option Sl
  | [], _ => none
  | x :: _, 0 => x
  | _ :: r, n + 1 => get r n
theorem get_eq : ∀ {env : EnvD} {i : Nat} {s : Sl}, get env i = some s → env[i]? = some (some s)
  | [], _, _, h => by cases h
  | x :: _, 0, s, h => by
    have h' : x = some s := h
    subst h'; rfl
  | _ :: r, n + 1, s, h => by
    rw [List.getElem?_cons_succ]
    exact get_eq (env := r) h

structure FreshL (K : PySem.W.Frag) (C : Ctx) (H0 : Hp) (σ : L2.St) (H : Hp) (env : EnvD) (p : Addr) (ds : List D) : Prop where
  he : C.He p = none
  own : OwnAt K H0 H p ds
  ns : ∀ (i : Nat) s, env[i]? = some (some s) → s.isOwn = true → σ[i]? ≠ some (some (.ref p))
  kq : C.Kp p = none

def ArgR (K : PySem.W.Frag) (H0 : Hp) (σ : L2.St) (env : EnvD) : Ar → V → Prop
  | .v d, x => Rp K H0 x d
  | .hnd, x => ∃ (i : Nat) (a : Addr), env[i]? = some (some .hnd) ∧ σ[i]? = some (some (.ref a)) ∧ x = .ref a
inductive ArgsR (K : PySem.W.Frag) (H0 : Hp) (σ : L2.St) (env : EnvD) : List Ar → List V → Prop
  | nil : ArgsR K H0 σ env [] []
  | cons {a : Ar} {as : List Ar} {x : V} {xs : List V} : ArgR K H0 σ env a x → ArgsR K H0 σ env as xs → ArgsR K H0 σ env (a :: as) (x :: xs)
section
variable {K : PySem.W.Frag} {ok : List D → Prop}
theorem ArgR.mono {H0 H01 : Hp} {σ : L2.St} {env : EnvD} (e : Same H0 H01) : ∀ {a : Ar} {x : V}, ArgR K H0 σ env a x → ArgR K H01 σ env a x
  | .v _, _, h => Rp.mono e h
  | .hnd, _, h => h
theorem ArgsR.length {H0 : Hp} {σ : L2.St} {env : EnvD} : ∀ {as : List Ar} {xs : List V}, ArgsR K H0 σ env as xs → as.length = xs.length
  | _, _, .nil => rfl
  | _, _, .cons _ t => by rw [List.length_cons, List.length_cons, ArgsR.length t]
variable (K ok)
def SndE (te : TE) (we : WE) : Prop := ∀ (C : Ctx) (H0 : Hp) (σ : L2.St) (H : Hp) (env : EnvD) (Q : D → Prop) (R : VK), Rel K ok C H0 σ H env → we env Q →
  (∀ d v H1 H01, Q d → Rel K ok C H01 σ H1 env → Same H0 H01 → Rp K H01 v d → R v H1) → te σ H R
def SndL (te : TE) (wl : WL) : Prop := ∀ (C : Ctx) (H0 : Hp) (σ : L2.St) (H : Hp) (env : EnvD) (Q : List D → Prop) (R : VK), Rel K ok C H0 σ H env → wl env Q →
  (∀ ds p H1 H01, Q ds → Rel K ok C H01 σ H1 env → Same H0 H01 → FreshL K C H01 σ H1 env p ds → R (.ref p) H1) → te σ H R
def SndT (tt : TT) (wt : WT) : Prop := ∀ (C : Ctx) (H0 : Hp) (σ : L2.St) (H : Hp) (env : EnvD) (Q : Bool → Prop) (R : Bool → Hp → Prop), Rel K ok C H0 σ H env → wt env Q →
  (∀ b H1 H01, Q b → Rel K ok C H01 σ H1 env → Same H0 H01 → R b H1) → tt σ H R
def SndA (ta : TA) (wa : WA) : Prop := ∀ (C : Ctx) (H0 : Hp) (σ : L2.St) (H : Hp) (env : EnvD) (Q : List Ar → Prop) (R : List V → Hp → Prop), Rel K ok C H0 σ H env → wa env Q →
  (∀ as vs H1 H01, Q as → Rel K ok C H01 σ H1 env → Same H0 H01 → ArgsR K H01 σ env as vs → R vs H1) → ta σ H R
/-- borrowed: a known value, or a list of one's own that stands while the slots do -/
def Bor (H0 H : Hp) (v : V) (d : D) : Prop := Rp K H0 v d ∨ ∃ p ds, v = .ref p ∧ d = .list ds ∧ OwnAt K H0 H p ds
def SndB (te : TE) (wb : WE) : Prop := ∀ (C : Ctx) (H0 : Hp) (σ : L2.St) (H : Hp) (env : EnvD) (Q : D → Prop) (R : VK), Rel K ok C H0 σ H env → wb env Q →
  (∀ d v H1 H01, Q d → Rel K ok C H01 σ H1 env → Same H0 H01 → (∀ H2 H02, Rel K ok C H02 σ H2 env → Same H01 H02 → Bor K H02 H2 v d) → R v H1) → te σ H R
end
section
variable (X : Cx) (ok : List D → Prop)
def PDE (e : Expr) (we : WE) : Prop := ∃ te, PE X e te ∧ SndE X.K ok te we
def PDL (e : Expr) (wl : WL) : Prop := ∃ te, PE X e te ∧ SndL X.K ok te wl
def PDB (e : Expr) (wb : WE) : Prop := ∃ te, PE X e te ∧ SndB X.K ok te wb
def PDT (e : Expr) (wt : WT) : Prop := ∃ tt, PT X e tt ∧ SndT X.K ok tt wt
def PDW (e : Expr) (wt : WT) : Prop := ∃ tt, PW X e tt ∧ SndT X.K ok tt wt
def PDA (es : List Expr) (wa : WA) : Prop := ∃ ta, PA X es ta ∧ SndA X.K ok ta wa
end

/-! ### what is asked -/
def wC (d : D) : WE := fun _ Q => Q d
def wVar (i : Nat) : WE := fun env Q => match get env i with
  | some (.v d) => Q d
  | _ => False
/-- a name as it stands, also a list of one's own -/
def wBor (i : Nat) : WE := fun env Q => match get env i with
  | some (.v d) => Q d
  | some (.own ds) => Q (.list ds)
  | _ => False
def wBin (f : D → D → (D → Prop) → Prop) (a b : WE) : WE := fun env Q => a env fun x => b env fun y => f x y Q
def wUn (f : D → (D → Prop) → Prop) (a : WE) : WE := fun env Q => a env fun x => f x Q
def fI (g : Int → Int → Int) : D → D → (D → Prop) → Prop := fun d e Q => match d, e with
  | .int i, .int j => Q (.int (g i j))
  | _, _ => False
def fIC (c : Int → Int → Prop) (g : Int → Int → Int) : D → D → (D → Prop) → Prop := fun d e Q => match d, e with
  | .int i, .int j => c i j ∧ Q (.int (g i j))
  | _, _ => False
def fB (g : Int → Int → Bool) : D → D → (D → Prop) → Prop := fun d e Q => match d, e with
  | .int i, .int j => Q (.bool (g i j))
  | _, _ => False
def fAdd : D → D → (D → Prop) → Prop := fun d e Q => match d, e with
  | .int i, .int j => Q (.int (i + j))
  | _, _ => False
def fSub : D → D → (D → Prop) → Prop := fun d e Q => match d, e with
  | .int i, .int j => Q (.int (i - j))
  | _, _ => False
def fMul : D → D → (D → Prop) → Prop := fun d e Q => match d, e with
  | .int i, .int j => CMul i j ∧ Q (.int (i * j))
  | _, _ => False
def fMulX : D → D → (D → Prop) → Prop := fun d e Q => match d, e with
  | .int i, .int j => CMulX i j ∧ Q (.int (i * j))
  | _, _ => False
def fMod : D → D → (D → Prop) → Prop := fun d e Q => match d, e with
  | .int i, .int j => 0 < j ∧ Q (.int (i % j))
  | _, _ => False
def fDiv : D → D → (D → Prop) → Prop := fun d e Q => match d, e with
  | .int i, .int j => CDivW i j ∧ Q (.int (i / j))
  | _, _ => False
def fShl : D → D → (D → Prop) → Prop := fun d e Q => match d, e with
  | .int i, .int j => CPow i j ∧ Q (.int (i * 2 ^ j.toNat))
  | _, _ => False
def fPow : D → D → (D → Prop) → Prop := fun d e Q => match d, e with
  | .int i, .int j => CPow i j ∧ Q (.int (i ^ j.toNat))
  | _, _ => False
def fMax2 : D → D → (D → Prop) → Prop := fun d e Q => match d, e with
  | .int i, .int j => Q (.int (if j > i then j else i))
  | _, _ => False
def fMin2 : D → D → (D → Prop) → Prop := fun d e Q => match d, e with
  | .int i, .int j => Q (.int (if j < i then j else i))
  | _, _ => False
def fLt : D → D → (D → Prop) → Prop := fun d e Q => match d, e with
  | .int i, .int j => Q (.bool (decide (i < j)))
  | _, _ => False
def fLe : D → D → (D → Prop) → Prop := fun d e Q => match d, e with
  | .int i, .int j => Q (.bool (decide (i ≤ j)))
  | _, _ => False
def fGt : D → D → (D → Prop) → Prop := fun d e Q => match d, e with
  | .int i, .int j => Q (.bool (decide (j < i)))
  | _, _ => False
def fGe : D → D → (D → Prop) → Prop := fun d e Q => match d, e with
  | .int i, .int j => Q (.bool (decide (j ≤ i)))
  | _, _ => False
def fEq : D → D → (D → Prop) → Prop := fun d e Q => match d, e with
  | .int i, .int j => Q (.bool (decide (i = j)))
  | d, e => SeqAt.shaped d = true ∧ SeqAt.shaped e = true ∧ Q (.bool (PyData.eqv d e))
def fNe : D → D → (D → Prop) → Prop := fun d e Q => match d, e with
  | .int i, .int j => Q (.bool (!decide (i = j)))
  | d, e => SeqAt.shaped d = true ∧ SeqAt.shaped e = true ∧ Q (.bool (!PyData.eqv d e))
def isNone : D → Bool
  | .none => true
  | _ => false
def fNeg : D → (D → Prop) → Prop := fun d Q => match d with
  | .int i => Q (.int (-i))
  | _ => False
def wIsN (a : WE) : WE := fun env Q => a env fun x => Q (.bool (isNone x))
def wNotN (a : WE) : WE := fun env Q => a env fun x => Q (.bool (!isNone x))
def wTest (a : WE) : WT := fun env Q => a env fun x => match x with
  | .bool b => Q b
  | _ => False
def wNot (t : WT) : WT := fun env Q => t env fun b => Q (!b)
/-- both ways -/
def wAnd (t u : WT) : WT := fun env Q => t env fun b => (b = true → u env Q) ∧ (b = false → Q false)
def wOr (t u : WT) : WT := fun env Q => t env fun b => (b = true → Q true) ∧ (b = false → u env Q)
/-- by a told answer of the second -/
def wAndD (t u : WT) : WT := fun env Q => t env fun b => ∃ c : Bool, (b = true → u env fun d => d = c) ∧ Q (b && c)
def wOrD (t u : WT) : WT := fun env Q => t env fun b => ∃ c : Bool, (b = false → u env fun d => d = c) ∧ Q (b || c)
/-- as values -/
def wBl (t : WT) : WE := fun env Q => t env fun b => Q (.bool b)
def wIfE (t : WT) (a b : WE) : WE := fun env Q => t env fun c => (c = true → a env Q) ∧ (c = false → b env Q)
def wNil : WA := fun _ Q => Q []
def wCons (a : WE) (r : WA) : WA := fun env Q => a env fun x => r env fun xs => Q (.v x :: xs)
def wConsH (i : Nat) (r : WA) : WA := fun env Q => match get env i with
  | some .hnd => r env fun xs => Q (.hnd :: xs)
  | _ => False
def vals : List Ar → List D
  | [] => []
  | .v d :: r => d :: vals r
  | .hnd :: r => vals r
def wTup (a : WA) : WE := fun env Q => a env fun as => as.length ≤ 1000 ∧ Q (.tuple (vals as))
def wLst (a : WA) : WL := fun env Q => a env fun as => as.length ≤ 1000 ∧ Q (vals as)
/-- a new list as a value -/
def wFz (l : WL) : WE := fun env Q => l env fun ds => Q (.list ds)
def fIx : D → D → (D → Prop) → Prop := fun d e Q => match d, e with
  | .list ds, .int i => ∃ x, atI ds i = some x ∧ Q x
  | .tuple ds, .int i => ∃ x, atI ds i = some x ∧ Q x
  | .dict [(.none, .list ds)], .int i => ∃ x, atI ds i = some x ∧ Q x
  | _, _ => False
def wIx (a b : WE) : WE := fun env Q => a env fun x => b env fun y => fIx x y Q
def wLen (a : WE) : WE := fun env Q => a env fun x => match x with
  | .list ds => Q (.int ds.length)
  | .tuple ds => Q (.int ds.length)
  | .dict [(.none, .list ds)] => Q (.int ds.length)
  | _ => False
abbrev WM := List Ar → (Rt → Prop) → Prop
def wCall (n : Nat) (M : WM) (a : WA) : WE := fun env Q => a env fun as => as.length = n ∧ M as fun r => Q r.val
def wCallO (n : Nat) (M : WM) (a : WA) : WL := fun env Q => a env fun as => as.length = n ∧ M as fun r => match r with
  | .own ds => Q ds
  | .v _ => False

/-! ### soundness -/
section
variable {K : PySem.W.Frag} {ok : List D → Prop} {ta tb te : TE} {wa wb we : WE} {t u : TT} {wt wu : WT}
theorem SndE.b (h : SndE K ok te we) : SndB K ok te we := fun C H0 σ H env Q R rel hw k => h C H0 σ H env Q R rel hw fun d v H1 H01 q r e x => k d v H1 H01 q r e fun H2 H02 _ e2 => .inl (x.mono e2)
theorem SndL.fz {wl : WL} (h : SndL K ok te wl) : SndE K ok te (wFz wl) := fun C H0 σ H env Q R rel hw k => h C H0 σ H env _ R rel hw fun ds p H1 H01 q r e f => by
  obtain ⟨n0, vs, hp, hr⟩ := f.own
  obtain ⟨r2, e2⟩ := r.know hp n0 f.he f.kq f.ns
  exact k _ _ H1 _ q r2 (e.trans e2) (.lst upd_same (hr.mono e2))
theorem snd_c {v : V} {d : D} (h : ∀ H, Rp K H v d) : SndE K ok (tC v) (wC d) := fun C H0 σ H env Q R rel hw k => k d v H H0 hw rel (Same.refl _) (h _)
theorem snd_var {i : Nat} : SndE K ok (tVar i) (wVar i) := fun C H0 σ H env Q R rel hw k => by
  unfold wVar at hw
  split at hw
  · rename_i d hd
    obtain ⟨v, e, r⟩ := rel.slot i _ (get_eq hd)
    exact ⟨v, e, k d v H H0 hw rel (Same.refl _) r⟩
  · exact hw.elim
theorem snd_bor {i : Nat} : SndB K ok (tVar i) (wBor i) := fun C H0 σ H env Q R rel hw k => by
  unfold wBor at hw
  split at hw
  · rename_i d hd
    obtain ⟨v, e, r⟩ := rel.slot i _ (get_eq hd)
    exact ⟨v, e, k d v H H0 hw rel (Same.refl _) fun H2 H02 _ e2 => .inl (r.mono e2)⟩
  · rename_i ds hd
    obtain ⟨p, e, n, o⟩ := rel.slot i _ (get_eq hd)
    refine ⟨_, e, k _ _ H H0 hw rel (Same.refl _) fun H2 H02 r2 e2 => .inr ⟨p, ds, rfl, rfl, ?_⟩⟩
    obtain ⟨p', e', n', o'⟩ := r2.slot i _ (get_eq hd)
    rw [e] at e'
    cases e'
    exact o'
  · exact hw.elim
/-- an operation on values that leaves the heap -/
def OpD (K : PySem.W.Frag) (r : R2) (f : D → D → (D → Prop) → Prop) : Prop := ∀ (H0 H : Hp) (x y : V) (d e : D) (Q : D → Prop) (R : VK), Same H0 H → Rp K H0 x d → Rp K H0 y e → f d e Q → (∀ z v, Q z → Rp K H0 v z → R v H) → r x y H R
theorem snd_bin {r : R2} {f : D → D → (D → Prop) → Prop} (hr : OpD K r f) (ha : SndE K ok ta wa) (hb : SndE K ok tb wb) : SndE K ok (tOp r ta tb) (wBin f wa wb) := fun C H0 σ H env Q R rel hw k =>
  ha C H0 σ H env _ _ rel hw fun d v H1 H01 q r1 e1 x1 => hb C H01 σ H1 env _ _ r1 q fun e u H2 H02 q2 r2 e2 x2 =>
    hr H02 H2 v u d e Q R r2.sub (x1.mono e2) x2 q2 fun z w qz rz => k z w H2 H02 qz r2 (e1.trans e2) rz
theorem opd_I0 {g : Int → Int → Int} : OpD K (rI0 fun i j => .int (g i j)) (fI g) := fun H0 H x y d e Q R _ hx hy h k => by
  unfold fI at h
  split at h
  · cases hx; cases hy
    exact ⟨_, _, rfl, rfl, k _ _ h (.int _)⟩
  · exact h.elim
theorem opd_I {c : Int → Int → Prop} {g : Int → Int → Int} : OpD K (rI c fun i j => .int (g i j)) (fIC c g) := fun H0 H x y d e Q R _ hx hy h k => by
  unfold fIC at h
  split at h
  · cases hx; cases hy
    exact ⟨_, _, rfl, rfl, h.1, k _ _ h.2 (.int _)⟩
  · exact h.elim
theorem opd_B0 {g : Int → Int → Bool} : OpD K (rI0 fun i j => .bl (g i j)) (fB g) := fun H0 H x y d e Q R _ hx hy h k => by
  unfold fB at h
  split at h
  · cases hx; cases hy
    exact ⟨_, _, rfl, rfl, k _ _ h (.bl _)⟩
  · exact h.elim
theorem opd_add : OpD K (rI0 fun i j => .int (i + j)) fAdd := fun H0 H x y d e Q R _ hx hy h k => by
  unfold fAdd at h
  split at h
  · cases hx; cases hy
    exact ⟨_, _, rfl, rfl, k _ _ h (.int _)⟩
  · exact h.elim
theorem opd_sub : OpD K (rI0 fun i j => .int (i - j)) fSub := fun H0 H x y d e Q R _ hx hy h k => by
  unfold fSub at h
  split at h
  · cases hx; cases hy
    exact ⟨_, _, rfl, rfl, k _ _ h (.int _)⟩
  · exact h.elim
theorem opd_mul : OpD K (rI CMul fun i j => .int (i * j)) fMul := fun H0 H x y d e Q R _ hx hy h k => by
  unfold fMul at h
  split at h
  · cases hx; cases hy
    exact ⟨_, _, rfl, rfl, h.1, k _ _ h.2 (.int _)⟩
  · exact h.elim
theorem opd_mulX : OpD K (rI CMulX fun i j => .int (i * j)) fMulX := fun H0 H x y d e Q R _ hx hy h k => by
  unfold fMulX at h
  split at h
  · cases hx; cases hy
    exact ⟨_, _, rfl, rfl, h.1, k _ _ h.2 (.int _)⟩
  · exact h.elim
theorem opd_mod : OpD K (rI (fun _ j => 0 < j) fun i j => .int (i % j)) fMod := fun H0 H x y d e Q R _ hx hy h k => by
  unfold fMod at h
  split at h
  · cases hx; cases hy
    exact ⟨_, _, rfl, rfl, h.1, k _ _ h.2 (.int _)⟩
  · exact h.elim
theorem opd_div : OpD K (rI CDivW fun i j => .int (i / j)) fDiv := fun H0 H x y d e Q R _ hx hy h k => by
  unfold fDiv at h
  split at h
  · cases hx; cases hy
    exact ⟨_, _, rfl, rfl, h.1, k _ _ h.2 (.int _)⟩
  · exact h.elim
theorem opd_shl : OpD K (rI CPow fun i j => .int (i * 2 ^ j.toNat)) fShl := fun H0 H x y d e Q R _ hx hy h k => by
  unfold fShl at h
  split at h
  · cases hx; cases hy
    exact ⟨_, _, rfl, rfl, h.1, k _ _ h.2 (.int _)⟩
  · exact h.elim
theorem opd_pow : OpD K (rI CPow fun i j => .int (i ^ j.toNat)) fPow := fun H0 H x y d e Q R _ hx hy h k => by
  unfold fPow at h
  split at h
  · cases hx; cases hy
    exact ⟨_, _, rfl, rfl, h.1, k _ _ h.2 (.int _)⟩
  · exact h.elim
theorem opd_lt : OpD K (rI0 fun i j => .bl (decide (i < j))) fLt := fun H0 H x y d e Q R _ hx hy h k => by
  unfold fLt at h
  split at h
  · cases hx; cases hy
    exact ⟨_, _, rfl, rfl, k _ _ h (.bl _)⟩
  · exact h.elim
theorem opd_le : OpD K (rI0 fun i j => .bl (decide (i ≤ j))) fLe := fun H0 H x y d e Q R _ hx hy h k => by
  unfold fLe at h
  split at h
  · cases hx; cases hy
    exact ⟨_, _, rfl, rfl, k _ _ h (.bl _)⟩
  · exact h.elim
theorem opd_gt : OpD K (rI0 fun i j => .bl (decide (j < i))) fGt := fun H0 H x y d e Q R _ hx hy h k => by
  unfold fGt at h
  split at h
  · cases hx; cases hy
    exact ⟨_, _, rfl, rfl, k _ _ h (.bl _)⟩
  · exact h.elim
theorem opd_ge : OpD K (rI0 fun i j => .bl (decide (j ≤ i))) fGe := fun H0 H x y d e Q R _ hx hy h k => by
  unfold fGe at h
  split at h
  · cases hx; cases hy
    exact ⟨_, _, rfl, rfl, k _ _ h (.bl _)⟩
  · exact h.elim
theorem eqv_int (i j : Int) : PyData.eqv (.int i) (.int j) = decide (i = j) := by
  rw [PyData.eqv]
  by_cases h : i = j <;> simp [h]
theorem shaped_int (i : Int) : SeqAt.shaped (.int i) = true := by simp [SeqAt.shaped, PyData.canLay0, PyData.depth]
theorem opd_eq : OpD K (rEqD K) fEq := fun H0 H x y d e Q R s hx hy h k => by
  unfold fEq at h
  split at h
  · refine ⟨_, _, (hx.mono s).sh (shaped_int _), (hy.mono s).sh (shaped_int _), shaped_int _, shaped_int _, ?_⟩
    rw [eqv_int]
    exact k _ _ h (.bl _)
  · exact ⟨_, _, (hx.mono s).sh h.1, (hy.mono s).sh h.2.1, h.1, h.2.1, k _ _ h.2.2 (.bl _)⟩
theorem opd_ne : OpD K (rNeD K) fNe := fun H0 H x y d e Q R s hx hy h k => by
  unfold fNe at h
  split at h
  · refine ⟨_, _, (hx.mono s).sh (shaped_int _), (hy.mono s).sh (shaped_int _), shaped_int _, shaped_int _, ?_⟩
    rw [eqv_int]
    exact k _ _ h (.bl _)
  · exact ⟨_, _, (hx.mono s).sh h.1, (hy.mono s).sh h.2.1, h.1, h.2.1, k _ _ h.2.2 (.bl _)⟩
theorem Rp.isNone {H : Hp} {v : V} {d : D} (h : Rp K H v d) : decide (v = .non) = isNone d := by cases h <;> rfl
theorem snd_isN (ha : SndE K ok ta wa) : SndE K ok (tIsN ta) (wIsN wa) := fun C H0 σ H env Q R rel hw k => ha C H0 σ H env _ _ rel hw fun d v H1 H01 q r1 e1 x1 => by
  rw [x1.isNone]
  exact k _ _ H1 H01 q r1 e1 (.bl _)
theorem snd_notN (ha : SndE K ok ta wa) : SndE K ok (tNotN ta) (wNotN wa) := fun C H0 σ H env Q R rel hw k => ha C H0 σ H env _ _ rel hw fun d v H1 H01 q r1 e1 x1 => by
  rw [x1.isNone]
  exact k _ _ H1 H01 q r1 e1 (.bl _)
theorem snd_neg (ha : SndE K ok ta wa) : SndE K ok (tUn (rU fun i => .int (-i)) ta) (wUn fNeg wa) := fun C H0 σ H env Q R rel hw k => ha C H0 σ H env _ _ rel hw fun d v H1 H01 q r1 e1 x1 => by
  unfold fNeg at q
  split at q
  · cases x1
    exact ⟨_, rfl, k _ _ H1 H01 q r1 e1 (.int _)⟩
  · exact q.elim
theorem snd_test (ha : SndE K ok ta wa) : SndT K ok (tTest ta) (wTest wa) := fun C H0 σ H env Q R rel hw k => ha C H0 σ H env _ _ rel hw fun d v H1 H01 q r1 e1 x1 => by
  try dsimp only at q
  split at q
  · cases x1
    exact ⟨_, rfl, k _ H1 H01 q r1 e1⟩
  · exact q.elim
theorem snd_tB (ha : SndE K ok ta wa) : SndT K ok (tB ta) (wTest wa) := snd_test ha
theorem snd_not (h : SndT K ok t wt) : SndT K ok (tNot t) (wNot wt) := fun C H0 σ H env Q R rel hw k => h C H0 σ H env _ _ rel hw fun b H1 H01 q r1 e1 => k _ H1 H01 q r1 e1
theorem snd_and (h : SndT K ok t wt) (h2 : SndT K ok u wu) : SndT K ok (tAnd t u) (wAnd wt wu) := fun C H0 σ H env Q R rel hw k => h C H0 σ H env _ _ rel hw fun b H1 H01 q r1 e1 => by
  cases b with
  | true =>
    refine iteT (h2 C H01 σ H1 env _ _ r1 (q.1 rfl) fun c H2 H02 q2 r2 e2 => k c H2 H02 q2 r2 (e1.trans e2))
  | false => exact iteF (k _ H1 H01 (q.2 rfl) r1 e1)
theorem snd_or (h : SndT K ok t wt) (h2 : SndT K ok u wu) : SndT K ok (tOr t u) (wOr wt wu) := fun C H0 σ H env Q R rel hw k => h C H0 σ H env _ _ rel hw fun b H1 H01 q r1 e1 => by
  cases b with
  | false =>
    refine iteF (h2 C H01 σ H1 env _ _ r1 (q.2 rfl) fun c H2 H02 q2 r2 e2 => k c H2 H02 q2 r2 (e1.trans e2))
  | true => exact iteT (k _ H1 H01 (q.1 rfl) r1 e1)
theorem snd_andD (h : SndT K ok t wt) (h2 : SndT K ok u wu) : SndT K ok (tAnd t u) (wAndD wt wu) := fun C H0 σ H env Q R rel hw k => h C H0 σ H env _ _ rel hw fun b H1 H01 q r1 e1 => by
  obtain ⟨c, q1, q2⟩ := q
  cases b with
  | true => exact iteT (h2 C H01 σ H1 env _ _ r1 (q1 rfl) fun d H2 H02 q3 r2 e2 => by subst q3; exact k _ H2 H02 q2 r2 (e1.trans e2))
  | false => exact iteF (k _ H1 H01 q2 r1 e1)
theorem snd_orD (h : SndT K ok t wt) (h2 : SndT K ok u wu) : SndT K ok (tOr t u) (wOrD wt wu) := fun C H0 σ H env Q R rel hw k => h C H0 σ H env _ _ rel hw fun b H1 H01 q r1 e1 => by
  obtain ⟨c, q1, q2⟩ := q
  cases b with
  | false => exact iteF (h2 C H01 σ H1 env _ _ r1 (q1 rfl) fun d H2 H02 q3 r2 e2 => by subst q3; exact k _ H2 H02 q2 r2 (e1.trans e2))
  | true => exact iteT (k _ H1 H01 q2 r1 e1)
/-- and, or as values of truth values -/
theorem snd_andV (h : SndE K ok ta wa) (h2 : SndE K ok tb wb) : SndE K ok (tAndV ta tb) (wBl (wAndD (wTest wa) (wTest wb))) := fun C H0 σ H env Q R rel hw k => h C H0 σ H env _ _ rel hw fun d v H1 H01 q r1 e1 x1 => by
  try dsimp only at q
  split at q
  · rename_i b
    cases x1
    obtain ⟨c, q1, q2⟩ := q
    refine ⟨b, rfl, ?_⟩
    cases b with
    | true =>
      refine iteT (h2 C H01 σ H1 env _ _ r1 (q1 rfl) fun d v H2 H02 q3 r2 e2 x2 => ?_)
      dsimp only at q3
      split at q3
      · subst q3; cases x2; exact k _ _ H2 H02 q2 r2 (e1.trans e2) (.bl _)
      · exact q3.elim
    | false => exact iteF (k _ _ H1 H01 q2 r1 e1 (.bl _))
  · exact q.elim
theorem snd_orV (h : SndE K ok ta wa) (h2 : SndE K ok tb wb) : SndE K ok (tOrV ta tb) (wBl (wOrD (wTest wa) (wTest wb))) := fun C H0 σ H env Q R rel hw k => h C H0 σ H env _ _ rel hw fun d v H1 H01 q r1 e1 x1 => by
  try dsimp only at q
  split at q
  · rename_i b
    cases x1
    obtain ⟨c, q1, q2⟩ := q
    refine ⟨b, rfl, ?_⟩
    cases b with
    | false =>
      refine iteF (h2 C H01 σ H1 env _ _ r1 (q1 rfl) fun d v H2 H02 q3 r2 e2 x2 => ?_)
      dsimp only at q3
      split at q3
      · subst q3; cases x2; exact k _ _ H2 H02 q2 r2 (e1.trans e2) (.bl _)
      · exact q3.elim
    | true => exact iteT (k _ _ H1 H01 q2 r1 e1 (.bl _))
  · exact q.elim
theorem snd_notV (h : SndE K ok ta wa) : SndE K ok (tNotV ta) (wBl (wNot (wTest wa))) := fun C H0 σ H env Q R rel hw k => h C H0 σ H env _ _ rel hw fun d v H1 H01 q r1 e1 x1 => by
  try dsimp only at q
  split at q
  · cases x1
    exact ⟨_, rfl, k _ _ H1 H01 q r1 e1 (.bl _)⟩
  · exact q.elim
theorem snd_ifE (h : SndT K ok t wt) (ha : SndE K ok ta wa) (hb : SndE K ok tb wb) : SndE K ok (tIf t ta tb) (wIfE wt wa wb) := fun C H0 σ H env Q R rel hw k => h C H0 σ H env _ _ rel hw fun b H1 H01 q r1 e1 => by
  cases b with
  | true => exact iteT (ha C H01 σ H1 env _ _ r1 (q.1 rfl) fun d v H2 H02 q2 r2 e2 x => k d v H2 H02 q2 r2 (e1.trans e2) x)
  | false => exact iteF (hb C H01 σ H1 env _ _ r1 (q.2 rfl) fun d v H2 H02 q2 r2 e2 x => k d v H2 H02 q2 r2 (e1.trans e2) x)
theorem snd_nil : SndA K ok tNil wNil := fun C H0 σ H env Q R rel hw k => k _ _ H H0 hw rel (Same.refl _) .nil
theorem ArgsR.mono {H0 H01 : Hp} {σ : L2.St} {env : EnvD} (e : Same H0 H01) : ∀ {as : List Ar} {xs : List V}, ArgsR K H0 σ env as xs → ArgsR K H01 σ env as xs
  | _, _, .nil => .nil
  | _, _, .cons h t => .cons (ArgR.mono e h) (ArgsR.mono e t)
theorem snd_cons {tr : TA} {wr : WA} (ha : SndE K ok ta wa) (hr : SndA K ok tr wr) : SndA K ok (tCons ta tr) (wCons wa wr) := fun C H0 σ H env Q R rel hw k =>
  ha C H0 σ H env _ _ rel hw fun d v H1 H01 q r1 e1 x1 => hr C H01 σ H1 env _ _ r1 q fun as vs H2 H02 q2 r2 e2 x2 => k _ _ H2 H02 q2 r2 (e1.trans e2) (.cons (show ArgR K H02 σ env (.v d) v from x1.mono e2) x2)
theorem snd_consH {i : Nat} {tr : TA} {wr : WA} (hr : SndA K ok tr wr) : SndA K ok (tCons (tVar i) tr) (wConsH i wr) := fun C H0 σ H env Q R rel hw k => by
  unfold wConsH at hw
  split at hw
  · rename_i hd
    obtain ⟨a, ds, e, _, _, _⟩ := rel.slot i _ (get_eq hd)
    exact ⟨_, e, hr C H0 σ H env _ _ rel hw fun as vs H2 H02 q2 r2 e2 x2 => k _ _ H2 H02 q2 r2 e2 (.cons (show ArgR K H02 σ env .hnd (.ref a) from ⟨i, a, get_eq hd, e, rfl⟩) x2)⟩
  · exact hw.elim
/-- no handle among the arguments -/
def plainA : List Ar → Bool
  | [] => true
  | .v _ :: r => plainA r
  | .hnd :: _ => false
theorem ArgsR.vals {H0 : Hp} {σ : L2.St} {env : EnvD} : ∀ {as : List Ar} {xs : List V}, ArgsR K H0 σ env as xs → plainA as = true → Rps K H0 xs (DL.vals as) ∧ xs.length = as.length
  | _, _, .nil, _ => ⟨.nil, rfl⟩
  | .v d :: _, _, .cons h t, p => let ⟨a, b⟩ := ArgsR.vals t p; ⟨.cons h a, by rw [List.length_cons, List.length_cons, b]⟩
  | .hnd :: _, _, .cons _ _, p => by cases p
end
/-- displays: items that are no handles -/
def wTupP (a : WA) : WE := fun env Q => a env fun as => plainA as = true ∧ as.length ≤ 1000 ∧ Q (.tuple (vals as))
def wLstP (a : WA) : WL := fun env Q => a env fun as => plainA as = true ∧ as.length ≤ 1000 ∧ Q (vals as)
section
variable {K : PySem.W.Frag} {ok : List D → Prop} {ta tb te : TE} {wa wb we : WE} {t u : TT} {wt wu : WT}
theorem le1000 {n : Nat} (h : n ≤ 1000) : n ≤ sizeLine := Nat.le_trans h (by decide)
theorem snd_tup {tr : TA} {wr : WA} (hr : SndA K ok tr wr) : SndE K ok (tTup tr) (wTupP wr) := fun C H0 σ H env Q R rel hw k =>
  hr C H0 σ H env _ _ rel hw fun as vs H1 H01 q r1 e1 x1 => by
    obtain ⟨q1, q2, q3⟩ := q
    obtain ⟨x2, l⟩ := x1.vals q1
    refine ⟨by rw [l]; exact le1000 q2, fun p hp => ?_⟩
    obtain ⟨r2, e2⟩ := r1.laid (o := .tup vs) hp
    exact k _ _ _ _ q3 r2 (e1.trans e2) (.tup (SqT.of upd_same) (x2.mono e2))
theorem snd_lst {tr : TA} {wr : WA} (hr : SndA K ok tr wr) : SndL K ok (tLst tr) (wLstP wr) := fun C H0 σ H env Q R rel hw k =>
  hr C H0 σ H env _ _ rel hw fun as vs H1 H01 q r1 e1 x1 => by
    obtain ⟨q1, q2, q3⟩ := q
    obtain ⟨x2, l⟩ := x1.vals q1
    refine ⟨by rw [l]; exact le1000 q2, fun p hp => ?_⟩
    exact k _ _ _ _ q3 (r1.laid0 hp) e1 ⟨r1.fresh hp, ⟨r1.sub.free hp, vs, upd_same, x2⟩, r1.noslot hp, r1.kp.free hp⟩
/-- a borrowed list or tuple as it is read -/
theorem Bor.seq {H0 H : Hp} {v : V} {d : D} (s : Same H0 H) (h : Bor K H0 H v d) {ds : List D} (e : d = .list ds ∨ d = .tuple ds) : ∃ p vs, v = .ref p ∧ Rps K H0 vs ds ∧ ((d = .list ds ∧ H p = some (.lst vs)) ∨ (d = .tuple ds ∧ SqT K H p vs)) := by
  rcases h with h | ⟨p, es, rfl, rfl, _, vs, hp, r⟩
  · rcases e with rfl | rfl
    · cases h with
      | lst h r => exact ⟨_, _, rfl, r, .inl ⟨rfl, s _ _ h⟩⟩
    · cases h with
      | tup h r => exact ⟨_, _, rfl, r, .inr ⟨rfl, Same.tup s h⟩⟩
  · rcases e with e | e
    · cases e; exact ⟨p, vs, rfl, r, .inl ⟨rfl, hp⟩⟩
    · cases e
theorem atI_rel {H0 : Hp} {vs : List V} {ds : List D} {i : Int} {d : D} (r : Rps K H0 vs ds) (h : atI ds i = some d) : ∃ v, atI vs i = some v ∧ Rp K H0 v d := by
  unfold atI at h ⊢
  rw [r.length]
  cases e : ixN ds.length i with
  | none => rw [e] at h; cases h
  | some j =>
    rw [e] at h
    exact r.get h
theorem snd_ix (ha : SndB K ok ta wa) (hb : SndE K ok tb wb) : SndE K ok (tOp (rIx K) ta tb) (wIx wa wb) := fun C H0 σ H env Q R rel hw k =>
  ha C H0 σ H env _ _ rel hw fun d v H1 H01 q r1 e1 x1 => hb C H01 σ H1 env _ _ r1 q fun e u H2 H02 q2 r2 e2 x2 => by
    unfold fIx at q2
    split at q2
    · rename_i ds i
      obtain ⟨x, hx, q3⟩ := q2
      obtain ⟨p, vs, rfl, r, h⟩ := (x1 H2 H02 r2 e2).seq r2.sub (.inl rfl)
      obtain ⟨w, hw, rw'⟩ := atI_rel r hx
      cases x2
      rcases h with ⟨_, h⟩ | ⟨h, _⟩
      · exact .inl ⟨p, vs, i, w, rfl, rfl, SqL.of h, hw, k _ _ H2 H02 q3 r2 (e1.trans e2) rw'⟩
      · cases h
    · rename_i ds i
      obtain ⟨x, hx, q3⟩ := q2
      obtain ⟨p, vs, rfl, r, h⟩ := (x1 H2 H02 r2 e2).seq r2.sub (.inr rfl)
      obtain ⟨w, hw, rw'⟩ := atI_rel r hx
      cases x2
      rcases h with ⟨h, _⟩ | ⟨_, h⟩
      · cases h
      · exact .inr (.inl ⟨p, vs, i, w, rfl, rfl, h, hw, k _ _ H2 H02 q3 r2 (e1.trans e2) rw'⟩)
    · rename_i ds i
      obtain ⟨x, hx, q3⟩ := q2
      rcases x1 H2 H02 r2 e2 with h | ⟨_, _, _, h, _⟩
      · cases h with
        | @scr a ns h =>
          obtain ⟨w, hw, rw'⟩ := atI_rel (K := K) (H0 := H02) (Rps.of_ints ns) hx
          cases x2
          exact .inl ⟨a, _, i, w, rfl, rfl, r2.sub.seq h, hw, k _ _ H2 H02 q3 r2 (e1.trans e2) rw'⟩
      · cases h
    · exact q2.elim
/-- a call of one argument that is read at once -/
theorem snd_len (ha : SndB K ok ta wa) : SndE K ok (tCB (fun xs H Q => ∃ p ys, xs = [.ref p] ∧ (SqL K H p ys ∨ SqT K H p ys) ∧ Q (.int ys.length) H) (tCons ta tNil)) (wLen wa) := fun C H0 σ H env Q R rel hw k =>
  ha C H0 σ H env _ _ rel hw fun d v H1 H01 q r1 e1 x1 => by
    have b := x1 H1 H01 r1 (Same.refl _)
    try dsimp only at q
    split at q
    · rename_i ds
      obtain ⟨p, vs, rfl, r, h⟩ := b.seq r1.sub (.inl rfl)
      rcases h with ⟨_, h⟩ | ⟨h, _⟩
      · refine ⟨p, vs, rfl, .inl (SqL.of h), k _ _ H1 H01 ?_ r1 e1 (.int _)⟩
        rw [r.length]; exact q
      · cases h
    · rename_i ds
      obtain ⟨p, vs, rfl, r, h⟩ := b.seq r1.sub (.inr rfl)
      rcases h with ⟨h, _⟩ | ⟨_, h⟩
      · cases h
      · refine ⟨p, vs, rfl, .inr h, k _ _ H1 H01 ?_ r1 e1 (.int _)⟩
        rw [r.length]; exact q
    · rename_i ds
      rcases b with h | ⟨_, _, _, h, _⟩
      · cases h with
        | @scr a ns h =>
          refine ⟨a, _, rfl, .inl (r1.sub.seq h), k _ _ H1 H01 ?_ r1 e1 (.int _)⟩
          rw [List.length_map] at q ⊢
          exact q
      · cases h
    · exact q.elim
end
/-! ### the promise of a def -/
def HndArgs (as : List Ar) : Nat := (as.filter fun a => match a with | .hnd => true | _ => false).length
inductive ArgsOk (K : PySem.W.Frag) (H0 : Hp) (ha : Option Addr) : List V → List Ar → Prop
  | nil : ArgsOk K H0 ha [] []
  | cons {x : V} {d : D} {xs : List V} {as : List Ar} : Rp K H0 x d → ArgsOk K H0 ha xs as → ArgsOk K H0 ha (x :: xs) (.v d :: as)
  | hnd {a : Addr} {xs : List V} {as : List Ar} : ha = some a → ArgsOk K H0 ha xs as → ArgsOk K H0 ha (.ref a :: xs) (.hnd :: as)
def RetOk (K : PySem.W.Frag) (He H0 H : Hp) (v : V) : Rt → Prop
  | .v d => Rp K H0 v d
  | .own ds => ∃ p, v = .ref p ∧ He p = none ∧ OwnAt K H0 H p ds
structure PostOk (K : PySem.W.Frag) (ok : List D → Prop) (H0 H : Hp) (ha : Option Addr) (v : V) (H' : Hp) (r : Rt) (H01 : Hp) : Prop where
  grow : Same H0 H01
  sub : Same H01 H'
  new : ∀ b o, H01 b = some o → H0 b = some o ∨ H b = none
  fr : ∀ b o, H b = some o → some b ≠ ha → H' b = some o
  hv : ∀ a, ha = some a → ∃ ds, OwnAt K H01 H' a ds ∧ ok ds
  res : RetOk K H H01 H' v r
/-- at most one handle -/
def oneH : List Ar → Bool
  | [] => true
  | .v _ :: r => oneH r
  | .hnd :: r => plainA r
/-- at a call: H0, the known part; ha: the handle that is handed in -/
def SpD (K : PySem.W.Frag) (ok : List D → Prop) (n : Nat) (M : WM) : Sp := fun vs H Q _ => ∃ (H0 : Hp) (ha : Option Addr) (as : List Ar) (Q' : Rt → Prop), as.length = n ∧ vs.length = n ∧ oneH as = true ∧ Same H0 H ∧ ArgsOk K H0 ha vs as ∧
  (∀ a, ha = some a → ∃ ds, OwnAt K H0 H a ds ∧ ok ds) ∧ M as Q' ∧ ∀ v H' r H01, Q' r → PostOk K ok H0 H ha v H' r H01 → Q v H'
section
variable {K : PySem.W.Frag} {ok : List D → Prop}
theorem argsOk_plain {H0 : Hp} {σ : L2.St} {env : EnvD} {ha : Option Addr} : ∀ {as : List Ar} {xs : List V}, ArgsR K H0 σ env as xs → plainA as = true → ArgsOk K H0 ha xs as
  | _, _, .nil, _ => .nil
  | .v d :: _, _, .cons h t, p => .cons h (argsOk_plain t p)
  | .hnd :: _, _, .cons _ _, p => by cases p
theorem argsOk_one {H0 : Hp} {σ : L2.St} {env : EnvD} : ∀ {as : List Ar} {xs : List V}, ArgsR K H0 σ env as xs → oneH as = true →
    (plainA as = true ∧ ArgsOk K H0 none xs as) ∨ ∃ (i : Nat) (a : Addr), env[i]? = some (some .hnd) ∧ σ[i]? = some (some (.ref a)) ∧ ArgsOk K H0 (some a) xs as
  | _, _, .nil, _ => .inl ⟨rfl, .nil⟩
  | .v d :: _, _, .cons h t, p => by
    rcases argsOk_one t p with ⟨p', h'⟩ | ⟨i, a, e1, e2, h'⟩
    · exact .inl ⟨p', .cons h h'⟩
    · exact .inr ⟨i, a, e1, e2, .cons h h'⟩
  | .hnd :: _, _, .cons h t, p => by
    obtain ⟨i, a, e1, e2, rfl⟩ := h
    exact .inr ⟨i, a, e1, e2, .hnd rfl (argsOk_plain t p)⟩
/-- what a call does, for the caller -/
theorem call_core {n : Nat} {M : WM} {C : Ctx} {H0 : Hp} {σ : L2.St} {H : Hp} {env : EnvD} {as : List Ar} {vs : List V} {Q' : Rt → Prop} {R : VK} (rel : Rel K ok C H0 σ H env) (ha : ArgsR K H0 σ env as vs) (h1 : oneH as = true) (hn : as.length = n) (hM : M as Q')
    (k : ∀ v r H1 H01, Q' r → Rel K ok C H01 σ H1 env → Same H0 H01 → (match r with | .v d => Rp K H01 v d | .own ds => ∃ p, v = .ref p ∧ FreshL K C H01 σ H1 env p ds) → R v H1) : SpD K ok n M vs H R fun _ _ _ => False := by
  have hl : vs.length = n := by rw [← ha.length]; exact hn
  have fin : ∀ {ha' : Option Addr} {v : V} {H' : Hp} {r : Rt} {H01 : Hp}, Q' r → PostOk K ok H0 H ha' v H' r H01 → Rel K ok C H01 σ H' env → R v H' := fun {ha' v H' r H01} q P r2 => k v r H' H01 q r2 P.grow (by
    have z := P.res
    cases r with
    | v d => exact z
    | own ds =>
      obtain ⟨p, e, n1, o⟩ := z
      exact ⟨p, e, rel.fresh n1, o, rel.noslot n1, rel.kp.free n1⟩)
  rcases argsOk_one ha h1 with ⟨_, h'⟩ | ⟨i, a, e1, e2, h'⟩
  · exact ⟨H0, none, as, Q', hn, hl, h1, rel.sub, h', fun a z => (by cases z), hM, fun v H' r H01 q P => fin q P (rel.step P.grow P.sub P.new fun b o z => P.fr b o z (by simp))⟩
  · obtain ⟨a', da, ea', _, o1, k1⟩ := rel.slot i _ e1
    rw [e2] at ea'
    cases ea'
    refine ⟨H0, some a, as, Q', hn, hl, h1, rel.sub, h', fun b z => (by cases z; exact ⟨da, o1, k1⟩), hM, fun v H' r H01 q P => fin q P ?_⟩
    obtain ⟨ds', o2, k2⟩ := P.hv a rfl
    exact rel.called e1 e2 P.grow P.sub P.new (fun b o z hb => P.fr b o z (by simpa using hb)) o2.n0 o2 k2
theorem SpD.exc {n : Nat} {M : WM} {vs : List V} {H : Hp} {Q : VK} {E E' : XK} (h : SpD K ok n M vs H Q E) : SpD K ok n M vs H Q E' := h
end
def wCallP (n : Nat) (M : WM) (a : WA) : WE := fun env Q => a env fun as => oneH as = true ∧ as.length = n ∧ M as fun r => Q r.val
def wCallOP (n : Nat) (M : WM) (a : WA) : WL := fun env Q => a env fun as => oneH as = true ∧ as.length = n ∧ M as fun r => match r with
  | .own ds => Q ds
  | .v _ => False
section
variable {K : PySem.W.Frag} {ok : List D → Prop}
theorem snd_call {n : Nat} {M : WM} {tr : TA} {wr : WA} {E : XK} (hr : SndA K ok tr wr) : SndE K ok (tCall (SpD K ok n M) [] E tr) (wCallP n M wr) := fun C H0 σ H env Q R rel hw k =>
  hr C H0 σ H env _ _ rel hw fun as vs H1 H01 q r1 e1 x1 => by
    obtain ⟨q1, q2, q3⟩ := q
    show SpD K ok n M (vs ++ []) H1 R E
    rw [List.append_nil]
    refine SpD.exc (call_core r1 x1 q1 q2 q3 fun v r H2 H02 hq r2 e2 z => ?_)
    cases r with
    | v d => exact k _ _ H2 H02 hq r2 (e1.trans e2) z
    | own ds =>
      obtain ⟨p, rfl, f⟩ := z
      obtain ⟨n0, ws, hp, hr'⟩ := f.own
      obtain ⟨r3, e3⟩ := r2.know hp n0 f.he f.kq f.ns
      exact k _ _ H2 _ hq r3 ((e1.trans e2).trans e3) (.lst upd_same (hr'.mono e3))
theorem snd_callO {n : Nat} {M : WM} {tr : TA} {wr : WA} {E : XK} (hr : SndA K ok tr wr) : SndL K ok (tCall (SpD K ok n M) [] E tr) (wCallOP n M wr) := fun C H0 σ H env Q R rel hw k =>
  hr C H0 σ H env _ _ rel hw fun as vs H1 H01 q r1 e1 x1 => by
    obtain ⟨q1, q2, q3⟩ := q
    show SpD K ok n M (vs ++ []) H1 R E
    rw [List.append_nil]
    refine SpD.exc (call_core r1 x1 q1 q2 q3 fun v r H2 H02 hq r2 e2 z => ?_)
    cases r with
    | v d => exact hq.elim
    | own ds =>
      obtain ⟨p, rfl, f⟩ := z
      exact k _ _ H2 H02 hq r2 (e1.trans e2) f
end
end DL
/-! DL, part c: statements, loops, comprehensions, defs. -/
namespace DL
open PySem L2

structure WEnds where
  nx : EnvD → Prop
  rt : Rt → Prop
  bk : EnvD → Prop := fun _ => False
  ct : EnvD → Prop := fun _ => False
abbrev WS := WEnds → EnvD → Prop
abbrev WI := EnvD → (List D → Prop) → Prop
abbrev WG := D → EnvD → (EnvD → Prop) → Prop
structure EndsOk (K : PySem.W.Frag) (ok : List D → Prop) (C : Ctx) (H0 : Hp) (E : Ends) (W : WEnds) : Prop where
  nx : ∀ env σ H H01, Same H0 H01 → Rel K ok C H01 σ H env → W.nx env → E.nx σ H
  rt : ∀ r v σ H H01 env, Same H0 H01 → Rel K ok C H01 σ H env → W.rt r → RetOk K C.He H01 H v r → E.rt v H
  bk : ∀ env σ H H01, Same H0 H01 → Rel K ok C H01 σ H env → W.bk env → E.bk σ H
  ct : ∀ env σ H H01, Same H0 H01 → Rel K ok C H01 σ H env → W.ct env → E.ct σ H
def SndS (K : PySem.W.Frag) (ok : List D → Prop) (ts : TS) (ws : WS) : Prop := ∀ (C : Ctx) (H0 : Hp) (σ : L2.St) (H : Hp) (env : EnvD) (E : Ends) (W : WEnds), Rel K ok C H0 σ H env → ws W env → EndsOk K ok C H0 E W → ts E σ H
/-- what is walked: as many turns as ds has items -/
structure WalkD (K : PySem.W.Frag) (J : It) (ds : List D) (H01 : Hp) : Prop where
  goes : ∀ i H, i < ds.length → Same H01 H → J.go i H
  stops : ∀ H, Same H01 H → J.stop ds.length H
  yields : ∀ i H x H', i < ds.length → Same H01 H → J.yld i H x H' → ∃ d, ds[i]? = some d ∧ ((H' = H ∧ Rp K H01 x d) ∨ ∃ T xs es, x = .ref T ∧ H T = none ∧ H' = upd H T (.tup xs) ∧ d = .tuple es ∧ Rps K H01 xs es)
def SndI (K : PySem.W.Frag) (ok : List D → Prop) (ti : TI) (wi : WI) : Prop := ∀ (C : Ctx) (H0 : Hp) (σ : L2.St) (H : Hp) (env : EnvD) (Q : List D → Prop) (R : It → Hp → Prop), Rel K ok C H0 σ H env → wi env Q →
  (∀ ds J H1 H01, Q ds → Rel K ok C H01 σ H1 env → Same H0 H01 → WalkD K J ds H01 → R J H1) → ti σ H R
def wpE (env : EnvD) : List Nat → EnvD
  | [] => env
  | v :: vs => (wpE env vs).set v none
def SndG (K : PySem.W.Frag) (ok : List D → Prop) (vs : List Nat) (g : TG) (wg : WG) : Prop := ∀ (C : Ctx) (H0 : Hp) (σ : L2.St) (H : Hp) (env : EnvD) (x : V) (d : D) (Q : EnvD → Prop) (R : L2.St → Hp → Prop), Rel K ok C H0 σ H env → Rp K H0 x d → wg d env Q →
  (∀ env' σ', Rel K ok C H0 σ' H env' → Q env' → wipe σ' vs = wipe σ vs ∧ wpE env' vs = wpE env vs → R σ' H) → g x σ H R

/-! ### what is asked -/
def wSeq (a b : WS) : WS := fun W env => a { W with nx := b W } env
def wNx : WS := fun W env => W.nx env
def wBk : WS := fun W env => W.bk env
def wCt : WS := fun W env => W.ct env
def wNever : WS := fun _ _ => False
def wSet (i : Nat) (a : WE) : WS := fun W env => a env fun d => W.nx (env.set i (some (.v d)))
def wSetO (i : Nat) (a : WL) : WS := fun W env => a env fun ds => W.nx (env.set i (some (.own ds)))
def wSetH (ok : List D → Prop) (i : Nat) (a : WL) : WS := fun W env => a env fun ds => ok ds ∧ W.nx (env.set i (some .hnd))
def wDrop (a : WE) : WS := fun W env => a env fun _ => W.nx env
def wRet (a : WE) : WS := fun W env => a env fun d => W.rt (.v d)
def wRetO (a : WL) : WS := fun W env => a env fun ds => W.rt (.own ds)
def wRetV (i : Nat) : WS := fun W env => match get env i with
  | some (.v d) => W.rt (.v d)
  | some (.own ds) => W.rt (.own ds)
  | _ => False
def wRetN : WS := fun W _ => W.rt (.v .none)
def wIf (t : WT) (a b : WS) : WS := fun W env => t env fun c => (c = true → a W env) ∧ (c = false → b W env)
def frz (i : Nat) (env : EnvD) : EnvD := match get env i with
  | some (.own ds) => env.set i (some (.v (.list ds)))
  | _ => env
def wFrz (i : Nat) (s : WS) : WS := fun W env => s W (frz i env)
def wApp (i : Nat) (a : WE) : WS := fun W env => match get env i with
  | some (.own ds) => a env fun d => ds.length < 1000000 ∧ W.nx (env.set i (some (.own (ds ++ [d]))))
  | _ => False
def wExt (i : Nat) (a : WE) : WS := fun W env => match get env i with
  | some (.own ds) => a env fun d => match d with
    | .list es => ds.length + es.length < 1000000 ∧ W.nx (env.set i (some (.own (ds ++ es))))
    | _ => False
  | _ => False
def wPop (i : Nat) : WS := fun W env => match get env i with
  | some (.own ds) => ds ≠ [] ∧ W.nx (env.set i (some (.own ds.dropLast)))
  | _ => False
def wPut (i : Nat) (k a : WE) : WS := fun W env => match get env i with
  | some (.own ds) => a env fun d => k env fun j => match j with
    | .int z => ∃ n, ixN ds.length z = some n ∧ W.nx (env.set i (some (.own (ds.set n d))))
    | _ => False
  | _ => False
def wPar (i j : Nat) (a : WA) : WS := fun W env => a env fun as => match as with
  | [.v x, .v y] => W.nx ((env.set i (some (.v x))).set j (some (.v y)))
  | _ => False
def wWhile (t : WT) (b : WS) : WS := fun W env => ∃ I : Nat → EnvD → Prop, (∃ m, I m env) ∧ ∀ m env, I m env → t env fun c =>
  (c = true → ∃ N : EnvD → Prop, (∀ e, N e → ∃ m', m' < m ∧ I m' e) ∧ b { W with nx := N, ct := N, bk := W.nx } env) ∧ (c = false → W.nx env)
def wFor (wi : WI) (wg : WG) (b : WS) : WS := fun W env => wi env fun ds => ∃ I : Nat → EnvD → Prop, I 0 env ∧
  (∀ i d env, ds[i]? = some d → I i env → wg d env fun env2 => b { W with nx := I (i + 1), ct := I (i + 1), bk := W.nx } env2) ∧ ∀ env, I ds.length env → W.nx env
def wAsg (a : WE) (g : WG) : WS := fun W env => a env fun d => g d env W.nx
def gN (i : Nat) : WG := fun d env Q => Q (env.set i (some (.v d)))
abbrev WGs := List D → EnvD → (EnvD → Prop) → Prop
def gsNil : WGs := fun ds env Q => ds = [] ∧ Q env
def gsCons (a : WG) (r : WGs) : WGs := fun ds env Q => match ds with
  | d :: es => a d env fun env' => r es env' Q
  | [] => False
def gT (n : Nat) (r : WGs) : WG := fun d env Q => match d with
  | .tuple ds => ds.length = n ∧ r ds env Q
  | _ => False
def iL (a : WE) : WI := fun env Q => a env fun d => match d with
  | .list ds => Q ds
  | _ => False
def iT (a : WE) : WI := fun env Q => a env fun d => match d with
  | .tuple ds => Q ds
  | _ => False
/-- lo, lo + 1, .. (n of them) -/
def rng (lo : Int) (n : Nat) : List D := (List.range n).map fun i : Nat => PyData.int (lo + i)
def iR1 (a : WE) : WI := fun env Q => a env fun d => match d with
  | .int j => (-(2 ^ 62) ≤ j ∧ j < 2 ^ 62) ∧ Q (rng 0 j.toNat)
  | _ => False
def iR2 (a b : WE) : WI := fun env Q => a env fun d => b env fun e => match d, e with
  | .int i, .int j => (-(2 ^ 62) ≤ i ∧ i < 2 ^ 62 ∧ -(2 ^ 62) ≤ j ∧ j < 2 ^ 62) ∧ Q (rng i (j - i).toNat)
  | _, _ => False
/-- i, i + c, .. as long as it is short of j -/
def rngC (lo c : Int) (n : Nat) : List D := (List.range n).map fun i : Nat => PyData.int (lo + i * c)
def iR3 (a b c : WE) : WI := fun env Q => a env fun d => b env fun e => c env fun s => match d, e, s with
  | .int i, .int j, .int k => ∃ n, RgC i j k n ∧ Q (rngC i k n)
  | _, _, _ => False
def iRev (a : WE) : WI := fun env Q => a env fun d => match d with
  | .list ds => Q ds.reverse
  | _ => False
def wYes : WT := fun _ Q => Q true
/-- the slots of a block's own names hold values, or nothing -/
def wpN (env : EnvD) : List Nat → Prop
  | [] => True
  | i :: vs => (match get env i with | some s => s.isOwn = false | none => True) ∧ wpN env vs
def wLc (wi : WI) (wg : WG) (wt : WT) (we : WE) (vs : List Nat) : WL := fun env Q => wi env fun ds => ds.length < 1000000 ∧ wpN env vs ∧ ∃ I : Nat → List D → Prop, I 0 [] ∧
  (∀ i d acc, ds[i]? = some d → I i acc → wg d (wpE env vs) fun env2 => wt env2 fun b => (b = true → we env2 fun y => I (i + 1) (acc ++ [y])) ∧ (b = false → I (i + 1) acc)) ∧ ∀ acc, I ds.length acc → Q acc

/-! ### soundness -/
section
variable {K : PySem.W.Frag} {ok : List D → Prop} {C : Ctx} {H0 H01 : Hp} {E : Ends} {W : WEnds}
theorem EndsOk.mono (h : EndsOk K ok C H0 E W) (e : Same H0 H01) : EndsOk K ok C H01 E W :=
  ⟨fun a b c d s => h.nx a b c d (e.trans s), fun a b c d x y s => h.rt a b c d x y (e.trans s), fun a b c d s => h.bk a b c d (e.trans s), fun a b c d s => h.ct a b c d (e.trans s)⟩
variable {t u : TS} {a b : WS} {te : TE} {we : WE} {wl : WL} {tt : TT} {wt : WT}
theorem ss_seq (ha : SndS K ok t a) (hb : SndS K ok u b) : SndS K ok (tSeq t u) (wSeq a b) := fun C H0 σ H env E W rel hw h =>
  ha C H0 σ H env _ { W with nx := b W } rel hw ⟨fun env' σ' H' H01 s r q => hb C H01 σ' H' env' E W r q (h.mono s), h.rt, h.bk, h.ct⟩
theorem ss_nx : SndS K ok tNext wNx := fun C H0 σ H env E W rel hw h => h.nx env σ H H0 (Same.refl _) rel hw
theorem ss_bk : SndS K ok tBreak wBk := fun C H0 σ H env E W rel hw h => h.bk env σ H H0 (Same.refl _) rel hw
theorem ss_ct : SndS K ok tCont wCt := fun C H0 σ H env E W rel hw h => h.ct env σ H H0 (Same.refl _) rel hw
theorem ss_never : SndS K ok tNever wNever := fun C H0 σ H env E W rel hw h => hw.elim
theorem ss_set {i : Nat} (he : SndE K ok te we) : SndS K ok (tAsg te (gName i)) (wSet i we) := fun C H0 σ H env E W rel hw h =>
  he C H0 σ H env _ _ rel hw fun d v H1 H01 q r e x => h.nx _ _ _ H01 e (r.setV x) q
theorem ss_setO {i : Nat} (he : SndL K ok te wl) : SndS K ok (tAsg te (gName i)) (wSetO i wl) := fun C H0 σ H env E W rel hw h =>
  he C H0 σ H env _ _ rel hw fun ds p H1 H01 q r e f => h.nx _ _ _ H01 e (r.setO (s := .own ds) ⟨p, rfl, f.he, f.own⟩ rfl f.kq fun j t _ ht ot => f.ns j t ht ot) q
theorem ss_setH {i : Nat} (he : SndL K ok te wl) : SndS K ok (tAsg te (gName i)) (wSetH ok i wl) := fun C H0 σ H env E W rel hw h =>
  he C H0 σ H env _ _ rel hw fun ds p H1 H01 q r e f => h.nx _ _ _ H01 e (r.setO (s := .hnd) ⟨p, ds, rfl, .inr f.he, f.own, q.1⟩ rfl f.kq fun j t _ ht ot => f.ns j t ht ot) q.2
theorem ss_drop (he : SndE K ok te we) : SndS K ok (tDrop te) (wDrop we) := fun C H0 σ H env E W rel hw h =>
  he C H0 σ H env _ _ rel hw fun d v H1 H01 q r e x => h.nx _ _ _ H01 e r q
theorem ss_ret (he : SndE K ok te we) : SndS K ok (tRet te) (wRet we) := fun C H0 σ H env E W rel hw h =>
  he C H0 σ H env _ _ rel hw fun d v H1 H01 q r e x => h.rt (.v d) v σ H1 H01 env e r q x
theorem ss_retO (he : SndL K ok te wl) : SndS K ok (tRet te) (wRetO wl) := fun C H0 σ H env E W rel hw h =>
  he C H0 σ H env _ _ rel hw fun ds p H1 H01 q r e f => h.rt (.own ds) _ σ H1 H01 env e r q ⟨p, rfl, f.he, f.own⟩
theorem ss_retV {i : Nat} : SndS K ok (tRet (tVar i)) (wRetV i) := fun C H0 σ H env E W rel hw h => by
  unfold wRetV at hw
  split at hw
  · rename_i d hd
    obtain ⟨v, e, x⟩ := rel.slot i _ (get_eq hd)
    exact ⟨v, e, h.rt _ v σ H H0 env (Same.refl _) rel hw x⟩
  · rename_i ds hd
    obtain ⟨p, e, n, o⟩ := rel.slot i _ (get_eq hd)
    exact ⟨_, e, h.rt (.own ds) _ σ H H0 env (Same.refl _) rel hw ⟨p, rfl, n, o⟩⟩
  · exact hw.elim
theorem ss_retN : SndS K ok tRetN wRetN := fun C H0 σ H env E W rel hw h => h.rt (.v .none) .non σ H H0 env (Same.refl _) rel hw .non
theorem ss_if (hc : SndT K ok tt wt) (ha : SndS K ok t a) (hb : SndS K ok u b) : SndS K ok (tIfS tt t u) (wIf wt a b) := fun C H0 σ H env E W rel hw h =>
  hc C H0 σ H env _ _ rel hw fun c H1 H01 q r e => by
    cases c with
    | true => exact iteT (ha C H01 σ H1 env E W r (q.1 rfl) (h.mono e))
    | false => exact iteF (hb C H01 σ H1 env E W r (q.2 rfl) (h.mono e))
theorem ss_frz {i : Nat} (ha : SndS K ok t a) : SndS K ok t (wFrz i a) := fun C H0 σ H env E W rel hw h => by
  unfold wFrz frz at hw
  split at hw
  · rename_i ds hd
    have he := get_eq hd
    obtain ⟨p, e, n, n0, vs, hp, hr⟩ := rel.slot i _ he
    -- the slot is forgotten, then the list becomes known, then the slot holds it
    have r1 : Rel K ok C H0 σ H (env.set i none) := by
      have q := rel.drop (i := i) (y := some (.ref p))
      have es : σ.set i (some (.ref p)) = σ := by
        apply List.ext_getElem?
        intro j
        by_cases hj : i = j
        · subst hj
          rw [e]
          have lt : i < σ.length := by rw [rel.len]; exact (List.getElem?_eq_some_iff.mp he).1
          rw [List.getElem?_set_self lt]
        · rw [List.getElem?_set_ne hj]
      rw [es] at q
      exact q
    obtain ⟨r2, e2⟩ := r1.know hp n0 n (rel.kn i _ p he rfl e) (fun j s hs os z => by
      have hj : i ≠ j := fun y => by
        subst y
        rw [List.getElem?_set_self (List.getElem?_eq_some_iff.mp he).1] at hs; cases hs
      rw [List.getElem?_set_ne hj] at hs
      exact rel.dis i j _ s p hj he hs rfl os e z)
    have r3 := r2.setV (i := i) (x := .ref p) (d := .list ds) (.lst upd_same (hr.mono e2))
    have es : σ.set i (some (.ref p)) = σ := by
      apply List.ext_getElem?
      intro j
      by_cases hj : i = j
      · subst hj
        rw [e]
        have lt : i < σ.length := by rw [rel.len]; exact (List.getElem?_eq_some_iff.mp he).1
        rw [List.getElem?_set_self lt]
      · rw [List.getElem?_set_ne hj]
    rw [es, List.set_set] at r3
    exact ha C _ σ H _ E W r3 hw (h.mono e2)
  · exact ha C H0 σ H env E W rel hw h
theorem lt_size {n : Nat} (h : n < 1000000) : n < sizeLine := Nat.lt_trans h (by decide)
/-- an own slot's list is changed -/
theorem Rel.putL {σ : L2.St} {H : Hp} {env : EnvD} (rel : Rel K ok C H0 σ H env) {i : Nat} {p : Addr} {ds es : List D} {ws : List V} (he : env[i]? = some (some (.own ds))) (e : σ[i]? = some (some (.ref p))) (n : C.He p = none) (n0 : H0 p = none) (hr : Rps K H0 ws es) :
    Rel K ok C H0 σ (upd H p (.lst ws)) (env.set i (some (.own es))) :=
  rel.put (s := .own ds) (t := .own es) he rfl e (fun z => by obtain ⟨⟨o, y⟩, _⟩ := rel.hv p z; rw [n] at y; cases y) rfl ⟨p, rfl, n, n0, ws, upd_same, hr⟩
theorem ss_app {i : Nat} (he : SndE K ok te we) : SndS K ok (tDrop (tBM K "list" rAppend (tVar i) (tCons te tNil))) (wApp i we) := fun C H0 σ H env E W rel hw h => by
  unfold wApp at hw
  split at hw
  · rename_i ds hd
    obtain ⟨p, e, n, n0, vs0, hp0, hr0⟩ := rel.slot i _ (get_eq hd)
    refine ⟨.ref p, e, .inl ⟨rfl, vs0, SqL.of hp0⟩, ?_⟩
    refine he C H0 σ H env _ _ rel hw fun d v H1 H01 q r e1 x => ?_
    obtain ⟨p', e', n, n0, vs, hp, hr⟩ := r.slot i _ (get_eq hd)
    rw [e] at e'
    cases e'
    refine ⟨p, vs, v, rfl, rfl, hp, by rw [hr.length]; exact lt_size q.1, ?_⟩
    exact h.nx _ _ _ H01 e1 (r.putL (get_eq hd) e n n0 (hr.append (.one x))) q.2
  · exact hw.elim
theorem ss_ext {i : Nat} (he : SndE K ok te we) : SndS K ok (tDrop (tBM K "list" rExtend (tVar i) (tCons te tNil))) (wExt i we) := fun C H0 σ H env E W rel hw h => by
  unfold wExt at hw
  split at hw
  · rename_i ds hd
    obtain ⟨p, e, n, n0, vs0, hp0, hr0⟩ := rel.slot i _ (get_eq hd)
    refine ⟨.ref p, e, .inl ⟨rfl, vs0, SqL.of hp0⟩, ?_⟩
    refine he C H0 σ H env _ _ rel hw fun d v H1 H01 q r e1 x => ?_
    obtain ⟨p', e', n, n0, vs, hp, hr⟩ := r.slot i _ (get_eq hd)
    rw [e] at e'
    cases e'
    try dsimp only at q
    split at q
    · cases x with
      | lst hb rb =>
        refine ⟨p, _, vs, _, rfl, rfl, hp, r.sub _ _ hb, by rw [hr.length, rb.length]; exact Nat.le_of_lt (lt_size q.1), ?_⟩
        exact h.nx _ _ _ H01 e1 (r.putL (get_eq hd) e n n0 (hr.append rb)) q.2
    · exact q.elim
  · exact hw.elim
theorem ss_pop {i : Nat} : SndS K ok (tDrop (tBM0 K "list" rPop (tVar i))) (wPop i) := fun C H0 σ H env E W rel hw h => by
  unfold wPop at hw
  split at hw
  · rename_i ds hd
    obtain ⟨p, e, n, n0, vs, hp, hr⟩ := rel.slot i _ (get_eq hd)
    have lt : vs.length - 1 < vs.length := by
      have := hr.length
      have : ds.length ≠ 0 := fun z => hw.1 (List.eq_nil_of_length_eq_zero z)
      omega
    refine ⟨.ref p, e, .inl ⟨rfl, vs, SqL.of hp⟩, p, vs, vs[vs.length - 1], rfl, rfl, hp, List.getElem?_eq_getElem lt, ?_⟩
    exact h.nx _ _ _ H0 (Same.refl _) (rel.putL (get_eq hd) e n n0 hr.dropLast) hw.2
  · exact hw.elim
theorem ss_put {i : Nat} {tk : TE} {wk : WE} (he : SndE K ok te we) (hk : SndE K ok tk wk) : SndS K ok (tAsg te (gSub (tVar i) tk rSetL)) (wPut i wk we) := fun C H0 σ H env E W rel hw h => by
  unfold wPut at hw
  split at hw
  · rename_i ds hd
    refine he C H0 σ H env _ _ rel hw fun d v H1 H01 q r e1 x => ?_
    obtain ⟨p, e, n, n0, vs0, hp0, hr0⟩ := r.slot i _ (get_eq hd)
    refine ⟨.ref p, e, hk C H01 σ H1 env _ _ r q fun j u H2 H02 q2 r2 e2 y => ?_⟩
    try dsimp only at q2
    split at q2
    · cases y
      obtain ⟨m, hm, q3⟩ := q2
      obtain ⟨p', e', n, n0, vs, hp, hr⟩ := r2.slot i _ (get_eq hd)
      rw [e] at e'
      cases e'
      refine ⟨p, vs, _, m, rfl, rfl, hp, by rw [hr.length]; exact hm, ?_⟩
      exact h.nx _ _ _ H02 (e1.trans e2) (r2.putL (get_eq hd) e n n0 (hr.set (x.mono e2) m)) q3
    · exact q2.elim
  · exact hw.elim
theorem ss_par {i j : Nat} {ta : TA} {wa : WA} (ha : SndA K ok ta wa) : SndS K ok (tPar i j ta) (wPar i j wa) := fun C H0 σ H env E W rel hw h =>
  ha C H0 σ H env _ _ rel hw fun as vs H1 H01 q r e x => by
    try dsimp only at q
    split at q
    · cases x with
      | cons x1 x =>
        cases x with
        | cons x2 x =>
          cases x
          refine ⟨_, _, rfl, ?_⟩
          exact h.nx _ _ _ H01 e ((r.setV (show Rp K H01 _ _ from x1)).setV (show Rp K H01 _ _ from x2)) q
    · exact q.elim
theorem ss_while (hc : SndT K ok tt wt) (hb : SndS K ok t a) : SndS K ok (tWhile tt t) (wWhile wt a) := fun C H0 σ H env E W rel hw h => by
  obtain ⟨I, ⟨m0, i0⟩, turn⟩ := hw
  refine ⟨fun m σ H => ∃ env H01, Same H0 H01 ∧ Rel K ok C H01 σ H env ∧ I m env, ⟨m0, env, H0, Same.refl _, rel, i0⟩, ?_⟩
  rintro m σ1 H1 ⟨env1, H01, e1, r1, i1⟩
  refine hc C H01 σ1 H1 env1 _ _ r1 (turn m env1 i1) fun c H2 H02 q r2 e2 => ?_
  cases c with
  | true =>
    refine iteT ?_
    obtain ⟨N, hN, q⟩ := q.1 rfl
    refine ⟨fun σ' H' => ∃ env' H03, Same H0 H03 ∧ Rel K ok C H03 σ' H' env' ∧ N env', fun σ' H' ⟨env', H03, e3, r3, n3⟩ => ?_, ?_⟩
    · obtain ⟨m', hm, i'⟩ := hN env' n3
      exact ⟨m', hm, env', H03, e3, r3, i'⟩
    · exact hb C H02 σ1 H2 env1 _ _ r2 q ⟨fun env' σ' H' H03 s r n => ⟨env', H03, (e1.trans e2).trans s, r, n⟩, fun r v σ' H' H03 env' s => h.rt r v σ' H' H03 env' ((e1.trans e2).trans s),
        fun env' σ' H' H03 s r n => h.nx env' σ' H' H03 ((e1.trans e2).trans s) r n, fun env' σ' H' H03 s r n => ⟨env', H03, (e1.trans e2).trans s, r, n⟩⟩
  | false => exact iteF (h.nx _ _ _ H02 (e1.trans e2) r2 (q.2 rfl))
/-- what the walk gives at a turn: the item known -/
theorem WalkD.item {J : It} {ds : List D} {H01 H02 : Hp} {σ : L2.St} {H H' : Hp} {env : EnvD} {i : Nat} {x : V} (w : WalkD K J ds H01) (e : Same H01 H02) (r : Rel K ok C H02 σ H env) (hi : i < ds.length) (y : J.yld i H x H') :
    ∃ d H03, ds[i]? = some d ∧ Rel K ok C H03 σ H' env ∧ Same H02 H03 ∧ Rp K H03 x d ∧ Same H H' := by
  obtain ⟨d, hd, z⟩ := w.yields i H x H' hi (e.trans r.sub) y
  rcases z with ⟨rfl, z⟩ | ⟨T, xs, es, rfl, nT, rfl, rfl, z⟩
  · exact ⟨d, H02, hd, r, Same.refl _, z.mono e, Same.refl _⟩
  · obtain ⟨r2, e2⟩ := r.laid (o := .tup xs) nT
    exact ⟨_, _, hd, r2, e2, .tup (SqT.of upd_same) ((z.mono e).mono e2), same_new nT⟩
theorem ss_for {vs : List Nat} {ti : TI} {wi : WI} {g : TG} {wg : WG} (hi : SndI K ok ti wi) (hg : SndG K ok vs g wg) (hb : SndS K ok t a) : SndS K ok (tFor ti g t) (wFor wi wg a) := fun C H0 σ H env E W rel hw h =>
  hi C H0 σ H env _ _ rel hw fun ds J H1 H01 q r1 e1 w => by
    obtain ⟨I, i0, turn, fin⟩ := q
    refine ⟨fun i m σ H => m = ds.length - i ∧ i ≤ ds.length ∧ ∃ env H02, Same H01 H02 ∧ Rel K ok C H02 σ H env ∧ I i env, ⟨ds.length, by simp, Nat.zero_le _, env, H01, Same.refl _, r1, i0⟩, ?_⟩
    rintro i m σ2 H2 ⟨rfl, hil, env2, H02, e2, r2, i2⟩
    by_cases hlt : i < ds.length
    · refine .inr ⟨w.goes i H2 hlt (e2.trans r2.sub), fun σ' H' => ∃ env' H04, Same H01 H04 ∧ Rel K ok C H04 σ' H' env' ∧ I (i + 1) env', fun σ' H' ⟨env', H04, z⟩ => ⟨ds.length - (i + 1), by omega, rfl, hlt, env', H04, z⟩, fun x H' y => ?_⟩
      obtain ⟨d, H03, hd, r3, e3, x3, _⟩ := w.item e2 r2 hlt y
      have e03 := (e1.trans e2).trans e3
      refine hg C H03 σ2 H' env2 x d _ _ r3 x3 (turn i d env2 hd i2) fun env4 σ4 r4 q4 _ => ?_
      exact hb C H03 σ4 H' env4 _ _ r4 q4 ⟨fun env' σ' H' H04 s r n => ⟨env', H04, (e2.trans e3).trans s, r, n⟩, fun r v σ' H' H04 env' s => h.rt r v σ' H' H04 env' (e03.trans s),
        fun env' σ' H' H04 s r n => h.nx env' σ' H' H04 (e03.trans s) r n, fun env' σ' H' H04 s r n => ⟨env', H04, (e2.trans e3).trans s, r, n⟩⟩
    · have hi' : i = ds.length := by omega
      subst hi'
      exact .inl ⟨w.stops H2 (e2.trans r2.sub), h.nx env2 σ2 H2 H02 (e1.trans e2) r2 (fin env2 i2)⟩
theorem ss_asg {vs : List Nat} {g : TG} {wg : WG} (he : SndE K ok te we) (hg : SndG K ok vs g wg) : SndS K ok (tAsg te g) (wAsg we wg) := fun C H0 σ H env E W rel hw h =>
  he C H0 σ H env _ _ rel hw fun d v H1 H01 q r e x => hg C H01 σ H1 env v d _ _ r x q fun env' σ' r' q' _ => h.nx env' σ' H1 H01 e r' q'
/-! targets -/
theorem wipe_get {σ : L2.St} {j : Nat} : ∀ {vs : List Nat}, (wipe σ vs)[j]? = if j ∈ vs then (if j < σ.length then some none else none) else σ[j]?
  | [] => by simp [wipe]
  | v :: vs => by
    unfold wipe
    by_cases hj : v = j
    · subst hj
      rw [if_pos List.mem_cons_self]
      by_cases hl : v < σ.length
      · rw [if_pos hl, List.getElem?_set_self (by rw [wipe_length]; exact hl)]
      · rw [if_neg hl, List.getElem?_eq_none (by rw [List.length_set, wipe_length]; omega)]
    · rw [List.getElem?_set_ne hj, wipe_get]
      have : (j ∈ v :: vs) ↔ j ∈ vs := by simp [Ne.symm hj]
      simp only [this]
theorem wipe_set {σ : L2.St} {i : Nat} {x : Option V} {vs : List Nat} (h : i ∈ vs) : wipe (σ.set i x) vs = wipe σ vs := by
  apply List.ext_getElem?
  intro j
  rw [wipe_get, wipe_get, List.length_set]
  by_cases hj : j ∈ vs
  · rw [if_pos hj, if_pos hj]
  · rw [if_neg hj, if_neg hj, List.getElem?_set_ne (fun z => hj (by subst z; exact h))]
theorem wpE_len {env : EnvD} : ∀ vs : List Nat, (wpE env vs).length = env.length
  | [] => rfl
  | v :: vs => by unfold wpE; rw [List.length_set, wpE_len vs]
theorem wpE_get {env : EnvD} {j : Nat} : ∀ {vs : List Nat}, (wpE env vs)[j]? = if j ∈ vs then (if j < env.length then some none else none) else env[j]?
  | [] => by simp [wpE]
  | v :: vs => by
    unfold wpE
    by_cases hj : v = j
    · subst hj
      rw [if_pos List.mem_cons_self]
      by_cases hl : v < env.length
      · rw [if_pos hl, List.getElem?_set_self (by rw [wpE_len]; exact hl)]
      · rw [if_neg hl, List.getElem?_eq_none (by rw [List.length_set, wpE_len]; omega)]
    · rw [List.getElem?_set_ne hj, wpE_get]
      have : (j ∈ v :: vs) ↔ j ∈ vs := by simp [Ne.symm hj]
      simp only [this]
theorem wpE_set {env : EnvD} {i : Nat} {x : Option Sl} {vs : List Nat} (h : i ∈ vs) : wpE (env.set i x) vs = wpE env vs := by
  apply List.ext_getElem?
  intro j
  rw [wpE_get, wpE_get, List.length_set]
  by_cases hj : j ∈ vs
  · rw [if_pos hj, if_pos hj]
  · rw [if_neg hj, if_neg hj, List.getElem?_set_ne (fun z => hj (by subst z; exact h))]
theorem sg_name {i : Nat} {vs : List Nat} (h : i ∈ vs) : SndG K ok vs (gName i) (gN i) := fun C H0 σ H env x d Q R rel hx q k => k _ _ (rel.setV hx) q ⟨wipe_set h, wpE_set h⟩
def SndGs (K : PySem.W.Frag) (ok : List D → Prop) (vs : List Nat) (g : TGs) (wg : WGs) : Prop := ∀ (C : Ctx) (H0 : Hp) (σ : L2.St) (H : Hp) (env : EnvD) (xs : List V) (ds : List D) (Q : EnvD → Prop) (R : L2.St → Hp → Prop), Rel K ok C H0 σ H env → Rps K H0 xs ds → wg ds env Q →
  (∀ env' σ', Rel K ok C H0 σ' H env' → Q env' → wipe σ' vs = wipe σ vs ∧ wpE env' vs = wpE env vs → R σ' H) → g xs σ H R
theorem sgs_nil {vs : List Nat} : SndGs K ok vs gNil gsNil := fun C H0 σ H env xs ds Q R rel hx q k => by
  obtain ⟨rfl, q⟩ := q
  exact ⟨hx.nil_inv, k env σ rel q ⟨rfl, rfl⟩⟩
theorem sgs_cons {vs : List Nat} {g : TG} {wg : WG} {gs : TGs} {wgs : WGs} (h1 : SndG K ok vs g wg) (h2 : SndGs K ok vs gs wgs) : SndGs K ok vs (gCons g gs) (gsCons wg wgs) := fun C H0 σ H env xs ds Q R rel hx q k => by
  cases ds with
  | nil => exact q.elim
  | cons d es =>
    obtain ⟨v, ws, rfl, x1, x2⟩ := hx.cons_inv
    exact ⟨v, ws, rfl, h1 C H0 σ H env v d _ _ rel x1 q fun env' σ' r' q' w' => h2 C H0 σ' H env' ws es _ _ r' x2 q' fun env2 σ2 r2 q2 w2 => k env2 σ2 r2 q2 ⟨w2.1.trans w'.1, w2.2.trans w'.2⟩⟩
theorem sg_tup {vs : List Nat} {n : Nat} {gs : TGs} {wgs : WGs} (h : SndGs K ok vs gs wgs) : SndG K ok vs (gTup K n gs) (gT n wgs) := fun C H0 σ H env x d Q R rel hx q k => by
  unfold gT at q
  split at q
  · cases hx with
    | tup ha hr => exact ⟨_, _, rfl, Same.tup rel.sub ha, by rw [hr.length]; exact q.1, h C H0 σ H env _ _ _ _ rel hr q.2 k⟩
  · exact q.elim
/-! what is walked -/
theorem si_list (he : SndE K ok te we) : SndI K ok (iList K te) (iL we) := fun C H0 σ H env Q R rel hw k => he C H0 σ H env _ _ rel hw fun d v H1 H01 q r e x => by
  try dsimp only at q
  split at q
  · cases x with
    | lst ha hr =>
      rename_i a xs
      refine ⟨a, rfl, ⟨xs, SqL.of (r.sub _ _ ha)⟩, k _ _ _ H01 q r e ⟨fun i H2 hi s => ?_, fun H2 s => ⟨xs, SqL.of (s _ _ ha), by rw [hr.length]; exact Nat.le_refl _⟩, fun i H2 x H3 hi s y => ?_⟩⟩
      · have hi' : i < xs.length := by rw [hr.length]; exact hi
        exact ⟨xs, xs[i], SqL.of (s _ _ ha), List.getElem?_eq_getElem hi'⟩
      · obtain ⟨rfl, y⟩ := y
        obtain ⟨d, hd, x'⟩ := hr.getV (y xs (SqL.of (s _ _ ha)))
        exact ⟨d, hd, .inl ⟨rfl, x'⟩⟩
  · exact q.elim
theorem si_tup (he : SndE K ok te we) : SndI K ok (iTup K te) (iT we) := fun C H0 σ H env Q R rel hw k => he C H0 σ H env _ _ rel hw fun d v H1 H01 q r e x => by
  try dsimp only at q
  split at q
  · cases x with
    | tup ha hr =>
      rename_i a xs
      refine ⟨a, rfl, ⟨xs, Same.tup r.sub ha⟩, k _ _ _ H01 q r e ⟨fun i H2 hi s => ?_, fun H2 s => ⟨xs, Same.tup s ha, by rw [hr.length]; exact Nat.le_refl _⟩, fun i H2 x H3 hi s y => ?_⟩⟩
      · have hi' : i < xs.length := by rw [hr.length]; exact hi
        exact ⟨xs, xs[i], Same.tup s ha, List.getElem?_eq_getElem hi'⟩
      · obtain ⟨rfl, y⟩ := y
        obtain ⟨d, hd, x'⟩ := hr.getV (y xs (Same.tup s ha))
        exact ⟨d, hd, .inl ⟨rfl, x'⟩⟩
  · exact q.elim
theorem rng_get {lo : Int} {n i : Nat} (h : i < n) : (rng lo n)[i]? = some (.int (lo + i)) := by
  unfold rng
  rw [List.getElem?_map, List.getElem?_range h]
  rfl
theorem rng_len {lo : Int} {n : Nat} : (rng lo n).length = n := by unfold rng; rw [List.length_map, List.length_range]
theorem walk_rng {lo : Int} {n : Nat} {H01 : Hp} : WalkD K (Itr lo n) (rng lo n) H01 := by
  refine ⟨fun i H hi s => by rw [rng_len] at hi; exact hi, fun H s => by rw [rng_len]; exact Nat.le_refl _, fun i H x H' hi s y => ?_⟩
  obtain ⟨rfl, rfl⟩ := y
  rw [rng_len] at hi
  exact ⟨_, rng_get hi, .inl ⟨rfl, .int _⟩⟩
theorem si_r1 (he : SndE K ok te we) : SndI K ok (iRng1 (tCons te tNil)) (iR1 we) := fun C H0 σ H env Q R rel hw k => he C H0 σ H env _ _ rel hw fun d v H1 H01 q r e x => by
  try dsimp only at q
  split at q
  · cases x
    exact ⟨_, rfl, q.1.1, q.1.2, k _ _ _ H01 q.2 r e walk_rng⟩
  · exact q.elim
theorem si_r2 {tf : TE} {wf : WE} (he : SndE K ok te we) (hf : SndE K ok tf wf) : SndI K ok (iRng2 (tCons te (tCons tf tNil))) (iR2 we wf) := fun C H0 σ H env Q R rel hw k => he C H0 σ H env _ _ rel hw fun d v H1 H01 q r e x =>
  hf C H01 σ H1 env _ _ r q fun d2 v2 H2 H02 q2 r2 e2 x2 => by
    try dsimp only at q2
    split at q2
    · cases x; cases x2
      exact ⟨_, _, rfl, q2.1, k _ _ _ H02 q2.2 r2 (e.trans e2) walk_rng⟩
    · exact q2.elim
/-! comprehensions -/
theorem st_yes : SndT K ok tYes wYes := fun C H0 σ H env Q R rel hw k => k true H H0 hw rel (Same.refl _)
theorem Rel.wipe {σ : L2.St} {H : Hp} {env : EnvD} (rel : Rel K ok C H0 σ H env) : ∀ vs : List Nat, Rel K ok C H0 (L2.wipe σ vs) H (wpE env vs)
  | [] => rel
  | v :: vs => (Rel.wipe rel vs).drop
theorem get_of : ∀ {env : EnvD} {i : Nat} {s : Sl}, env[i]? = some (some s) → get env i = some s
  | [], i, s, h => by rw [List.getElem?_nil] at h; cases h
  | x :: r, 0, s, h => by
    rw [List.getElem?_cons_zero] at h
    exact Option.some.inj h
  | x :: r, i + 1, s, h => by
    rw [List.getElem?_cons_succ] at h
    exact get_of (env := r) h
theorem wpN_get {env : EnvD} : ∀ {vs : List Nat}, wpN env vs → ∀ {i : Nat} {s : Sl}, i ∈ vs → env[i]? = some (some s) → s.isOwn = false
  | [], _, i, s, h, _ => (by cases h)
  | v :: vs, ⟨h1, h2⟩, i, s, h, hs => by
    rcases List.mem_cons.mp h with rfl | h
    · have e : get env i = some s := get_of hs
      rw [e] at h1
      exact h1
    · exact wpN_get h2 h hs
theorem Rel.unwipe {C' : Ctx} {H00 : Hp} {σ : L2.St} {H H' : Hp} {env : EnvD} {vs : List Nat} (old : Rel K ok C' H00 σ H' env) (e : Same H00 H0) (rel : Rel K ok C H0 (L2.wipe σ vs) H (wpE env vs)) (h : wpN env vs) : Rel K ok C H0 σ H env := by
  have key : ∀ {i : Nat} {s : Sl}, env[i]? = some (some s) → s.isOwn = true → (L2.wipe σ vs)[i]? = σ[i]? ∧ (wpE env vs)[i]? = some (some s) := fun {i s} hs ho => by
    have hi : i ∉ vs := fun z => by
      have := wpN_get h z hs
      rw [ho] at this
      cases this
    rw [wipe_get, if_neg hi, wpE_get, if_neg hi]
    exact ⟨rfl, hs⟩
  refine ⟨rel.sub, rel.grow, rel.new, rel.fr, rel.hv, old.len, fun i s hs => ?_, fun i j s t p hij hs ht os ot e1 => ?_, rel.kp, fun i s p hs os e1 => ?_, rel.kh, rel.kz⟩
  · cases ho : s.isOwn with
    | true =>
      obtain ⟨k1, k2⟩ := key hs ho
      have q := rel.slot i s k2
      rw [k1] at q
      exact q
    | false =>
      cases s with
      | v d =>
        obtain ⟨v, ev, r⟩ := old.slot i _ hs
        exact ⟨v, ev, r.mono e⟩
      | own _ => cases ho
      | hnd => cases ho
      | dct _ => cases ho
  · obtain ⟨k1, k2⟩ := key hs os
    obtain ⟨k3, k4⟩ := key ht ot
    rw [← k1] at e1
    rw [← k3]
    exact rel.dis i j s t p hij k2 k4 os ot e1
  · obtain ⟨k1, k2⟩ := key hs os
    rw [← k1] at e1
    exact rel.kn i s p k2 os e1
theorem wpE_wpE {env : EnvD} {vs : List Nat} : wpE (wpE env vs) vs = wpE env vs := by
  apply List.ext_getElem?
  intro j
  rw [wpE_get, wpE_get, wpE_len]
  by_cases hj : j ∈ vs
  · rw [if_pos hj, if_pos hj]
  · rw [if_neg hj, if_neg hj]
theorem sl_lc {vs : List Nat} {ti : TI} {wi : WI} {g : TG} {wg : WG} (hi : SndI K ok ti wi) (hg : SndG K ok vs g wg) (ht : SndT K ok tt wt) (he : SndE K ok te we) : SndL K ok (tLc ti g tt te vs) (wLc wi wg wt we vs) := fun C H0 σ H env Q R rel hw k =>
  hi C H0 σ H env _ _ rel hw fun ds J H1 H01 q r1 e1 w => by
    obtain ⟨hlen, hwp, I, i0, turn, fin⟩ := q
    intro A hA
    have hA0 : C.Kp A = none := r1.kp.free hA
    -- the list at A is no slot's; the block's context protects it
    have out : ∀ {vs' : List V} {H2 H02 : Hp} {env2 : EnvD} {σ2 : L2.St}, Rel K ok { C with Kp := upd C.Kp A (.lst vs') } H02 σ2 H2 env2 → Rel K ok C H02 σ2 H2 env2 := fun {vs' H2 H02 env2 σ2} r =>
      (r.guard (Kq := C.Kp) (fun b o z => r.kp b o (by rw [show ({ C with Kp := upd C.Kp A (.lst vs') } : Ctx).Kp = upd C.Kp A (.lst vs') from rfl, upd_ne (ne_of_none z hA0)]; exact z)) fun p o z => .inl (by
        show upd C.Kp A (.lst vs') p = some o
        rw [upd_ne (ne_of_none z hA0)]; exact z))
    let Pv : Nat → Hp → Prop := fun i H => ∃ acc vs' H02, Same H01 H02 ∧ Rel K ok { C with Kp := upd C.Kp A (.lst vs') } H02 σ H env ∧ H A = some (.lst vs') ∧ H02 A = none ∧ Rps K H02 vs' acc ∧ acc.length ≤ i ∧ I i acc
    have nsl : ∀ {vs' : List V} {H2 H02 : Hp} {σ2 : L2.St} {env2 : EnvD}, Rel K ok { C with Kp := upd C.Kp A (.lst vs') } H02 σ2 H2 env2 → ∀ (i : Nat) s, env2[i]? = some (some s) → s.isOwn = true → σ2[i]? ≠ some (some (.ref A)) := fun {vs' H2 H02 σ2 env2} r i s hs os z => by
      have y := r.kn i s A hs os z
      have y2 : upd C.Kp A (.lst vs') A = none := y
      rw [upd_same] at y2; cases y2
    have hCA : C.He A = none := r1.fresh hA
    have nha : C.ha ≠ some A := fun z => by obtain ⟨⟨o, y⟩, _⟩ := r1.hv A z; rw [hCA] at y; cases y
    -- the list at A changes
    have change : ∀ {vs' ws : List V} {H2 H02 : Hp} {env2 : EnvD} {σ2 : L2.St}, Rel K ok { C with Kp := upd C.Kp A (.lst vs') } H02 σ2 H2 env2 → H02 A = none → Rel K ok { C with Kp := upd C.Kp A (.lst ws) } H02 σ2 (upd H2 A (.lst ws)) env2 := fun {vs' ws H2 H02 env2 σ2} r n0 => by
      have up : ∀ {b : Addr} {x : HO}, b ≠ A → H2 b = some x → (upd H2 A (.lst ws)) b = some x := fun {b x} hb z => by rw [upd_ne hb]; exact z
      have ns := nsl r
      refine ⟨fun b o z => up (ne_of_none z n0) (r.sub b o z), r.grow, r.new, fun b o z m => up (ne_of_none z hCA) (r.fr b o z m), fun a ha => ?_, r.len, fun i s hs => ?_, r.dis, fun b o z => ?_, fun i s p hs os e => ?_, fun a ha => ?_, fun b o z => ?_⟩
      · obtain ⟨h1, dd, h2, h3⟩ := r.hv a ha
        exact ⟨h1, dd, h2.keep (Same.refl _) h2.n0 (fun o z => up (fun y => by subst y; exact nha ha) z), h3⟩
      · have q := r.slot i s hs
        have other : ∀ {a : Addr}, s.isOwn = true → σ2[i]? = some (some (.ref a)) → a ≠ A := fun {a} o' z y => by subst y; exact ns i s hs o' z
        cases s with
        | v d => exact q
        | own dd => obtain ⟨p, e, m, h2⟩ := q; exact ⟨p, e, m, h2.keep (Same.refl _) h2.n0 (fun o z => up (other rfl e) z)⟩
        | hnd => obtain ⟨p, dd, e, m, h2, h3⟩ := q; exact ⟨p, dd, e, m, h2.keep (Same.refl _) h2.n0 (fun o z => up (other rfl e) z), h3⟩
        | dct kvs => obtain ⟨p, ks, e, m, m0, hp, r'⟩ := q; exact ⟨p, ks, e, m, m0, up (other rfl e) hp, r'⟩
      · have z' : upd C.Kp A (.lst ws) b = some o := z
        by_cases hb : b = A
        · subst hb; rw [upd_same] at z' ⊢; exact z'
        · rw [upd_ne hb] at z'
          exact up hb (r.kp b o (by show upd C.Kp A (.lst vs') b = some o; rw [upd_ne hb]; exact z'))
      · have y : upd C.Kp A (.lst vs') p = none := r.kn i s p hs os e
        show upd C.Kp A (.lst ws) p = none
        by_cases hb : p = A
        · subst hb; rw [upd_same] at y; cases y
        · rw [upd_ne hb] at y ⊢; exact y
      · have y : upd C.Kp A (.lst vs') a = none := r.kh a ha
        show upd C.Kp A (.lst ws) a = none
        by_cases hb : a = A
        · subst hb; rw [upd_same] at y; cases y
        · rw [upd_ne hb] at y ⊢; exact y
      · have z' : upd C.Kp A (.lst ws) b = some o := z
        by_cases hb : b = A
        · subst hb; exact n0
        · rw [upd_ne hb] at z'
          exact r.kz b o (by show upd C.Kp A (.lst vs') b = some o; rw [upd_ne hb]; exact z')
    refine ⟨fun i m H => m = ds.length - i ∧ i ≤ ds.length ∧ Pv i H, ⟨ds.length, by simp, Nat.zero_le _, [], [], H01, Same.refl _, ?_, upd_same, r1.sub.free hA, .nil, Nat.zero_le _, i0⟩, ?_⟩
    · refine (r1.laid0 (o := .lst []) hA).guard (fun b o z => ?_) fun p o z => ?_
      · by_cases hb : b = A
        · subst hb; rw [upd_same] at z ⊢; exact z
        · rw [upd_ne hb] at z ⊢; exact r1.kp b o z
      · by_cases hb : p = A
        · subst hb; exact .inr ⟨r1.noslot hA, nha, r1.sub.free hA⟩
        · rw [upd_ne hb] at z; exact .inl z
    rintro i m H2 ⟨rfl, hil, acc, vs', H02, e2, r2, hpA, nA, hr, hacc, i2⟩
    by_cases hlt : i < ds.length
    · refine .inr ⟨w.goes i H2 hlt (e2.trans r2.sub), Pv (i + 1), fun H' p' => ⟨ds.length - (i + 1), by omega, rfl, hlt, p'⟩, fun x H' y => ?_⟩
      obtain ⟨d, H03, hd, r3, e3, x3, kp3⟩ := w.item e2 r2 hlt y
      have r3' : Rel K ok { C with Kp := upd C.Kp A (.lst vs') } H03 (L2.wipe σ vs) H' (wpE env vs) := r3.wipe vs
      refine hg _ H03 _ H' _ x d _ _ r3' x3 (turn i d acc hd i2) fun env4 σ4 r4 q4 w4 => ⟨?_, ?_⟩
      · rw [w4.1]
        apply List.ext_getElem?
        intro j
        rw [wipe_get, wipe_get, wipe_length]
        by_cases hj : j ∈ vs
        · rw [if_pos hj, if_pos hj]
        · rw [if_neg hj, if_neg hj]
      -- the frame of the block aside: σ and env as they were
      have outer : ∀ {vs2 : List V} {Hn H0n : Hp}, Same H03 H0n → Rel K ok { C with Kp := upd C.Kp A (.lst vs2) } H0n σ4 Hn env4 → Rel K ok { C with Kp := upd C.Kp A (.lst vs2) } H0n σ Hn env := by
        intro vs2 Hn H0n e30 rn
        have z := rn.wipe vs
        rw [w4.1, w4.2, wpE_wpE] at z
        have e3 : L2.wipe (L2.wipe σ vs) vs = L2.wipe σ vs := by
          apply List.ext_getElem?
          intro j
          rw [wipe_get, wipe_get, wipe_length]
          by_cases hj : j ∈ vs
          · rw [if_pos hj, if_pos hj]
          · rw [if_neg hj, if_neg hj]
        rw [e3] at z
        exact r3.unwipe e30 z hwp
      have atA : ∀ {Hn H0n : Hp}, Rel K ok { C with Kp := upd C.Kp A (.lst vs') } H0n σ4 Hn env4 → Hn A = some (.lst vs') := fun {Hn H0n} rn => rn.kp A _ upd_same
      have noA : ∀ {Hn H0n : Hp}, Rel K ok { C with Kp := upd C.Kp A (.lst vs') } H0n σ4 Hn env4 → Same H03 H0n → H0n A = none := fun {Hn H0n} rn _ => rn.kz A _ upd_same
      refine ht _ H03 σ4 H' env4 _ _ r4 q4 fun b H5 H05 q5 r5 e5 => ?_
      cases b with
      | true =>
        refine iteT (he _ H05 σ4 H5 env4 _ _ r5 (q5.1 rfl) fun z v H6 H06 q6 r6 e6 x6 => ?_)
        have n6 := noA r6 (e5.trans e6)
        refine ⟨vs', atA r6, by rw [hr.length]; exact Nat.lt_of_le_of_lt hacc (Nat.lt_trans hlt (lt_size hlen)), acc ++ [z], vs' ++ [v], H06, ((e2.trans e3).trans e5).trans e6, change (outer (e5.trans e6) r6) n6, upd_same, n6, ((hr.mono ((e3.trans e5).trans e6)).append (.one x6)), by rw [List.length_append, List.length_singleton]; omega, q6⟩
      | false =>
        exact iteF ⟨acc, vs', H05, (e2.trans e3).trans e5, outer e5 r5, atA r5, noA r5 e5, hr.mono (e3.trans e5), Nat.le_succ_of_le hacc, q5.2 rfl⟩
    · have hi' : i = ds.length := by omega
      subst hi'
      refine .inl ⟨w.stops H2 (e2.trans r2.sub), k acc A H2 H02 (fin acc i2) (out r2) (e1.trans e2) ⟨hCA, ⟨nA, vs', hpA, hr⟩, nsl r2, hA0⟩⟩
end
end DL
/-! DL, part d: the rules by syntax; defs and their calls. -/
namespace DL
open PySem L2

section
variable (X : Cx) (ok : List D → Prop)
def PDS (st : Stmt) (ws : WS) : Prop := ∃ ts, PS X st ts ∧ SndS X.K ok ts ws
def PDSs (st : List Stmt) (ws : WS) : Prop := ∃ ts, PSs X st ts ∧ SndS X.K ok ts ws
def PDG (vs : List Nat) (tg : Expr) (wg : WG) : Prop := ∃ g, PG X tg g ∧ SndG X.K ok vs g wg
def PDGs (vs : List Nat) (tgs : List Expr) (wg : WGs) : Prop := ∃ g, PGs X tgs g ∧ SndGs X.K ok vs g wg
def PDI (tg iter : Expr) (wi : WI) : Prop := ∃ ti, PI X tg iter ti ∧ SndI X.K ok ti wi
end
/-- a def of the module, as a caller sees it -/
structure Has (P : Program) (w : World) (K : PySem.W.Frag) (mg : Str → Option Value) (base : Heap) (ok : List D → Prop) (k : Nat) (x : Str) (n : Nat) (M : WM) : Prop where
  ex : ∃ f fd ps, FnOk P w K mg base CX0 k f fd ps (SpD K ok n M) ∧ mg x = some (.ref f) ∧ PySem.W.keepIn K (.ref f) = true ∧ Binds K fd ps []
section
variable {X : Cx} {ok : List D → Prop} {a b c e : Expr} {es : List Expr} {wa wb wc we : WE} {wr : WA} {wl : WL} {wt wu : WT} {pos p apos : Pos} {x : Str}
/-! ### expressions -/
theorem d_int {i j} : PDE X ok (.Constant (.int i) j pos) (wC (.int i)) := ⟨_, pe_int, snd_c fun H => .int i⟩
theorem d_bl {i j} : PDE X ok (.Constant (.bool i) j pos) (wC (.bool i)) := ⟨_, pe_bl, snd_c fun H => .bl i⟩
theorem d_non {j} : PDE X ok (.Constant .none j pos) (wC .none) := ⟨_, pe_non, snd_c fun H => .non⟩
theorem d_str {i j} : PDE X ok (.Constant (.str i) j pos) (wC (.str i)) := ⟨_, pe_str, snd_c fun H => .str i⟩
theorem d_var (i : Nat) (hN : X.N[i]? = some x := by rfl) (hv : Vis X.env.scope x := by first | exact Or.inl rfl | exact Or.inr (Or.inl rfl) | exact Or.inr (Or.inr rfl)) (hd : (x == ("__debug__" : Str)) = false := by decide)
    (hcd : (x == ("__classdict__" : Str)) = false := by decide) : PDE X ok (.Name x pos) (wVar i) := ⟨_, pe_var hN hv hd hcd, snd_var⟩
theorem d_bor (i : Nat) (hN : X.N[i]? = some x := by rfl) (hv : Vis X.env.scope x := by first | exact Or.inl rfl | exact Or.inr (Or.inl rfl) | exact Or.inr (Or.inr rfl)) (hd : (x == ("__debug__" : Str)) = false := by decide)
    (hcd : (x == ("__classdict__" : Str)) = false := by decide) : PDB X ok (.Name x pos) (wBor i) := ⟨_, pe_var hN hv hd hcd, snd_bor⟩
theorem d_b (h : PDE X ok e we) : PDB X ok e we := let ⟨t, h1, h2⟩ := h; ⟨t, h1, h2.b⟩
theorem d_fz (h : PDL X ok e wl) : PDE X ok e (wFz wl) := let ⟨t, h1, h2⟩ := h; ⟨t, h1, h2.fz⟩
/-- a name of the module that holds a written value -/
theorem d_glob {v : V} {d : D} {u : Value} (hm : X.mg x = some u) (r : RelV v u) (hd : ∀ H, Rp X.K H v d) (hg : Gl X x := by rfl) (hdd : (x == ("__debug__" : Str)) = false := by decide) : PDE X ok (.Name x pos) (wC d) := ⟨_, pe_glob hg hm r hdd, snd_c hd⟩
theorem d_op {op : Operator} {r : R2} {f : D → D → (D → Prop) → Prop} (ho : OpR X (binaryOp op) r) (hf : OpD X.K r f) (ha : PDE X ok a wa) (hb : PDE X ok b wb) : PDE X ok (.BinOp a op b pos) (wBin f wa wb) :=
  let ⟨_, a1, a2⟩ := ha; let ⟨_, b1, b2⟩ := hb; ⟨_, pe_op ho a1 b1, snd_bin hf a2 b2⟩
theorem d_add (ha : PDE X ok a wa) (hb : PDE X ok b wb) : PDE X ok (.BinOp a .Add b pos) (wBin fAdd wa wb) := d_op op_add opd_add ha hb
theorem d_sub (ha : PDE X ok a wa) (hb : PDE X ok b wb) : PDE X ok (.BinOp a .Sub b pos) (wBin fSub wa wb) := d_op op_sub opd_sub ha hb
theorem d_mul (ha : PDE X ok a wa) (hb : PDE X ok b wb) : PDE X ok (.BinOp a .Mult b pos) (wBin fMul wa wb) := d_op op_mul opd_mul ha hb
theorem d_mulX (ha : PDE X ok a wa) (hb : PDE X ok b wb) : PDE X ok (.BinOp a .Mult b pos) (wBin fMulX wa wb) := d_op op_mulX opd_mulX ha hb
theorem d_mod (ha : PDE X ok a wa) (hb : PDE X ok b wb) : PDE X ok (.BinOp a .Mod b pos) (wBin fMod wa wb) := d_op op_mod opd_mod ha hb
theorem d_div (ha : PDE X ok a wa) (hb : PDE X ok b wb) : PDE X ok (.BinOp a .FloorDiv b pos) (wBin fDiv wa wb) := d_op op_fdivW opd_div ha hb
theorem d_shl (ha : PDE X ok a wa) (hb : PDE X ok b wb) : PDE X ok (.BinOp a .LShift b pos) (wBin fShl wa wb) := d_op op_shl opd_shl ha hb
theorem d_pow (ha : PDE X ok a wa) (hb : PDE X ok b wb) : PDE X ok (.BinOp a .Pow b pos) (wBin fPow wa wb) := d_op op_pow opd_pow ha hb
theorem d_neg (ha : PDE X ok a wa) : PDE X ok (.UnaryOp .USub a pos) (wUn fNeg wa) := let ⟨_, a1, a2⟩ := ha; ⟨_, pe_un un_neg a1, snd_neg a2⟩
theorem d_cmp {op : CmpOp} {r : R2} {f : D → D → (D → Prop) → Prop} (ho : OpR X (compareOp op) r) (hf : OpD X.K r f) (hm : behindInMarks op b = false) (ha : PDE X ok a wa) (hb : PDE X ok b wb) : PDE X ok (.Compare a [op] [b] pos) (wBin f wa wb) :=
  let ⟨_, a1, a2⟩ := ha; let ⟨_, b1, b2⟩ := hb; ⟨_, pe_cmpR ho a1 b1 hm, snd_bin hf a2 b2⟩
theorem t_cmp {op : CmpOp} {r : R2} {f : D → D → (D → Prop) → Prop} (ho : OpR X (compareOp op) r) (hf : OpD X.K r f) (hm : behindInMarks op b = false) (ha : PDE X ok a wa) (hb : PDE X ok b wb) : PDT X ok (.Compare a [op] [b] pos) (wTest (wBin f wa wb)) :=
  let ⟨_, a1, a2⟩ := ha; let ⟨_, b1, b2⟩ := hb; ⟨_, pt_cmpR ho a1 b1 hm, snd_test (snd_bin hf a2 b2)⟩
theorem d_lt (ha : PDE X ok a wa) (hb : PDE X ok b wb) : PDE X ok (.Compare a [.Lt] [b] pos) (wBin fLt wa wb) := d_cmp op_lt opd_lt (nomark _) ha hb
theorem d_le (ha : PDE X ok a wa) (hb : PDE X ok b wb) : PDE X ok (.Compare a [.LtE] [b] pos) (wBin fLe wa wb) := d_cmp op_le opd_le (nomark _) ha hb
theorem d_gt (ha : PDE X ok a wa) (hb : PDE X ok b wb) : PDE X ok (.Compare a [.Gt] [b] pos) (wBin fGt wa wb) := d_cmp op_gt opd_gt (nomark _) ha hb
theorem d_ge (ha : PDE X ok a wa) (hb : PDE X ok b wb) : PDE X ok (.Compare a [.GtE] [b] pos) (wBin fGe wa wb) := d_cmp op_ge opd_ge (nomark _) ha hb
theorem t_lt (ha : PDE X ok a wa) (hb : PDE X ok b wb) : PDT X ok (.Compare a [.Lt] [b] pos) (wTest (wBin fLt wa wb)) := t_cmp op_lt opd_lt (nomark _) ha hb
theorem t_le (ha : PDE X ok a wa) (hb : PDE X ok b wb) : PDT X ok (.Compare a [.LtE] [b] pos) (wTest (wBin fLe wa wb)) := t_cmp op_le opd_le (nomark _) ha hb
theorem t_gt (ha : PDE X ok a wa) (hb : PDE X ok b wb) : PDT X ok (.Compare a [.Gt] [b] pos) (wTest (wBin fGt wa wb)) := t_cmp op_gt opd_gt (nomark _) ha hb
theorem t_ge (ha : PDE X ok a wa) (hb : PDE X ok b wb) : PDT X ok (.Compare a [.GtE] [b] pos) (wTest (wBin fGe wa wb)) := t_cmp op_ge opd_ge (nomark _) ha hb
theorem d_eq {k : Nat} (hr : Room k X.A) (ha : PDE X ok a wa) (hb : PDE X ok b wb) : PDE X ok (.Compare a [.Eq] [b] pos) (wBin fEq wa wb) := d_cmp (op_eqD hr.units) opd_eq (nomark _) ha hb
theorem d_ne {k : Nat} (hr : Room k X.A) (ha : PDE X ok a wa) (hb : PDE X ok b wb) : PDE X ok (.Compare a [.NotEq] [b] pos) (wBin fNe wa wb) := d_cmp (op_neD hr.units) opd_ne (nomark _) ha hb
theorem t_eq {k : Nat} (hr : Room k X.A) (ha : PDE X ok a wa) (hb : PDE X ok b wb) : PDT X ok (.Compare a [.Eq] [b] pos) (wTest (wBin fEq wa wb)) := t_cmp (op_eqD hr.units) opd_eq (nomark _) ha hb
theorem t_ne {k : Nat} (hr : Room k X.A) (ha : PDE X ok a wa) (hb : PDE X ok b wb) : PDT X ok (.Compare a [.NotEq] [b] pos) (wTest (wBin fNe wa wb)) := t_cmp (op_neD hr.units) opd_ne (nomark _) ha hb
theorem d_isN {j pos'} (ha : PDE X ok a wa) : PDE X ok (.Compare a [.Is] [.Constant .none j pos'] pos) (wIsN wa) := let ⟨_, a1, a2⟩ := ha; ⟨_, pe_cmp (pc_isN a1) rfl, snd_isN a2⟩
theorem d_notN {j pos'} (ha : PDE X ok a wa) : PDE X ok (.Compare a [.IsNot] [.Constant .none j pos'] pos) (wNotN wa) := let ⟨_, a1, a2⟩ := ha; ⟨_, pe_cmp (pc_notN a1) rfl, snd_notN a2⟩
theorem t_isN {j pos'} (ha : PDE X ok a wa) : PDT X ok (.Compare a [.Is] [.Constant .none j pos'] pos) (wTest (wIsN wa)) := let ⟨_, a1, a2⟩ := ha; ⟨_, pt_cmp (pc_isN a1) rfl, snd_tB (snd_isN a2)⟩
theorem t_notN {j pos'} (ha : PDE X ok a wa) : PDT X ok (.Compare a [.IsNot] [.Constant .none j pos'] pos) (wTest (wNotN wa)) := let ⟨_, a1, a2⟩ := ha; ⟨_, pt_cmp (pc_notN a1) rfl, snd_tB (snd_notN a2)⟩
/-- a chain of two comparisons of ints -/
def wChn (f f' : D → D → (D → Prop) → Prop) (a b c : WE) : WE := fun env Q => a env fun x => b env fun y => f x y fun z => match z with
  | .bool k => ∃ d : Bool, (k = true → c env fun w => f' y w fun z' => z' = .bool d) ∧ Q (.bool (k && d))
  | _ => False
theorem snd_chn {K : PySem.W.Frag} {r r' : R2} {f f' : D → D → (D → Prop) → Prop} {ta tb tc : TE} (hr : OpD K r f) (hr' : OpD K r' f') (ha : SndE K ok ta wa) (hb : SndE K ok tb wb) (hc : SndE K ok tc wc) : SndE K ok (tChain r r' ta tb tc) (wChn f f' wa wb wc) := fun C H0 σ H env Q R rel hw k =>
  ha C H0 σ H env _ _ rel hw fun d v H1 H01 q r1 e1 x1 => hb C H01 σ H1 env _ _ r1 q fun e u H2 H02 q2 r2 e2 x2 =>
    hr H02 H2 v u d e _ _ r2.sub (x1.mono e2) x2 q2 fun z w qz rz => by
      try dsimp only at qz
      split at qz
      · rename_i k'
        cases rz
        obtain ⟨d', q3, q4⟩ := qz
        refine ⟨k', rfl, ?_⟩
        cases k' with
        | true => exact iteT (hc C H02 σ H2 env _ _ r2 (q3 rfl) fun e3 u3 H3 H03 q5 r3 e3' x3 => hr' H03 H3 u u3 e e3 _ _ r3.sub (x2.mono e3') x3 q5 fun z2 w2 qz2 rz2 => by
            subst qz2
            exact k _ _ H3 H03 q4 r3 ((e1.trans e2).trans e3') rz2)
        | false => exact iteF (k _ _ H2 H02 q4 r2 (e1.trans e2) (.bl _))
      · exact qz.elim
theorem d_chn {op op' : CmpOp} {r r' : R2} {f f' : D → D → (D → Prop) → Prop} (ho : OpR X (compareOp op) r) (hf : OpD X.K r f) (ho' : OpR X (compareOp op') r') (hf' : OpD X.K r' f') (ha : PDE X ok a wa) (hb : PDE X ok b wb) (hc : PDE X ok c wc)
    (hm : lastMarks [op, op'] [b, c] = false := by with_unfolding_all rfl) : PDE X ok (.Compare a [op, op'] [b, c] pos) (wChn f f' wa wb wc) :=
  let ⟨_, a1, a2⟩ := ha; let ⟨_, b1, b2⟩ := hb; let ⟨_, c1, c2⟩ := hc; ⟨_, pe_chain ho ho' a1 b1 c1 hm, snd_chn hf hf' a2 b2 c2⟩
theorem t_chn {op op' : CmpOp} {r r' : R2} {f f' : D → D → (D → Prop) → Prop} (ho : OpR X (compareOp op) r) (hf : OpD X.K r f) (ho' : OpR X (compareOp op') r') (hf' : OpD X.K r' f') (ha : PDE X ok a wa) (hb : PDE X ok b wb) (hc : PDE X ok c wc)
    (hm : lastMarks [op, op'] [b, c] = false := by with_unfolding_all rfl) : PDT X ok (.Compare a [op, op'] [b, c] pos) (wTest (wChn f f' wa wb wc)) :=
  let ⟨_, a1, a2⟩ := ha; let ⟨_, b1, b2⟩ := hb; let ⟨_, c1, c2⟩ := hc; ⟨_, pt_chain ho ho' a1 b1 c1 hm, snd_test (snd_chn hf hf' a2 b2 c2)⟩
/-! ### tests -/
theorem t_val (ha : PDE X ok a wa) (he : ∀ whole, isTrue a X.env whole = (do let v ← whole; standAt a.pos; holding [v] (truthy v)) := by intro _; rfl) : PDT X ok a (wTest wa) := let ⟨_, a1, a2⟩ := ha; ⟨_, pt_val a1 he, snd_tB a2⟩
theorem t_not (h : PDT X ok a wt) : PDT X ok (.UnaryOp .Not a pos) (wNot wt) := let ⟨_, a1, a2⟩ := h; ⟨_, pt_not a1, snd_not a2⟩
theorem t_w (h : PDW X ok a wt) : PDT X ok a wt := let ⟨_, a1, a2⟩ := h; ⟨_, a1.pt, a2⟩
theorem w_and1 (h : PDT X ok a wt) : PDW X ok (.BoolOp .And [a] pos) wt := let ⟨_, a1, a2⟩ := h; ⟨_, pw_and1 a1, a2⟩
theorem w_or1 (h : PDT X ok a wt) : PDW X ok (.BoolOp .Or [a] pos) wt := let ⟨_, a1, a2⟩ := h; ⟨_, pw_or1 a1, a2⟩
theorem w_and (h : PDT X ok a wt) (h2 : PDW X ok (.BoolOp .And (b :: es) pos) wu) : PDW X ok (.BoolOp .And (a :: b :: es) pos) (wAndD wt wu) := let ⟨_, a1, a2⟩ := h; let ⟨_, b1, b2⟩ := h2; ⟨_, pw_and a1 b1, snd_andD a2 b2⟩
theorem w_or (h : PDT X ok a wt) (h2 : PDW X ok (.BoolOp .Or (b :: es) pos) wu) : PDW X ok (.BoolOp .Or (a :: b :: es) pos) (wOrD wt wu) := let ⟨_, a1, a2⟩ := h; let ⟨_, b1, b2⟩ := h2; ⟨_, pw_or a1 b1, snd_orD a2 b2⟩
theorem w_andB (h : PDT X ok a wt) (h2 : PDW X ok (.BoolOp .And (b :: es) pos) wu) : PDW X ok (.BoolOp .And (a :: b :: es) pos) (wAnd wt wu) := let ⟨_, a1, a2⟩ := h; let ⟨_, b1, b2⟩ := h2; ⟨_, pw_and a1 b1, snd_and a2 b2⟩
theorem w_orB (h : PDT X ok a wt) (h2 : PDW X ok (.BoolOp .Or (b :: es) pos) wu) : PDW X ok (.BoolOp .Or (a :: b :: es) pos) (wOr wt wu) := let ⟨_, a1, a2⟩ := h; let ⟨_, b1, b2⟩ := h2; ⟨_, pw_or a1 b1, snd_or a2 b2⟩
theorem d_one {op} (h : PDE X ok a wa) : PDE X ok (.BoolOp op [a] pos) wa := let ⟨_, a1, a2⟩ := h; ⟨_, pe_one a1, a2⟩
theorem d_and (h : PDE X ok a wa) (h2 : PDE X ok (.BoolOp .And (b :: es) pos) wb) : PDE X ok (.BoolOp .And (a :: b :: es) pos) (wBl (wAndD (wTest wa) (wTest wb))) := let ⟨_, a1, a2⟩ := h; let ⟨_, b1, b2⟩ := h2; ⟨_, pe_and a1 b1, snd_andV a2 b2⟩
theorem d_or (h : PDE X ok a wa) (h2 : PDE X ok (.BoolOp .Or (b :: es) pos) wb) : PDE X ok (.BoolOp .Or (a :: b :: es) pos) (wBl (wOrD (wTest wa) (wTest wb))) := let ⟨_, a1, a2⟩ := h; let ⟨_, b1, b2⟩ := h2; ⟨_, pe_or a1 b1, snd_orV a2 b2⟩
theorem d_not (h : PDE X ok a wa) : PDE X ok (.UnaryOp .Not a pos) (wBl (wNot (wTest wa))) := let ⟨_, a1, a2⟩ := h; ⟨_, pe_not a1, snd_notV a2⟩
theorem d_ifE (h : PDT X ok c wt) (ha : PDE X ok a wa) (hb : PDE X ok b wb) : PDE X ok (.IfExp c a b pos) (wIfE wt wa wb) := let ⟨_, c1, c2⟩ := h; let ⟨_, a1, a2⟩ := ha; let ⟨_, b1, b2⟩ := hb; ⟨_, pe_ifExp c1 a1 b1, snd_ifE c2 a2 b2⟩
/-! ### arguments, displays, calls -/
theorem a_nil : PDA X ok [] wNil := ⟨_, pa_nil, snd_nil⟩
theorem a_cons (ha : PDE X ok e we) (hr : PDA X ok es wr) (hs : starEach (e :: es) X.env = (false, eval e X.env) :: starEach es X.env := by rfl) : PDA X ok (e :: es) (wCons we wr) := let ⟨_, a1, a2⟩ := ha; let ⟨_, b1, b2⟩ := hr; ⟨_, pa_cons a1 b1 hs, snd_cons a2 b2⟩
theorem a_hnd (i : Nat) (hr : PDA X ok es wr) (hN : X.N[i]? = some x := by rfl) (hv : Vis X.env.scope x := by first | exact Or.inl rfl | exact Or.inr (Or.inl rfl) | exact Or.inr (Or.inr rfl)) (hd : (x == ("__debug__" : Str)) = false := by decide)
    (hcd : (x == ("__classdict__" : Str)) = false := by decide) (hs : starEach (.Name x pos :: es) X.env = (false, eval (.Name x pos) X.env) :: starEach es X.env := by rfl) : PDA X ok (.Name x pos :: es) (wConsH i wr) := let ⟨_, b1, b2⟩ := hr; ⟨_, pa_cons (pe_var hN hv hd hcd) b1 hs, snd_consH b2⟩
theorem d_tup {x1} (h : PDA X ok es wr) : PDE X ok (.Tuple es x1 pos) (wTupP wr) := let ⟨_, a1, a2⟩ := h; ⟨_, pe_tup a1, snd_tup a2⟩
theorem l_lst (h : PDA X ok es wr) : PDL X ok (.List es pos) (wLstP wr) := let ⟨_, a1, a2⟩ := h; ⟨_, pe_lst a1, snd_lst a2⟩
theorem d_ix (ha : PDB X ok a wa) (hb : PDE X ok b wb) (hs : PlainIx b := by exact fun _ _ => rfl) : PDE X ok (.Subscript a b pos) (wIx wa wb) := let ⟨_, a1, a2⟩ := ha; let ⟨_, b1, b2⟩ := hb; ⟨_, pe_ix ix_seq a1 b1 hs, snd_ix a2 b2⟩
theorem d_len (hm : X.mg "len" = none) (ha : PDB X ok a wa) (hg : Gl X "len" := by rfl) (hs : starEach [a] X.env = (false, eval a X.env) :: starEach [] X.env := by rfl) (hpl : (backTo pos (starEach [] X.env)).any (·.1) = false := by rfl) :
    PDE X ok (.Call (.Name "len" p) [a] [] pos) (wLen wa) := let ⟨_, a1, a2⟩ := ha; ⟨_, pe_callB call_len_seq hg hm PySem.boot_len (pa_cons a1 pa_nil hs) (by decide) (by decide) hs hpl, snd_len a2⟩
theorem d_call {k j n : Nat} {M : WM} (h : Has X.prog X.w X.K X.mg X.base ok k x n M) (hr : Room j X.A) (hk : k ≤ j) (ha : PDA X ok (e :: es) wr) (hg : Gl X x := by rfl) (hdb : (x == ("__debug__" : Str)) = false := by decide)
    (he : starEach (e :: es) X.env = (false, eval e X.env) :: starEach es X.env := by rfl) (hpl : (backTo pos (starEach es X.env)).any (·.1) = false := by rfl) : PDE X ok (.Call (.Name x p) (e :: es) [] pos) (wCallP n M wr) :=
  let ⟨f, fd, ps, G, hm, kp, bs⟩ := h.ex; let ⟨_, a1, a2⟩ := ha; ⟨_, pe_call G (hr.mono hk) hg hm kp bs .nil pass0 a1 hdb he hpl, snd_call a2⟩
theorem l_call {k j n : Nat} {M : WM} (h : Has X.prog X.w X.K X.mg X.base ok k x n M) (hr : Room j X.A) (hk : k ≤ j) (ha : PDA X ok (e :: es) wr) (hg : Gl X x := by rfl) (hdb : (x == ("__debug__" : Str)) = false := by decide)
    (he : starEach (e :: es) X.env = (false, eval e X.env) :: starEach es X.env := by rfl) (hpl : (backTo pos (starEach es X.env)).any (·.1) = false := by rfl) : PDL X ok (.Call (.Name x p) (e :: es) [] pos) (wCallOP n M wr) :=
  let ⟨f, fd, ps, G, hm, kp, bs⟩ := h.ex; let ⟨_, a1, a2⟩ := ha; ⟨_, pe_call G (hr.mono hk) hg hm kp bs .nil pass0 a1 hdb he hpl, snd_callO a2⟩
end
/-! ### built-in calls on values -/
/-- a call of a built-in of one argument, the value read off known data -/
def CallD1 (K : PySem.W.Frag) (r : List V → Hp → VK → Prop) (f : D → (D → Prop) → Prop) : Prop := ∀ (H0 H : Hp) (x : V) (d : D) (Q : D → Prop) (R : VK), Same H0 H → Rp K H0 x d → f d Q → (∀ z v, Q z → Rp K H0 v z → R v H) → r [x] H R
def CallD2 (K : PySem.W.Frag) (r : List V → Hp → VK → Prop) (f : D → D → (D → Prop) → Prop) : Prop := ∀ (H0 H : Hp) (x y : V) (d e : D) (Q : D → Prop) (R : VK), Same H0 H → Rp K H0 x d → Rp K H0 y e → f d e Q → (∀ z v, Q z → Rp K H0 v z → R v H) → r [x, y] H R
section
variable {K : PySem.W.Frag} {ok : List D → Prop} {ta tb : TE} {wa wb : WE}
theorem snd_c1 {r : List V → Hp → VK → Prop} {f : D → (D → Prop) → Prop} (hr : CallD1 K r f) (ha : SndE K ok ta wa) : SndE K ok (tCB r (tCons ta tNil)) (wUn f wa) := fun C H0 σ H env Q R rel hw k =>
  ha C H0 σ H env _ _ rel hw fun d v H1 H01 q r1 e1 x1 => hr H01 H1 v d Q R r1.sub x1 q fun z w qz rz => k z w H1 H01 qz r1 e1 rz
theorem snd_c2 {r : List V → Hp → VK → Prop} {f : D → D → (D → Prop) → Prop} (hr : CallD2 K r f) (ha : SndE K ok ta wa) (hb : SndE K ok tb wb) : SndE K ok (tCB r (tCons ta (tCons tb tNil))) (wBin f wa wb) := fun C H0 σ H env Q R rel hw k =>
  ha C H0 σ H env _ _ rel hw fun d v H1 H01 q r1 e1 x1 => hb C H01 σ H1 env _ _ r1 q fun e u H2 H02 q2 r2 e2 x2 => hr H02 H2 v u d e Q R r2.sub (x1.mono e2) x2 q2 fun z w qz rz => k z w H2 H02 qz r2 (e1.trans e2) rz
def fAbs : D → (D → Prop) → Prop := fun d Q => match d with
  | .int i => Q (.int (if i < 0 then -i else i))
  | _ => False
def fInt : D → (D → Prop) → Prop := fun d Q => match d with
  | .int i => Q (.int i)
  | .bool k => Q (.int (if k then 1 else 0))
  | _ => False
theorem cd_abs : CallD1 K (fun xs H Q => ∃ i, xs = [.int i] ∧ Q (.int (if i < 0 then -i else i)) H) fAbs := fun H0 H x d Q R s hx q k => by
  unfold fAbs at q
  split at q
  · cases hx; exact ⟨_, rfl, k _ _ q (.int _)⟩
  · exact q.elim
theorem cd_int : CallD1 K (fun xs H Q => (∃ i, xs = [.int i] ∧ Q (.int i) H) ∨ ∃ k, xs = [.bl k] ∧ Q (.int (if k then 1 else 0)) H) fInt := fun H0 H x d Q R s hx q k => by
  unfold fInt at q
  split at q
  · cases hx; exact .inl ⟨_, rfl, k _ _ q (.int _)⟩
  · cases hx; exact .inr ⟨_, rfl, k _ _ q (.int _)⟩
  · exact q.elim
theorem cd_max2 : CallD2 K (fun xs H Q => ∃ i j, xs = [.int i, .int j] ∧ Q (.int (if j > i then j else i)) H) fMax2 := fun H0 H x y d e Q R s hx hy q k => by
  unfold fMax2 at q
  split at q
  · cases hx; cases hy; exact ⟨_, _, rfl, k _ _ q (.int _)⟩
  · exact q.elim
theorem cd_min2 : CallD2 K (fun xs H Q => ∃ i j, xs = [.int i, .int j] ∧ Q (.int (if j < i then j else i)) H) fMin2 := fun H0 H x y d e Q R s hx hy q k => by
  unfold fMin2 at q
  split at q
  · cases hx; cases hy; exact ⟨_, _, rfl, k _ _ q (.int _)⟩
  · exact q.elim
end
section
variable {X : Cx} {ok : List D → Prop} {a b c e : Expr} {es : List Expr} {wa wb wc we : WE} {wr : WA} {wl : WL} {wt wu : WT} {pos p apos : Pos} {x : Str}
theorem d_B1 {id : String} {r : List V → Hp → VK → Prop} {f : D → (D → Prop) → Prop} (hc : CallR X (.builtin id) r) (hf : CallD1 X.K r f) (hv : bootBuiltins x = some (.builtin id)) (hm : X.mg x = none) (ha : PDE X ok a wa) (hn : x ≠ "__name__" := by decide) (hdb : (x == ("__debug__" : Str)) = false := by decide) (hg : Gl X x := by rfl) (hs : starEach [a] X.env = (false, eval a X.env) :: starEach [] X.env := by rfl)
    (hpl : (backTo pos (starEach [] X.env)).any (·.1) = false := by rfl) : PDE X ok (.Call (.Name x p) [a] [] pos) (wUn f wa) := let ⟨_, a1, a2⟩ := ha; ⟨_, pe_callB hc hg hm hv (pa_cons a1 pa_nil hs) hn hdb hs hpl, snd_c1 hf a2⟩
theorem d_T1 {T : String} {r : List V → Hp → VK → Prop} {f : D → (D → Prop) → Prop} (hc : CallR X (.type T) r) (hf : CallD1 X.K r f) (hv : bootBuiltins x = some (.type T)) (hm : X.mg x = none) (ha : PDE X ok a wa) (hn : x ≠ "__name__" := by decide) (hdb : (x == ("__debug__" : Str)) = false := by decide) (hg : Gl X x := by rfl) (hs : starEach [a] X.env = (false, eval a X.env) :: starEach [] X.env := by rfl)
    (hpl : (backTo pos (starEach [] X.env)).any (·.1) = false := by rfl) : PDE X ok (.Call (.Name x p) [a] [] pos) (wUn f wa) := let ⟨_, a1, a2⟩ := ha; ⟨_, pe_callTy hc hg hm hv (pa_cons a1 pa_nil hs) hn hdb hs hpl, snd_c1 hf a2⟩
theorem d_B2 {id : String} {r : List V → Hp → VK → Prop} {f : D → D → (D → Prop) → Prop} (hc : CallR X (.builtin id) r) (hf : CallD2 X.K r f) (hv : bootBuiltins x = some (.builtin id)) (hm : X.mg x = none) (ha : PDE X ok a wa) (hb : PDE X ok b wb) (hn : x ≠ "__name__" := by decide) (hdb : (x == ("__debug__" : Str)) = false := by decide) (hg : Gl X x := by rfl)
    (hs : starEach [a, b] X.env = (false, eval a X.env) :: starEach [b] X.env := by rfl) (hs2 : starEach [b] X.env = (false, eval b X.env) :: starEach [] X.env := by rfl) (hpl : (backTo pos (starEach [b] X.env)).any (·.1) = false := by rfl) : PDE X ok (.Call (.Name x p) [a, b] [] pos) (wBin f wa wb) :=
  let ⟨_, a1, a2⟩ := ha; let ⟨_, b1, b2⟩ := hb; ⟨_, pe_callB hc hg hm hv (pa_cons a1 (pa_cons b1 pa_nil hs2) hs) hn hdb hs hpl, snd_c2 hf a2 b2⟩
/-! ### statements -/
theorem s_nil : PDSs X ok [] wNx := ⟨_, pss_nil, ss_nx⟩
theorem s_one {st : Stmt} {ws : WS} (h : PDS X ok st ws) : PDSs X ok [st] ws := let ⟨_, a, b⟩ := h; ⟨_, pss_one a, b⟩
theorem s_cons {st : Stmt} {sts : List Stmt} {ws wr : WS} (h : PDS X ok st ws) (h2 : PDSs X ok sts wr) : PDSs X ok (st :: sts) (wSeq ws wr) := let ⟨_, a, b⟩ := h; let ⟨_, c, d⟩ := h2; ⟨_, pss_cons a c, ss_seq b d⟩
theorem s_never {sts : List Stmt} : PDSs X ok sts wNever := ⟨_, pss_never, ss_never⟩
theorem s_frz (i : Nat) {st : Stmt} {ws : WS} (h : PDS X ok st ws) : PDS X ok st (wFrz i ws) := let ⟨_, a, b⟩ := h; ⟨_, a, ss_frz b⟩
theorem s_pass : PDS X ok (.Pass pos) wNx := ⟨_, ps_pass, ss_nx⟩
theorem s_break : PDS X ok (.Break pos) wBk := ⟨_, ps_break, ss_bk⟩
theorem s_continue : PDS X ok (.Continue pos) wCt := ⟨_, ps_continue, ss_ct⟩
theorem s_no {st : Stmt} : PDS X ok st wNever := ⟨_, ps_never, ss_never⟩
theorem s_set (i : Nat) {pos' : Pos} (hN : X.N.Nodup) (he : PDE X ok e we) (hi : X.N[i]? = some x := by rfl) (hx : Loc X.env.scope x := by first | exact Or.inl rfl | exact Or.inr rfl) (hs : swapsWith e (some (.Name x pos')) pos.line X.env = pure false := by rfl) (hf : X.fn x = true ∨ X.env.scope.names.lookup x = some .local := by first | exact .inl rfl | exact .inr rfl) :
    PDS X ok (.Assign [.Name x pos'] e pos) (wSet i we) := let ⟨_, a, b⟩ := he; ⟨_, ps_set hN hi hx a hs hf, ss_set b⟩
theorem s_setO (i : Nat) {pos' : Pos} (hN : X.N.Nodup) (he : PDL X ok e wl) (hi : X.N[i]? = some x := by rfl) (hx : Loc X.env.scope x := by first | exact Or.inl rfl | exact Or.inr rfl) (hs : swapsWith e (some (.Name x pos')) pos.line X.env = pure false := by rfl) (hf : X.fn x = true ∨ X.env.scope.names.lookup x = some .local := by first | exact .inl rfl | exact .inr rfl) :
    PDS X ok (.Assign [.Name x pos'] e pos) (wSetO i wl) := let ⟨_, a, b⟩ := he; ⟨_, ps_set hN hi hx a hs hf, ss_setO b⟩
theorem s_setH (i : Nat) {pos' : Pos} (hN : X.N.Nodup) (he : PDL X ok e wl) (hi : X.N[i]? = some x := by rfl) (hx : Loc X.env.scope x := by first | exact Or.inl rfl | exact Or.inr rfl) (hs : swapsWith e (some (.Name x pos')) pos.line X.env = pure false := by rfl) (hf : X.fn x = true ∨ X.env.scope.names.lookup x = some .local := by first | exact .inl rfl | exact .inr rfl) :
    PDS X ok (.Assign [.Name x pos'] e pos) (wSetH ok i wl) := let ⟨_, a, b⟩ := he; ⟨_, ps_set hN hi hx a hs hf, ss_setH b⟩
theorem s_expr (he : PDE X ok e we) (hs : swapsWith e none pos.line X.env = pure false := by rfl) : PDS X ok (.Expr e pos) (wDrop we) := let ⟨_, a, b⟩ := he; ⟨_, ps_expr a hs, ss_drop b⟩
theorem s_ret (he : PDE X ok e we) : PDS X ok (.Return (some e) pos) (wRet we) := let ⟨_, a, b⟩ := he; ⟨_, ps_ret a, ss_ret b⟩
theorem s_retO (he : PDL X ok e wl) : PDS X ok (.Return (some e) pos) (wRetO wl) := let ⟨_, a, b⟩ := he; ⟨_, ps_ret a, ss_retO b⟩
theorem s_retV (i : Nat) {pos' : Pos} (hN : X.N[i]? = some x := by rfl) (hv : Vis X.env.scope x := by first | exact Or.inl rfl | exact Or.inr (Or.inl rfl) | exact Or.inr (Or.inr rfl)) (hd : (x == ("__debug__" : Str)) = false := by decide)
    (hcd : (x == ("__classdict__" : Str)) = false := by decide) : PDS X ok (.Return (some (.Name x pos')) pos) (wRetV i) := ⟨_, ps_ret (pe_var hN hv hd hcd), ss_retV⟩
theorem s_retN : PDS X ok (.Return none pos) wRetN := ⟨_, ps_retN, ss_retN⟩
theorem s_if {sa sb : List Stmt} {wsa wsb : WS} (hc : PDT X ok c wt) (ha : PDSs X ok sa wsa) (hb : PDSs X ok sb wsb) : PDS X ok (.If c sa sb pos) (wIf wt wsa wsb) := let ⟨_, c1, c2⟩ := hc; let ⟨_, a1, a2⟩ := ha; let ⟨_, b1, b2⟩ := hb; ⟨_, ps_if c1 a1 b1, ss_if c2 a2 b2⟩
theorem s_while {body : List Stmt} {ws : WS} (hp : PassesOwn (model X.prog X.w) X.A X.env X.xe) (hc : PDT X ok c wt) (hb : PDSs X ok body ws) : PDS X ok (.While c body [] pos) (wWhile wt ws) := let ⟨_, c1, c2⟩ := hc; let ⟨_, b1, b2⟩ := hb; ⟨_, ps_while hp c1 b1, ss_while c2 b2⟩
theorem s_for {vs : List Nat} {tg iter : Expr} {body : List Stmt} {wi : WI} {wg : WG} {ws : WS} (hp : PassesOwn (model X.prog X.w) X.A X.env X.xe) (hc : X.calm = true) (hi : PDI X ok tg iter wi) (hg : PDG X ok vs tg wg) (hb : PDSs X ok body ws) (hs : ∀ x, foldedSetIterable iter X.env x = pure x := by intro _; rfl) :
    PDS X ok (.For tg iter body [] pos) (wFor wi wg ws) := let ⟨_, i1, i2⟩ := hi; let ⟨_, g1, g2⟩ := hg; let ⟨_, b1, b2⟩ := hb; ⟨_, ps_for hp hc i1 g1 b1 hs, ss_for i2 g2 b2⟩
theorem s_app (i : Nat) {mp : Pos} (hpe : PDE X ok e we) (hN : X.N[i]? = some x := by rfl) (hv : Vis X.env.scope x := by first | exact Or.inl rfl | exact Or.inr (Or.inl rfl) | exact Or.inr (Or.inr rfl)) (hd : (x == ("__debug__" : Str)) = false := by decide) (hcd : (x == ("__classdict__" : Str)) = false := by decide)
    (hbase : attributeBase (.Name x mp) "append" X.env (eval (.Name x mp) X.env) = eval (.Name x mp) X.env := by rfl)
    (hfew : ((backTo p (starEach [e] X.env)).all (fun x => !x.1) && (backToKw p (keywordEach [] X.env)).all (fun x => x.1.isSome) && decide ([e].length + ([] : List Keyword).length + (if ([] : List Keyword).isEmpty then 0 else 1) < 30)) = true := by rfl)
    (hline : (apos.endLine == p.line) = true := by rfl) (hs : starEach [e] X.env = (false, eval e X.env) :: starEach [] X.env := by rfl) (hplain : (backTo p (starEach [] X.env)).any (·.1) = false := by rfl)
    (hsw : swapsWith (.Call (.Attribute (.Name x mp) "append" apos) [e] [] p) none pos.line X.env = pure false := by rfl) :
    PDS X ok (.Expr (.Call (.Attribute (.Name x mp) "append" apos) [e] [] p) pos) (wApp i we) := let ⟨_, a, b⟩ := hpe; ⟨_, ps_expr (pe_bm PySem.F.plainAttrs_list PySem.F.slot_list_append PySem.F.type_list_append mt_append (pe_var hN hv hd hcd) (pa_cons a pa_nil hs) hbase hfew hline hs hplain) hsw, ss_app b⟩
theorem s_ext (i : Nat) {mp : Pos} (hpe : PDE X ok e we) (hN : X.N[i]? = some x := by rfl) (hv : Vis X.env.scope x := by first | exact Or.inl rfl | exact Or.inr (Or.inl rfl) | exact Or.inr (Or.inr rfl)) (hd : (x == ("__debug__" : Str)) = false := by decide) (hcd : (x == ("__classdict__" : Str)) = false := by decide)
    (hbase : attributeBase (.Name x mp) "extend" X.env (eval (.Name x mp) X.env) = eval (.Name x mp) X.env := by rfl)
    (hfew : ((backTo p (starEach [e] X.env)).all (fun x => !x.1) && (backToKw p (keywordEach [] X.env)).all (fun x => x.1.isSome) && decide ([e].length + ([] : List Keyword).length + (if ([] : List Keyword).isEmpty then 0 else 1) < 30)) = true := by rfl)
    (hline : (apos.endLine == p.line) = true := by rfl) (hs : starEach [e] X.env = (false, eval e X.env) :: starEach [] X.env := by rfl) (hplain : (backTo p (starEach [] X.env)).any (·.1) = false := by rfl)
    (hsw : swapsWith (.Call (.Attribute (.Name x mp) "extend" apos) [e] [] p) none pos.line X.env = pure false := by rfl) :
    PDS X ok (.Expr (.Call (.Attribute (.Name x mp) "extend" apos) [e] [] p) pos) (wExt i we) := let ⟨_, a, b⟩ := hpe; ⟨_, ps_expr (pe_bm PySem.F.plainAttrs_list PySem.F.slot_list_extend PySem.F.type_list_extend mt_extend (pe_var hN hv hd hcd) (pa_cons a pa_nil hs) hbase hfew hline hs hplain) hsw, ss_ext b⟩
theorem s_pop (i : Nat) {mp : Pos} (hN : X.N[i]? = some x := by rfl) (hv : Vis X.env.scope x := by first | exact Or.inl rfl | exact Or.inr (Or.inl rfl) | exact Or.inr (Or.inr rfl)) (hd : (x == ("__debug__" : Str)) = false := by decide) (hcd : (x == ("__classdict__" : Str)) = false := by decide)
    (hbase : attributeBase (.Name x mp) "pop" X.env (eval (.Name x mp) X.env) = eval (.Name x mp) X.env := by rfl) (hline : (apos.endLine == p.line) = true := by rfl)
    (hsw : swapsWith (.Call (.Attribute (.Name x mp) "pop" apos) [] [] p) none pos.line X.env = pure false := by rfl) :
    PDS X ok (.Expr (.Call (.Attribute (.Name x mp) "pop" apos) [] [] p) pos) (wPop i) := ⟨_, ps_expr (pe_bm0 PySem.F.plainAttrs_list PySem.F.slot_list_pop PySem.F.type_list_pop mt_pop (pe_var hN hv hd hcd) hbase hline) hsw, ss_pop⟩
theorem s_put (i : Nat) {tp : Pos} {ix : Expr} {mp : Pos} (he : PDE X ok e we) (hk : PDE X ok ix wa) (hN : X.N[i]? = some x := by rfl) (hv : Vis X.env.scope x := by first | exact Or.inl rfl | exact Or.inr (Or.inl rfl) | exact Or.inr (Or.inr rfl)) (hd : (x == ("__debug__" : Str)) = false := by decide) (hcd : (x == ("__classdict__" : Str)) = false := by decide)
    (hg : ∀ (to tk : TE), PE X (.Name x mp) to → PE X ix tk → PG X (.Subscript (.Name x mp) ix tp) (gSub to tk rSetL) := by exact fun _ _ h1 h2 => pg_sub h1 h2 set_list)
    (hs : swapsWithSole [.Subscript (.Name x mp) ix tp] e pos.line X.env = pure false := by rfl) (hw : swappedStores [.Subscript (.Name x mp) ix tp] e X.env = pure none := by rfl) :
    PDS X ok (.Assign [.Subscript (.Name x mp) ix tp] e pos) (wPut i wa we) := let ⟨_, e1, e2⟩ := he; let ⟨_, k1, k2⟩ := hk; ⟨_, ps_asg e1 (hg _ _ (pe_var hN hv hd hcd) k1) hs hw, ss_put e2 k2⟩
theorem s_par (i j : Nat) {y : Str} {px py pt : Pos} {kt k2 pt2} (hc : X.calm = true) (hN : X.N.Nodup) (hij : i ≠ j) (ha : PDA X ok [a, b] wr) (hi : X.N[i]? = some x := by rfl) (hj : X.N[j]? = some y := by rfl)
    (hx : X.env.scope.names.lookup x = some .local := by rfl) (hy : X.env.scope.names.lookup y = some .local := by rfl)
    (hw : swappedStores [.Tuple [.Name x px, .Name y py] kt pt] (.Tuple [a, b] k2 pt2) X.env = pure (some [x, y]) := by rfl)
    (hs : swapsWithSole [.Tuple [.Name x px, .Name y py] kt pt] (.Tuple [a, b] k2 pt2) pos.line X.env = pure false := by rfl) :
    PDS X ok (.Assign [.Tuple [.Name x px, .Name y py] kt pt] (.Tuple [a, b] k2 pt2) pos) (wPar i j wr) := let ⟨_, a1, a2⟩ := ha; ⟨_, ps_par hc hN hi hj hij hx hy a1 hw hs, ss_par a2⟩
theorem s_asg {vs : List Nat} {tg : Expr} {wg : WG} (he : PDE X ok e we) (hg : PDG X ok vs tg wg) (hs : swapsWithSole [tg] e pos.line X.env = pure false := by rfl) (hw : swappedStores [tg] e X.env = pure none := by rfl) (h1 : (assignEach [tg] X.env).map (·.2) = [assign tg X.env] := by rfl) :
    PDS X ok (.Assign [tg] e pos) (wAsg we wg) := let ⟨_, a1, a2⟩ := he; let ⟨_, b1, b2⟩ := hg; ⟨_, ps_asg a1 b1 hs hw h1, ss_asg a2 b2⟩
/-! ### targets, what is walked, comprehensions -/
theorem g_name (i : Nat) {vs : List Nat} (hN : X.N.Nodup) (hm : i ∈ vs := by decide) (hi : X.N[i]? = some x := by rfl) (hx : Loc X.env.scope x := by first | exact Or.inl rfl | exact Or.inr rfl) (hf : X.fn x = true ∨ X.env.scope.names.lookup x = some .local := by first | exact .inl rfl | exact .inr rfl) :
    PDG X ok vs (.Name x pos) (gN i) := ⟨_, pg_name hN hi hx hf, sg_name hm⟩
theorem g_tup {vs : List Nat} {k : Nat} {n : Nat} {wg : WGs} (hc : X.calm = true) (h : PDGs X ok vs es wg) (hg : ∀ t, PGs X es t → PG X (.Tuple es k pos) (gTup X.K n t)) : PDG X ok vs (.Tuple es k pos) (gT n wg) := let ⟨_, a, b⟩ := h; ⟨_, hg _ a, sg_tup b⟩
theorem g_nil {vs : List Nat} : PDGs X ok vs [] gsNil := ⟨_, pgs_nil, sgs_nil⟩
theorem i_list {tg : Expr} (h : PDE X ok e we) : PDI X ok tg e (iL we) := let ⟨_, a, b⟩ := h; ⟨_, pi_list a, si_list b⟩
theorem i_tup {tg : Expr} (h : PDE X ok e we) : PDI X ok tg e (iT we) := let ⟨_, a, b⟩ := h; ⟨_, pi_tup a, si_tup b⟩
theorem i_r1 {tg : Expr} (hm : X.mg "range" = none) (h : PDE X ok a wa) (hg : Gl X "range" := by rfl) (hs : starEach [a] X.env = [(false, eval a X.env)] := by rfl) : PDI X ok tg (.Call (.Name "range" p) [a] [] pos) (iR1 wa) := let ⟨_, a1, a2⟩ := h; ⟨_, pi_range1 hg hm (pa_cons a1 pa_nil (by exact hs)) hs, si_r1 a2⟩
theorem i_r2 {tg : Expr} (hm : X.mg "range" = none) (h : PDE X ok a wa) (h2 : PDE X ok b wb) (hg : Gl X "range" := by rfl) (hs : starEach [a, b] X.env = [(false, eval a X.env), (false, eval b X.env)] := by rfl) (hs2 : starEach [b] X.env = [(false, eval b X.env)] := by rfl) :
    PDI X ok tg (.Call (.Name "range" p) [a, b] [] pos) (iR2 wa wb) := let ⟨_, a1, a2⟩ := h; let ⟨_, b1, b2⟩ := h2; ⟨_, pi_range2 hg hm (pa_cons a1 (pa_cons b1 pa_nil (by exact hs2)) (by rw [hs2]; exact hs)) hs hs2, si_r2 a2 b2⟩
theorem l_lc {tg iter elt : Expr} {ifs : List Expr} {scope : Scope} {own : List (Str × Nat)} {wi : WI} {wg : WG} {wt : WT} {we : WE} (hc : X.calm = true) (hN : X.N.Nodup) (hi : PDI X ok tg iter wi) (ok' : BlkOk X.N X.env.scope scope own)
    (hg : ∃ g, (∀ (s : Shared) (H : Hp) (C : Addr) (cl : List (Str × Addr)) (fp : List Addr), PG (X.blk s H scope (compEnvC scope cl C X.env) fp) tg g) ∧ SndG X.K ok (own.map (·.2)) g wg)
    (ht : ∃ tt, (∀ (s : Shared) (H : Hp) (C : Addr) (cl : List (Str × Addr)) (fp : List Addr), PTs (X.blk s H scope (compEnvC scope cl C X.env) fp) ifs tt) ∧ SndT X.K ok tt wt)
    (he : ∃ te, (∀ (s : Shared) (H : Hp) (C : Addr) (cl : List (Str × Addr)) (fp : List Addr), PE (X.blk s H scope (compEnvC scope cl C X.env) fp) elt te) ∧ SndE X.K ok te we)
    (hs : ∀ x, foldedSetIterable iter X.env x = pure x := by intro _; rfl) : PDL X ok (.ListComp elt [⟨tg, iter, ifs, 0⟩] scope pos) (wLc wi wg wt we (own.map (·.2))) :=
  let ⟨_, i1, i2⟩ := hi; let ⟨_, g1, g2⟩ := hg; let ⟨_, t1, t2⟩ := ht; let ⟨_, e1, e2⟩ := he; ⟨_, pe_lc hc hN i1 ok' g1 t1 e1 hs, sl_lc i2 g2 t2 e2⟩
theorem s_setLc (i : Nat) {py spos : Pos} {y : Str} {tg iter elt : Expr} {ifs : List Expr} {scope : Scope} {own : List (Str × Nat)} {wi : WI} {wg : WG} {wt : WT} {we : WE} (hc : X.calm = true) (hN : X.N.Nodup) (hi : PDI X ok tg iter wi) (ok' : BlkOk X.N X.env.scope scope own)
    (hg : ∃ g, (∀ (s : Shared) (H : Hp) (C : Addr) (cl : List (Str × Addr)) (fp : List Addr), PG (X.blk s H scope (compEnvC scope cl C X.env) fp) tg g) ∧ SndG X.K ok (own.map (·.2)) g wg)
    (ht : ∃ tt, (∀ (s : Shared) (H : Hp) (C : Addr) (cl : List (Str × Addr)) (fp : List Addr), PTs (X.blk s H scope (compEnvC scope cl C X.env) fp) ifs tt) ∧ SndT X.K ok tt wt)
    (he : ∃ te, (∀ (s : Shared) (H : Hp) (C : Addr) (cl : List (Str × Addr)) (fp : List Addr), PE (X.blk s H scope (compEnvC scope cl C X.env) fp) elt te) ∧ SndE X.K ok te we)
    (hsw : swapsWith (.ListComp elt [⟨tg, iter, ifs, 0⟩] scope pos) (some (.Name y py)) spos.line X.env = pure true) (hy : X.N[i]? = some y := by rfl) (hyl : X.env.scope.names.lookup y = some .local := by rfl)
    (hs : ∀ x, foldedSetIterable iter X.env x = pure x := by intro _; rfl) : PDS X ok (.Assign [.Name y py] (.ListComp elt [⟨tg, iter, ifs, 0⟩] scope pos) spos) (wSetO i (wLc wi wg wt we (own.map (·.2)))) :=
  let ⟨_, i1, i2⟩ := hi; let ⟨_, g1, g2⟩ := hg; let ⟨_, t1, t2⟩ := ht; let ⟨_, e1, e2⟩ := he; ⟨_, ps_setLc hc hN hy hyl hsw i1 ok' g1 t1 e1 hs, ss_setO (sl_lc i2 g2 t2 e2)⟩
end
/-! ### defs -/
/-- the frame at the entry: the arguments, then nothing -/
def stE : List Ar → Nat → EnvD
  | [], m => List.replicate m none
  | .v d :: r, m => some (.v d) :: stE r m
  | .hnd :: r, m => some .hnd :: stE r m
section
variable {K : PySem.W.Frag} {ok : List D → Prop}
theorem stE_len : ∀ (as : List Ar) (m : Nat), (stE as m).length = as.length + m
  | [], m => by show (List.replicate m none).length = 0 + m; rw [List.length_replicate, Nat.zero_add]
  | .v d :: r, m => by show (stE r m).length + 1 = r.length + 1 + m; rw [stE_len r m]; omega
  | .hnd :: r, m => by show (stE r m).length + 1 = r.length + 1 + m; rw [stE_len r m]; omega
theorem rep_none {m i : Nat} {s : Sl} (h : (List.replicate m (none : Option Sl))[i]? = some (some s)) : False := by
  rw [List.getElem?_replicate] at h
  split at h <;> cases h
theorem stE_slot {H0 : Hp} {ha : Option Addr} : ∀ {as : List Ar} {vs : List V} {m : Nat} {i : Nat} {s : Sl}, ArgsOk K H0 ha vs as → (stE as m)[i]? = some (some s) →
    ∃ x, vs[i]? = some x ∧ ((∃ d, s = .v d ∧ Rp K H0 x d) ∨ ∃ a, s = .hnd ∧ ha = some a ∧ x = .ref a)
  | [], _, m, i, s, _, e => (rep_none e).elim
  | .v d :: r, _, m, 0, s, .cons h _, e => by
    have e' : some (some (Sl.v d)) = some (some s) := e
    cases e'
    exact ⟨_, rfl, .inl ⟨d, rfl, h⟩⟩
  | .v d :: r, _, m, i + 1, s, .cons _ t, e => by
    obtain ⟨x, h1, h2⟩ := stE_slot (m := m) (i := i) t (by have z : (stE r m)[i]? = some (some s) := (List.getElem?_cons_succ).symm.trans e; exact z)
    exact ⟨x, by rw [List.getElem?_cons_succ]; exact h1, h2⟩
  | .hnd :: r, _, m, 0, s, .hnd h _, e => by
    have e' : some (some Sl.hnd) = some (some s) := e
    cases e'
    exact ⟨_, rfl, .inr ⟨_, rfl, h, rfl⟩⟩
  | .hnd :: r, _, m, i + 1, s, .hnd _ t, e => by
    obtain ⟨x, h1, h2⟩ := stE_slot (m := m) (i := i) t (by have z : (stE r m)[i]? = some (some s) := (List.getElem?_cons_succ).symm.trans e; exact z)
    exact ⟨x, by rw [List.getElem?_cons_succ]; exact h1, h2⟩
/-- at most one handle among the parameters: asked of the arguments -/
theorem stE_plain : ∀ {as : List Ar} {m i : Nat}, plainA as = true → (stE as m)[i]? ≠ some (some .hnd)
  | [], m, i, _ => fun e => rep_none e
  | .v d :: r, m, 0, _ => fun e => by have e' : some (some (Sl.v d)) = some (some Sl.hnd) := e; cases e'
  | .v d :: r, m, i + 1, p => fun e => stE_plain (as := r) (m := m) (i := i) p ((List.getElem?_cons_succ).symm.trans e)
  | .hnd :: r, m, i, p => by cases p
theorem stE_one : ∀ {as : List Ar} {m i j : Nat}, oneH as = true → (stE as m)[i]? = some (some .hnd) → (stE as m)[j]? = some (some .hnd) → i = j
  | [], m, i, j, _, e, _ => (rep_none e).elim
  | .v d :: r, m, 0, _, _, e, _ => by have e' : some (some (Sl.v d)) = some (some Sl.hnd) := e; cases e'
  | .v d :: r, m, i + 1, 0, _, _, e => by have e' : some (some (Sl.v d)) = some (some Sl.hnd) := e; cases e'
  | .v d :: r, m, i + 1, j + 1, p, e, f => by rw [stE_one (as := r) (m := m) (i := i) (j := j) p ((List.getElem?_cons_succ).symm.trans e) ((List.getElem?_cons_succ).symm.trans f)]
  | .hnd :: r, m, 0, 0, _, _, _ => rfl
  | .hnd :: r, m, i + 1, _, p, e, _ => (stE_plain (as := r) (m := m) (i := i) p ((List.getElem?_cons_succ).symm.trans e)).elim
  | .hnd :: r, m, 0, j + 1, p, _, e => (stE_plain (as := r) (m := m) (i := j) p ((List.getElem?_cons_succ).symm.trans e)).elim
end
section
variable {P : Program} {w : World} {K : PySem.W.Frag} {mg : Str → Option Value} {base : Heap} {ok : List D → Prop}
theorem rel_start {H0 H : Hp} {ha : Option Addr} {as : List Ar} {vs : List V} {m : Nat} (s0 : Same H0 H) (h : ArgsOk K H0 ha vs as) (hl : vs.length = as.length) (h1 : oneH as = true) (hv : ∀ a, ha = some a → ∃ ds, OwnAt K H0 H a ds ∧ ok ds) :
    Rel K ok ⟨H, H0, ha, fun _ => none⟩ H0 (vs.map some ++ List.replicate m none) H (stE as m) := by
  have look : ∀ {i : Nat} {x : V}, vs[i]? = some x → (vs.map some ++ List.replicate m none)[i]? = some (some x) := fun {i x} e => by
    have lt := (List.getElem?_eq_some_iff.mp e).1
    rw [List.getElem?_append_left (by rw [List.length_map]; exact lt), List.getElem?_map, e]
    rfl
  refine ⟨s0, Same.refl _, fun b o e => .inl e, fun b o e _ => e, fun a z => ?_, ?_, fun i s e => ?_, fun i j s t p hij hs ht os ot e1 e2 => ?_, fun b o z => (nomatch z), fun _ _ _ _ _ _ => rfl, fun _ _ => rfl, fun b o z => (nomatch z)⟩
  · obtain ⟨ds, o, k⟩ := hv a z
    obtain ⟨ws, hp⟩ := o.is
    exact ⟨⟨_, hp⟩, ds, o, k⟩
  · rw [stE_len, List.length_append, List.length_map, List.length_replicate, hl]
  · obtain ⟨x, h1, h2⟩ := stE_slot h e
    rw [look h1]
    rcases h2 with ⟨d, rfl, r⟩ | ⟨a, rfl, z, rfl⟩
    · exact ⟨x, rfl, r⟩
    · obtain ⟨ds, o, k⟩ := hv a z
      exact ⟨a, ds, rfl, .inl z, o, k⟩
  · obtain ⟨x, x1, x2⟩ := stE_slot h hs
    obtain ⟨y, y1, y2⟩ := stE_slot h ht
    rcases x2 with ⟨d, rfl, _⟩ | ⟨a, rfl, _, _⟩
    · cases os
    rcases y2 with ⟨d, rfl, _⟩ | ⟨a', rfl, _, _⟩
    · cases ot
    exact hij (stE_one h1 hs ht)
/-- THE RULE for a def: its body by the rules; what the body asks follows from the promise -/
theorem def_ok {x qual : Str} {st : Stmt} {f : Addr} {fd : FuncData} {N ps : List Str} {k n : Nat} {M : WM} {ws : WS} (F : Fun K x qual st f fd) (S : FnScope N ps (defScope st)) (hn : ps.length = n)
    (hb : ∀ (cdv : Value) (A : Around) (outer : List Env) (s : Shared) (H : Hp) (E : XK), Room k (A.deeper (PyProof.Rows.envOfC qual (defScope st) s.heap.objs.size f cdv)) → PDSs (cxOf CX0 P w K mg base N qual (defScope st) f cdv A outer s H E).nox ok (defBody st) ws)
    (hM : ∀ as Q, as.length = n → M as Q → ws { nx := fun _ => Q (.v .none), rt := Q } (stE as (N.length - n))) : FnOk P w K mg base CX0 (k + 1) f fd ps (SpD K ok n M) := by
  refine F.ok S (fun vs H Q E h => ?_) (fun cdv A outer s H vs Q E hr h => ?_)
  · obtain ⟨H0, ha, as, Q', h1, h2, _⟩ := h
    rw [h2, hn]
  · obtain ⟨H0, ha, as, Q', h1, h2, one, s0, hargs, hv, hMQ, k0⟩ := h
    obtain ⟨ts, p, snd⟩ := hb cdv A outer s H E hr
    refine ⟨ts, p, ?_⟩
    have rel : Rel K ok ⟨H, H0, ha, fun _ => none⟩ H0 (L2.start N vs) H (stE as (N.length - n)) := by
      have z := rel_start (ok := ok) (m := N.length - n) s0 hargs (by rw [h2, h1]) one hv
      unfold L2.start
      rw [h2]
      exact z
    have post : ∀ {r : Rt} {v : V} {σ' : L2.St} {H' H01 : Hp} {env' : EnvD}, Rel K ok ⟨H, H0, ha, fun _ => none⟩ H01 σ' H' env' → Q' r → RetOk K H H01 H' v r → Q v H' := fun {r v σ' H' H01 env'} R q rr =>
      k0 v H' r H01 q ⟨R.grow, R.sub, R.new, R.fr, fun a z => (R.hv a z).2, rr⟩
    exact snd _ H0 _ H _ _ _ rel (hM as Q' h1 hMQ) ⟨fun env' σ' H' H01 e R q => post (r := .v .none) R q .non, fun r v σ' H' H01 env' e R q rr => post R q rr, fun _ _ _ _ _ _ q => q.elim, fun _ _ _ _ _ _ q => q.elim⟩
end
end DL
/-! DL, part e: lists and tuples: sums, products, slices, sorted, sum, all, any, truth. -/
namespace DL
open PySem L2

abbrev WO := EnvD → (Option Int → Prop) → Prop
def SndO (K : PySem.W.Frag) (ok : List D → Prop) (to : TO) (wo : WO) : Prop := ∀ (C : Ctx) (H0 : Hp) (σ : L2.St) (H : Hp) (env : EnvD) (Q : Option Int → Prop) (R : Option Int → Hp → Prop), Rel K ok C H0 σ H env → wo env Q →
  (∀ o H1 H01, Q o → Rel K ok C H01 σ H1 env → Same H0 H01 → R o H1) → to σ H R
def PDO (X : Cx) (ok : List D → Prop) (e : Option Expr) (wo : WO) : Prop := ∃ to, PO X e to ∧ SndO X.K ok to wo
def woN : WO := fun _ Q => Q none
def woS (a : WE) : WO := fun env Q => a env fun x => match x with
  | .int i => Q (some i)
  | _ => False
def cutD {α : Type} (xs : List α) (lo hi : Option Int) : List α := (xs.drop (HT.sIx xs.length 0 lo)).take (HT.sIx xs.length xs.length hi - HT.sIx xs.length 0 lo)
/-- xs[a:b], a list -/
def wSlL (a : WE) (lo hi : WO) : WL := fun env Q => a env fun x => lo env fun l => hi env fun u => match x with
  | .list ds => Q (cutD ds l u)
  | _ => False
def wSlT (a : WE) (lo hi : WO) : WE := fun env Q => a env fun x => lo env fun l => hi env fun u => match x with
  | .tuple ds => Q (.tuple (cutD ds l u))
  | _ => False
def wCat (a b : WE) : WL := fun env Q => a env fun x => b env fun y => match x, y with
  | .list ds, .list es => ds.length + es.length < 1000000 ∧ Q (ds ++ es)
  | _, _ => False
def wRep (a b : WE) : WL := fun env Q => a env fun x => b env fun y => match x, y with
  | .list ds, .int k => k < 1000000 ∧ -1000000 < k ∧ ds.length * k.toNat < 1000000 ∧ Q (List.replicate k.toNat ds).flatten
  | _, _ => False
def wCatT (a b : WE) : WE := fun env Q => a env fun x => b env fun y => match x, y with
  | .tuple ds, .tuple es => ds.length + es.length < 1000000 ∧ Q (.tuple (ds ++ es))
  | _, _ => False
/-- list(x) -/
def wListOf (a : WE) : WL := fun env Q => a env fun x => match x with
  | .list ds => Q ds
  | .tuple ds => Q ds
  | .dict [(.none, .list ds)] => Q ds
  | _ => False
def wTupOf (a : WE) : WE := fun env Q => a env fun x => match x with
  | .list ds => Q (.tuple ds)
  | .tuple ds => Q (.tuple ds)
  | _ => False
/-- sum, max, min, sorted of a list of ints; all, any of a list of truth values: the ints told -/
def wSum (a : WE) : WE := fun env Q => a env fun x => ∃ ns, x = .list (dints ns) ∧ Q (.int ns.sum)
def wAll (a : WE) : WE := fun env Q => a env fun x => ∃ bs : List Bool, x = .list (bs.map PyData.bool) ∧ Q (.bool (bs.all id))
def wAny (a : WE) : WE := fun env Q => a env fun x => ∃ bs : List Bool, x = .list (bs.map PyData.bool) ∧ Q (.bool (bs.any id))
def wMaxL (a : WE) : WE := fun env Q => a env fun x => ∃ ns : List Int, x = .list (dints ns) ∧ 0 < ns.length ∧ ∀ m, m ∈ ns → (∀ y, y ∈ ns → y ≤ m) → Q (.int m)
def wMinL (a : WE) : WE := fun env Q => a env fun x => ∃ ns : List Int, x = .list (dints ns) ∧ 0 < ns.length ∧ ∀ m, m ∈ ns → (∀ y, y ∈ ns → m ≤ y) → Q (.int m)
def wSortI (a : WE) : WL := fun env Q => a env fun x => ∃ ns : List Int, x = .list (dints ns) ∧ ∀ ns' : List Int, ns'.Perm ns → ns'.Pairwise (· ≤ ·) → Q (dints ns')
/-- truth of a value: None, a truth value, an int, a list, a tuple -/
def wTru (a : WE) : WT := fun env Q => a env fun x => match x with
  | .none => Q false
  | .bool b => Q b
  | .int i => Q (i != 0)
  | .list ds => Q (!ds.isEmpty)
  | .tuple ds => Q (!ds.isEmpty)
  | _ => False
section
variable {K : PySem.W.Frag} {ok : List D → Prop} {ta tb te : TE} {wa wb we : WE} {t u : TT} {wt wu : WT}
theorem so_n : SndO K ok tNoPart woN := fun C H0 σ H env Q R rel hw k => k _ H H0 hw rel (Same.refl _)
theorem so_s (ha : SndE K ok ta wa) : SndO K ok (tPart ta) (woS wa) := fun C H0 σ H env Q R rel hw k => ha C H0 σ H env _ _ rel hw fun d v H1 H01 q r1 e1 x1 => by
  try dsimp only at q
  split at q
  · cases x1; exact ⟨_, rfl, k _ H1 H01 q r1 e1⟩
  · exact q.elim
theorem Rps.cut {H : Hp} {vs : List V} {ds : List D} {lo hi : Option Int} (r : Rps K H vs ds) : Rps K H (cutV vs lo hi) (cutD ds lo hi) := by
  unfold cutV cutD
  rw [r.length]
  exact (r.drop _).take _
theorem sl_sl {tl th : TO} {lo hi : WO} (ha : SndB K ok ta wa) (hl : SndO K ok tl lo) (hh : SndO K ok th hi) : SndL K ok (tSl (rSlL K) ta tl th) (wSlL wa lo hi) := fun C H0 σ H env Q R rel hw k =>
  ha C H0 σ H env _ _ rel hw fun d v H1 H01 q r1 e1 x1 => hl C H01 σ H1 env _ _ r1 q fun l H2 H02 q2 r2 e2 => hh C H02 σ H2 env _ _ r2 q2 fun u H3 H03 q3 r3 e3 => by
    try dsimp only at q3
    split at q3
    · rename_i ds
      obtain ⟨p, vs, rfl, r, h⟩ := (x1 H3 H03 r3 (e2.trans e3)).seq r3.sub (.inl rfl)
      rcases h with ⟨_, h⟩ | ⟨h, _⟩
      · exact ⟨p, vs, rfl, SqL.of h, fun p' np => k _ _ _ _ q3 (r3.laid0 np) ((e1.trans e2).trans e3) ⟨r3.fresh np, ⟨r3.sub.free np, _, upd_same, r.cut⟩, r3.noslot np, r3.kp.free np⟩⟩
      · cases h
    · exact q3.elim
theorem cut_whole {α : Type} {xs : List α} {lo hi : Option Int} (h : HT.sIx xs.length 0 lo = 0 ∧ HT.sIx xs.length xs.length hi = xs.length) : cutD xs lo hi = xs := by
  unfold cutD
  rw [h.1, h.2]
  simp
theorem se_slT {tl th : TO} {lo hi : WO} (ha : SndE K ok ta wa) (hl : SndO K ok tl lo) (hh : SndO K ok th hi) : SndE K ok (tSl (rSlA K) ta tl th) (wSlT wa lo hi) := fun C H0 σ H env Q R rel hw k =>
  ha C H0 σ H env _ _ rel hw fun d v H1 H01 q r1 e1 x1 => hl C H01 σ H1 env _ _ r1 q fun l H2 H02 q2 r2 e2 => hh C H02 σ H2 env _ _ r2 q2 fun u H3 H03 q3 r3 e3 => by
    try dsimp only at q3
    split at q3
    · cases x1 with
      | tup h r =>
        rename_i a xs
        have r' := r.mono (e2.trans e3)
        refine ⟨a, xs, rfl, Same.tup (Same.trans (Same.trans e2 e3) r3.sub) h, fun hw => ?_, fun hw p np => ?_⟩
        · refine k _ _ H3 H03 q3 r3 ((e1.trans e2).trans e3) (.tup (Same.tup (e2.trans e3) h) ?_)
          rw [r.length] at hw
          rw [cut_whole hw]
          exact r'
        · obtain ⟨r4, e4⟩ := r3.laid (o := .tup (cutV xs l u)) np
          exact k _ _ _ _ q3 r4 (((e1.trans e2).trans e3).trans e4) (.tup (SqT.of upd_same) ((r'.cut).mono e4))
    · exact q3.elim
theorem Bor.lst {H0 H : Hp} {v : V} {ds : List D} (s : Same H0 H) (h : Bor K H0 H v (.list ds)) : ∃ p vs, v = .ref p ∧ Rps K H0 vs ds ∧ H p = some (.lst vs) := by
  obtain ⟨p, vs, e, r, h⟩ := h.seq s (.inl rfl)
  rcases h with ⟨_, h⟩ | ⟨h, _⟩
  · exact ⟨p, vs, e, r, h⟩
  · cases h
theorem sl_cat (ha : SndB K ok ta wa) (hb : SndB K ok tb wb) : SndL K ok (tOp rCat ta tb) (wCat wa wb) := fun C H0 σ H env Q R rel hw k =>
  ha C H0 σ H env _ _ rel hw fun d v H1 H01 q r1 e1 x1 => hb C H01 σ H1 env _ _ r1 q fun e u H2 H02 q2 r2 e2 x2 => by
    try dsimp only at q2
    split at q2
    · obtain ⟨p, vs, rfl, r, h⟩ := (x1 H2 H02 r2 e2).lst r2.sub
      obtain ⟨p', vs', rfl, r', h'⟩ := (x2 H2 H02 r2 (Same.refl _)).lst r2.sub
      exact ⟨p, p', vs, vs', rfl, rfl, h, h', by rw [r.length, r'.length]; exact Nat.le_of_lt (lt_size q2.1), fun q np => k _ _ _ _ q2.2 (r2.laid0 np) (e1.trans e2) ⟨r2.fresh np, ⟨r2.sub.free np, _, upd_same, r.append r'⟩, r2.noslot np, r2.kp.free np⟩⟩
    · exact q2.elim
theorem sl_rep (ha : SndB K ok ta wa) (hb : SndE K ok tb wb) : SndL K ok (tOp rRep ta tb) (wRep wa wb) := fun C H0 σ H env Q R rel hw k =>
  ha C H0 σ H env _ _ rel hw fun d v H1 H01 q r1 e1 x1 => hb C H01 σ H1 env _ _ r1 q fun e u H2 H02 q2 r2 e2 x2 => by
    try dsimp only at q2
    split at q2
    · obtain ⟨p, vs, rfl, r, h⟩ := (x1 H2 H02 r2 e2).lst r2.sub
      cases x2
      exact ⟨p, _, vs, rfl, rfl, h, by omega, by omega, by rw [r.length]; exact Nat.le_of_lt (lt_size q2.2.2.1), fun q np => k _ _ _ _ q2.2.2.2 (r2.laid0 np) (e1.trans e2) ⟨r2.fresh np, ⟨r2.sub.free np, _, upd_same, r.rep _⟩, r2.noslot np, r2.kp.free np⟩⟩
    · exact q2.elim
theorem se_catT (ha : SndE K ok ta wa) (hb : SndE K ok tb wb) : SndE K ok (tOp (rCatA K) ta tb) (wCatT wa wb) := fun C H0 σ H env Q R rel hw k =>
  ha C H0 σ H env _ _ rel hw fun d v H1 H01 q r1 e1 x1 => hb C H01 σ H1 env _ _ r1 q fun e u H2 H02 q2 r2 e2 x2 => by
    try dsimp only at q2
    split at q2
    · cases x1 with
      | tup h r =>
        cases x2 with
        | tup h' r' =>
          have h2 := Same.tup e2 h
          have rr := r.mono e2
          refine ⟨_, _, _, _, rfl, rfl, Same.tup r2.sub h2, Same.tup r2.sub h', by rw [r.length, r'.length]; exact Nat.le_of_lt (lt_size q2.1), fun z => ?_, fun z z2 => ?_, fun _ _ p np => ?_⟩
          · subst z
            refine k _ _ H2 H02 q2.2 r2 (e1.trans e2) (.tup h' ?_)
            have l := r.length
            rw [List.eq_nil_of_length_eq_zero l.symm]
            exact r'
          · subst z2
            refine k _ _ H2 H02 q2.2 r2 (e1.trans e2) (.tup h2 ?_)
            have l := r'.length
            rw [List.eq_nil_of_length_eq_zero l.symm, List.append_nil]
            exact rr
          · obtain ⟨r4, e4⟩ := r2.laid (o := .tup (_ ++ _)) np
            exact k _ _ _ _ q2.2 r4 ((e1.trans e2).trans e4) (.tup (SqT.of upd_same) ((rr.append r').mono e4))
    · exact q2.elim
theorem sl_listOf (ha : SndB K ok ta wa) : SndL K ok (tCB (fun xs H Q => ∃ p ys, xs = [.ref p] ∧ (SqL K H p ys ∨ SqT K H p ys) ∧ ∀ l, H l = none → Q (.ref l) (upd H l (.lst ys))) (tCons ta tNil)) (wListOf wa) := fun C H0 σ H env Q R rel hw k =>
  ha C H0 σ H env _ _ rel hw fun d v H1 H01 q r1 e1 x1 => by
    have b := x1 H1 H01 r1 (Same.refl _)
    try dsimp only at q
    split at q
    · obtain ⟨p, vs, rfl, r, h⟩ := b.lst r1.sub
      exact ⟨p, vs, rfl, .inl (SqL.of h), fun l nl => k _ _ _ _ q (r1.laid0 nl) e1 ⟨r1.fresh nl, ⟨r1.sub.free nl, _, upd_same, r⟩, r1.noslot nl, r1.kp.free nl⟩⟩
    · obtain ⟨p, vs, rfl, r, h⟩ := b.seq r1.sub (.inr rfl)
      rcases h with ⟨h, _⟩ | ⟨_, h⟩
      · cases h
      · exact ⟨p, vs, rfl, .inr h, fun l nl => k _ _ _ _ q (r1.laid0 nl) e1 ⟨r1.fresh nl, ⟨r1.sub.free nl, _, upd_same, r⟩, r1.noslot nl, r1.kp.free nl⟩⟩
    · rcases b with h | ⟨_, _, _, h, _⟩
      · cases h with
        | @scr a ns h => exact ⟨a, _, rfl, .inl (r1.sub.seq h), fun l nl => k _ _ _ _ q (r1.laid0 nl) e1 ⟨r1.fresh nl, ⟨r1.sub.free nl, _, upd_same, Rps.of_ints ns⟩, r1.noslot nl, r1.kp.free nl⟩⟩
      · cases h
    · exact q.elim
theorem se_tupOf (ha : SndB K ok ta wa) : SndE K ok (tCB (fun xs H Q => ∃ p ys, xs = [.ref p] ∧ ((SqL K H p ys ∧ ∀ l, H l = none → Q (.ref l) (upd H l (.tup ys))) ∨ (SqT K H p ys ∧ Q (.ref p) H))) (tCons ta tNil)) (wTupOf wa) := fun C H0 σ H env Q R rel hw k =>
  ha C H0 σ H env _ _ rel hw fun d v H1 H01 q r1 e1 x1 => by
    have b := x1 H1 H01 r1 (Same.refl _)
    try dsimp only at q
    split at q
    · obtain ⟨p, vs, rfl, r, h⟩ := b.lst r1.sub
      refine ⟨p, vs, rfl, .inl ⟨SqL.of h, fun l nl => ?_⟩⟩
      obtain ⟨r4, e4⟩ := r1.laid (o := .tup vs) nl
      exact k _ _ _ _ q r4 (e1.trans e4) (.tup (SqT.of upd_same) (r.mono e4))
    · rcases b with h | ⟨_, _, _, h, _⟩
      · cases h with
        | tup h r => exact ⟨_, _, rfl, .inr ⟨Same.tup r1.sub h, k _ _ _ _ q r1 e1 (.tup h r)⟩⟩
      · cases h
    · exact q.elim
theorem Bor.ints {H0 H : Hp} {v : V} {ns : List Int} (s : Same H0 H) (h : Bor K H0 H v (.list (dints ns))) : ∃ p, v = .ref p ∧ SqL K H p (ns.map V.int) := by
  obtain ⟨p, vs, e, r, h⟩ := h.lst s
  rw [r.ints_inv] at h
  exact ⟨p, e, SqL.of h⟩
theorem se_sum (ha : SndB K ok ta wa) : SndE K ok (tCB (rSum K) (tCons ta tNil)) (wSum wa) := fun C H0 σ H env Q R rel hw k =>
  ha C H0 σ H env _ _ rel hw fun d v H1 H01 q r1 e1 x1 => by
    obtain ⟨ns, rfl, q⟩ := q
    obtain ⟨p, rfl, h⟩ := (x1 H1 H01 r1 (Same.refl _)).ints r1.sub
    exact ⟨p, ns, rfl, h, k _ _ _ _ q r1 e1 (.int _)⟩
theorem se_maxL (ha : SndB K ok ta wa) : SndE K ok (tCB (rMax K) (tCons ta tNil)) (wMaxL wa) := fun C H0 σ H env Q R rel hw k =>
  ha C H0 σ H env _ _ rel hw fun d v H1 H01 q r1 e1 x1 => by
    obtain ⟨ns, rfl, l, q⟩ := q
    obtain ⟨p, rfl, h⟩ := (x1 H1 H01 r1 (Same.refl _)).ints r1.sub
    exact ⟨p, ns, rfl, h, l, fun m hm hl => k _ _ _ _ (q m hm hl) r1 e1 (.int _)⟩
theorem se_minL (ha : SndB K ok ta wa) : SndE K ok (tCB (rMin K) (tCons ta tNil)) (wMinL wa) := fun C H0 σ H env Q R rel hw k =>
  ha C H0 σ H env _ _ rel hw fun d v H1 H01 q r1 e1 x1 => by
    obtain ⟨ns, rfl, l, q⟩ := q
    obtain ⟨p, rfl, h⟩ := (x1 H1 H01 r1 (Same.refl _)).ints r1.sub
    exact ⟨p, ns, rfl, h, l, fun m hm hl => k _ _ _ _ (q m hm hl) r1 e1 (.int _)⟩
theorem sl_sortI (ha : SndB K ok ta wa) : SndL K ok (tCB (rSortedI K) (tCons ta tNil)) (wSortI wa) := fun C H0 σ H env Q R rel hw k =>
  ha C H0 σ H env _ _ rel hw fun d v H1 H01 q r1 e1 x1 => by
    obtain ⟨ns, rfl, q⟩ := q
    obtain ⟨p, rfl, h⟩ := (x1 H1 H01 r1 (Same.refl _)).ints r1.sub
    exact ⟨p, ns, rfl, h, fun ns' l hp hs nl => k _ _ _ _ (q ns' hp hs) (r1.laid0 nl) e1 ⟨r1.fresh nl, ⟨r1.sub.free nl, _, upd_same, Rps.of_ints ns'⟩, r1.noslot nl, r1.kp.free nl⟩⟩
theorem se_all (ha : SndB K ok ta wa) : SndE K ok (tCB (rAll K) (tCons ta tNil)) (wAll wa) := fun C H0 σ H env Q R rel hw k =>
  ha C H0 σ H env _ _ rel hw fun d v H1 H01 q r1 e1 x1 => by
    obtain ⟨bs, rfl, q⟩ := q
    obtain ⟨p, vs, rfl, r, h⟩ := (x1 H1 H01 r1 (Same.refl _)).lst r1.sub
    rw [r.bools_inv] at h
    exact ⟨p, bs, rfl, SqL.of h, k _ _ _ _ q r1 e1 (.bl _)⟩
theorem se_any (ha : SndB K ok ta wa) : SndE K ok (tCB (rAny K) (tCons ta tNil)) (wAny wa) := fun C H0 σ H env Q R rel hw k =>
  ha C H0 σ H env _ _ rel hw fun d v H1 H01 q r1 e1 x1 => by
    obtain ⟨bs, rfl, q⟩ := q
    obtain ⟨p, vs, rfl, r, h⟩ := (x1 H1 H01 r1 (Same.refl _)).lst r1.sub
    rw [r.bools_inv] at h
    exact ⟨p, bs, rfl, SqL.of h, k _ _ _ _ q r1 e1 (.bl _)⟩
theorem st_tru (ha : SndB K ok ta wa) : SndT K ok (fun σ H Q => ta σ H fun x H' => ∃ k, TruV K x H' k ∧ Q k H') (wTru wa) := fun C H0 σ H env Q R rel hw k =>
  ha C H0 σ H env _ _ rel hw fun d v H1 H01 q r1 e1 x1 => by
    have b := x1 H1 H01 r1 (Same.refl _)
    have simple : ∀ {d : D}, (∀ ds, d ≠ .list ds) → Bor K H01 H1 v d → Rp K H01 v d := fun {d} n b => by
      rcases b with h | ⟨_, ds, _, h, _⟩
      · exact h
      · exact (n ds h).elim
    try dsimp only at q
    split at q
    · cases simple (fun _ => by simp) b; exact ⟨false, rfl, k _ H1 H01 q r1 e1⟩
    · cases simple (fun _ => by simp) b; exact ⟨_, rfl, k _ H1 H01 q r1 e1⟩
    · cases simple (fun _ => by simp) b; exact ⟨_, rfl, k _ H1 H01 q r1 e1⟩
    · rename_i ds
      obtain ⟨p, vs, rfl, r, h⟩ := b.lst r1.sub
      refine ⟨!ds.isEmpty, .inl ⟨vs, SqL.of h, ?_⟩, k _ H1 H01 q r1 e1⟩
      have l := r.length
      cases vs <;> cases ds <;> first | rfl | (simp at l)
    · rename_i ds
      cases simple (fun _ => by simp) b with
      | @tup a vs _ h r =>
        refine ⟨!ds.isEmpty, .inr (.inl ⟨vs, Same.tup r1.sub h, ?_⟩), k _ H1 H01 q r1 e1⟩
        have l := r.length
        cases vs <;> cases ds <;> first | rfl | (simp at l)
    · exact q.elim
end
section
variable {X : Cx} {ok : List D → Prop} {a b c e : Expr} {es : List Expr} {wa wb wc we : WE} {wr : WA} {wl : WL} {wt wu : WT} {pos p p2 apos : Pos} {x : Str}
theorem o_n : PDO X ok none woN := ⟨_, po_none, so_n⟩
theorem o_s (h : PDE X ok e we) : PDO X ok (some e) (woS we) := let ⟨_, a, b⟩ := h; ⟨_, po_some a, so_s b⟩
theorem l_sl {lo hi : Option Expr} {wlo whi : WO} (ha : PDB X ok a wa) (hl : PDO X ok lo wlo) (hh : PDO X ok hi whi) : PDL X ok (.Subscript a (.Slice lo hi none p2) pos) (wSlL wa wlo whi) := let ⟨_, a1, a2⟩ := ha; let ⟨_, b1, b2⟩ := hl; let ⟨_, c1, c2⟩ := hh; ⟨_, pe_slice sl_list a1 b1 c1, sl_sl a2 b2 c2⟩
theorem d_slT {lo hi : Option Expr} {wlo whi : WO} (ha : PDE X ok a wa) (hl : PDO X ok lo wlo) (hh : PDO X ok hi whi) : PDE X ok (.Subscript a (.Slice lo hi none p2) pos) (wSlT wa wlo whi) := let ⟨_, a1, a2⟩ := ha; let ⟨_, b1, b2⟩ := hl; let ⟨_, c1, c2⟩ := hh; ⟨_, pe_slice sl_tupA a1 b1 c1, se_slT a2 b2 c2⟩
theorem l_cat (ha : PDB X ok a wa) (hb : PDB X ok b wb) : PDL X ok (.BinOp a .Add b pos) (wCat wa wb) := let ⟨_, a1, a2⟩ := ha; let ⟨_, b1, b2⟩ := hb; ⟨_, pe_op op_cat a1 b1, sl_cat a2 b2⟩
theorem l_rep (ha : PDB X ok a wa) (hb : PDE X ok b wb) : PDL X ok (.BinOp a .Mult b pos) (wRep wa wb) := let ⟨_, a1, a2⟩ := ha; let ⟨_, b1, b2⟩ := hb; ⟨_, pe_op op_rep a1 b1, sl_rep a2 b2⟩
theorem d_catT (ha : PDE X ok a wa) (hb : PDE X ok b wb) : PDE X ok (.BinOp a .Add b pos) (wCatT wa wb) := let ⟨_, a1, a2⟩ := ha; let ⟨_, b1, b2⟩ := hb; ⟨_, pe_op op_catA a1 b1, se_catT a2 b2⟩
theorem t_tru (ha : PDB X ok a wa) (he : ∀ whole, isTrue a X.env whole = (do let v ← whole; standAt a.pos; holding [v] (truthy v)) := by intro _; rfl) : PDT X ok a (wTru wa) := let ⟨_, a1, a2⟩ := ha; ⟨_, pt_truth a1 he, st_tru a2⟩
theorem l_listOf (hm : X.mg "list" = none) (ha : PDB X ok a wa) (hg : Gl X "list" := by rfl) (hs : starEach [a] X.env = (false, eval a X.env) :: starEach [] X.env := by rfl) (hpl : (backTo pos (starEach [] X.env)).any (·.1) = false := by rfl) :
    PDL X ok (.Call (.Name "list" p) [a] [] pos) (wListOf wa) := let ⟨_, a1, a2⟩ := ha; ⟨_, pe_callTy call_list_of hg hm (by decide +kernel) (pa_cons a1 pa_nil hs) (by decide) (by decide) hs hpl, sl_listOf a2⟩
theorem d_tupOf (hm : X.mg "tuple" = none) (ha : PDB X ok a wa) (hg : Gl X "tuple" := by rfl) (hs : starEach [a] X.env = (false, eval a X.env) :: starEach [] X.env := by rfl) (hpl : (backTo pos (starEach [] X.env)).any (·.1) = false := by rfl) :
    PDE X ok (.Call (.Name "tuple" p) [a] [] pos) (wTupOf wa) := let ⟨_, a1, a2⟩ := ha; ⟨_, pe_callTy call_tuple_of hg hm (by decide +kernel) (pa_cons a1 pa_nil hs) (by decide) (by decide) hs hpl, se_tupOf a2⟩
theorem d_sum (hc : X.calm = true) (hm : X.mg "sum" = none) (ha : PDB X ok a wa) (hg : Gl X "sum" := by rfl) (hs : starEach [a] X.env = (false, eval a X.env) :: starEach [] X.env := by rfl) (hpl : (backTo pos (starEach [] X.env)).any (·.1) = false := by rfl) :
    PDE X ok (.Call (.Name "sum" p) [a] [] pos) (wSum wa) := let ⟨_, a1, a2⟩ := ha; ⟨_, pe_callB (cr_sum hc) hg hm (by decide +kernel) (pa_cons a1 pa_nil hs) (by decide) (by decide) hs hpl, se_sum a2⟩
theorem d_maxL (hc : X.calm = true) (hm : X.mg "max" = none) (ha : PDB X ok a wa) (hg : Gl X "max" := by rfl) (hs : starEach [a] X.env = (false, eval a X.env) :: starEach [] X.env := by rfl) (hpl : (backTo pos (starEach [] X.env)).any (·.1) = false := by rfl) :
    PDE X ok (.Call (.Name "max" p) [a] [] pos) (wMaxL wa) := let ⟨_, a1, a2⟩ := ha; ⟨_, pe_callB (cr_max hc) hg hm (by decide +kernel) (pa_cons a1 pa_nil hs) (by decide) (by decide) hs hpl, se_maxL a2⟩
theorem d_minL (hc : X.calm = true) (hm : X.mg "min" = none) (ha : PDB X ok a wa) (hg : Gl X "min" := by rfl) (hs : starEach [a] X.env = (false, eval a X.env) :: starEach [] X.env := by rfl) (hpl : (backTo pos (starEach [] X.env)).any (·.1) = false := by rfl) :
    PDE X ok (.Call (.Name "min" p) [a] [] pos) (wMinL wa) := let ⟨_, a1, a2⟩ := ha; ⟨_, pe_callB (cr_min hc) hg hm (by decide +kernel) (pa_cons a1 pa_nil hs) (by decide) (by decide) hs hpl, se_minL a2⟩
theorem d_all (hc : X.calm = true) (hm : X.mg "all" = none) (ha : PDB X ok a wa) (hg : Gl X "all" := by rfl) (hs : starEach [a] X.env = (false, eval a X.env) :: starEach [] X.env := by rfl) (hpl : (backTo pos (starEach [] X.env)).any (·.1) = false := by rfl) :
    PDE X ok (.Call (.Name "all" p) [a] [] pos) (wAll wa) := let ⟨_, a1, a2⟩ := ha; ⟨_, pe_callB (cr_all hc) hg hm (by decide +kernel) (pa_cons a1 pa_nil hs) (by decide) (by decide) hs hpl, se_all a2⟩
theorem d_any (hc : X.calm = true) (hm : X.mg "any" = none) (ha : PDB X ok a wa) (hg : Gl X "any" := by rfl) (hs : starEach [a] X.env = (false, eval a X.env) :: starEach [] X.env := by rfl) (hpl : (backTo pos (starEach [] X.env)).any (·.1) = false := by rfl) :
    PDE X ok (.Call (.Name "any" p) [a] [] pos) (wAny wa) := let ⟨_, a1, a2⟩ := ha; ⟨_, pe_callB (cr_any hc) hg hm (by decide +kernel) (pa_cons a1 pa_nil hs) (by decide) (by decide) hs hpl, se_any a2⟩
theorem l_sortI (hm : X.mg "sorted" = none) (ha : PDB X ok a wa) (hg : Gl X "sorted" := by rfl) (hs : starEach [a] X.env = (false, eval a X.env) :: starEach [] X.env := by rfl) (hpl : (backTo pos (starEach [] X.env)).any (·.1) = false := by rfl) :
    PDL X ok (.Call (.Name "sorted" p) [a] [] pos) (wSortI wa) := let ⟨_, a1, a2⟩ := ha; ⟨_, pe_callB cr_sortedI hg hm (by decide +kernel) (pa_cons a1 pa_nil hs) (by decide) (by decide) hs hpl, sl_sortI a2⟩
theorem d_abs (hm : X.mg "abs" = none) (ha : PDE X ok a wa) (hg : Gl X "abs" := by rfl) (hs : starEach [a] X.env = (false, eval a X.env) :: starEach [] X.env := by rfl) (hpl : (backTo pos (starEach [] X.env)).any (·.1) = false := by rfl) :
    PDE X ok (.Call (.Name "abs" p) [a] [] pos) (wUn fAbs wa) := d_B1 call_abs cd_abs (by decide +kernel) hm ha (by decide) (by decide) hg hs hpl
theorem d_intc (hm : X.mg "int" = none) (ha : PDE X ok a wa) (hg : Gl X "int" := by rfl) (hs : starEach [a] X.env = (false, eval a X.env) :: starEach [] X.env := by rfl) (hpl : (backTo pos (starEach [] X.env)).any (·.1) = false := by rfl) :
    PDE X ok (.Call (.Name "int" p) [a] [] pos) (wUn fInt wa) := d_T1 call_int1 cd_int (by decide +kernel) hm ha (by decide) (by decide) hg hs hpl
theorem d_max2 (hc : X.calm = true) (hm : X.mg "max" = none) (ha : PDE X ok a wa) (hb : PDE X ok b wb) (hg : Gl X "max" := by rfl) (hs : starEach [a, b] X.env = (false, eval a X.env) :: starEach [b] X.env := by rfl) (hs2 : starEach [b] X.env = (false, eval b X.env) :: starEach [] X.env := by rfl)
    (hpl : (backTo pos (starEach [b] X.env)).any (·.1) = false := by rfl) : PDE X ok (.Call (.Name "max" p) [a, b] [] pos) (wBin fMax2 wa wb) := d_B2 (call_max2 hc) cd_max2 (by decide +kernel) hm ha hb (by decide) (by decide) hg hs hs2 hpl
theorem d_min2 (hc : X.calm = true) (hm : X.mg "min" = none) (ha : PDE X ok a wa) (hb : PDE X ok b wb) (hg : Gl X "min" := by rfl) (hs : starEach [a, b] X.env = (false, eval a X.env) :: starEach [b] X.env := by rfl) (hs2 : starEach [b] X.env = (false, eval b X.env) :: starEach [] X.env := by rfl)
    (hpl : (backTo pos (starEach [b] X.env)).any (·.1) = false := by rfl) : PDE X ok (.Call (.Name "min" p) [a, b] [] pos) (wBin fMin2 wa wb) := d_B2 (call_min2 hc) cd_min2 (by decide +kernel) hm ha hb (by decide) (by decide) hg hs hs2 hpl
/-- n.bit_length() -/
def fBits : D → (D → Prop) → Prop := fun d Q => match d with
  | .int i => Q (.int (Builtin.Int.intBits i : Nat))
  | _ => False
theorem snd_bits {K : PySem.W.Frag} {ta : TE} (ha : SndE K ok ta wa) : SndE K ok (tBits ta) (wUn fBits wa) := fun C H0 σ H env Q R rel hw k => ha C H0 σ H env _ _ rel hw fun d v H1 H01 q r1 e1 x1 => by
  unfold fBits at q
  split at q
  · cases x1; exact ⟨_, rfl, k _ _ H1 H01 q r1 e1 (.int _)⟩
  · exact q.elim
theorem d_bits (ha : PDE X ok a wa) (hbase : attributeBase a "bit_length" X.env (eval a X.env) = eval a X.env := by rfl) (hline : (apos.endLine == pos.line) = true := by rfl) : PDE X ok (.Call (.Attribute a "bit_length" apos) [] [] pos) (wUn fBits wa) := let ⟨_, a1, a2⟩ := ha; ⟨_, pe_bits a1 hbase hline, snd_bits a2⟩
end
end DL
/-! DL, part f1: the first family of draws: state = [script, place, rest, mix]. -/
namespace DL
open PySem L2

def okF1 (ds : List D) : Prop := ∃ (ns : List Int) (place rest mix : Int), ds = [scr ns, .int place, .int rest, .int mix] ∧ 0 ≤ place
/-- _law_draw(state, many): some number from 0 to many - 1 -/
def M_draw : WM := fun as Q => ∃ n : Int, as = [.hnd, .v (.int n)] ∧ 0 < n ∧ n < 2 ^ 200 ∧ ∀ r : Int, 0 ≤ r → r < n → Q (.v (.int r))
theorem div200 {n : Int} (h0 : 0 < n) (h : n < 2 ^ 200) : ∀ i : Int, CDivW i n := fun i => wide_div (b := 200) h0 (by omega) (by decide) (by decide)
def rInt : List V → Hp → VK → Prop := fun xs H Q => (∃ i, xs = [.int i] ∧ Q (.int i) H) ∨ ∃ k, xs = [.bl k] ∧ Q (.int (if k then 1 else 0)) H
def rLen1 (K : PySem.W.Frag) : List V → Hp → VK → Prop := fun xs H Q => ∃ p ys, xs = [.ref p] ∧ (SqL K H p ys ∨ SqT K H p ys) ∧ Q (.int ys.length) H
def rAbs1 : List V → Hp → VK → Prop := fun xs H Q => ∃ i, xs = [.int i] ∧ Q (.int (if i < 0 then -i else i)) H
abbrev tPlus := tOp (rI0 fun i j => .int (i + j))
abbrev tTimes := tOp (rI CMul fun i j => .int (i * j))
abbrev tModu := tOp (rI (fun _ j => 0 < j) fun i j => .int (i % j))
abbrev tDivi := tOp (rI CDivW fun i j => .int (i / j))
abbrev tAt (K : PySem.W.Frag) (i : Int) : TE := tOp (rIx K) (tVar 0) (tC (.int i))
abbrev tIn (t : TE) : TE := tCB rInt (tCons t tNil)
abbrev gAt (i : Int) : TG := gSub (tVar 0) (tC (.int i)) rSetL
abbrev tdEnd (K : PySem.W.Frag) : TS := tSeq (tAsg (tModu (tIn (tAt K 2)) (tVar 1)) (gName 6)) (tSeq (tAsg (tDivi (tIn (tAt K 2)) (tVar 1)) (gAt 2)) (tRet (tVar 6)))
abbrev tdLast (K : PySem.W.Frag) : TS := tAsg (tModu (tIn (tPlus (tTimes (tAt K 3) (tC (.int 31))) (tVar 3))) (tC (.int 1000003))) (gAt 3)
abbrev tdYes (K : PySem.W.Frag) : TS := tSeq (tAsg (tModu (tIn (tPlus (tPlus (tTimes (tVar 3) (tC (.int 48271))) (tTimes (tVar 2) (tC (.int 69621)))) (tAt K 3))) (tC (.int 2147483647))) (gName 4))
  (tSeq (tAsg (tModu (tIn (tPlus (tPlus (tTimes (tVar 4) (tC (.int 16807))) (tVar 3)) (tC (.int 11)))) (tC (.int 2147483629))) (gName 5)) (tAsg (tPlus (tTimes (tVar 4) (tC (.int 2147483629))) (tVar 5)) (gAt 2)))
abbrev tdNo : TS := tAsg (tCB rAbs1 (tCons (tVar 3) tNil)) (gAt 2)
abbrev tdCell (K : PySem.W.Frag) : TS := tSeq (tIfS (tTest (tChain (rI0 fun i j => .bl (decide (i ≤ j))) (rI0 fun i j => .bl (decide (i < j))) (tC (.int 0)) (tVar 3) (tC (.int 1000000000000000000)))) (tdYes K) tdNo) (tdLast K)
abbrev tdBody (K : PySem.W.Frag) : TS := tSeq (tIfS (tTest (tOp (rI0 fun i j => .bl (decide (i ≤ j))) (tAt K 2) (tC (.int 0))))
    (tSeq (tAsg (tAt K 1) (gName 2)) (tSeq (tAsg (tPlus (tVar 2) (tC (.int 1))) (gAt 1)) (tSeq (tAsg (tPlus (tTimes (tVar 2) (tC (.int 7919))) (tC (.int 13))) (gName 3))
      (tSeq (tIfS (tTest (tOp (rI0 fun i j => .bl (decide (i < j))) (tVar 2) (tCB (rLen1 K) (tCons (tAt K 0) tNil)))) (tAsg (tOp (rIx K) (tAt K 0) (tVar 2)) (gName 3)) tNext) (tdCell K))))) tNext) (tdEnd K)
theorem dints_inj : ∀ {ns ms : List Int}, ns.map PyData.int = ms.map PyData.int → ns = ms
  | [], [], _ => rfl
  | [], _ :: _, h => by simp at h
  | _ :: _, [], h => by simp at h
  | a :: ns, b :: ms, h => by
    simp only [List.map_cons, List.cons.injEq, PyData.int.injEq] at h
    rw [h.1, dints_inj h.2]
theorem scr_inv {K : PySem.W.Frag} {H : Hp} {v : V} {ns : List Int} (h : Rp K H v (scr ns)) : ∃ a, v = .ref a ∧ SqL K H a (ns.map V.int) := by
  generalize hd : scr ns = d at h
  cases h with
  | scr h =>
    have e := PyData.dict.inj hd
    simp only [List.cons.injEq, Prod.mk.injEq, PyData.list.injEq, and_true, true_and] at e
    rw [dints_inj e]
    exact ⟨_, rfl, h⟩
  | _ => cases hd
section
variable {P : Program} {w : World} {K : PySem.W.Frag} {mg : Str → Option Value} {base : Heap}
theorem draw_ok {st : Stmt} {f : Addr} {fd : FuncData} {k : Nat} (F : Fun K "_law_draw" "_law_draw" st f fd) (S : FnScope ["state", "many", "place", "cell", "one", "two", "taken"] ["state", "many"] (defScope st))
    (hder : ∀ (cdv : Value) (A : Around) (outer : List Env) (s : Shared) (H : Hp) (E : XK), PSs (cxOf CX0 P w K mg base ["state", "many", "place", "cell", "one", "two", "taken"] "_law_draw" (defScope st) f cdv A outer s H E).nox (defBody st) (tdBody K)) :
    FnOk P w K mg base CX0 (k + 1) f fd ["state", "many"] (SpD K okF1 2 M_draw) := by
  refine F.ok S (fun vs H Q E h => ?_) (fun cdv A outer s H vs Q E hr h => ⟨_, hder cdv A outer s H E, ?_⟩)
  · obtain ⟨H0, ha, as, Q', h1, h2, _⟩ := h
    rw [h2]
    rfl
  obtain ⟨H0, ha, as, Q', h1, h2, one, s0, hargs, hv, ⟨n, rfl, n0, n1, hq⟩, k0⟩ := h
  obtain ⟨a, rfl, rfl⟩ : ∃ a, ha = some a ∧ vs = [.ref a, .int n] := by
    cases hargs with
    | hnd e t =>
      cases t with
      | cons r t =>
        cases t
        cases r
        exact ⟨_, e, rfl⟩
  obtain ⟨ds, ⟨na, vs0, hp0, hr0⟩, ns, place, rest, mix, rfl, hpl⟩ := hv a rfl
  obtain ⟨v0, ws, rfl, x0, hr1⟩ := hr0.cons_inv
  obtain ⟨v1, ws, rfl, x1, hr2⟩ := hr1.cons_inv
  obtain ⟨v2, ws, rfl, x2, hr3⟩ := hr2.cons_inv
  obtain ⟨v3, ws, rfl, x3, hr4⟩ := hr3.cons_inv
  rw [hr4.nil_inv] at hp0
  cases x1; cases x2; cases x3
  obtain ⟨sc, rfl, hsc⟩ : ∃ sc, v0 = .ref sc ∧ SqL K H0 sc (ns.map V.int) := scr_inv x0
  let D0 : Ends := { nx := fun _ H' => Q .non H', rt := Q }
  have fin : ∀ (H1 : Hp) (i1 i2 i3 : Int) (y2 y3 y4 y5 : Option V), (∀ b o, H b = some o → b ≠ a → H1 b = some o) → H1 a = some (.lst [.ref sc, .int i1, .int i2, .int i3]) → 0 ≤ i1 →
      tdEnd K D0 [some (.ref a), some (.int n), y2, y3, y4, y5, none] H1 := by
    intro H1 i1 i2 i3 y2 y3 y4 y5 fr1 hp1 hi1
    refine ⟨_, rfl, .inl ⟨a, _, 2, .int i2, rfl, rfl, SqL.of hp1, rfl, .inl ⟨i2, rfl, _, rfl, i2, n, rfl, rfl, n0, ?_⟩⟩⟩
    refine ⟨_, rfl, .inl ⟨a, _, 2, .int i2, rfl, rfl, SqL.of hp1, rfl, .inl ⟨i2, rfl, _, rfl, i2, n, rfl, rfl, div200 n0 n1 i2, ?_⟩⟩⟩
    refine ⟨_, rfl, a, _, 2, 2, rfl, rfl, hp1, rfl, ?_⟩
    refine ⟨_, rfl, k0 _ _ (.v (.int (i2 % n))) H0 (hq _ (Int.emod_nonneg _ (by omega)) (Int.emod_lt_of_pos _ n0)) ?_⟩
    refine ⟨Same.refl _, fun b o e => ?_, fun b o e => .inl e, fun b o e ne => ?_, fun b e => ?_, .int _⟩
    · rw [upd_ne (ne_of_none e na)]
      exact fr1 b o (s0 b o e) (ne_of_none e na)
    · have hb : b ≠ a := fun z => ne (by rw [z])
      rw [upd_ne hb]
      exact fr1 b o e hb
    · cases e
      exact ⟨[scr ns, .int i1, .int (i2 / n), .int i3], ⟨na, _, upd_same, .cons (.scr hsc) (.cons (.int _) (.cons (.int _) (.cons (.int _) .nil)))⟩, ns, i1, i2 / n, i3, rfl, hi1⟩
  have scH : ∀ {H1 : Hp}, (∀ b o, H b = some o → b ≠ a → H1 b = some o) → SqL K H1 sc (ns.map V.int) := fun {H1} fr1 => by
    have e1 : Same H0 H1 := fun b o e => fr1 b o (s0 b o e) (ne_of_none e na)
    exact e1.seq hsc
  refine ⟨_, rfl, .inl ⟨a, _, 2, .int rest, rfl, rfl, SqL.of hp0, rfl, _, _, rfl, rfl, _, rfl, ite2 (fun _ => ?_) (fun _ => ?_)⟩⟩
  · refine ⟨_, rfl, .inl ⟨a, _, 1, .int place, rfl, rfl, SqL.of hp0, rfl, ?_⟩⟩
    refine ⟨_, rfl, _, _, rfl, rfl, _, rfl, a, _, 1, 1, rfl, rfl, hp0, rfl, ?_⟩
    refine ⟨_, rfl, _, _, rfl, rfl, .inr ⟨by decide, by decide⟩, _, _, rfl, rfl, ?_⟩
    have hp1 : (upd H a (.lst [.ref sc, .int (place + 1), .int rest, .int mix])) a = some (.lst [.ref sc, .int (place + 1), .int rest, .int mix]) := upd_same
    have fr1 : ∀ b o, H b = some o → b ≠ a → (upd H a (.lst [.ref sc, .int (place + 1), .int rest, .int mix])) b = some o := fun b o e hb => by rw [upd_ne hb]; exact e
    have next : ∀ cell : Int, tdCell K { D0 with nx := tdEnd K D0 } [some (.ref a), some (.int n), some (.int place), some (.int cell), none, none, none] (upd H a (.lst [.ref sc, .int (place + 1), .int rest, .int mix])) := by
      intro cell
      have last : ∀ (H2 : Hp) (z : Int) (y4 y5 : Option V), (∀ b o, H b = some o → b ≠ a → H2 b = some o) → H2 a = some (.lst [.ref sc, .int (place + 1), .int z, .int mix]) →
          tdLast K { D0 with nx := tdEnd K D0 } [some (.ref a), some (.int n), some (.int place), some (.int cell), y4, y5, none] H2 := by
        intro H2 z y4 y5 fr2 hp2
        refine ⟨_, rfl, .inl ⟨a, _, 3, .int mix, rfl, rfl, SqL.of hp2, rfl, _, _, rfl, rfl, .inr ⟨by decide, by decide⟩, _, rfl, _, _, rfl, rfl, .inl ⟨_, rfl, _, _, rfl, rfl, (by show (0 : Int) < 1000003; decide), ?_⟩⟩⟩
        refine ⟨_, rfl, a, _, 3, 3, rfl, rfl, hp2, rfl, ?_⟩
        exact fin _ (place + 1) z _ _ _ _ _ (fun b o e hb => by rw [upd_ne hb]; exact fr2 b o e hb) upd_same (by omega)
      have yes : tdYes K { D0 with nx := tdLast K { D0 with nx := tdEnd K D0 } } [some (.ref a), some (.int n), some (.int place), some (.int cell), none, none, none] (upd H a (.lst [.ref sc, .int (place + 1), .int rest, .int mix])) := by
        refine ⟨_, rfl, _, _, rfl, rfl, .inr ⟨by decide, by decide⟩, _, rfl, _, _, rfl, rfl, .inr ⟨by decide, by decide⟩, _, _, rfl, rfl, _, rfl, .inl ⟨a, _, 3, .int mix, rfl, rfl, SqL.of hp1, rfl, _, _, rfl, rfl, .inl ⟨_, rfl, _, _, rfl, rfl, (by show (0 : Int) < 2147483647; decide), ?_⟩⟩⟩
        refine ⟨_, rfl, _, _, rfl, rfl, .inr ⟨by decide, by decide⟩, _, rfl, _, _, rfl, rfl, _, _, rfl, rfl, .inl ⟨_, rfl, _, _, rfl, rfl, (by show (0 : Int) < 2147483629; decide), ?_⟩⟩
        refine ⟨_, rfl, _, _, rfl, rfl, .inr ⟨by decide, by decide⟩, _, rfl, _, _, rfl, rfl, _, rfl, a, _, 2, 2, rfl, rfl, hp1, rfl, ?_⟩
        exact last _ _ _ _ (fun b o e hb => by rw [upd_ne hb]; exact fr1 b o e hb) upd_same
      have no : tdNo { D0 with nx := tdLast K { D0 with nx := tdEnd K D0 } } [some (.ref a), some (.int n), some (.int place), some (.int cell), none, none, none] (upd H a (.lst [.ref sc, .int (place + 1), .int rest, .int mix])) := by
        refine ⟨_, rfl, _, rfl, _, rfl, a, _, 2, 2, rfl, rfl, hp1, rfl, ?_⟩
        exact last _ _ _ _ (fun b o e hb => by rw [upd_ne hb]; exact fr1 b o e hb) upd_same
      refine ⟨_, rfl, _, _, rfl, rfl, _, rfl, ?_⟩
      exact ite2 (fun _ => ⟨_, _, rfl, rfl, ⟨_, rfl, ite2 (fun _ => yes) (fun _ => no)⟩⟩) (fun _ => ⟨false, rfl, iteF no⟩)
    refine ⟨_, rfl, _, rfl, .inl ⟨a, _, 0, .ref sc, rfl, rfl, SqL.of hp1, rfl, sc, _, rfl, .inl (scH fr1), _, _, rfl, rfl, _, rfl, ite2 (fun h => ?_) (fun _ => next _)⟩⟩
    have hlt : place.toNat < ns.length := by
      have := of_decide_eq_true h
      rw [List.length_map] at this
      omega
    have hat : atI (ns.map V.int) place = some (.int (ns[place.toNat])) := by
      have e : place = ((place.toNat : Nat) : Int) := by omega
      have z := atI_nat (xs := ns.map V.int) (j := place.toNat) (v := .int (ns[place.toNat])) (by rw [List.getElem?_map, List.getElem?_eq_getElem hlt]; rfl)
      rw [← e] at z
      exact z
    exact ⟨_, rfl, .inl ⟨a, _, 0, .ref sc, rfl, rfl, SqL.of hp1, rfl, _, rfl, .inl ⟨sc, _, place, _, rfl, rfl, scH fr1, hat, next _⟩⟩⟩
  · exact fin H place rest mix none none none none (fun _ _ e _ => e) hp0 hpl
end
end DL
/-! DL, part g: what the printer leans on besides. -/
namespace DL
open PySem L2

/-- a name of the module that holds written data -/
structure GlD (K : PySem.W.Frag) (mg : Str → Option Value) (x : Str) (d : D) where
  v : V
  ex : ∃ u, mg x = some u ∧ RelV v u
  rp : ∀ H, Rp K H v d
section
variable {X : Cx} {ok : List D → Prop} {a b c e : Expr} {es : List Expr} {wa wb wc we : WE} {wr : WA} {wl : WL} {wt wu : WT} {pos p p2 apos : Pos} {x : Str}
theorem pe_gl {d : D} (g : GlD X.K X.mg x d) (hg : Gl X x := by rfl) (hdd : (x == ("__debug__" : Str)) = false := by decide) : PE X (.Name x pos) (tC g.v) := let ⟨u, h1, h2⟩ := g.ex; pe_glob hg h1 h2 hdd
theorem snd_gl {K : PySem.W.Frag} {mg : Str → Option Value} {d : D} (g : GlD K mg x d) : SndE K ok (tC g.v) (wC d) := snd_c g.rp
theorem d_gl {d : D} (g : GlD X.K X.mg x d) (hg : Gl X x := by rfl) (hdd : (x == ("__debug__" : Str)) = false := by decide) : PDE X ok (.Name x pos) (wC d) := ⟨_, pe_gl g hg hdd, snd_gl g⟩
theorem pe_has {k j n : Nat} {M : WM} {t : TA} (h : Has X.prog X.w X.K X.mg X.base ok k x n M) (hr : Room j X.A) (hk : k ≤ j) (ha : PA X (e :: es) t) (hg : Gl X x := by rfl) (hdb : (x == ("__debug__" : Str)) = false := by decide)
    (he : starEach (e :: es) X.env = (false, eval e X.env) :: starEach es X.env := by rfl) (hpl : (backTo pos (starEach es X.env)).any (·.1) = false := by rfl) : PE X (.Call (.Name x p) (e :: es) [] pos) (tCall (SpD X.K ok n M) [] E0 t) :=
  let ⟨f, fd, ps, G, hm, kp, bs⟩ := h.ex; pe_call G (hr.mono hk) hg hm kp bs .nil pass0 ha hdb he hpl
theorem g_cons {vs : List Nat} {wg : WG} {wgs : WGs} (h1 : PDG X ok vs e wg) (h2 : PDGs X ok vs es wgs)
    (hg : ∀ (t : TG) (u : TGs), PG X e t → PGs X es u → PGs X (e :: es) (gCons t u) := by exact fun _ _ h1 h2 => pgs_cons h1 h2) : PDGs X ok vs (e :: es) (gsCons wg wgs) := let ⟨_, a, b⟩ := h1; let ⟨_, c, d⟩ := h2; ⟨_, hg _ _ a c, sgs_cons b d⟩
theorem g_tupN {vs : List Nat} {k n : Nat} {wg : WGs} (h : PDGs X ok vs es wg) (hg : ∀ t, PGs X es t → PG X (.Tuple es k pos) (gTup X.K n t) := by exact fun _ h => pg_tup rfl h) : PDG X ok vs (.Tuple es k pos) (gT n wg) := let ⟨_, a, b⟩ := h; ⟨_, hg _ a, sg_tup b⟩
def rMax2 : List V → Hp → VK → Prop := fun xs H Q => ∃ i j, xs = [.int i, .int j] ∧ Q (.int (if j > i then j else i)) H
def rMin2 : List V → Hp → VK → Prop := fun xs H Q => ∃ i j, xs = [.int i, .int j] ∧ Q (.int (if j < i then j else i)) H
def rListOf (K : PySem.W.Frag) : List V → Hp → VK → Prop := fun xs H Q => ∃ p ys, xs = [.ref p] ∧ (SqL K H p ys ∨ SqT K H p ys) ∧ ∀ l, H l = none → Q (.ref l) (upd H l (.lst ys))
/-- a new list at a name, known at once -/
def wSetF (i : Nat) (a : WL) : WS := fun W env => a env fun ds => W.nx (env.set i (some (.v (.list ds))))
theorem ss_setF {K : PySem.W.Frag} {te : TE} {i : Nat} (he : SndL K ok te wl) : SndS K ok (tAsg te (gName i)) (wSetF i wl) := ss_set he.fz
theorem s_setLcF (i : Nat) {py spos : Pos} {y : Str} {tg iter elt : Expr} {ifs : List Expr} {scope : Scope} {own : List (Str × Nat)} {wi : WI} {wg : WG} {wt : WT} {we : WE} (hc : X.calm = true) (hN : X.N.Nodup) (hi : PDI X ok tg iter wi) (ok' : BlkOk X.N X.env.scope scope own)
    (hg : ∃ g, (∀ (s : Shared) (H : Hp) (C : Addr) (cl : List (Str × Addr)) (fp : List Addr), PG (X.blk s H scope (compEnvC scope cl C X.env) fp) tg g) ∧ SndG X.K ok (own.map (·.2)) g wg)
    (ht : ∃ tt, (∀ (s : Shared) (H : Hp) (C : Addr) (cl : List (Str × Addr)) (fp : List Addr), PTs (X.blk s H scope (compEnvC scope cl C X.env) fp) ifs tt) ∧ SndT X.K ok tt wt)
    (he : ∃ te, (∀ (s : Shared) (H : Hp) (C : Addr) (cl : List (Str × Addr)) (fp : List Addr), PE (X.blk s H scope (compEnvC scope cl C X.env) fp) elt te) ∧ SndE X.K ok te we)
    (hsw : swapsWith (.ListComp elt [⟨tg, iter, ifs, 0⟩] scope pos) (some (.Name y py)) spos.line X.env = pure true) (hy : X.N[i]? = some y := by rfl) (hyl : X.env.scope.names.lookup y = some .local := by rfl)
    (hs : ∀ x, foldedSetIterable iter X.env x = pure x := by intro _; rfl) : PDS X ok (.Assign [.Name y py] (.ListComp elt [⟨tg, iter, ifs, 0⟩] scope pos) spos) (wSetF i (wLc wi wg wt we (own.map (·.2)))) :=
  let ⟨_, i1, i2⟩ := hi; let ⟨_, g1, g2⟩ := hg; let ⟨_, t1, t2⟩ := ht; let ⟨_, e1, e2⟩ := he; ⟨_, ps_setLc hc hN hy hyl hsw i1 ok' g1 t1 e1 hs, ss_setF (sl_lc i2 g2 t2 e2)⟩
end
/-- the law's own promise -/
def M_law : WM := fun as Q => ∃ ns : List Int, as = [.v (scr ns)] ∧ ns.length ≤ 63 ∧ Q (.v (.bool true))
theorem law_sp {K : PySem.W.Frag} {ok : List D → Prop} {H : Hp} {a : Addr} {ns : List Int} {E : XK} (h : SqL K H a (ns.map V.int)) (hl : ns.length ≤ 63) : SpD K ok 1 M_law [.ref a] H (fun v _ => v = .bl true) E := by
  refine ⟨H, none, [.v (scr ns)], fun r => r = .v (.bool true), rfl, rfl, rfl, Same.refl _, .cons (.scr h) .nil, fun _ e => (nomatch e), ⟨ns, rfl, hl, rfl⟩, fun v H' r H01 q P => ?_⟩
  subst q
  cases P.res
  rfl
end DL
/-! DL, part f3: draws of the third family (a list of numbers and a place). -/
namespace DL
open PySem L2
def okF3 (ds : List D) : Prop := ∃ k : Int, ds = [.int k] ∧ 0 ≤ k
/-- _law_next(draws, at, many) -/
def M_next : WM := fun as Q => ∃ (ms : List Int) (n : Int), as = [.v (.list (dints ms)), .hnd, .v (.int n)] ∧ 0 < n ∧ ∀ r : Int, 0 ≤ r → r < n → Q (.v (.int r))
abbrev tnBody (K : PySem.W.Frag) : TS := tSeq (tAsg (tOp (rIx K) (tVar 1) (tC (.int 0))) (gName 3)) (tSeq (tAsg (tPlus (tVar 3) (tC (.int 1))) (gSub (tVar 1) (tC (.int 0)) rSetL))
  (tSeq (tIfS (tTest (tOp (rI0 fun i j => .bl (decide (i < j))) (tVar 3) (tCB (rLen1 K) (tCons (tVar 0) tNil)))) (tRet (tModu (tIn (tOp (rIx K) (tVar 0) (tVar 3))) (tVar 2))) tNext) (tRet (tC (.int 0)))))
theorem list_inv {K : PySem.W.Frag} {H : Hp} {v : V} {ns : List Int} (h : Rp K H v (.list (dints ns))) : ∃ a, v = .ref a ∧ SqL K H a (ns.map V.int) := by
  generalize hd : PyData.list (dints ns) = d at h
  cases h with
  | lst h r =>
    cases hd
    rw [r.ints_inv] at h
    exact ⟨_, rfl, SqL.of h⟩
  | _ => cases hd
section
variable {P : Program} {w : World} {K : PySem.W.Frag} {mg : Str → Option Value} {base : Heap}
theorem next_ok {st : Stmt} {f : Addr} {fd : FuncData} {k : Nat} (F : Fun K "_law_next" "_law_next" st f fd) (S : FnScope ["draws", "at", "many", "index"] ["draws", "at", "many"] (defScope st))
    (hder : ∀ (cdv : Value) (A : Around) (outer : List Env) (s : Shared) (H : Hp) (E : XK), PSs (cxOf CX0 P w K mg base ["draws", "at", "many", "index"] "_law_next" (defScope st) f cdv A outer s H E).nox (defBody st) (tnBody K)) :
    FnOk P w K mg base CX0 (k + 1) f fd ["draws", "at", "many"] (SpD K okF3 3 M_next) := by
  refine F.ok S (fun vs H Q E h => ?_) (fun cdv A outer s H vs Q E hr h => ⟨_, hder cdv A outer s H E, ?_⟩)
  · obtain ⟨H0, ha, as, Q', h1, h2, _⟩ := h
    rw [h2]
    rfl
  obtain ⟨H0, ha, as, Q', h1, h2, one, s0, hargs, hv, ⟨ms, n, rfl, n0, hq⟩, k0⟩ := h
  obtain ⟨a, dv, rfl, rfl, rd⟩ : ∃ a dv, ha = some a ∧ vs = [dv, .ref a, .int n] ∧ Rp K H0 dv (.list (dints ms)) := by
    cases hargs with
    | cons rd t =>
      cases t with
      | hnd e t =>
        cases t with
        | cons r t =>
          cases t
          cases r
          exact ⟨_, _, e, rfl, rd⟩
  obtain ⟨da, rfl, hda⟩ := list_inv rd
  obtain ⟨ds, ⟨na, vs0, hp0, hr0⟩, kk, rfl, hk⟩ := hv a rfl
  obtain ⟨v0, ws, rfl, x0, hr1⟩ := hr0.cons_inv
  rw [hr1.nil_inv] at hp0
  cases x0
  let D0 : Ends := { nx := fun _ H' => Q .non H', rt := Q }
  let H1 : Hp := upd H a (.lst [.int (kk + 1)])
  have fin : ∀ r : Int, 0 ≤ r → r < n → Q (.int r) H1 := fun r r0 r1 => by
    refine k0 _ _ (.v (.int r)) H0 (hq r r0 r1) ?_
    refine ⟨Same.refl _, fun b o e => ?_, fun b o e => .inl e, fun b o e ne => ?_, fun b e => ?_, .int _⟩
    · show (upd H a _) b = some o
      rw [upd_ne (ne_of_none e na)]
      exact s0 b o e
    · have hb : b ≠ a := fun z => ne (by rw [z])
      show (upd H a _) b = some o
      rw [upd_ne hb]
      exact e
    · cases e
      exact ⟨[.int (kk + 1)], ⟨na, _, upd_same, .cons (.int _) .nil⟩, kk + 1, rfl, by omega⟩
  have hda1 : SqL K H1 da (ms.map V.int) := Same.seq (fun b o e => by
    show (upd H a _) b = some o
    rw [upd_ne (ne_of_none e na)]
    exact s0 b o e) hda
  refine ⟨_, rfl, .inl ⟨a, _, 0, .int kk, rfl, rfl, SqL.of hp0, rfl, ?_⟩⟩
  refine ⟨_, rfl, _, _, rfl, rfl, _, rfl, a, _, 0, 0, rfl, rfl, hp0, rfl, ?_⟩
  refine ⟨_, rfl, _, rfl, da, _, rfl, .inl hda1, _, _, rfl, rfl, _, rfl, ite2 (fun h => ?_) (fun _ => fin 0 (Int.le_refl 0) n0)⟩
  have hlt : kk.toNat < ms.length := by
    have := of_decide_eq_true h
    rw [List.length_map] at this
    omega
  have hat : atI (ms.map V.int) kk = some (.int (ms[kk.toNat])) := by
    have e : kk = ((kk.toNat : Nat) : Int) := by omega
    have z := atI_nat (xs := ms.map V.int) (j := kk.toNat) (v := .int (ms[kk.toNat])) (by rw [List.getElem?_map, List.getElem?_eq_getElem hlt]; rfl)
    rw [← e] at z
    exact z
  refine ⟨_, rfl, _, rfl, .inl ⟨da, _, kk, _, rfl, rfl, hda1, hat, .inl ⟨_, rfl, _, rfl, _, _, rfl, rfl, n0, ?_⟩⟩⟩
  exact fin _ (Int.emod_nonneg _ (by omega)) (Int.emod_lt_of_pos _ n0)
end
end DL
/-! DL, part f2: draws of the second family (a pool). -/
namespace DL
open PySem L2
def okF2 (ds : List D) : Prop := ∃ (a : Int) (ns : List Int) (c : Int), ds = [.int a, .list (dints ns), .int c] ∧ -1 ≤ c
/-- _law_wide(script, k) -/
def M_wide : WM := fun as Q => ∃ (ns : List Int) (k : Int), as = [.v (.list (dints ns)), .v (.int k)] ∧ 0 ≤ k ∧ ∀ r : Int, Q (.v (.int r))
/-- _law_take(pool, most) -/
def M_take : WM := fun as Q => ∃ n : Int, as = [.hnd, .v (.int n)] ∧ 0 < n ∧ n < 2 ^ 200 ∧ ∀ r : Int, 0 ≤ r → r < n → Q (.v (.int r))
/-- _law_pool(script) -/
def M_pool : WM := fun as Q => ∃ ns : List Int, as = [.v (scr ns)] ∧ Q (.own [.int 0, .list (dints ns), .int (-1)])
abbrev ttEnd (K : PySem.W.Frag) : TS := tSeq (tAsg (tModu (tIn (tAt K 0)) (tVar 1)) (gName 2)) (tSeq (tAsg (tDivi (tAt K 0) (tVar 1)) (gAt 0)) (tRet (tVar 2)))
abbrev ttNew (K : PySem.W.Frag) : TS := tSeq (tAsg (tPlus (tAt K 2) (tC (.int 1))) (gAt 2)) (tAsg (tCall (SpD K okF2 2 M_wide) [] E0 (tCons (tAt K 1) (tCons (tAt K 2) tNil))) (gAt 0))
abbrev ttBody (K : PySem.W.Frag) : TS := tSeq (tIfS (tTest (tOp (rI0 fun i j => .bl (decide (i < j))) (tAt K 0) (tC (.int 1000)))) (ttNew K) tNext) (ttEnd K)
section
variable {P : Program} {w : World} {K : PySem.W.Frag} {mg : Str → Option Value} {base : Heap}
theorem take_ok {st : Stmt} {f : Addr} {fd : FuncData} {k : Nat} (F : Fun K "_law_take" "_law_take" st f fd) (S : FnScope ["pool", "most", "taken"] ["pool", "most"] (defScope st))
    (hder : ∀ (cdv : Value) (A : Around) (outer : List Env) (s : Shared) (H : Hp) (E : XK) (hr : Room k (A.deeper (PyProof.Rows.envOfC "_law_take" (defScope st) s.heap.objs.size f cdv))), PSs (cxOf CX0 P w K mg base ["pool", "most", "taken"] "_law_take" (defScope st) f cdv A outer s H E).nox (defBody st) (ttBody K)) :
    FnOk P w K mg base CX0 (k + 1) f fd ["pool", "most"] (SpD K okF2 2 M_take) := by
  refine F.ok S (fun vs H Q E h => ?_) (fun cdv A outer s H vs Q E hr h => ⟨_, hder cdv A outer s H E hr, ?_⟩)
  · obtain ⟨H0, ha, as, Q', h1, h2, _⟩ := h
    rw [h2]
    rfl
  obtain ⟨H0, ha, as, Q', h1, h2, one, s0, hargs, hv, ⟨n, rfl, n0, n1, hq⟩, k0⟩ := h
  obtain ⟨a, rfl, rfl⟩ : ∃ a, ha = some a ∧ vs = [.ref a, .int n] := by
    cases hargs with
    | hnd e t =>
      cases t with
      | cons r t =>
        cases t
        cases r
        exact ⟨_, e, rfl⟩
  obtain ⟨ds, ⟨na, vs0, hp0, hr0⟩, rest, ns, c, rfl, hc⟩ := hv a rfl
  obtain ⟨v0, ws, rfl, x0, hr1⟩ := hr0.cons_inv
  obtain ⟨v1, ws, rfl, x1, hr2⟩ := hr1.cons_inv
  obtain ⟨v2, ws, rfl, x2, hr3⟩ := hr2.cons_inv
  rw [hr3.nil_inv] at hp0
  cases x0; cases x2
  let D0 : Ends := { nx := fun _ H' => Q .non H', rt := Q }
  -- the end, from any state that has kept the frame
  have fin : ∀ (H1 H01 : Hp) (i0 i2 : Int), Same H0 H01 → Same H01 H1 → (∀ b o, H01 b = some o → H0 b = some o ∨ H b = none) → (∀ b o, H b = some o → b ≠ a → H1 b = some o) → H01 a = none → H1 a = some (.lst [.int i0, v1, .int i2]) → -1 ≤ i2 →
      ttEnd K D0 [some (.ref a), some (.int n), none] H1 := by
    intro H1 H01 i0 i2 g1 g2 g3 fr1 na1 hp1 hi
    refine ⟨_, rfl, .inl ⟨a, _, 0, .int i0, rfl, rfl, SqL.of hp1, rfl, .inl ⟨i0, rfl, _, rfl, i0, n, rfl, rfl, n0, ?_⟩⟩⟩
    refine ⟨_, rfl, .inl ⟨a, _, 0, .int i0, rfl, rfl, SqL.of hp1, rfl, _, rfl, i0, n, rfl, rfl, div200 n0 n1 i0, ?_⟩⟩
    refine ⟨_, rfl, a, _, 0, 0, rfl, rfl, hp1, rfl, ?_⟩
    refine ⟨_, rfl, k0 _ _ (.v (.int (i0 % n))) H01 (hq _ (Int.emod_nonneg _ (by omega)) (Int.emod_lt_of_pos _ n0)) ?_⟩
    refine ⟨g1, fun b o e => ?_, g3, fun b o e ne => ?_, fun b e => ?_, .int _⟩
    · rw [upd_ne (ne_of_none e na1)]
      exact g2 b o e
    · have hb : b ≠ a := fun z => ne (by rw [z])
      rw [upd_ne hb]
      exact fr1 b o e hb
    · cases e
      exact ⟨[.int (i0 / n), .list (dints ns), .int i2], ⟨na1, _, upd_same, .cons (.int _) (.cons (x1.mono g1) (.cons (.int _) .nil))⟩, i0 / n, ns, i2, rfl, hi⟩
  refine ⟨_, rfl, .inl ⟨a, _, 0, .int rest, rfl, rfl, SqL.of hp0, rfl, _, _, rfl, rfl, _, rfl, ite2 (fun _ => ?_) (fun _ => fin H H0 rest c (Same.refl _) s0 (fun b o e => .inl e) (fun _ _ e _ => e) na hp0 hc)⟩⟩
  refine ⟨_, rfl, .inl ⟨a, _, 2, .int c, rfl, rfl, SqL.of hp0, rfl, _, _, rfl, rfl, ?_⟩⟩
  refine ⟨_, rfl, a, _, 2, 2, rfl, rfl, hp0, rfl, ?_⟩
  let H1 : Hp := upd H a (.lst [.int rest, v1, .int (c + 1)])
  have hp1 : H1 a = some (.lst [.int rest, v1, .int (c + 1)]) := upd_same
  have s1 : Same H0 H1 := fun b o e => by
    show (upd H a _) b = some o
    rw [upd_ne (ne_of_none e na)]
    exact s0 b o e
  refine ⟨_, rfl, .inl ⟨a, _, 1, v1, rfl, rfl, SqL.of hp1, rfl, _, rfl, .inl ⟨a, _, 2, .int (c + 1), rfl, rfl, SqL.of hp1, rfl, ?_⟩⟩⟩
  refine ⟨H0, none, [.v (.list (dints ns)), .v (.int (c + 1))], fun r => ∃ i, r = .v (.int i), rfl, rfl, rfl, s1, .cons x1 (.cons (.int _) .nil), fun _ e => (nomatch e), ⟨ns, c + 1, rfl, by omega, fun r => ⟨r, rfl⟩⟩, fun v H' r H01 q P => ?_⟩
  obtain ⟨i, rfl⟩ := q
  cases P.res
  have hpa : H' a = some (.lst [.int rest, v1, .int (c + 1)]) := P.fr a _ hp1 (by simp)
  refine ⟨_, rfl, a, _, 0, 0, rfl, rfl, hpa, rfl, ?_⟩
  have na1 : H01 a = none := by
    cases e : H01 a with
    | none => rfl
    | some o =>
      rcases P.new a o e with h | h
      · rw [na] at h; cases h
      · have z : H1 a = none := h
        rw [hp1] at z; cases z
  have nw : ∀ b, H1 b = none → H b = none := fun b e => by
    have hb : b ≠ a := fun z => by rw [z, hp1] at e; cases e
    have e' : (upd H a (.lst [.int rest, v1, .int (c + 1)])) b = none := e
    rw [upd_ne hb] at e'
    exact e'
  refine fin _ H01 i (c + 1) P.grow (fun b o e => ?_) (fun b o e => ?_) (fun b o e hb => ?_) na1 upd_same (by omega)
  · rw [upd_ne (ne_of_none e na1)]
    exact P.sub b o e
  · rcases P.new b o e with h | h
    · exact .inl h
    · exact .inr (nw b h)
  · rw [upd_ne hb]
    refine P.fr b o ?_ (by simp)
    show (upd H a _) b = some o
    rw [upd_ne hb]
    exact e
end
end DL
/-! DL, part h: walks of any sequence, backwards, by steps; membership; is True. -/
namespace DL
open PySem L2
/-- what a for walks: a list, a tuple, the script -/
def iSeq (K : PySem.W.Frag) (tl : TE) : TI := fun σ H R => tl σ H fun x H1 => (∃ a, x = .ref a ∧ (∃ xs, SqL K H1 a xs) ∧ R (Itl K a) H1) ∨ (∃ a, x = .ref a ∧ (∃ xs, SqT K H1 a xs) ∧ R (Itt K a) H1)
theorem pi_seq {X : Cx} {tg l : Expr} {tl : TE} (hl : PE X l tl) : PI X tg l (iSeq X.K tl) := by
  refine ⟨fun pins s σ H R I h => ?_⟩
  refine thn (hl.run pins s σ H _ I h) fun v s1 ⟨x, H1, I1, r1, q1⟩ => ?_
  rcases q1 with ⟨a, e, ⟨xs, hq⟩, q⟩ | ⟨a, e, ⟨xs, hq⟩, q⟩
  · subst e
    cases r1
    obtain ⟨its, rv, p, hz⟩ := I1.list hq
    refine wpAny_pyIter_list p.isList ?_
    refine ⟨s1.heap.objs.size, [s1.heap.objs.size], _, _, H1, rfl, I1.kept (t' := s1.toks) fun b o e => Heap.get?_push_of_some _ e, turn_list a _, ⟨_, Heap.get?_push_size _ rfl, rfl, rfl⟩, fun b hb => ?_, q⟩
    have e : b = s1.heap.objs.size := by simpa using hb
    subst e
    exact I1.fpOk (Nat.le_refl _) (I1.hok.fresh (Nat.le_refl _))
  · subst e
    cases r1
    obtain ⟨its, rv, p, hz⟩ := I1.tuple hq
    refine wpAny_pyIter_tuple (show s1.heap.IsTuple a its.toArray from p) ?_
    refine ⟨s1.heap.objs.size, [s1.heap.objs.size], _, _, H1, rfl, I1.kept (t' := s1.toks) fun b o e => Heap.get?_push_of_some _ e, turn_tuple a _, ⟨_, Heap.get?_push_size _ rfl, rfl, rfl⟩, fun b hb => ?_, q⟩
    have e : b = s1.heap.objs.size := by simpa using hb
    subst e
    exact I1.fpOk (Nat.le_refl _) (I1.hok.fresh (Nat.le_refl _))
def iS (a : WE) : WI := fun env Q => a env fun d => match d with
  | .list ds => Q ds
  | .tuple ds => Q ds
  | .dict [(.none, .list ds)] => Q ds
  | _ => False
def iRv (a : WE) : WI := fun env Q => a env fun d => match d with
  | .list ds => Q ds.reverse
  | .tuple ds => Q ds.reverse
  | _ => False
section
variable {K : PySem.W.Frag} {ok : List D → Prop} {ta tb te tf tg' : TE} {wa wb we wf wg : WE}
theorem si_seq (he : SndE K ok te we) : SndI K ok (iSeq K te) (iS we) := fun C H0 σ H env Q R rel hw k => he C H0 σ H env _ _ rel hw fun d v H1 H01 q r e x => by
  have onL : ∀ {a : Addr} {xs : List V} {ds : List D}, SqL K H1 a xs → (∀ H2, Same H01 H2 → SqL K H2 a xs) → Rps K H01 xs ds → Q ds → R (Itl K a) H1 := fun {a xs ds} h1 h hr q => by
    refine k _ _ _ H01 q r e ⟨fun i H2 hi s => ?_, fun H2 s => ⟨xs, h H2 s, by rw [hr.length]; exact Nat.le_refl _⟩, fun i H2 x H3 hi s y => ?_⟩
    · have hi' : i < xs.length := by rw [hr.length]; exact hi
      exact ⟨xs, xs[i], h H2 s, List.getElem?_eq_getElem hi'⟩
    · obtain ⟨rfl, y⟩ := y
      obtain ⟨d, hd, x'⟩ := hr.getV (y xs (h _ s))
      exact ⟨d, hd, .inl ⟨rfl, x'⟩⟩
  try dsimp only at q
  split at q
  · generalize hd : PyData.list _ = d at x
    cases x with
    | lst ha hr =>
      cases hd
      exact .inl ⟨_, rfl, ⟨_, SqL.of (r.sub _ _ ha)⟩, onL (SqL.of (r.sub _ _ ha)) (fun H2 s => SqL.of (s _ _ ha)) hr q⟩
    | _ => cases hd
  · generalize hd : PyData.tuple _ = d at x
    cases x with
    | tup ha hr =>
      cases hd
      rename_i a xs
      refine .inr ⟨a, rfl, ⟨xs, Same.tup r.sub ha⟩, k _ _ _ H01 q r e ⟨fun i H2 hi s => ?_, fun H2 s => ⟨xs, Same.tup s ha, by rw [hr.length]; exact Nat.le_refl _⟩, fun i H2 x H3 hi s y => ?_⟩⟩
      · have hi' : i < xs.length := by rw [hr.length]; exact hi
        exact ⟨xs, xs[i], Same.tup s ha, List.getElem?_eq_getElem hi'⟩
      · obtain ⟨rfl, y⟩ := y
        obtain ⟨d, hd, x'⟩ := hr.getV (y xs (Same.tup s ha))
        exact ⟨d, hd, .inl ⟨rfl, x'⟩⟩
    | _ => cases hd
  · generalize hd : PyData.dict _ = d at x
    cases x with
    | scr h =>
      cases hd
      exact .inl ⟨_, rfl, ⟨_, r.sub.seq h⟩, onL (r.sub.seq h) (fun H2 s => s.seq h) (Rps.of_ints _) q⟩
    | _ => cases hd
  · exact q.elim
theorem rev_get {α : Type} {xs : List α} {i : Nat} (h : i < xs.length) : xs[xs.length - 1 - i]? = xs.reverse[i]? := (List.getElem?_reverse h).symm
theorem si_rev (he : SndE K ok te we) : SndI K ok (RT.iRevA K te) (iRv we) := fun C H0 σ H env Q R rel hw k => he C H0 σ H env _ _ rel hw fun d v H1 H01 q r e x => by
  try dsimp only at q
  split at q
  · cases x with
    | lst ha hr =>
      rename_i a xs
      refine ⟨a, xs, rfl, .inl ⟨SqL.of (r.sub _ _ ha), k _ _ _ H01 q r e ⟨fun i H2 hi s => ?_, fun H2 s => (by show xs.length ≤ _; rw [hr.length, List.length_reverse]; exact Nat.le_refl _), fun i H2 x H3 hi s y => ?_⟩⟩⟩
      · rw [List.length_reverse] at hi
        have hi' : i < xs.length := by rw [hr.length]; exact hi
        exact ⟨hi', xs, xs[xs.length - 1 - i], SqL.of (s _ _ ha), List.getElem?_eq_getElem (by omega)⟩
      · obtain ⟨rfl, y⟩ := y
        rw [List.length_reverse] at hi
        obtain ⟨d, hd, x'⟩ := hr.getV (y xs (SqL.of (s _ _ ha)))
        rw [hr.length, rev_get hi] at hd
        exact ⟨d, hd, .inl ⟨rfl, x'⟩⟩
  · cases x with
    | tup ha hr =>
      rename_i a xs
      refine ⟨a, xs, rfl, .inr ⟨Same.tup r.sub ha, k _ _ _ H01 q r e ⟨fun i H2 hi s => ?_, fun H2 s => (by show xs.length ≤ _; rw [hr.length, List.length_reverse]; exact Nat.le_refl _), fun i H2 x H3 hi s y => ?_⟩⟩⟩
      · rw [List.length_reverse] at hi
        have hi' : i < xs.length := by rw [hr.length]; exact hi
        exact ⟨hi', xs, xs[xs.length - 1 - i], Same.tup s ha, List.getElem?_eq_getElem (by omega)⟩
      · obtain ⟨rfl, y⟩ := y
        rw [List.length_reverse] at hi
        obtain ⟨d, hd, x'⟩ := hr.getV (y xs (Same.tup s ha))
        rw [hr.length, rev_get hi] at hd
        exact ⟨d, hd, .inl ⟨rfl, x'⟩⟩
  · exact q.elim
theorem rngC_get {lo c : Int} {n i : Nat} (h : i < n) : (rngC lo c n)[i]? = some (.int (lo + (i : Nat) * c)) := by
  unfold rngC
  rw [List.getElem?_map, List.getElem?_range h]
  rfl
theorem rngC_len {lo c : Int} {n : Nat} : (rngC lo c n).length = n := by unfold rngC; rw [List.length_map, List.length_range]
theorem si_r3 (he : SndE K ok te we) (hf : SndE K ok tf wf) (hg : SndE K ok tg' wg) : SndI K ok (iRng3 (tCons te (tCons tf (tCons tg' tNil)))) (iR3 we wf wg) := fun C H0 σ H env Q R rel hw k => he C H0 σ H env _ _ rel hw fun d v H1 H01 q r e x =>
  hf C H01 σ H1 env _ _ r q fun d2 v2 H2 H02 q2 r2 e2 x2 => hg C H02 σ H2 env _ _ r2 q2 fun d3 v3 H3 H03 q3 r3 e3 x3 => by
    try dsimp only at q3
    split at q3
    · cases x; cases x2; cases x3
      obtain ⟨n, hn, q3⟩ := q3
      refine ⟨_, _, _, n, rfl, hn, k _ _ _ H03 q3 r3 ((e.trans e2).trans e3) ⟨fun i H hi s => by rw [rngC_len] at hi; exact hi, fun H s => by rw [rngC_len]; exact Nat.le_refl _, fun i H x H' hi s y => ?_⟩⟩
      obtain ⟨rfl, rfl⟩ := y
      rw [rngC_len] at hi
      exact ⟨_, rngC_get hi, .inl ⟨rfl, .int _⟩⟩
    · exact q3.elim
/-! membership -/
def rInA (K : PySem.W.Frag) : R2 := fun x y H Q => rInD K x y H Q ∨ rIn K false x y H Q
def rNinA (K : PySem.W.Frag) : R2 := fun x y H Q => rNotInD K x y H Q ∨ rIn K true x y H Q
theorem op_inA {X : Cx} (hu : X.A.units + 65 < cLine) : OpR X (compareOp .In) (rInA X.K) := by
  intro pins s σ H x y v u Q I rx ry h
  rcases h with h | h
  · exact op_inD hu pins s σ H x y v u Q I rx ry h
  · exact op_in_seq pins s σ H x y v u Q I rx ry h
theorem op_ninA {X : Cx} (hu : X.A.units + 65 < cLine) : OpR X (compareOp .NotIn) (rNinA X.K) := by
  intro pins s σ H x y v u Q I rx ry h
  rcases h with h | h
  · exact op_notInD hu pins s σ H x y v u Q I rx ry h
  · exact op_notIn_seq pins s σ H x y v u Q I rx ry h
def wIn (a b : WE) : WE := fun env Q => a env fun x => b env fun y => match y with
  | .list ds => SeqAt.shaped x = true ∧ SeqAt.shaped (.list ds) = true ∧ Q (.bool (ds.any fun z => PyData.eqv z x))
  | .tuple ds => ∃ i ns, x = .int i ∧ ds = dints ns ∧ Q (.bool (ns.any fun z => z == i))
  | _ => False
def wNin (a b : WE) : WE := fun env Q => a env fun x => b env fun y => match y with
  | .list ds => SeqAt.shaped x = true ∧ SeqAt.shaped (.list ds) = true ∧ Q (.bool (!ds.any fun z => PyData.eqv z x))
  | .tuple ds => ∃ i ns, x = .int i ∧ ds = dints ns ∧ Q (.bool (!ns.any fun z => z == i))
  | _ => False
theorem Bor.rp {H0 H : Hp} {v : V} {d : D} (s : Same H0 H) (h : Bor K H0 H v d) : Rp K H v d := by
  rcases h with h | ⟨p, ds, rfl, rfl, o⟩
  · exact h.mono s
  · obtain ⟨_, vs, hp, hr⟩ := o
    exact .lst hp (hr.mono s)
theorem any_ints (ns : List Int) (i : Int) : (ns.map V.int).any (fun y => eqV y (.int i)) = ns.any fun z => z == i := by
  induction ns with
  | nil => rfl
  | cons a r ih =>
    rw [List.map_cons, List.any_cons, List.any_cons, ih]
    rfl
theorem flat_ints (ns : List Int) : (ns.map V.int).all flatV = true := by
  rw [List.all_eq_true]
  intro x hx
  obtain ⟨i, _, rfl⟩ := List.mem_map.mp hx
  rfl
theorem snd_in (ha : SndE K ok ta wa) (hb : SndB K ok tb wb) : SndE K ok (tOp (rInA K) ta tb) (wIn wa wb) := fun C H0 σ H env Q R rel hw k =>
  ha C H0 σ H env _ _ rel hw fun d v H1 H01 q r1 e1 x1 => hb C H01 σ H1 env _ _ r1 q fun e u H2 H02 q2 r2 e2 x2 => by
    have b := (x2 H2 H02 r2 (Same.refl _)).rp r2.sub
    have a := (x1.mono e2).mono r2.sub
    try dsimp only at q2
    split at q2
    · obtain ⟨s1, s2, q3⟩ := q2
      exact .inl ⟨_, _, a.sh s1, b.sh s2, s1, s2, k _ _ _ _ q3 r2 (e1.trans e2) (.bl _)⟩
    · obtain ⟨i, ns, rfl, rfl, q3⟩ := q2
      cases a
      generalize hd : PyData.tuple (dints ns) = d at b
      cases b with
      | tup h r =>
        cases hd
        rw [r.ints_inv] at h
        refine .inr ⟨_, _, rfl, .inr h, rfl, flat_ints ns, ?_⟩
        show R (V.bl (if (false : Bool) = true then _ else (ns.map V.int).any fun y => eqV y (.int i))) H2
        rw [if_neg (by decide), any_ints]
        exact k _ _ _ _ q3 r2 (e1.trans e2) (.bl _)
      | _ => cases hd
    · exact q2.elim
theorem snd_nin (ha : SndE K ok ta wa) (hb : SndB K ok tb wb) : SndE K ok (tOp (rNinA K) ta tb) (wNin wa wb) := fun C H0 σ H env Q R rel hw k =>
  ha C H0 σ H env _ _ rel hw fun d v H1 H01 q r1 e1 x1 => hb C H01 σ H1 env _ _ r1 q fun e u H2 H02 q2 r2 e2 x2 => by
    have b := (x2 H2 H02 r2 (Same.refl _)).rp r2.sub
    have a := (x1.mono e2).mono r2.sub
    try dsimp only at q2
    split at q2
    · obtain ⟨s1, s2, q3⟩ := q2
      exact .inl ⟨_, _, a.sh s1, b.sh s2, s1, s2, k _ _ _ _ q3 r2 (e1.trans e2) (.bl _)⟩
    · obtain ⟨i, ns, rfl, rfl, q3⟩ := q2
      cases a
      generalize hd : PyData.tuple (dints ns) = d at b
      cases b with
      | tup h r =>
        cases hd
        rw [r.ints_inv] at h
        refine .inr ⟨_, _, rfl, .inr h, rfl, flat_ints ns, ?_⟩
        show R (V.bl (if (true : Bool) = true then !((ns.map V.int).any fun y => eqV y (.int i)) else _)) H2
        rw [if_pos rfl, any_ints]
        exact k _ _ _ _ q3 r2 (e1.trans e2) (.bl _)
      | _ => cases hd
    · exact q2.elim
/-! is True -/
def fIsB : D → D → (D → Prop) → Prop := fun d e Q => match d, e with
  | .bool a, .bool b => Q (.bool (decide (a = b)))
  | _, _ => False
def fIsNotB : D → D → (D → Prop) → Prop := fun d e Q => match d, e with
  | .bool a, .bool b => Q (.bool (!decide (a = b)))
  | _, _ => False
theorem opd_isB : OpD K rIsB fIsB := fun H0 H x y d e Q R s hx hy h k => by
  unfold fIsB at h
  split at h
  · cases hx; cases hy
    exact ⟨_, _, rfl, rfl, k _ _ h (.bl _)⟩
  · exact h.elim
theorem opd_isnotB : OpD K rNotB fIsNotB := fun H0 H x y d e Q R s hx hy h k => by
  unfold fIsNotB at h
  split at h
  · cases hx; cases hy
    exact ⟨_, _, rfl, rfl, k _ _ h (.bl _)⟩
  · exact h.elim
end
section
variable {X : Cx} {ok : List D → Prop} {a b c e : Expr} {es : List Expr} {wa wb wc we : WE} {wr : WA} {wl : WL} {wt wu : WT} {pos p p2 apos : Pos} {x : Str}
theorem i_seq {tg : Expr} (h : PDE X ok e we) : PDI X ok tg e (iS we) := let ⟨_, a, b⟩ := h; ⟨_, pi_seq a, si_seq b⟩
theorem i_rev {tg : Expr} (hm : X.mg "reversed" = none) (h : PDE X ok e we) (hg : Gl X "reversed" := by rfl) (hs : starEach [e] X.env = (false, eval e X.env) :: starEach [] X.env := by rfl) : PDI X ok tg (.Call (.Name "reversed" p) [e] [] pos) (iRv we) := let ⟨_, a, b⟩ := h; ⟨_, RT.pi_revA hg hm a hs, si_rev b⟩
theorem i_r3 {tg : Expr} (hm : X.mg "range" = none) (h : PDE X ok a wa) (h2 : PDE X ok b wb) (h3 : PDE X ok c wc) (hg : Gl X "range" := by rfl)
    (hs : starEach [a, b, c] X.env = (false, eval a X.env) :: starEach [b, c] X.env := by rfl) (hs2 : starEach [b, c] X.env = (false, eval b X.env) :: starEach [c] X.env := by rfl) (hs3 : starEach [c] X.env = (false, eval c X.env) :: starEach [] X.env := by rfl) (hpl : (backTo pos (starEach [b, c] X.env)).any (·.1) = false := by rfl) :
    PDI X ok tg (.Call (.Name "range" p) [a, b, c] [] pos) (iR3 wa wb wc) := let ⟨_, a1, a2⟩ := h; let ⟨_, b1, b2⟩ := h2; let ⟨_, c1, c2⟩ := h3; ⟨_, pi_range3 hg hm (pa_cons a1 (pa_cons b1 (pa_cons c1 pa_nil hs3) hs2) hs) hs hpl, si_r3 a2 b2 c2⟩
theorem units65 {k : Nat} {A : Around} (h : Room k A) : A.units + 65 < cLine := by have := h.un; omega
theorem d_in {k : Nat} (hr : Room k X.A) (ha : PDE X ok a wa) (hb : PDB X ok b wb) (hm : lastMarks [.In] [b] = false := by with_unfolding_all rfl) : PDE X ok (.Compare a [.In] [b] pos) (wIn wa wb) := let ⟨_, a1, a2⟩ := ha; let ⟨_, b1, b2⟩ := hb; ⟨_, pe_cmpR (op_inA (units65 hr)) a1 b1 hm, snd_in a2 b2⟩
theorem d_nin {k : Nat} (hr : Room k X.A) (ha : PDE X ok a wa) (hb : PDB X ok b wb) (hm : lastMarks [.NotIn] [b] = false := by with_unfolding_all rfl) : PDE X ok (.Compare a [.NotIn] [b] pos) (wNin wa wb) := let ⟨_, a1, a2⟩ := ha; let ⟨_, b1, b2⟩ := hb; ⟨_, pe_cmpR (op_ninA (units65 hr)) a1 b1 hm, snd_nin a2 b2⟩
theorem t_in {k : Nat} (hr : Room k X.A) (ha : PDE X ok a wa) (hb : PDB X ok b wb) (hm : lastMarks [.In] [b] = false := by with_unfolding_all rfl) : PDT X ok (.Compare a [.In] [b] pos) (wTest (wIn wa wb)) := let ⟨_, a1, a2⟩ := ha; let ⟨_, b1, b2⟩ := hb; ⟨_, pt_cmpR (op_inA (units65 hr)) a1 b1 hm, snd_test (snd_in a2 b2)⟩
theorem t_nin {k : Nat} (hr : Room k X.A) (ha : PDE X ok a wa) (hb : PDB X ok b wb) (hm : lastMarks [.NotIn] [b] = false := by with_unfolding_all rfl) : PDT X ok (.Compare a [.NotIn] [b] pos) (wTest (wNin wa wb)) := let ⟨_, a1, a2⟩ := ha; let ⟨_, b1, b2⟩ := hb; ⟨_, pt_cmpR (op_ninA (units65 hr)) a1 b1 hm, snd_test (snd_nin a2 b2)⟩
theorem d_isB (ha : PDE X ok a wa) (hb : PDE X ok b wb) : PDE X ok (.Compare a [.Is] [b] pos) (wBin fIsB wa wb) := let ⟨_, a1, a2⟩ := ha; let ⟨_, b1, b2⟩ := hb; ⟨_, pe_cmpR op_isBl a1 b1 (nomark _), snd_bin opd_isB a2 b2⟩
theorem d_isnotB (ha : PDE X ok a wa) (hb : PDE X ok b wb) : PDE X ok (.Compare a [.IsNot] [b] pos) (wBin fIsNotB wa wb) := let ⟨_, a1, a2⟩ := ha; let ⟨_, b1, b2⟩ := hb; ⟨_, pe_cmpR op_notBl a1 b1 (nomark _), snd_bin opd_isnotB a2 b2⟩
theorem t_isB (ha : PDE X ok a wa) (hb : PDE X ok b wb) : PDT X ok (.Compare a [.Is] [b] pos) (wTest (wBin fIsB wa wb)) := let ⟨_, a1, a2⟩ := ha; let ⟨_, b1, b2⟩ := hb; ⟨_, pt_cmpR op_isBl a1 b1 (nomark _), snd_test (snd_bin opd_isB a2 b2)⟩
theorem t_isnotB (ha : PDE X ok a wa) (hb : PDE X ok b wb) : PDT X ok (.Compare a [.IsNot] [b] pos) (wTest (wBin fIsNotB wa wb)) := let ⟨_, a1, a2⟩ := ha; let ⟨_, b1, b2⟩ := hb; ⟨_, pt_cmpR op_notBl a1 b1 (nomark _), snd_test (snd_bin opd_isnotB a2 b2)⟩
end
end DL
/-! DL, part i: a tuple times a number, of any sign. -/
namespace DL
open PySem L2
section
open PySem.Spec PyProof.Rows
/-- t * 1 is t -/
theorem tupTimes_one (a : Addr) (its : Array Value) (m : Nat) (e : Option Addr) (sl : Array (Option Value)) (u : Tok) (k0 : (decide ((1 : Int) < -(2 ^ 63)) || decide ((1 : Int) ≥ 2 ^ 63)) = false) (k1 : (its.isEmpty || (1 : Int) == 1) = true) :
    Meets (Builtin.«tuple.__mul__» ⟨[.ref a, .int 1 u], []⟩) (fun _ R s => s.heap.get? a = some { cls := .type "tuple", dict := e, data := .seq its m, slots := sl } ∧ R (.ok (.ret (Value.ref a))) s) :=
  .of_wp fun _ _ _ _ s h => by
    obtain ⟨h1, h2, h3, h4, h5⟩ := s
    obtain ⟨look, done⟩ := h
    have ix := AutoSeq1.idx_int
    wp_walk using wpAny_loadPart' look
    repeat (first
      | (refine wpAny_ite_false (decide_eq_false (fun z => by rw [k0] at z; cases z)) ?_; wp_walk using wpAny_loadPart' look)
      | (refine wpAny_ite_true (decide_eq_true k1) ?_; wp_walk using wpAny_loadPart' look)
      | (refine wpAny_ite_true (by rfl) ?_; wp_walk using wpAny_loadPart' look))
    exact ⟨_, rfl, done⟩
/-- t * n, n at most 0: a new empty one -/
theorem tupTimes_none (a : Addr) (its : Array Value) (m : Nat) (e : Option Addr) (sl : Array (Option Value)) (x : Int) (u : Tok) (k0 : (decide (x < -(2 ^ 63)) || decide (x ≥ 2 ^ 63)) = false) (k1 : (its.isEmpty || x == 1) = false) (k2 : (decide (x ≤ 0) || its.isEmpty) = true) :
    Meets (Builtin.«tuple.__mul__» ⟨[.ref a, .int x u], []⟩) (fun _ R s => s.heap.get? a = some { cls := .type "tuple", dict := e, data := .seq its m, slots := sl } ∧
      R (.ok (.ret (Value.ref s.heap.objs.size))) { s with heap := s.heap.push { cls := Value.type "tuple", data := Data.seq #[] }, toks := s.toks }) :=
  .of_wp fun _ _ _ _ s h => by
    obtain ⟨h1, h2, h3, h4, h5⟩ := s
    obtain ⟨look, done⟩ := h
    have ix := AutoSeq1.idx_int
    wp_walk using wpAny_loadPart' look
    repeat (first
      | (refine wpAny_ite_false (decide_eq_false (fun z => by rw [k0] at z; cases z)) ?_; wp_walk using wpAny_loadPart' look)
      | (refine wpAny_ite_false (decide_eq_false (fun z => by rw [k1] at z; cases z)) ?_; wp_walk using wpAny_loadPart' look)
      | (refine wpAny_ite_true (decide_eq_true k2) ?_; wp_walk using wpAny_loadPart' look))
    exact ⟨_, rfl, done⟩
/-- t * k -/
def rRepA (K : PySem.W.Frag) : R2 := fun x y H Q => ∃ l k xs, x = .ref l ∧ y = .int k ∧ SqT K H l xs ∧ xs ≠ [] ∧ -1000 ≤ k ∧ k ≤ 1000 ∧ xs.length ≤ 1000 ∧
  (k ≤ 0 → ∀ p, H p = none → Q (.ref p) (upd H p (.tup []))) ∧ (k = 1 → Q (.ref l) H) ∧ (2 ≤ k → ∀ p, H p = none → Q (.ref p) (upd H p (.tup (List.replicate k.toNat xs).flatten)))
theorem op_repA {X : Cx} : OpR X (binaryOp .Mult) (rRepA X.K) := by
  intro pins s σ H x y v u Q I rx ry ⟨a, k, xs, e1, e2, isT, full, lo, hi, short, q0, q1, q2⟩
  subst e1
  subst e2
  by_cases h2 : 2 ≤ k
  · exact op_repT pins s σ H _ _ v u Q I rx ry ⟨a, k, xs, rfl, rfl, isT, full, h2, hi, short, q2 h2⟩
  cases rx
  obtain ⟨tk, rfl⟩ := ry
  obtain ⟨its, vr, isAt, _⟩ := I.tuple isT
  obtain ⟨⟨oc, od, odat, osl⟩, look, hcls, m, hdat⟩ := isAt
  simp only at hcls hdat
  subst hcls
  subst hdat
  have some_ : its.toArray.isEmpty = false := by
    have hlen := vr.length
    cases its with
    | nil => exact absurd (List.eq_nil_of_length_eq_zero hlen) full
    | cons b bs => rfl
  have k0 : (decide (k < -(2 ^ 63)) || decide (k ≥ 2 ^ 63)) = false := by
    have n1 : ¬ k < -(2 ^ 63) := by omega
    have n2 : ¬ k ≥ 2 ^ 63 := by omega
    rw [decide_eq_false n1, decide_eq_false n2]
    rfl
  refine wpAny_binaryOp_repeat_ref (T := "tuple") (U := "int") (by decide) ⟨_, look, rfl⟩ (fun _ => typeIs_int _ k tk) noFill_tuple_mul F.fills_int_mul F.slot_int_rmul repeat_tuple F.slot_int_index.lookup ?_
  refine call_meets F.slot_int_rmul (typeIs_int s k tk) F.entry_int_rmul (F.args_int_rmul_2 _ _) (int_rmul_tuple k tk a its.toArray m od osl) ⟨look, rfl, ⟨_, look, rfl⟩, ?_⟩
  by_cases h1 : k = 1
  · subst h1
    refine call_meets F.slot_tuple_mul ⟨_, look, rfl⟩ F.entry_tuple_mul (F.args_tuple_mul_2 _ _) (tupTimes_one a its.toArray m od osl tk k0 (by rw [some_]; rfl)) ⟨look, ?_⟩
    exact ⟨.ref a, H, I, rfl, q1 rfl⟩
  · refine call_meets F.slot_tuple_mul ⟨_, look, rfl⟩ F.entry_tuple_mul (F.args_tuple_mul_2 _ _) (tupTimes_none a its.toArray m od osl k tk k0 (by rw [some_, Bool.false_or]; exact beq_eq_false_iff_ne.mpr h1) (by rw [decide_eq_true (show k ≤ 0 by omega)]; rfl)) ⟨look, ?_⟩
    refine ⟨.ref s.heap.objs.size, _, I.laid (t' := s.toks) (o := .tup []) (fun _ _ z => Heap.get?_push_of_some _ z) (Nat.le_refl _) ?_, rfl, q0 (by omega) _ (I.hok.fresh (Nat.le_refl _))⟩
    exact ⟨Nat.zero_le _, [], .nil, IsTup.new _ _⟩
end
/-- what a tuple times a number asks -/
def wRepT (a b : WE) : WE := fun env Q => a env fun x => b env fun y => match x, y with
  | .tuple ds, .int k => ds ≠ [] ∧ (-1000 ≤ k ∧ k ≤ 1000) ∧ ds.length ≤ 1000 ∧ Q (.tuple (List.replicate k.toNat ds).flatten)
  | _, _ => False
theorem Rps.reps {K : PySem.W.Frag} {H : Hp} {vs : List V} {ds : List D} (r : Rps K H vs ds) : ∀ n : Nat, Rps K H (List.replicate n vs).flatten (List.replicate n ds).flatten
  | 0 => .nil
  | n + 1 => by
    rw [List.replicate_succ, List.flatten_cons, List.replicate_succ, List.flatten_cons]
    exact r.append (Rps.reps r n)
theorem se_repT {K : PySem.W.Frag} {ok : List D → Prop} {ta tb : TE} {wa wb : WE} (ha : SndE K ok ta wa) (hb : SndE K ok tb wb) : SndE K ok (tOp (rRepA K) ta tb) (wRepT wa wb) := fun C H0 σ H env Q R rel hw k =>
  ha C H0 σ H env _ _ rel hw fun d v H1 H01 q r1 e1 x1 => hb C H01 σ H1 env _ _ r1 q fun e u H2 H02 q2 r2 e2 x2 => by
    try dsimp only at q2
    split at q2
    · rename_i ds j
      obtain ⟨n0, ⟨lo, hi⟩, sh, q3⟩ := q2
      cases x2
      generalize hd : PyData.tuple ds = dd at x1
      cases x1 with
      | tup h r =>
        cases hd
        have h2 := Same.tup e2 h
        have rr := r.mono e2
        have l := r.length
        refine ⟨_, _, _, rfl, rfl, Same.tup r2.sub h2, fun z => n0 (List.eq_nil_of_length_eq_zero (by rw [← l, z]; rfl)), lo, hi, by rw [l]; exact sh, fun z p np => ?_, fun z => ?_, fun z p np => ?_⟩
        · obtain ⟨r4, e4⟩ := r2.laid (o := .tup []) np
          refine k _ _ _ _ q3 r4 ((e1.trans e2).trans e4) (.tup (SqT.of upd_same) ?_)
          rw [show j.toNat = 0 by omega]
          exact .nil
        · subst z
          refine k _ _ _ _ q3 r2 (e1.trans e2) (.tup h2 ?_)
          have := rr.reps 1
          rw [show (List.replicate 1 _).flatten = _ ++ [] from rfl, List.append_nil] at this
          exact this
        · obtain ⟨r4, e4⟩ := r2.laid (o := .tup (_ : List V)) np
          exact k _ _ _ _ q3 r4 ((e1.trans e2).trans e4) (.tup (SqT.of upd_same) ((rr.reps j.toNat).mono e4))
      | _ => cases hd
    · exact q2.elim
theorem d_repT {X : Cx} {ok : List D → Prop} {a b : Expr} {wa wb : WE} {pos : Pos} (ha : PDE X ok a wa) (hb : PDE X ok b wb) : PDE X ok (.BinOp a .Mult b pos) (wRepT wa wb) := let ⟨_, a1, a2⟩ := ha; let ⟨_, b1, b2⟩ := hb; ⟨_, pe_op op_repA a1 b1, se_repT a2 b2⟩
end DL
/-! DL, part j: isinstance of built-in kinds; a list unpacked. -/
namespace DL
open PySem L2
def tyN : D → String
  | .none => "NoneType"
  | .bool _ => "bool"
  | .int _ => "int"
  | .str _ => "str"
  | .list _ => "list"
  | .tuple _ => "tuple"
  | .dict _ => "list"
def fIsI (T : String) : D → (D → Prop) → Prop := fun d Q => ∃ b, kitB (tyN d) T = some b ∧ Q (.bool b)
theorem Rp.ty {K : PySem.W.Frag} {H : Hp} {v : V} {d : D} (h : Rp K H v d) (nd : ∀ kv, d ≠ .dict kv) : TyX K H v (.type (tyN d)) := by
  cases h with
  | non => exact .base .non
  | bl b => exact .base (.bl b)
  | int i => exact .base (.int i)
  | str x => exact .base (.str x)
  | lst h _ => exact .base (.lst h)
  | tup h _ =>
    rcases h with (h | ⟨o, h⟩) | ⟨o, its, n, h, hc, _⟩
    · exact .base (.tup h)
    · exact .fTuple h
    · exact .kTuple h hc
  | scr h => exact absurd rfl (nd _)
def wIsI (T : String) (a : WE) : WE := fun env Q => a env fun d => match d with
  | .dict _ => False
  | d => fIsI T d Q
section
variable {K : PySem.W.Frag} {ok : List D → Prop} {ta te : TE} {wa we : WE}
theorem snd_isi {T : String} (ha : SndE K ok ta wa) : SndE K ok (tCB (rIsi K) (tCons ta (tCons (tC (.ty T)) tNil))) (wIsI T wa) := fun C H0 σ H env Q R rel hw k =>
  ha C H0 σ H env _ _ rel hw fun d v H1 H01 q r1 e1 x1 => by
    try dsimp only at q
    split at q
    · exact q.elim
    · rename_i nd
      obtain ⟨b, hb, q⟩ := q
      exact ⟨v, .ty T, _, _, b, rfl, .ty T, (x1.mono r1.sub).ty (fun kv z => nd kv z), kit_ty hb, k _ _ _ _ q r1 e1 (.bl b)⟩
theorem sg_unl {vs : List Nat} {n : Nat} {gs : TGs} {wgs : WGs} (h : SndGs K ok vs gs wgs) : SndG K ok vs (gUnl K n gs) (fun d env Q => match d with | .list ds => ds.length = n ∧ wgs ds env Q | _ => False) := fun C H0 σ H env x d Q R rel hx q k => by
  try dsimp only at q
  split at q
  · cases hx with
    | lst ha hr => exact ⟨_, _, rfl, SqL.of (rel.sub _ _ ha), by rw [hr.length]; exact q.1, h C H0 σ H env _ _ _ _ rel hr q.2 k⟩
  · exact q.elim
end
/-- a, b, .. = a list -/
def gL (n : Nat) (r : WGs) : WG := fun d env Q => match d with
  | .list ds => ds.length = n ∧ r ds env Q
  | _ => False
section
variable {X : Cx} {ok : List D → Prop} {a b c e : Expr} {es : List Expr} {wa wb wc we : WE} {pos p p2 apos : Pos} {x : Str}
theorem g_lstN {vs : List Nat} {k n : Nat} {wg : WGs} (hc : X.calm = true) (h : PDGs X ok vs es wg) (hg : ∀ t, PGs X es t → PG X (.Tuple es k pos) (gUnl X.K n t) := by exact fun _ h => pg_unl rfl h) : PDG X ok vs (.Tuple es k pos) (gL n wg) := let ⟨_, a, b⟩ := h; ⟨_, hg _ a, sg_unl b⟩
theorem d_isi {T : String} (hm : X.mg "isinstance" = none) (hmT : X.mg (Str.ofString T) = none) (hv : bootBuiltins (Str.ofString T) = some (.type T)) (ha : PDE X ok a wa) (hg : Gl X "isinstance" := by rfl) (hgT : Gl X (Str.ofString T) := by rfl)
    (hn : (Str.ofString T) ≠ "__name__" := by decide) (hdT : ((Str.ofString T) == ("__debug__" : Str)) = false := by decide)
    (hs : starEach [a, .Name (Str.ofString T) p2] X.env = (false, eval a X.env) :: starEach [.Name (Str.ofString T) p2] X.env := by rfl) (hs2 : starEach [.Name (Str.ofString T) p2] X.env = (false, eval (.Name (Str.ofString T) p2) X.env) :: starEach [] X.env := by rfl)
    (hpl : (backTo pos (starEach [.Name (Str.ofString T) p2] X.env)).any (·.1) = false := by rfl) :
    PDE X ok (.Call (.Name "isinstance" p) [a, .Name (Str.ofString T) p2] [] pos) (wIsI T wa) := let ⟨_, a1, a2⟩ := ha; ⟨_, pe_callB call_isi hg hm (by decide +kernel) (pa_cons a1 (pa_cons (pe_bltn (v := .ty T) hgT hmT hv rfl hn hdT) pa_nil hs2) hs) (by decide) (by decide) hs hpl, snd_isi a2⟩
end
end DL
/-! DL, part k: a comparison of four terms. -/
namespace DL
open PySem PySem.Spec PyProof.Rows L2
section
variable {X : Cx} {ok : List D → Prop} {a b c e : Expr} {wa wb wc we : WE} {pos : Pos}
def tChain4 (r r' r2 : R2) (ta tb tc td : TE) : TE := fun σ H Q => ta σ H fun x H1 => tb σ H1 fun y H2 => r x y H2 fun z H3 => ∃ k, z = .bl k ∧
  (if k = true then tc σ H3 fun u H4 => r' y u H4 fun z' H5 => ∃ k', z' = .bl k' ∧ (if k' = true then td σ H5 fun v H6 => r2 u v H6 Q else Q (.bl false) H5) else Q (.bl false) H3)
theorem pe_chain4 {o1 o2 o3 : CmpOp} {r r' r2 : R2} {ta tb tc td : TE} (h1 : OpR X (compareOp o1) r) (h2 : OpR X (compareOp o2) r') (h3 : OpR X (compareOp o3) r2) (ha : PE X a ta) (hb : PE X b tb) (hc : PE X c tc) (he : PE X e td)
    (hm : lastMarks [o1, o2, o3] [b, c, e] = false := by with_unfolding_all rfl) : PE X (.Compare a [o1, o2, o3] [b, c, e] pos) (tChain4 r r' r2 ta tb tc td) := by
  refine ⟨fun pins s σ H Q I h => ?_⟩
  refine Compare_chain (thn (ha.run pins s σ H _ I h) fun va s1 ⟨x, H1, I1, rx, q1⟩ => chain_link (thn (hb.run pins s1 σ H1 _ I1 q1) fun vb s2 ⟨y, H2, I2, ry, q2⟩ =>
    thn (h1 pins s2 σ H2 x y va vb _ I2 rx ry q2) fun _ s3 ⟨z, H3, I3, rz, k, ez, q3⟩ => ?_)) hm
  subst ez
  cases rz
  refine wpAny_truthy_bool ?_
  cases k with
  | false => exact ite_ff ⟨.bl false, H3, I3, rfl, q3⟩
  | true =>
    refine ite_tt (chain_link (thn (hc.run pins s3 σ H3 _ I3 q3) fun vc s4 ⟨w, H4, I4, rw_, q4⟩ => thn (h2 pins s4 σ H4 y w vb vc _ I4 ry rw_ q4) fun _ s5 ⟨z2, H5, I5, rz2, k2, ez2, q5⟩ => ?_))
    subst ez2
    cases rz2
    refine wpAny_truthy_bool ?_
    cases k2 with
    | false => exact ite_ff ⟨.bl false, H5, I5, rfl, q5⟩
    | true => exact ite_tt (chain_last (thn (he.run pins s5 σ H5 _ I5 q5) fun vd s6 ⟨v, H6, I6, rv, q6⟩ => h3 pins s6 σ H6 w v vc vd Q I6 rw_ rv q6))
/-- both later answers told -/
def wChn4 (f f' f2 : D → D → (D → Prop) → Prop) (a b c e : WE) : WE := fun env Q => a env fun x => b env fun y => f x y fun z => match z with
  | .bool k => ∃ d : Bool, (k = true → c env fun w => f' y w fun z' => match z' with
      | .bool k' => ∃ d' : Bool, (k' = true → e env fun v => f2 w v fun z2 => z2 = .bool d') ∧ (k' && d') = d
      | _ => False) ∧ Q (.bool (k && d))
  | _ => False
theorem snd_chn4 {K : PySem.W.Frag} {ok : List D → Prop} {r r' r2 : R2} {f f' f2 : D → D → (D → Prop) → Prop} {ta tb tc td : TE} {wa wb wc we : WE} (hr : OpD K r f) (hr' : OpD K r' f') (hr2 : OpD K r2 f2) (ha : SndE K ok ta wa) (hb : SndE K ok tb wb) (hc : SndE K ok tc wc) (he : SndE K ok td we) : SndE K ok (tChain4 r r' r2 ta tb tc td) (wChn4 f f' f2 wa wb wc we) := fun C H0 σ H env Q R rel hw k =>
  ha C H0 σ H env _ _ rel hw fun d v H1 H01 q r1 e1 x1 => hb C H01 σ H1 env _ _ r1 q fun e u H2 H02 q2 rl2 e2 x2 =>
    hr H02 H2 v u d e _ _ rl2.sub (x1.mono e2) x2 q2 fun z w qz rz => by
      try dsimp only at qz
      split at qz
      · rename_i k1
        cases rz
        obtain ⟨d1, q3, q4⟩ := qz
        refine ⟨k1, rfl, ?_⟩
        cases k1 with
        | false => exact iteF (k _ _ _ _ q4 rl2 (e1.trans e2) (.bl _))
        | true =>
          refine iteT (hc C H02 σ H2 env _ _ rl2 (q3 rfl) fun g t H3 H03 q5 rl3 e3 x3 => hr' H03 H3 u t e g _ _ rl3.sub (x2.mono e3) x3 q5 fun z2 w2 qz2 rz2 => ?_)
          try dsimp only at qz2
          split at qz2
          · rename_i k2
            cases rz2
            obtain ⟨d2, q6, q7⟩ := qz2
            refine ⟨k2, rfl, ?_⟩
            cases k2 with
            | false =>
              refine iteF (k _ _ _ _ ?_ rl3 ((e1.trans e2).trans e3) (.bl _))
              rw [← q7] at q4
              exact q4
            | true =>
              refine iteT (he C H03 σ H3 env _ _ rl3 (q6 rfl) fun g2 t2 H4 H04 q8 rl4 e4 x4 => hr2 H04 H4 t t2 g g2 _ _ rl4.sub (x3.mono e4) x4 q8 fun z3 w3 qz3 rz3 => ?_)
              subst qz3
              cases rz3
              refine k _ _ _ _ ?_ rl4 (((e1.trans e2).trans e3).trans e4) (.bl _)
              rw [← q7] at q4
              exact q4
          · exact qz2.elim
      · exact qz.elim
theorem d_chn4 {o1 o2 o3 : CmpOp} {r r' r2 : R2} {f f' f2 : D → D → (D → Prop) → Prop} (h1 : OpR X (compareOp o1) r) (f1 : OpD X.K r f) (h2 : OpR X (compareOp o2) r') (g2 : OpD X.K r' f') (h3 : OpR X (compareOp o3) r2) (g3 : OpD X.K r2 f2) (ha : PDE X ok a wa) (hb : PDE X ok b wb) (hc : PDE X ok c wc) (he : PDE X ok e we)
    (hm : lastMarks [o1, o2, o3] [b, c, e] = false := by with_unfolding_all rfl) : PDE X ok (.Compare a [o1, o2, o3] [b, c, e] pos) (wChn4 f f' f2 wa wb wc we) :=
  let ⟨_, a1, a2⟩ := ha; let ⟨_, b1, b2⟩ := hb; let ⟨_, c1, c2⟩ := hc; let ⟨_, e1, e2⟩ := he; ⟨_, pe_chain4 h1 h2 h3 a1 b1 c1 e1 hm, snd_chn4 f1 g2 g3 a2 b2 c2 e2⟩
end
end DL
/-! DL, part l: a dict of one's own, keyed by ints and texts. -/
namespace DL
open PySem PySem.Spec PyProof.Rows L2
def dKey : D → Option Key
  | .int i => some (.inl i)
  | .str s => some (.inr s)
  | _ => none
/-- what a dict holds at a key -/
def dAt : List (Key × D) → Key → Option D
  | [], _ => none
  | p :: r, k => if p.1 = k then some p.2 else dAt r k
def dRep : List (Key × D) → Key → D → List (Key × D)
  | [], _, _ => []
  | p :: r, k, d => (if p.1 = k then (p.1, d) else p) :: dRep r k d
def dSet (kvs : List (Key × D)) (k : Key) (d : D) : List (Key × D) := if (dAt kvs k).isSome = true then dRep kvs k d else kvs ++ [(k, d)]
theorem dAt_snoc (k j : Key) (d : D) : ∀ kvs : List (Key × D), dAt kvs k = none → dAt (kvs ++ [(k, d)]) j = if j = k then some d else dAt kvs j
  | [], _ => by
    show (if k = j then some d else none) = _
    by_cases h : k = j
    · rw [if_pos h, if_pos h.symm]
    · rw [if_neg h, if_neg fun z => h z.symm]; rfl
  | p :: r, hn => by
    have hp : ¬ p.1 = k := fun z => by
      have : dAt (p :: r) k = some p.2 := if_pos z
      rw [this] at hn; cases hn
    have hr : dAt r k = none := by
      have : dAt (p :: r) k = dAt r k := if_neg hp
      rw [← this]; exact hn
    show (if p.1 = j then some p.2 else dAt (r ++ [(k, d)]) j) = if j = k then some d else (if p.1 = j then some p.2 else dAt r j)
    rw [dAt_snoc k j d r hr]
    by_cases h : p.1 = j
    · rw [if_pos h, if_pos h, if_neg fun z => hp (h.trans z)]
    · rw [if_neg h, if_neg h]
theorem dAt_rep (k j : Key) (d : D) : ∀ kvs : List (Key × D), dAt (dRep kvs k d) j = if j = k then (dAt kvs k).map (fun _ => d) else dAt kvs j
  | [] => by
    show none = _
    by_cases h : j = k
    · rw [if_pos h]; rfl
    · rw [if_neg h]; rfl
  | p :: r => by
    have ih := dAt_rep k j d r
    show (if (if p.1 = k then (p.1, d) else p).1 = j then some (if p.1 = k then (p.1, d) else p).2 else dAt (dRep r k d) j) = if j = k then (if p.1 = k then some p.2 else dAt r k).map (fun _ => d) else (if p.1 = j then some p.2 else dAt r j)
    by_cases hk : p.1 = k
    · rw [if_pos hk, if_pos hk]
      show (if p.1 = j then some d else dAt (dRep r k d) j) = _
      by_cases hj : j = k
      · rw [if_pos (hk.trans hj.symm), if_pos hj]; rfl
      · rw [if_neg fun z => hj (z.symm.trans hk), if_neg hj, if_neg fun z => hj (z.symm.trans hk), ih, if_neg hj]
    · rw [if_neg hk, if_neg hk]
      by_cases hj : j = k
      · rw [if_pos hj, if_neg fun z => hk (z.trans hj), ih, if_pos hj]
      · rw [if_neg hj, ih, if_neg hj]
theorem dAt_set (kvs : List (Key × D)) (k j : Key) (d : D) : dAt (dSet kvs k d) j = if j = k then some d else dAt kvs j := by
  unfold dSet
  cases h : dAt kvs k with
  | none => rw [if_neg (show ¬ (none : Option D).isSome = true by decide)]; exact dAt_snoc k j d kvs h
  | some x =>
    rw [if_pos (show (some x).isSome = true from rfl), dAt_rep, h]
    rfl
theorem dRep_len (k : Key) (d : D) : ∀ kvs : List (Key × D), (dRep kvs k d).length = kvs.length
  | [] => rfl
  | p :: r => by
    show (dRep r k d).length + 1 = r.length + 1
    rw [dRep_len k d r]
theorem dSet_len (kvs : List (Key × D)) (k : Key) (d : D) : (dSet kvs k d).length ≤ kvs.length + 1 := by
  unfold dSet
  split
  · rw [dRep_len]; omega
  · rw [List.length_append]; exact Nat.le_refl _
/-! ### what is asked -/
def wSetD (i : Nat) : WS := fun W env => W.nx (env.set i (some (.dct [])))
def wDGet1 (i : Nat) (k : WE) : WE := fun env Q => match get env i with
  | some (.dct kvs) => k env fun y => ∃ z v, dKey y = some z ∧ (dAt kvs z).getD .none = v ∧ Q v
  | _ => False
def wDGet2 (i : Nat) (k a : WE) : WE := fun env Q => match get env i with
  | some (.dct kvs) => k env fun y => a env fun d => ∃ z v, dKey y = some z ∧ (dAt kvs z).getD d = v ∧ Q v
  | _ => False
def wDIx (i : Nat) (k : WE) : WE := fun env Q => match get env i with
  | some (.dct kvs) => k env fun y => ∃ z d, dKey y = some z ∧ dAt kvs z = some d ∧ Q d
  | _ => False
def wDIn (i : Nat) (k : WE) : WE := fun env Q => match get env i with
  | some (.dct kvs) => k env fun y => ∃ z b, dKey y = some z ∧ (dAt kvs z).isSome = b ∧ Q (.bool b)
  | _ => False
def wDNin (i : Nat) (k : WE) : WE := fun env Q => match get env i with
  | some (.dct kvs) => k env fun y => ∃ z b, dKey y = some z ∧ (dAt kvs z).isSome = b ∧ Q (.bool (!b))
  | _ => False
def wDPut (i : Nat) (k a : WE) : WS := fun W env => match get env i with
  | some (.dct kvs) => a env fun d => k env fun y => ∃ z, dKey y = some z ∧ kvs.length < 1000000 ∧ W.nx (env.set i (some (.dct (dSet kvs z d))))
  | _ => False
/-! ### soundness -/
section
variable {K : PySem.W.Frag} {ok : List D → Prop} {C : Ctx} {H0 H : Hp}
theorem dKey_V {v : V} {y : D} {z : Key} (h : Rp K H v y) (e : dKey y = some z) : v = kV z := by
  cases y with
  | int i => cases e; cases h; rfl
  | str s => cases e; cases h; rfl
  | none => cases e
  | bool b => cases e
  | list ds => cases e
  | tuple ds => cases e
  | dict ds => cases e
theorem krps_at : ∀ {ks : List (Key × V)} {es : List (Key × D)}, KRps K H ks es → ∀ z : Key, (valV ks z = none ∧ dAt es z = none) ∨ ∃ v d, valV ks z = some v ∧ dAt es z = some d ∧ Rp K H v d
  | [], [], _, z => .inl ⟨rfl, rfl⟩
  | [], _ :: _, h, _ => by have := h.1; simp at this
  | _ :: _, [], h, _ => by have := h.1; simp at this
  | p :: ks, q :: es, h, z => by
    obtain ⟨h1, h2⟩ := h
    rw [List.map_cons, List.map_cons] at h1 h2
    injection h1 with h3 h4
    obtain ⟨v, ws, e, r1, r2⟩ := h2.cons_inv
    injection e with e1 e2
    by_cases hz : q.1 = z
    · refine .inr ⟨p.2, q.2, valV_pos (h3.trans hz), if_pos hz, ?_⟩
      rw [e1]; exact r1
    · have := krps_at (ks := ks) (es := es) ⟨h4, by rw [e2]; exact r2⟩ z
      rw [valV_neg fun y => hz (h3.symm.trans y)]
      show (_ ∧ (if q.1 = z then some q.2 else dAt es z) = none) ∨ ∃ v d, _ ∧ (if q.1 = z then some q.2 else dAt es z) = some d ∧ _
      rw [if_neg hz]
      exact this
theorem krps_rep : ∀ {ks : List (Key × V)} {es : List (Key × D)}, KRps K H ks es → ∀ (z : Key) {v : V} {d : D}, Rp K H v d → KRps K H (ks.map fun kv => if kv.1 = z then (kv.1, v) else kv) (dRep es z d)
  | [], [], _, z, v, d, _ => ⟨rfl, .nil⟩
  | [], _ :: _, h, _, _, _, _ => by have := h.1; simp at this
  | _ :: _, [], h, _, _, _, _ => by have := h.1; simp at this
  | p :: ks, q :: es, h, z, v, d, hr => by
    obtain ⟨h1, h2⟩ := h
    rw [List.map_cons, List.map_cons] at h1 h2
    injection h1 with h3 h4
    obtain ⟨v', ws, e, r1, r2⟩ := h2.cons_inv
    injection e with e1 e2
    have ih := krps_rep (ks := ks) (es := es) ⟨h4, by rw [e2]; exact r2⟩ z hr
    by_cases hz : q.1 = z
    · rw [List.map_cons, if_pos (h3.trans hz)]
      show KRps K H ((p.1, v) :: _) ((if q.1 = z then (q.1, d) else q) :: _)
      rw [if_pos hz]
      exact ⟨by rw [List.map_cons, List.map_cons, ih.1, h3], .cons hr ih.2⟩
    · rw [List.map_cons, if_neg fun y => hz (h3.symm.trans y)]
      show KRps K H (p :: _) ((if q.1 = z then (q.1, d) else q) :: _)
      rw [if_neg hz]
      exact ⟨by rw [List.map_cons, List.map_cons, ih.1, h3], .cons (by rw [e1]; exact r1) ih.2⟩
theorem krps_set {ks : List (Key × V)} {es : List (Key × D)} (h : KRps K H ks es) (z : Key) {v : V} {d : D} (hr : Rp K H v d) : KRps K H (putK ks z v) (dSet es z d) := by
  unfold putK dSet
  rw [valV_any]
  rcases krps_at h z with ⟨e1, e2⟩ | ⟨w, x, e1, e2, _⟩
  · rw [e1, e2]
    refine ⟨?_, ?_⟩
    · show (ks ++ [(z, v)]).map Prod.fst = (es ++ [(z, d)]).map Prod.fst
      rw [List.map_append, List.map_append, h.1]; rfl
    · show Rps K H ((ks ++ [(z, v)]).map Prod.snd) ((es ++ [(z, d)]).map Prod.snd)
      rw [List.map_append, List.map_append]
      exact h.2.append (.one hr)
  · rw [e1, e2]
    exact krps_rep h z hr
theorem krps_len {ks : List (Key × V)} {es : List (Key × D)} (h : KRps K H ks es) : ks.length = es.length := by
  have := congrArg List.length h.1
  rwa [List.length_map, List.length_map] at this
variable {tk ta : TE} {wk wa : WE} {i : Nat}
theorem ss_setD : SndS K ok (tAsg tDNewK (gName i)) (wSetD i) := fun C H0 σ H env E W rel hw h => by
  show ∀ p, H p = none → _
  intro p hp
  exact h.nx _ _ _ H0 (Same.refl _) ((rel.laid0 hp).setO (s := .dct []) ⟨p, [], rfl, rel.fresh hp, rel.sub.free hp, upd_same, rfl, .nil⟩ rfl (rel.kp.free hp) fun j t _ ht ot => rel.noslot hp j t ht ot) hw
theorem snd_dget1 (hk : SndE K ok tk wk) : SndE K ok (tDGet1 (tVar i) tk) (wDGet1 i wk) := fun C H0 σ H env Q R rel hw k => by
  unfold wDGet1 at hw
  split at hw
  · rename_i kvs hd
    obtain ⟨p, ks, e, n, n0, hp, kr⟩ := rel.slot i _ (get_eq hd)
    refine ⟨.ref p, e, p, rfl, .inl ⟨ks, .inl hp⟩, hk C H0 σ H env _ _ rel hw fun y v H1 H01 q r1 e1 x1 => ?_⟩
    obtain ⟨p', ks1, e', n, n0, hp1, kr1⟩ := r1.slot i _ (get_eq hd)
    rw [e] at e'
    cases e'
    obtain ⟨z, w0, hz, hw0, q⟩ := q
    subst hw0
    have ev := dKey_V x1 hz
    subst ev
    refine ⟨_, DGet.k hp1, ?_⟩
    rcases krps_at kr1 z with ⟨a1, a2⟩ | ⟨w, d, a1, a2, r⟩
    · rw [a1]
      rw [a2] at q
      exact k _ _ H1 H01 q r1 e1 .non
    · rw [a1]
      rw [a2] at q
      exact k _ _ H1 H01 q r1 e1 r
  · exact hw.elim
theorem snd_dget2 (hk : SndE K ok tk wk) (ha : SndE K ok ta wa) : SndE K ok (tDGet2 (tVar i) tk ta) (wDGet2 i wk wa) := fun C H0 σ H env Q R rel hw k => by
  unfold wDGet2 at hw
  split at hw
  · rename_i kvs hd
    obtain ⟨p, ks, e, n, n0, hp, kr⟩ := rel.slot i _ (get_eq hd)
    refine ⟨.ref p, e, p, rfl, .inl ⟨ks, .inl hp⟩, hk C H0 σ H env _ _ rel hw fun y v H1 H01 q r1 e1 x1 => ha C H01 σ H1 env _ _ r1 q fun d u H2 H02 q r2 e2 x2 => ?_⟩
    obtain ⟨p', ks1, e', n, n0, hp1, kr1⟩ := r2.slot i _ (get_eq hd)
    rw [e] at e'
    cases e'
    obtain ⟨z, w0, hz, hw0, q⟩ := q
    subst hw0
    have ev := dKey_V x1 hz
    subst ev
    refine ⟨_, DGet.k hp1, ?_⟩
    rcases krps_at kr1 z with ⟨a1, a2⟩ | ⟨w, d', a1, a2, r⟩
    · rw [a1]
      rw [a2] at q
      exact k _ _ H2 H02 q r2 (e1.trans e2) x2
    · rw [a1]
      rw [a2] at q
      exact k _ _ H2 H02 q r2 (e1.trans e2) r
  · exact hw.elim
theorem snd_dix (hk : SndE K ok tk wk) : SndE K ok (tDGet (tVar i) tk) (wDIx i wk) := fun C H0 σ H env Q R rel hw k => by
  unfold wDIx at hw
  split at hw
  · rename_i kvs hd
    obtain ⟨p, ks, e, n, n0, hp, kr⟩ := rel.slot i _ (get_eq hd)
    refine ⟨.ref p, e, hk C H0 σ H env _ _ rel hw fun y v H1 H01 q r1 e1 x1 => ?_⟩
    obtain ⟨p', ks1, e', n, n0, hp1, kr1⟩ := r1.slot i _ (get_eq hd)
    rw [e] at e'
    cases e'
    obtain ⟨z, d, hz, hd', q⟩ := q
    have ev := dKey_V x1 hz
    subst ev
    rcases krps_at kr1 z with ⟨a1, a2⟩ | ⟨w, d', a1, a2, r⟩
    · rw [hd'] at a2; cases a2
    · rw [hd'] at a2
      cases a2
      exact ⟨p, w, rfl, by rw [← a1]; exact DGet.k hp1, k _ _ H1 H01 q r1 e1 r⟩
  · exact hw.elim
theorem snd_din (hk : SndE K ok tk wk) : SndE K ok (tDIn tk (tVar i)) (wDIn i wk) := fun C H0 σ H env Q R rel hw k => by
  unfold wDIn at hw
  split at hw
  · rename_i kvs hd
    refine hk C H0 σ H env _ _ rel hw fun y v H1 H01 q r1 e1 x1 => ?_
    obtain ⟨p, ks1, e, n, n0, hp1, kr1⟩ := r1.slot i _ (get_eq hd)
    obtain ⟨z, w0, hz, hw0, q⟩ := q
    subst hw0
    have ev := dKey_V x1 hz
    subst ev
    refine ⟨.ref p, e, p, _, rfl, DGet.k hp1, ?_⟩
    have : (valV ks1 z).isSome = (dAt kvs z).isSome := by
      rcases krps_at kr1 z with ⟨a1, a2⟩ | ⟨w, d', a1, a2, r⟩ <;> rw [a1, a2] <;> rfl
    rw [this]
    exact k _ _ H1 H01 q r1 e1 (.bl _)
  · exact hw.elim
theorem snd_dnin (hk : SndE K ok tk wk) : SndE K ok (tDNotIn tk (tVar i)) (wDNin i wk) := fun C H0 σ H env Q R rel hw k => by
  unfold wDNin at hw
  split at hw
  · rename_i kvs hd
    refine hk C H0 σ H env _ _ rel hw fun y v H1 H01 q r1 e1 x1 => ?_
    obtain ⟨p, ks1, e, n, n0, hp1, kr1⟩ := r1.slot i _ (get_eq hd)
    obtain ⟨z, w0, hz, hw0, q⟩ := q
    subst hw0
    have ev := dKey_V x1 hz
    subst ev
    refine ⟨.ref p, e, p, _, rfl, DGet.k hp1, ?_⟩
    have : (valV ks1 z).isSome = (dAt kvs z).isSome := by
      rcases krps_at kr1 z with ⟨a1, a2⟩ | ⟨w, d', a1, a2, r⟩ <;> rw [a1, a2] <;> rfl
    rw [this]
    exact k _ _ H1 H01 q r1 e1 (.bl _)
  · exact hw.elim
theorem ss_dput (ha : SndE K ok ta wa) (hk : SndE K ok tk wk) : SndS K ok (sDPut (tVar i) tk ta) (wDPut i wk wa) := fun C H0 σ H env E W rel hw h => by
  unfold wDPut at hw
  split at hw
  · rename_i kvs hd
    refine ha C H0 σ H env _ _ rel hw fun d v H1 H01 q r1 e1 x1 => ?_
    obtain ⟨p, ks, e, n, n0, hp, kr⟩ := r1.slot i _ (get_eq hd)
    refine ⟨.ref p, e, hk C H01 σ H1 env _ _ r1 q fun y u H2 H02 q r2 e2 x2 => ?_⟩
    obtain ⟨p', ks1, e', n, n0, hp1, kr1⟩ := r2.slot i _ (get_eq hd)
    rw [e] at e'
    cases e'
    obtain ⟨z, hz, hl, q⟩ := q
    have ev := dKey_V x2 hz
    subst ev
    refine ⟨p, _, rfl, DPut.k hp1 (by rw [krps_len kr1]; exact lt_size hl), ?_⟩
    exact h.nx _ _ _ H02 (e1.trans e2) (r2.put (s := .dct kvs) (t := .dct (dSet kvs z d)) (get_eq hd) rfl e (fun y => by obtain ⟨⟨o, w⟩, _⟩ := r2.hv p y; rw [n] at w; cases w) rfl ⟨p, _, rfl, n, n0, upd_same, krps_set kr1 z (x1.mono e2)⟩) q
  · exact hw.elim
end
section
variable {X : Cx} {ok : List D → Prop} {a b e : Expr} {wa wb we : WE} {pos : Pos} {x : Str}
theorem s_setD (i : Nat) {pos' dpos : Pos} (hN : X.N.Nodup) (hi : X.N[i]? = some x := by rfl) (hx : Loc X.env.scope x := by first | exact Or.inl rfl | exact Or.inr rfl) (hs : swapsWith (.Dict [] [] dpos) (some (.Name x pos')) pos.line X.env = pure false := by rfl) (hf : X.fn x = true ∨ X.env.scope.names.lookup x = some .local := by first | exact .inl rfl | exact .inr rfl) :
    PDS X ok (.Assign [.Name x pos'] (.Dict [] [] dpos) pos) (wSetD i) := ⟨_, ps_set hN hi hx pe_dnewK hs hf, ss_setD⟩
theorem d_dget1 {k : Nat} (i : Nat) {apos mp : Pos} (hr : Room k X.A) (ha : PDE X ok a wa) (hN : X.N[i]? = some x := by rfl) (hv : Vis X.env.scope x := by first | exact Or.inl rfl | exact Or.inr (Or.inl rfl) | exact Or.inr (Or.inr rfl)) (hd : (x == ("__debug__" : Str)) = false := by decide) (hcd : (x == ("__classdict__" : Str)) = false := by decide)
    (m1 : attributeBase (.Name x mp) "get" X.env (eval (.Name x mp) X.env) = eval (.Name x mp) X.env := by rfl)
    (m2 : ((backTo pos (starEach [a] X.env)).all (fun x => !x.1) && (backToKw pos (keywordEach [] X.env)).all (fun x => x.1.isSome) && decide (([a] : List Expr).length + ([] : List Keyword).length + (if ([] : List Keyword).isEmpty then 0 else 1) < 30)) = true := by rfl)
    (m3 : (apos.endLine == pos.line) = true := by rfl) (m4 : backTo pos (starEach [a] X.env) = [(false, eval a X.env)] := by rfl) :
    PDE X ok (.Call (.Attribute (.Name x mp) "get" apos) [a] [] pos) (wDGet1 i wa) := let ⟨_, a1, a2⟩ := ha; ⟨_, pe_dget1 (by have := units65 hr; omega) (pe_var hN hv hd hcd) a1 ⟨m1, m2, m3, m4⟩, snd_dget1 a2⟩
theorem d_dget2 {k : Nat} (i : Nat) {apos mp : Pos} (hr : Room k X.A) (ha : PDE X ok a wa) (hb : PDE X ok b wb) (hN : X.N[i]? = some x := by rfl) (hv : Vis X.env.scope x := by first | exact Or.inl rfl | exact Or.inr (Or.inl rfl) | exact Or.inr (Or.inr rfl)) (hd : (x == ("__debug__" : Str)) = false := by decide) (hcd : (x == ("__classdict__" : Str)) = false := by decide)
    (m1 : attributeBase (.Name x mp) "get" X.env (eval (.Name x mp) X.env) = eval (.Name x mp) X.env := by rfl)
    (m2 : ((backTo pos (starEach [a, b] X.env)).all (fun x => !x.1) && (backToKw pos (keywordEach [] X.env)).all (fun x => x.1.isSome) && decide (([a, b] : List Expr).length + ([] : List Keyword).length + (if ([] : List Keyword).isEmpty then 0 else 1) < 30)) = true := by rfl)
    (m3 : (apos.endLine == pos.line) = true := by rfl) (m4 : backTo pos (starEach [a, b] X.env) = [(false, eval a X.env), (false, eval b X.env)] := by rfl) :
    PDE X ok (.Call (.Attribute (.Name x mp) "get" apos) [a, b] [] pos) (wDGet2 i wa wb) := let ⟨_, a1, a2⟩ := ha; let ⟨_, b1, b2⟩ := hb; ⟨_, pe_dget2 (by have := units65 hr; omega) (pe_var hN hv hd hcd) a1 b1 ⟨m1, m2, m3, m4⟩, snd_dget2 a2 b2⟩
theorem d_dix {k : Nat} (i : Nat) {mp : Pos} (hr : Room k X.A) (ha : PDE X ok a wa) (hN : X.N[i]? = some x := by rfl) (hv : Vis X.env.scope x := by first | exact Or.inl rfl | exact Or.inr (Or.inl rfl) | exact Or.inr (Or.inr rfl)) (hd : (x == ("__debug__" : Str)) = false := by decide) (hcd : (x == ("__classdict__" : Str)) = false := by decide)
    (hs : NoSl a := by exact fun _ _ _ => rfl) : PDE X ok (.Subscript (.Name x mp) a pos) (wDIx i wa) := let ⟨_, a1, a2⟩ := ha; ⟨_, pe_dget (by have := units65 hr; omega) (pe_var hN hv hd hcd) a1 hs, snd_dix a2⟩
theorem d_din {k : Nat} (i : Nat) {mp : Pos} (hr : Room k X.A) (ha : PDE X ok a wa) (hN : X.N[i]? = some x := by rfl) (hv : Vis X.env.scope x := by first | exact Or.inl rfl | exact Or.inr (Or.inl rfl) | exact Or.inr (Or.inr rfl)) (hd : (x == ("__debug__" : Str)) = false := by decide) (hcd : (x == ("__classdict__" : Str)) = false := by decide)
    (hm : behindInMarks .In (.Name x mp) = false := by rfl) : PDE X ok (.Compare a [.In] [.Name x mp] pos) (wDIn i wa) := let ⟨_, a1, a2⟩ := ha; ⟨_, pe_cmp (pc_din (by have := units65 hr; omega) a1 (pe_var hN hv hd hcd)) hm, snd_din a2⟩
theorem d_dnin {k : Nat} (i : Nat) {mp : Pos} (hr : Room k X.A) (ha : PDE X ok a wa) (hN : X.N[i]? = some x := by rfl) (hv : Vis X.env.scope x := by first | exact Or.inl rfl | exact Or.inr (Or.inl rfl) | exact Or.inr (Or.inr rfl)) (hd : (x == ("__debug__" : Str)) = false := by decide) (hcd : (x == ("__classdict__" : Str)) = false := by decide)
    (hm : behindInMarks .NotIn (.Name x mp) = false := by rfl) : PDE X ok (.Compare a [.NotIn] [.Name x mp] pos) (wDNin i wa) := let ⟨_, a1, a2⟩ := ha; ⟨_, pe_cmp (pc_dnotin (by have := units65 hr; omega) a1 (pe_var hN hv hd hcd)) hm, snd_dnin a2⟩
theorem t_din {k : Nat} (i : Nat) {mp : Pos} (hr : Room k X.A) (ha : PDE X ok a wa) (hN : X.N[i]? = some x := by rfl) (hv : Vis X.env.scope x := by first | exact Or.inl rfl | exact Or.inr (Or.inl rfl) | exact Or.inr (Or.inr rfl)) (hd : (x == ("__debug__" : Str)) = false := by decide) (hcd : (x == ("__classdict__" : Str)) = false := by decide)
    (hm : behindInMarks .In (.Name x mp) = false := by rfl) : PDT X ok (.Compare a [.In] [.Name x mp] pos) (wTest (wDIn i wa)) := let ⟨_, a1, a2⟩ := ha; ⟨_, pt_cmp (pc_din (by have := units65 hr; omega) a1 (pe_var hN hv hd hcd)) hm, snd_tB (snd_din a2)⟩
theorem t_dnin {k : Nat} (i : Nat) {mp : Pos} (hr : Room k X.A) (ha : PDE X ok a wa) (hN : X.N[i]? = some x := by rfl) (hv : Vis X.env.scope x := by first | exact Or.inl rfl | exact Or.inr (Or.inl rfl) | exact Or.inr (Or.inr rfl)) (hd : (x == ("__debug__" : Str)) = false := by decide) (hcd : (x == ("__classdict__" : Str)) = false := by decide)
    (hm : behindInMarks .NotIn (.Name x mp) = false := by rfl) : PDT X ok (.Compare a [.NotIn] [.Name x mp] pos) (wTest (wDNin i wa)) := let ⟨_, a1, a2⟩ := ha; ⟨_, pt_cmp (pc_dnotin (by have := units65 hr; omega) a1 (pe_var hN hv hd hcd)) hm, snd_tB (snd_dnin a2)⟩
theorem s_dput {k : Nat} (i : Nat) {tp mp : Pos} {ix : Expr} (hr : Room k X.A) (he : PDE X ok e we) (hk : PDE X ok ix wa) (hN : X.N[i]? = some x := by rfl) (hv : Vis X.env.scope x := by first | exact Or.inl rfl | exact Or.inr (Or.inl rfl) | exact Or.inr (Or.inr rfl)) (hd : (x == ("__debug__" : Str)) = false := by decide) (hcd : (x == ("__classdict__" : Str)) = false := by decide)
    (hs : swapsWith e (some (.Subscript (.Name x mp) ix tp)) pos.line X.env = pure false := by rfl) :
    PDS X ok (.Assign [.Subscript (.Name x mp) ix tp] e pos) (wDPut i wa we) := let ⟨_, e1, e2⟩ := he; let ⟨_, k1, k2⟩ := hk; ⟨_, ps_dput (by have := units65 hr; omega) (pe_var hN hv hd hcd) k1 e1 hs, ss_dput e2 k2⟩
end
end DL
/-! DL, part m: a list of one's own, lent to a call that hands back no list. -/
namespace DL
open PySem PySem.Spec PyProof.Rows L2
/-- no list within -/
def noL : Nat → D → Bool
  | _, .none => true
  | _, .bool _ => true
  | _, .int _ => true
  | _, .str _ => true
  | k + 1, .tuple ds => ds.all (noL k)
  | _, _ => false
def delA (H : Hp) (p : Addr) : Hp := fun b => if b = p then none else H b
theorem delA_ne {H : Hp} {p b : Addr} (h : b ≠ p) : delA H p b = H b := if_neg h
theorem delA_self {H : Hp} {p : Addr} : delA H p p = none := if_pos rfl
section
variable {K : PySem.W.Frag} {ok : List D → Prop}
theorem sqT_del {H : Hp} {p a : Addr} {xs ws : List V} (hp : H p = some (.lst ws)) (h : SqT K H a xs) : SqT K (delA H p) a xs := by
  rcases h with (h | ⟨o, h⟩) | h
  · refine .inl (.inl ?_)
    rw [delA_ne fun z => by subst z; rw [hp] at h; cases h]
    exact h
  · refine .inl (.inr ⟨o, ?_⟩)
    rw [delA_ne fun z => by subst z; rw [hp] at h; cases h]
    exact h
  · exact .inr h
theorem rps_del {H : Hp} {p : Addr} {k : Nat} (ih : ∀ v d, Rp K H v d → noL k d = true → Rp K (delA H p) v d) : ∀ {vs : List V} {ds : List D}, Rps K H vs ds → ds.all (noL k) = true → Rps K (delA H p) vs ds
  | _, _, .nil, _ => .nil
  | _, _, .cons h t, e => by
    rw [List.all_cons, Bool.and_eq_true] at e
    exact .cons (ih _ _ h e.1) (rps_del ih t e.2)
theorem rp_del {H : Hp} {p : Addr} {ws : List V} (hp : H p = some (.lst ws)) : ∀ (k : Nat) (v : V) (d : D), Rp K H v d → noL k d = true → Rp K (delA H p) v d
  | k, _, _, .non, _ => .non
  | k, _, _, .bl b, _ => .bl b
  | k, _, _, .int i, _ => .int i
  | k, _, _, .str x, _ => .str x
  | 0, _, _, .lst _ _, e => by cases e
  | 0, _, _, .tup _ _, e => by cases e
  | 0, _, _, .scr _, e => by cases e
  | k + 1, _, _, .lst _ _, e => by cases e
  | k + 1, _, _, .scr _, e => by cases e
  | k + 1, _, _, .tup h r, e => .tup (sqT_del hp h) (rps_del (rp_del hp k) r e)
end
def wLend2 (M : WM) (a : WE) (i : Nat) : WE := fun env Q => match get env i with
  | some (.own ds) => a env fun x => M [.v x, .v (.list ds)] fun r => (∃ k, noL k r.val = true) ∧ Q r.val
  | _ => False
section
variable {K : PySem.W.Frag} {ok : List D → Prop}
theorem snd_lend2 {M : WM} {te : TE} {we : WE} {i : Nat} {E : XK} (he : SndE K ok te we) : SndE K ok (tCall (SpD K ok 2 M) [] E (tCons te (tCons (tVar i) tNil))) (wLend2 M we i) := fun C H0 σ H env Q R rel hw k => by
  unfold wLend2 at hw
  split at hw
  · rename_i ds hd
    refine he C H0 σ H env _ _ rel hw fun x u H1 H01 q r1 e1 x1 => ?_
    obtain ⟨p, e, n, n0, vs, hp, hr⟩ := r1.slot i _ (get_eq hd)
    refine ⟨.ref p, e, ?_⟩
    show SpD K ok 2 M ([u, .ref p] ++ []) H1 R E
    rw [List.append_nil]
    have g0 : Same H01 (upd H01 p (.lst vs)) := same_new n0
    refine ⟨upd H01 p (.lst vs), none, [.v x, .v (.list ds)], _, rfl, rfl, rfl, fun b o hb => ?_, .cons (x1.mono g0) (.cons (.lst upd_same (hr.mono g0)) .nil), fun a z => (by cases z), q, fun v H' r H02 hq P => ?_⟩
    · by_cases h : b = p
      · subst h; rw [upd_same] at hb; rw [hp]; exact hb
      · rw [upd_ne h] at hb; exact r1.sub _ _ hb
    have hp2 : H02 p = some (.lst vs) := P.grow _ _ upd_same
    have e0 : Same H01 (delA H02 p) := fun b o hb => by
      have hbp : b ≠ p := fun z => by subst z; rw [n0] at hb; cases hb
      rw [delA_ne hbp]
      exact P.grow _ _ (g0 _ _ hb)
    have kp : Same H1 H' := fun b o hb => P.fr b o hb (by simp)
    have r2 := r1.step e0 (H1 := H') (fun b o hb => by
      have hbp : b ≠ p := fun z => by subst z; rw [delA_self] at hb; cases hb
      rw [delA_ne hbp] at hb
      exact P.sub _ _ hb) (fun b o hb => by
      have hbp : b ≠ p := fun z => by subst z; rw [delA_self] at hb; cases hb
      rw [delA_ne hbp] at hb
      rcases P.new b o hb with z | z
      · rw [upd_ne hbp] at z; exact .inl z
      · exact .inr z) kp
    obtain ⟨⟨m, hm⟩, hq2⟩ := hq
    have z := P.res
    cases r with
    | v d => exact k _ _ H' _ hq2 r2 (e1.trans e0) (rp_del hp2 m _ _ z hm)
    | own ds' => cases m <;> cases hm
  · exact hw.elim
end
section
variable {X : Cx} {ok : List D → Prop} {a : Expr} {wa : WE} {pos : Pos} {x : Str}
theorem d_lend2 {k j : Nat} {M : WM} {f : Str} {p mp : Pos} (i : Nat) (h : Has X.prog X.w X.K X.mg X.base ok k f 2 M) (hr : Room j X.A) (hk : k ≤ j) (ha : PDE X ok a wa) (hN : X.N[i]? = some x := by rfl) (hv : Vis X.env.scope x := by first | exact Or.inl rfl | exact Or.inr (Or.inl rfl) | exact Or.inr (Or.inr rfl)) (hd : (x == ("__debug__" : Str)) = false := by decide) (hcd : (x == ("__classdict__" : Str)) = false := by decide)
    (hg : Gl X f := by rfl) (hdb : (f == ("__debug__" : Str)) = false := by decide)
    (he : starEach [a, .Name x mp] X.env = (false, eval a X.env) :: starEach [.Name x mp] X.env := by rfl) (hpl : (backTo pos (starEach [.Name x mp] X.env)).any (·.1) = false := by rfl)
    (hs2 : starEach [.Name x mp] X.env = (false, eval (.Name x mp) X.env) :: starEach [] X.env := by rfl) :
    PDE X ok (.Call (.Name f p) [a, .Name x mp] [] pos) (wLend2 M wa i) :=
  let ⟨f, fd, ps, G, hm, kp, bs⟩ := h.ex; let ⟨_, a1, a2⟩ := ha; ⟨_, pe_call G (hr.mono hk) hg hm kp bs .nil pass0 (pa_cons a1 (pa_cons (pe_var hN hv hd hcd) pa_nil hs2) he) hdb he hpl, snd_lend2 a2⟩
end
end DL
/-! DL, part n: a, b, c = x, y, z. -/
namespace DL
open PySem PySem.Spec PyProof.Rows L2
def wPar3 (i j l : Nat) (a : WA) : WS := fun W env => a env fun as => match as with
  | [.v x, .v y, .v z] => W.nx (((env.set i (some (.v x))).set j (some (.v y))).set l (some (.v z)))
  | _ => False
theorem ss_par3 {K : PySem.W.Frag} {ok : List D → Prop} {i j l : Nat} {ta : TA} {wa : WA} (ha : SndA K ok ta wa) : SndS K ok (tPar3 i j l ta) (wPar3 i j l wa) := fun C H0 σ H env E W rel hw h =>
  ha C H0 σ H env _ _ rel hw fun as vs H1 H01 q r e x => by
    try dsimp only at q
    split at q
    · cases x with
      | cons x1 x =>
        cases x with
        | cons x2 x =>
          cases x with
          | cons x3 x =>
            cases x
            refine ⟨_, _, _, rfl, ?_⟩
            exact h.nx _ _ _ H01 e (((r.setV (show Rp K H01 _ _ from x1)).setV (show Rp K H01 _ _ from x2)).setV (show Rp K H01 _ _ from x3)) q
    · exact q.elim
section
variable {X : Cx} {ok : List D → Prop} {a b c : Expr} {wr : WA} {pos : Pos} {x : Str}
theorem s_par3 (i j l : Nat) {y z : Str} {px py pz pt : Pos} {kt k2 pt2} (hc : X.calm = true) (hN : X.N.Nodup) (hij : i ≠ j) (hil : i ≠ l) (hjl : j ≠ l) (ha : PDA X ok [a, b, c] wr) (hi : X.N[i]? = some x := by rfl) (hj : X.N[j]? = some y := by rfl) (hl : X.N[l]? = some z := by rfl)
    (hx : X.env.scope.names.lookup x = some .local := by rfl) (hy : X.env.scope.names.lookup y = some .local := by rfl) (hz : X.env.scope.names.lookup z = some .local := by rfl)
    (hw : swappedStores [.Tuple [.Name x px, .Name y py, .Name z pz] kt pt] (.Tuple [a, b, c] k2 pt2) X.env = pure (some [x, y, z]) := by rfl)
    (hs : swapsWithSole [.Tuple [.Name x px, .Name y py, .Name z pz] kt pt] (.Tuple [a, b, c] k2 pt2) pos.line X.env = pure false := by rfl) :
    PDS X ok (.Assign [.Tuple [.Name x px, .Name y py, .Name z pz] kt pt] (.Tuple [a, b, c] k2 pt2) pos) (wPar3 i j l wr) := let ⟨_, a1, a2⟩ := ha; ⟨_, ps_par3 hc hN hi hj hl hij hil hjl hx hy hz a1 hw hs, ss_par3 a2⟩
end
end DL
/-! DL, part o: str of an int. -/
namespace DL
open PySem PySem.Spec PyProof.Rows L2
def fStr : D → (D → Prop) → Prop := fun d Q => match d with
  | .int i => i.natAbs.log2 < 1920 ∧ Q (.str (toString i))
  | _ => False
theorem cd_str {K : PySem.W.Frag} : CallD1 K (fun xs H Q => ∃ i, xs = [.int i] ∧ i.natAbs.log2 < 1920 ∧ Q (.str (toString i)) H) fStr := fun H0 H x d Q R s hx q k => by
  unfold fStr at q
  split at q
  · cases hx
    exact ⟨_, rfl, q.1, k _ _ q.2 (.str _)⟩
  · exact q.elim
section
variable {X : Cx} {ok : List D → Prop} {a : Expr} {wa : WE} {pos p : Pos}
theorem d_strc (hm : X.mg "str" = none) (ha : PDE X ok a wa) (hg : Gl X "str" := by rfl) (hs : starEach [a] X.env = (false, eval a X.env) :: starEach [] X.env := by rfl) (hpl : (backTo pos (starEach [] X.env)).any (·.1) = false := by rfl) :
    PDE X ok (.Call (.Name "str" p) [a] [] pos) (wUn fStr wa) := d_T1 call_str_int cd_str (by decide +kernel) hm ha (by decide) (by decide) hg hs hpl
end
end DL
/-! mathematics: remainders and powers. -/
namespace MB
theorem emod_mul_l (a b m : Int) : (a % m) * b % m = a * b % m := by
  rw [Int.mul_emod, Int.emod_emod_of_dvd _ (Int.dvd_refl m), ← Int.mul_emod]
theorem emod_mul_r (a b m : Int) : a * (b % m) % m = a * b % m := by
  rw [Int.mul_emod, Int.emod_emod_of_dvd _ (Int.dvd_refl m), ← Int.mul_emod]
theorem emod_pow (a m : Int) (k : Nat) : (a % m) ^ k % m = a ^ k % m := by
  induction k with
  | zero => rw [Int.pow_zero, Int.pow_zero]
  | succ k ih =>
    rw [Int.pow_succ, Int.pow_succ, emod_mul_r, Int.mul_emod, ih, ← Int.mul_emod]
theorem cong_mul {a b c d m : Int} (h : a % m = b % m) (k : c % m = d % m) : a * c % m = b * d % m := by
  rw [Int.mul_emod, h, k, ← Int.mul_emod]
theorem cong_add {a b c d m : Int} (h : a % m = b % m) (k : c % m = d % m) : (a + c) % m = (b + d) % m := by
  rw [Int.add_emod, h, k, ← Int.add_emod]
theorem cong_pow {a b m : Int} (h : a % m = b % m) (k : Nat) : a ^ k % m = b ^ k % m := by
  rw [← emod_pow, h, emod_pow]
/-- one turn of the ladder -/
theorem ladder_odd (r b m : Int) {j : Int} (h0 : 0 ≤ j) (h : j % 2 = 1) : (r * b % m) * (b * b % m) ^ (j / 2).toNat % m = r * b ^ j.toNat % m := by
  have e : j.toNat = (j / 2).toNat + (j / 2).toNat + 1 := by omega
  rw [emod_mul_l, ← emod_mul_r, emod_pow, emod_mul_r, e, Int.pow_succ, Int.pow_add, Int.mul_pow]
  congr 1
  grind
theorem ladder_even (r b m : Int) {j : Int} (h0 : 0 ≤ j) (h : ¬ j % 2 = 1) : r * (b * b % m) ^ (j / 2).toNat % m = r * b ^ j.toNat % m := by
  have e : j.toNat = (j / 2).toNat + (j / 2).toNat := by omega
  rw [← emod_mul_r, emod_pow, emod_mul_r, e, Int.pow_add, Int.mul_pow]
theorem two_pow_cast (k : Nat) : ((2 ^ k : Nat) : Int) = 2 ^ k := by rw [Int.natCast_pow]; rfl
theorem mul_bd {u v A B : Int} (u0 : -A ≤ u) (u1 : u ≤ A) (v0 : 0 ≤ v) (v1 : v ≤ B) (A0 : 0 ≤ A) : -(A * B) ≤ u * v ∧ u * v ≤ A * B := by
  have h1 := Int.mul_le_mul_of_nonneg_right u1 v0
  have h2 := Int.mul_le_mul_of_nonneg_left v1 A0
  have h3 := Int.mul_le_mul_of_nonneg_right u0 v0
  rw [Int.neg_mul] at h3
  omega
theorem sq_nonneg (a : Int) : 0 ≤ a * a := by
  rcases Int.le_total 0 a with h | h
  · exact Int.mul_nonneg h h
  · have := Int.mul_nonneg (a := -a) (b := -a) (by omega) (by omega)
    rwa [Int.neg_mul_neg] at this
theorem gcd_dvd_iff {a b c d : Int} (h1 : ∀ k : Int, k ∣ a ∧ k ∣ b ↔ k ∣ c ∧ k ∣ d) : Int.gcd a b = Int.gcd c d := by
  apply Nat.dvd_antisymm
  · have := (h1 (Int.gcd a b)).mp ⟨Int.gcd_dvd_left _ _, Int.gcd_dvd_right _ _⟩
    exact Int.natCast_dvd_natCast.mp (Int.dvd_coe_gcd this.1 this.2)
  · have := (h1 (Int.gcd c d)).mpr ⟨Int.gcd_dvd_left _ _, Int.gcd_dvd_right _ _⟩
    exact Int.natCast_dvd_natCast.mp (Int.dvd_coe_gcd this.1 this.2)
theorem gcd_mod (n v : Int) : Int.gcd n (v % n) = Int.gcd n v := gcd_dvd_iff fun k => by
  constructor
  · rintro ⟨h1, h2⟩
    refine ⟨h1, ?_⟩
    have := Int.dvd_add h2 (Int.dvd_trans h1 (Int.dvd_mul_right n (v / n)))
    rwa [Int.emod_add_mul_ediv] at this
  · rintro ⟨h1, h2⟩
    refine ⟨h1, ?_⟩
    rw [Int.emod_def]
    exact Int.dvd_sub h2 (Int.dvd_trans h1 (Int.dvd_mul_right n (v / n)))
theorem gcd_mod_r (a b : Int) : Int.gcd b (a % b) = Int.gcd a b := by rw [gcd_mod, Int.gcd_comm]
theorem dvd_of_gcd_one {k m n : Int} (h : Int.gcd k m = 1) (hd : k ∣ m * n) : k ∣ n := by
  rw [← Int.natAbs_dvd_natAbs, Int.natAbs_mul] at hd
  rw [← Int.natAbs_dvd_natAbs]
  exact Nat.Coprime.dvd_of_dvd_mul_left h hd
end MB
namespace DL
open PySem L2
theorem rng_at {lo : Int} {n i : Nat} {d : D} (h : (rng lo n)[i]? = some d) : i < n ∧ d = .int (lo + i) := by
  by_cases hi : i < n
  · rw [rng_get hi] at h
    exact ⟨hi, (Option.some.inj h).symm⟩
  · rw [List.getElem?_eq_none (by rw [rng_len]; omega)] at h
    cases h
theorem dr {n : Int} {Q : Rt → Prop} (h0 : 0 < n) (h : n < 2 ^ 200) (hq : ∀ r : Int, 0 ≤ r → r < n → Q (.v (.int r))) : oneH [.hnd, .v (.int n)] = true ∧ [Ar.hnd, Ar.v (.int n)].length = 2 ∧ M_draw [.hnd, .v (.int n)] Q := ⟨rfl, rfl, n, rfl, h0, h, hq⟩
theorem lk {n : Nat} (h : Nat.ble n 1000 = true) : n ≤ 1000 := Nat.le_of_ble_eq_true h
theorem no_ne {i j : Int} (e : i = j) : (!decide (i = j)) = false := by rw [decide_eq_true e]; rfl
theorem pass {i j : Int} {P Q : Prop} (e : i = j) (q : Q) : ((!decide (i = j)) = true → P) ∧ ((!decide (i = j)) = false → Q) := ⟨fun h => (by rw [no_ne e] at h; cases h), fun _ => q⟩
/-- a break, a fall through: told by what stands behind (the kernel must not unfold a named tail first) -/
theorem onBk {W : WEnds} {env : EnvD} (h : W.bk env) : wBk W env := h
theorem onNx {W : WEnds} {env : EnvD} (h : W.nx env) : wNx W env := h
end DL
/-! plain data: no dict, no truth value, at most k deep. Equality of such data is being alike. -/
namespace DL
open PySem L2
def pl : Nat → D → Bool
  | _, .none => true
  | _, .int _ => true
  | 0, _ => false
  | k + 1, .list ds => ds.all (pl k)
  | k + 1, .tuple ds => ds.all (pl k)
  | _, _ => false
theorem pl_none (k : Nat) : pl k .none = true := by cases k <;> rfl
theorem pl_int (k : Nat) (i : Int) : pl k (.int i) = true := by cases k <;> rfl
theorem pl_ints (k : Nat) (ns : List Int) : (dints ns).all (pl k) = true := by
  rw [List.all_eq_true]
  intro x hx
  obtain ⟨i, _, rfl⟩ := List.mem_map.mp hx
  exact pl_int k i
theorem pl_dlist (k : Nat) (ns : List Int) : pl (k + 1) (.list (dints ns)) = true := pl_ints k ns
theorem pl_dtup (k : Nat) (ns : List Int) : pl (k + 1) (.tuple (dints ns)) = true := pl_ints k ns
theorem canAll {k : Nat} (ih : ∀ d : D, pl k d = true → d.canLay0 = true ∧ d.depth ≤ k) : ∀ ds : List D, ds.all (pl k) = true → PyData.canLayAll0 ds = true ∧ PyData.depthAll ds ≤ k
  | [], _ => ⟨rfl, Nat.zero_le _⟩
  | d :: ds, h => by
    rw [List.all_cons, Bool.and_eq_true] at h
    have h1 := ih d h.1
    have h2 := canAll ih ds h.2
    refine ⟨?_, ?_⟩
    · show (_ && _) = true
      rw [h1.1, h2.1]
      rfl
    · show max _ _ ≤ k
      omega
theorem pl_can : ∀ (k : Nat) (d : D), pl k d = true → d.canLay0 = true ∧ d.depth ≤ k
  | k, .none, _ => ⟨rfl, Nat.zero_le _⟩
  | k, .int _, _ => ⟨rfl, Nat.zero_le _⟩
  | 0, .bool _, h => by cases h
  | 0, .str _, h => by cases h
  | 0, .list _, h => by cases h
  | 0, .tuple _, h => by cases h
  | 0, .dict _, h => by cases h
  | k + 1, .bool _, h => by cases h
  | k + 1, .str _, h => by cases h
  | k + 1, .dict _, h => by cases h
  | k + 1, .list ds, h => by
    have := canAll (pl_can k) ds h
    exact ⟨this.1, Nat.succ_le_succ this.2⟩
  | k + 1, .tuple ds, h => by
    have := canAll (pl_can k) ds h
    exact ⟨this.1, Nat.succ_le_succ this.2⟩
theorem shp {k : Nat} {d : D} (h : pl k d = true) (hk : k ≤ 64 := by decide) : SeqAt.shaped d = true := by
  have := pl_can k d h
  unfold SeqAt.shaped
  rw [this.1, Bool.true_and, decide_eq_true_iff]
  omega
theorem eqvAll_iff {k : Nat} (ih : ∀ d e : D, pl k d = true → pl k e = true → (PyData.eqv d e = true ↔ d = e)) : ∀ ds es : List D, ds.all (pl k) = true → es.all (pl k) = true → (PyData.eqvAll ds es = true ↔ ds = es)
  | [], [], _, _ => ⟨fun _ => rfl, fun _ => rfl⟩
  | [], _ :: _, _, _ => ⟨(nomatch ·), (nomatch ·)⟩
  | _ :: _, [], _, _ => ⟨(nomatch ·), (nomatch ·)⟩
  | d :: ds, e :: es, h1, h2 => by
    rw [List.all_cons, Bool.and_eq_true] at h1 h2
    show (_ && _) = true ↔ _
    rw [Bool.and_eq_true, ih d e h1.1 h2.1, eqvAll_iff ih ds es h1.2 h2.2, List.cons.injEq]
theorem eqv_iff : ∀ (k : Nat) (d e : D), pl k d = true → pl k e = true → (PyData.eqv d e = true ↔ d = e)
  | k, .none, .none, _, _ => ⟨fun _ => rfl, fun _ => rfl⟩
  | k, .int i, .int j, _, _ => by
    show (i == j) = true ↔ _
    rw [beq_iff_eq, PyData.int.injEq]
  | k, .none, .int _, _, _ => ⟨(nomatch ·), (nomatch ·)⟩
  | k, .int _, .none, _, _ => ⟨(nomatch ·), (nomatch ·)⟩
  | k + 1, .list ds, .list es, h1, h2 => by
    show PyData.eqvAll ds es = true ↔ _
    rw [eqvAll_iff (eqv_iff k) ds es h1 h2, PyData.list.injEq]
  | k + 1, .tuple ds, .tuple es, h1, h2 => by
    show PyData.eqvAll ds es = true ↔ _
    rw [eqvAll_iff (eqv_iff k) ds es h1 h2, PyData.tuple.injEq]
  | k + 1, .none, .list _, _, _ => ⟨(nomatch ·), (nomatch ·)⟩
  | k + 1, .none, .tuple _, _, _ => ⟨(nomatch ·), (nomatch ·)⟩
  | k + 1, .int _, .list _, _, _ => ⟨(nomatch ·), (nomatch ·)⟩
  | k + 1, .int _, .tuple _, _, _ => ⟨(nomatch ·), (nomatch ·)⟩
  | k + 1, .list _, .none, _, _ => ⟨(nomatch ·), (nomatch ·)⟩
  | k + 1, .tuple _, .none, _, _ => ⟨(nomatch ·), (nomatch ·)⟩
  | k + 1, .list _, .int _, _, _ => ⟨(nomatch ·), (nomatch ·)⟩
  | k + 1, .tuple _, .int _, _, _ => ⟨(nomatch ·), (nomatch ·)⟩
  | k + 1, .list _, .tuple _, _, _ => ⟨(nomatch ·), (nomatch ·)⟩
  | k + 1, .tuple _, .list _, _, _ => ⟨(nomatch ·), (nomatch ·)⟩
  | 0, .bool _, _, h, _ => by cases h
  | 0, .str _, _, h, _ => by cases h
  | 0, .list _, _, h, _ => by cases h
  | 0, .tuple _, _, h, _ => by cases h
  | 0, .dict _, _, h, _ => by cases h
  | k + 1, .bool _, _, h, _ => by cases h
  | k + 1, .str _, _, h, _ => by cases h
  | k + 1, .dict _, _, h, _ => by cases h
  | 0, _, .bool _, _, h => by cases h
  | 0, _, .str _, _, h => by cases h
  | 0, _, .list _, _, h => by cases h
  | 0, _, .tuple _, _, h => by cases h
  | 0, _, .dict _, _, h => by cases h
  | k + 1, _, .bool _, _, h => by cases h
  | k + 1, _, .str _, _, h => by cases h
  | k + 1, _, .dict _, _, h => by cases h
theorem eqv_self {k : Nat} {d : D} (h : pl k d = true) : PyData.eqv d d = true := (eqv_iff k d d h h).mpr rfl
theorem eqv_ne {k : Nat} {d e : D} (h : pl k d = true) (h2 : pl k e = true) (n : d ≠ e) : PyData.eqv d e = false := by
  cases hh : PyData.eqv d e with
  | false => rfl
  | true => exact absurd ((eqv_iff k d e h h2).mp hh) n
theorem eqv_dec {k : Nat} {d e : D} [Decidable (d = e)] (h : pl k d = true) (h2 : pl k e = true) : PyData.eqv d e = decide (d = e) := by
  by_cases n : d = e
  · rw [decide_eq_true n, (eqv_iff k d e h h2).mpr n]
  · rw [decide_eq_false n, eqv_ne h h2 n]
/-- a comparison that answers: alike -/
theorem same {k : Nat} {d e : D} {P Q : Prop} (h : pl k d = true) (he : d = e) (q : Q) : ((!PyData.eqv d e) = true → P) ∧ ((!PyData.eqv d e) = false → Q) := by
  subst he
  rw [eqv_self h]
  exact ⟨fun h => (by cases h), fun _ => q⟩
theorem tk {n : Int} {Q : Rt → Prop} (h0 : 0 < n) (h : n < 2 ^ 200) (hq : ∀ r : Int, 0 ≤ r → r < n → Q (.v (.int r))) : oneH [.hnd, .v (.int n)] = true ∧ [Ar.hnd, Ar.v (.int n)].length = 2 ∧ M_take [.hnd, .v (.int n)] Q := ⟨rfl, rfl, n, rfl, h0, h, hq⟩
theorem nxt {ms : List Int} {n : Int} {Q : Rt → Prop} (h0 : 0 < n) (hq : ∀ r : Int, 0 ≤ r → r < n → Q (.v (.int r))) : oneH [.v (.list (dints ms)), .hnd, .v (.int n)] = true ∧ [Ar.v (.list (dints ms)), Ar.hnd, Ar.v (.int n)].length = 3 ∧ M_next [.v (.list (dints ms)), .hnd, .v (.int n)] Q := ⟨rfl, rfl, ms, n, rfl, h0, hq⟩
end DL
namespace DL
open PySem L2
theorem cut_lo {α : Type} (xs : List α) (k : Nat) : cutD xs (some (k : Int)) none = xs.drop k := by
  unfold cutD
  rw [HT.sIx_nat, HT.sIx_none]
  by_cases h : k ≤ xs.length
  · rw [Nat.min_eq_left h, List.take_of_length_le (by rw [List.length_drop]; omega)]
  · rw [Nat.min_eq_right (by omega), List.drop_of_length_le (by omega), List.drop_of_length_le (by omega), List.take_nil]
theorem cut_hi {α : Type} (xs : List α) (k : Nat) : cutD xs none (some (k : Int)) = xs.take k := by
  unfold cutD
  rw [HT.sIx_nat, HT.sIx_none, List.drop_zero, Nat.sub_zero]
  by_cases h : k ≤ xs.length
  · rw [Nat.min_eq_left h]
  · rw [Nat.min_eq_right (by omega), List.take_of_length_le (by omega), List.take_of_length_le (by omega)]
theorem cut_no {α : Type} (xs : List α) : cutD xs none none = xs := by
  unfold cutD
  rw [HT.sIx_none, HT.sIx_none, List.drop_zero, Nat.sub_zero, List.take_length]
theorem cut_mid {α : Type} (xs : List α) (k m : Nat) (h : k ≤ m) (hm : m ≤ xs.length) : cutD xs (some (k : Int)) (some (m : Int)) = (xs.drop k).take (m - k) := by
  unfold cutD
  rw [HT.sIx_nat, HT.sIx_nat, Nat.min_eq_left (by omega), Nat.min_eq_left (by omega)]
/-- f 0, .. f (n - 1) -/
abbrev tab (n : Nat) (f : Nat → Int) : List Int := (List.range n).map f
theorem dints_app (a b : List Int) : dints (a ++ b) = dints a ++ dints b := List.map_append
theorem dints_snoc (a : List Int) (x : Int) : dints (a ++ [x]) = dints a ++ [.int x] := List.map_append
theorem tab_len (n : Nat) (f : Nat → Int) : (tab n f).length = n := by rw [List.length_map, List.length_range]
theorem dtab_len (n : Nat) (f : Nat → Int) : (dints (tab n f)).length = n := by rw [List.length_map, tab_len]
theorem tab_succ (n : Nat) (f : Nat → Int) : dints (tab (n + 1) f) = dints (tab n f) ++ [.int (f n)] := by
  unfold tab
  rw [List.range_succ, List.map_append]
  show ((List.range n).map f ++ [f n]).map PyData.int = _
  rw [List.map_append]
  rfl
theorem tab_get {n i : Nat} {f : Nat → Int} (h : i < n) : (dints (tab n f))[i]? = some (.int (f i)) := by
  rw [List.getElem?_map, List.getElem?_map, List.getElem?_range h]
  rfl
theorem tab_at {n i : Nat} {f : Nat → Int} {d : D} (h : (dints (tab n f))[i]? = some d) : i < n ∧ d = .int (f i) := by
  by_cases hi : i < n
  · rw [tab_get hi] at h
    exact ⟨hi, (Option.some.inj h).symm⟩
  · rw [List.getElem?_eq_none (by rw [dtab_len]; omega)] at h
    cases h
theorem tab_atI {n i : Nat} {f : Nat → Int} {j : Int} (e : j = i) (h : i < n) : atI (dints (tab n f)) j = some (.int (f i)) := by
  rw [e]
  exact atI_nat (tab_get h)
theorem tab_drop {n k : Nat} {f : Nat → Int} (h : k ≤ n) : (dints (tab n f)).drop k = dints (tab (n - k) fun i => f (k + i)) := by
  apply List.ext_getElem?
  intro i
  rw [List.getElem?_drop]
  by_cases hi : i < n - k
  · rw [tab_get hi, tab_get (by omega)]
  · rw [List.getElem?_eq_none (by rw [dtab_len]; omega), List.getElem?_eq_none (by rw [dtab_len]; omega)]
theorem tab_take {n k : Nat} {f : Nat → Int} (h : k ≤ n) : (dints (tab n f)).take k = dints (tab k f) := by
  apply List.ext_getElem?
  intro i
  by_cases hi : i < k
  · rw [List.getElem?_take_of_lt hi, tab_get hi, tab_get (by omega)]
  · rw [List.getElem?_eq_none (by rw [List.length_take, dtab_len]; omega), List.getElem?_eq_none (by rw [dtab_len]; omega)]
theorem atI_nats {α : Type} {xs : List α} {j : Int} {i : Nat} {v : α} (e : j = i) (h : xs[i]? = some v) : atI xs j = some v := by
  rw [e]
  exact atI_nat h
/-- an item of a list of ints, told by its bounds -/
theorem atI_ints {xs : List Int} {j : Int} (h0 : 0 ≤ j) (h : j < xs.length) : ∃ v, atI (dints xs) j = some (.int v) ∧ v ∈ xs := by
  obtain ⟨i, rfl⟩ : ∃ i : Nat, j = i := ⟨j.toNat, by omega⟩
  have hi : i < xs.length := by omega
  refine ⟨xs[i], atI_nat ?_, List.getElem_mem hi⟩
  rw [List.getElem?_map, List.getElem?_eq_getElem hi]
  rfl
theorem wtrue {P Q : Prop} (p : P) : ((true : Bool) = true → P) ∧ ((true : Bool) = false → Q) := ⟨fun _ => p, (nomatch ·)⟩
theorem wfalse {P Q : Prop} (q : Q) : ((false : Bool) = true → P) ∧ ((false : Bool) = false → Q) := ⟨(nomatch ·), fun _ => q⟩
/-- what a slot holds that is wiped by a block -/
abbrev Val (t : Option Sl) : Prop := t = none ∨ ∃ d, t = some (.v d)
theorem valN {t : Option Sl} : Val t → (match t with | some s => s.isOwn = false | none => True)
  | .inl e => by subst e; exact trivial
  | .inr ⟨d, e⟩ => by subst e; exact rfl
theorem map_comp {ms : List Int} {f : Int → Int} {k : Nat} {m : Int} (h : ms[k]? = some m) : dints ((ms.take k).map f) ++ [PyData.int (f m)] = dints ((ms.take (k + 1)).map f) := by
  rw [List.take_add_one, h, List.map_append]
  show _ = dints (_ ++ [f m])
  rw [dints_snoc]
theorem dints_at {ms : List Int} {i : Nat} {d : D} (h : (dints ms)[i]? = some d) : ∃ m, ms[i]? = some m ∧ d = .int m := by
  rw [List.getElem?_map] at h
  obtain ⟨m, hm, rfl⟩ := Option.map_eq_some_iff.mp h
  exact ⟨m, hm, rfl⟩
theorem dints_len (ms : List Int) : (dints ms).length = ms.length := List.length_map _
theorem sameF {k : Nat} {d e : D} {P Q : Prop} (h : pl k d = true) (he : d = e) (q : Q) : ((!PyData.eqv d e || false) = true → P) ∧ ((!PyData.eqv d e || false) = false → Q) := by
  subst he
  rw [eqv_self h]
  exact ⟨fun h => (by cases h), fun _ => q⟩
theorem eqT {k : Nat} {d e : D} {Q : Rt → Prop} (h : pl k d = true) (he : d = e) (q : Q (.v (.bool true))) : Q (.v (.bool (PyData.eqv d e))) := by
  subst he
  rw [eqv_self h]
  exact q
end DL
namespace DL
open PySem L2
theorem ixN_nat {n j : Nat} {z : Int} (e : z = j) (h : j < n) : ixN n z = some j := by
  subst e
  unfold ixN
  rw [if_pos (by omega), if_pos (by omega), Int.toNat_natCast]
theorem rep_zero (n : Nat) (c : Int) : (List.replicate n [PyData.int c]).flatten = dints (List.replicate n c) := by
  induction n with
  | zero => rfl
  | succ n ih => rw [List.replicate_succ, List.flatten_cons, ih, List.replicate_succ]; rfl
theorem dints_set (f : List Int) (i : Nat) (v : Int) : (dints f).set i (.int v) = dints (f.set i v) := List.map_set.symm
theorem dints_drop (f : List Int) : (dints f).dropLast = dints f.dropLast := List.map_dropLast.symm
theorem dints_get {f : List Int} {i : Nat} {v : Int} (h : f[i]? = some v) : (dints f)[i]? = some (.int v) := by
  rw [List.getElem?_map, h]; rfl
theorem dints_atI {f : List Int} {i : Nat} {j v : Int} (e : j = i) (h : f[i]? = some v) : atI (dints f) j = some (.int v) := atI_nats e (dints_get h)
theorem ixN_neg {n : Nat} (k : Nat) (h0 : 0 < k) (h : k ≤ n) : ixN n (-(k : Int)) = some (n - k) := by
  unfold ixN
  rw [if_neg (by omega), if_pos (by omega)]
  congr 1
  omega
theorem atI_neg {α : Type} {xs : List α} {n : Nat} {v : α} (hl : xs.length = n) (k : Nat) (h0 : 0 < k ∧ k ≤ n) (h : xs[n - k]? = some v) : atI xs (-(k : Int)) = some v := by
  unfold atI
  rw [hl, ixN_neg k h0.1 h0.2]
  exact h
/-- comparisons of data that are not seen through -/
theorem fNe_of {d e : D} {Q : D → Prop} (h1 : SeqAt.shaped d = true) (h2 : SeqAt.shaped e = true) (q : Q (.bool (!PyData.eqv d e))) : fNe d e Q := by
  unfold fNe
  split
  · rw [eqv_int] at q; exact q
  · exact ⟨h1, h2, q⟩
theorem fEq_of {d e : D} {Q : D → Prop} (h1 : SeqAt.shaped d = true) (h2 : SeqAt.shaped e = true) (q : Q (.bool (PyData.eqv d e))) : fEq d e Q := by
  unfold fEq
  split
  · rw [eqv_int] at q; exact q
  · exact ⟨h1, h2, q⟩
theorem wVar_at {i : Nat} {env : EnvD} {d : D} {Q : D → Prop} (h : get env i = some (.v d)) (q : Q d) : wVar i env Q := by
  unfold wVar
  rw [h]
  exact q
end DL
/-! primes, by divisors -/
namespace MB
def PrimeI (p : Int) : Prop := 2 ≤ p ∧ ∀ d : Int, 2 ≤ d → d < p → p % d ≠ 0
theorem prime_of_trial {p : Int} (m : Int) (h2 : 2 ≤ p) (hp : p < m * m) (hm : 0 < m) (h : ∀ d : Int, 2 ≤ d → d < m → d * d ≤ p → p % d ≠ 0) : PrimeI p := by
  refine ⟨h2, fun d d2 dp e => ?_⟩
  obtain ⟨q, hq⟩ := Int.dvd_of_emod_eq_zero e
  have q0 : 0 < q := by
    apply Int.not_le.mp
    intro z
    have := Int.mul_nonpos_of_nonneg_of_nonpos (a := d) (b := q) (by omega) z
    omega
  have q1 : q ≠ 1 := fun z => by rw [z, Int.mul_one] at hq; omega
  have lt : ∀ x : Int, 0 ≤ x → x * x ≤ p → x < m := fun x x0 hx => by
    apply Int.not_le.mp
    intro z
    have := Int.mul_le_mul z z (by omega) x0
    omega
  rcases Int.le_total d q with l | l
  · have := Int.mul_le_mul_of_nonneg_left l (by omega : 0 ≤ d)
    exact h d d2 (lt d (by omega) (by omega)) (by omega) e
  · have := Int.mul_le_mul_of_nonneg_right l (by omega : 0 ≤ q)
    exact h q (by omega) (lt q (by omega) (by omega)) (by omega) (by rw [hq]; exact Int.mul_emod_left _ _)
end MB
/-! the test of a number by a base, as plain arithmetic -/
namespace MB
/-- what passes(n, b) tells, n - 1 = odd * 2 ^ twos -/
def passR (n b : Int) (odd twos : Nat) : Bool := (b ^ odd % n == 1 || b ^ odd % n == n - 1) || (List.range (twos - 1)).any fun t => b ^ (odd * 2 ^ (t + 1)) % n == n - 1
def basesL : List Int := [2, 3, 5, 7, 11, 13, 17, 19, 23, 29, 31, 37]
/-- below 200: no base divides, so every base passes -/
def okSmall (n : Nat) : Bool := (List.range 8).all fun t => (basesL.any fun b => (n : Int) % b == 0) || !((n - 1) % 2 ^ t == 0 && ((n - 1) / 2 ^ t) % 2 == 1) || basesL.all fun b => passR n b ((n - 1) / 2 ^ t) t
theorem okSmall_all : (List.range 200).all (fun n => n < 2 || okSmall n) = true := by decide +kernel
def primeB (n : Nat) : Bool := 2 ≤ n && (List.range n).all fun d => d < 2 || n % d != 0
/-- what is_prime tells below 200 -/
theorem small_div : (List.range 200).all (fun n => n < 2 || match basesL.find? (fun b => (n : Int) % b == 0) with | some b => ((n : Int) == b) == primeB n | none => primeB n) = true := by decide +kernel
end MB
/-! the test of numbers, below 2610 and for squares of primes below 1000 -/
namespace MB
def pmd (n : Nat) : Nat → Nat → Nat → Nat
  | 0, _, _ => 1 % n
  | f + 1, a, k => if k = 0 then 1 % n else (if k % 2 = 1 then a * pmd n f (a * a % n) (k / 2) % n else pmd n f (a * a % n) (k / 2))
theorem pmd_eq (n : Nat) : ∀ f a k, k < 2 ^ f → pmd n f a k = a ^ k % n
  | 0, a, k, h => by
    have : k = 0 := by omega
    subst this
    rfl
  | f + 1, a, k, h => by
    have ih := pmd_eq n f (a * a % n) (k / 2) (by rw [Nat.pow_succ] at h; omega)
    unfold pmd
    have e : (a * a % n) ^ (k / 2) % n = a ^ (2 * (k / 2)) % n := by
      rw [← Nat.pow_mod, Nat.pow_mul, Nat.pow_two]
    split
    · rename_i z; subst z; rfl
    · split
      · rename_i z
        rw [ih, e, Nat.mul_mod_mod, show a * a ^ (2 * (k / 2)) = a ^ (2 * (k / 2) + 1) by rw [Nat.pow_succ, Nat.mul_comm], show 2 * (k / 2) + 1 = k by omega]
      · rename_i z
        rw [ih, e, show 2 * (k / 2) = k by omega]
def basesN : List Nat := [2, 3, 5, 7, 11, 13, 17, 19, 23, 29, 31, 37]
def passN (n b o t : Nat) : Bool := (pmd n 24 b o == 1 || pmd n 24 b o == n - 1) || (List.range (t - 1)).any fun u => pmd n 24 b (o * 2 ^ (u + 1)) == n - 1
theorem pow_castmod (b n k : Nat) : ((b : Int) ^ k % (n : Int)) = ((b ^ k % n : Nat) : Int) := by
  rw [Int.natCast_emod, Int.natCast_pow]
theorem beq_cast (x y : Nat) : (((x : Nat) : Int) == ((y : Nat) : Int)) = (x == y) := by
  by_cases h : x = y
  · rw [h]; simp
  · rw [beq_eq_false_iff_ne.mpr h, beq_eq_false_iff_ne.mpr fun z => h (Int.natCast_inj.mp z)]
theorem passR_N {n b o t : Nat} (n1 : 1 ≤ n) (h : n ≤ o * 2 ^ t + 1) (hh : o * 2 ^ t + 1 ≤ n) (hn : n < 2 ^ 24) (o0 : 0 < o) : passR n b o t = passN n b o t := by
  have e1 : ((n : Int) - 1) = ((n - 1 : Nat) : Int) := by omega
  have pw : ∀ u, u ≤ t → o * 2 ^ u < 2 ^ 24 := fun u hu => by
    have : 2 ^ u ≤ 2 ^ t := Nat.pow_le_pow_right (by decide) hu
    have := Nat.mul_le_mul_left o this
    omega
  have ho : o < 2 ^ 24 := by
    have := pw 0 (Nat.zero_le _)
    rw [Nat.pow_zero, Nat.mul_one] at this
    exact this
  unfold passR passN
  rw [pow_castmod, e1, show (1 : Int) = ((1 : Nat) : Int) from rfl, beq_cast, beq_cast, pmd_eq n 24 b o ho]
  congr 1
  apply Bool.eq_iff_iff.mpr
  rw [List.any_eq_true, List.any_eq_true]
  constructor
  · rintro ⟨u, hu, h⟩
    refine ⟨u, hu, ?_⟩
    have := List.mem_range.mp hu
    rw [pmd_eq n 24 b _ (pw (u + 1) (by omega))]
    rwa [pow_castmod, beq_cast] at h
  · rintro ⟨u, hu, h⟩
    refine ⟨u, hu, ?_⟩
    have := List.mem_range.mp hu
    rw [pmd_eq n 24 b _ (pw (u + 1) (by omega))] at h
    rwa [pow_castmod, beq_cast]
/-- by trial divisors below 50 -/
def tr (n : Nat) : Bool := 2 ≤ n && (List.range 50).all fun d => d < 2 || n < d * d || n % d != 0
def mrN (n : Nat) : Bool := (List.range 20).all fun t => !((n - 1) % 2 ^ t == 0 && ((n - 1) / 2 ^ t) % 2 == 1) || (basesN.all fun b => passN n b ((n - 1) / 2 ^ t) t) == tr n
def smN (n : Nat) : Bool := n < 2 || match basesN.find? (fun b => n % b == 0) with | some b => (n == b) == tr n | none => mrN n
theorem sm0 : (List.range 500).all (fun i => smN i) = true := by decide +kernel
theorem sm1 : (List.range 500).all (fun i => smN (500 + i)) = true := by decide +kernel
theorem sm2 : (List.range 500).all (fun i => smN (1000 + i)) = true := by decide +kernel
theorem sm3 : (List.range 500).all (fun i => smN (1500 + i)) = true := by decide +kernel
theorem sm4 : (List.range 620).all (fun i => smN (2000 + i)) = true := by decide +kernel
theorem sm_all {n : Nat} (h : n < 2620) : smN n = true := by
  have go : ∀ (lo k : Nat), (List.range k).all (fun i => smN (lo + i)) = true → lo ≤ n → n < lo + k → smN n = true := fun lo k hk h1 h2 => by
    have := List.all_eq_true.mp hk (n - lo) (List.mem_range.mpr (by omega))
    rwa [show lo + (n - lo) = n by omega] at this
  by_cases h0 : n < 500
  · exact List.all_eq_true.mp sm0 n (List.mem_range.mpr h0)
  by_cases h1 : n < 1000
  · exact go 500 500 sm1 (by omega) (by omega)
  by_cases h2 : n < 1500
  · exact go 1000 500 sm2 (by omega) (by omega)
  by_cases h3 : n < 2000
  · exact go 1500 500 sm3 (by omega) (by omega)
  exact go 2000 620 sm4 (by omega) (by omega)
/-- squares of primes -/
def sqN (p : Nat) : Bool := p < 5 || !tr p || match basesN.find? (fun b => p * p % b == 0) with | some b => !(p * p == b) | none => (List.range 20).all fun t => !((p * p - 1) % 2 ^ t == 0 && ((p * p - 1) / 2 ^ t) % 2 == 1) || !(basesN.all fun b => passN (p * p) b ((p * p - 1) / 2 ^ t) t)
theorem sq_all : (List.range 1001).all (fun p => sqN p) = true := by decide +kernel
theorem find_cast (n : Nat) : basesL.find? (fun b => (n : Int) % b == 0) = (basesN.find? (fun b => n % b == 0)).map fun b => ((b : Nat) : Int) := by
  have key : ∀ l : List Nat, (l.map fun b => ((b : Nat) : Int)).find? (fun b => (n : Int) % b == 0) = (l.find? (fun b => n % b == 0)).map fun b => ((b : Nat) : Int) := fun l => by
    induction l with
    | nil => rfl
    | cons b r ih =>
      rw [List.map_cons, List.find?_cons, List.find?_cons]
      have : ((n : Int) % ((b : Nat) : Int) == 0) = (n % b == 0) := by
        rw [← Int.natCast_emod, show (0 : Int) = ((0 : Nat) : Int) from rfl, beq_cast]
      rw [this]
      cases n % b == 0
      · exact ih
      · rfl
  exact key basesN
theorem all_cast {n o t : Nat} (n1 : 1 ≤ n) (h : n = o * 2 ^ t + 1) (hn : n < 2 ^ 24) (o0 : 0 < o) : (basesL.all fun b => passR n b o t) = basesN.all fun b => passN n b o t := by
  have e : basesL = basesN.map fun b => ((b : Nat) : Int) := rfl
  rw [e, List.all_map]
  congr 1
  funext b
  exact passR_N n1 (by omega) (by omega) hn o0
theorem odd_lt {n o t : Nat} (h : n - 1 = o * 2 ^ t) (hn : n < 2 ^ 20) (o1 : o % 2 = 1) (h2 : 2 ≤ n) : t < 20 ∧ (n - 1) % 2 ^ t = 0 ∧ (n - 1) / 2 ^ t = o := by
  have hp : 0 < 2 ^ t := Nat.pow_pos (by decide)
  refine ⟨?_, by rw [h, Nat.mul_mod_left], by rw [h, Nat.mul_div_cancel _ hp]⟩
  apply Nat.lt_of_not_le
  intro z
  have z2 : (2 : Nat) ^ 20 ≤ 2 ^ t := Nat.pow_le_pow_right (by decide) z
  have := Nat.mul_le_mul_right (2 ^ t) (show 1 ≤ o by omega)
  omega
end MB
namespace G
open PySem L2 DL
def topS (i : Nat) : Stmt := PySem.Challenge.pw_curvetally_k21_curves_known.main.body.getD i (.Pass ⟨0, 0, 0, 0⟩)
abbrev okH : List D → Prop := okF2
section
variable {P : Program} {w : World} {K : PySem.W.Frag} {mg : Str → Option Value} {base : Heap}
/-! ### power -/
abbrev s_power : Stmt := topS 1
theorem sc_power : FnScope ["modulus", "x", "n", "result", "base"] ["modulus", "x", "n"] (defScope s_power) := ⟨rfl, rfl, rfl, by decide +kernel, rfl, by decide +kernel, by decide +kernel⟩
/-- power(m, x, n) -/
def M_power : WM := fun as Q => ∃ m x n : Int, as = [.v (.int m), .v (.int x), .v (.int n)] ∧ 0 < m ∧ m < 2 ^ 64 ∧ 0 ≤ n ∧ Q (.v (.int (x ^ n.toNat % m)))

def w_power : WS := (wSeq (wSet 3 (wBin fMod (wC (.int 1)) (wVar 0)))
 (wSeq (wSet 4 (wBin fMod (wVar 1) (wVar 0)))
 (wSeq (wWhile (wTest (wBin fGt (wVar 2) (wC (.int 0))))
 (wSeq (wIf (wTest (wBin fEq (wBin fMod (wVar 2) (wC (.int 2))) (wC (.int 1))))
 (wSet 3 (wBin fMod (wBin fMul (wVar 3) (wVar 4)) (wVar 0)))
 wNx)
 (wSeq (wSet 4 (wBin fMod (wBin fMul (wVar 4) (wVar 4)) (wVar 0)))
 (wSet 2 (wBin fDiv (wVar 2) (wC (.int 2)))))))
 (wRet (wVar 3)))))
theorem mf_power : ∀ as Q, as.length = 3 → M_power as Q → w_power { nx := fun _ => Q (.v .none), rt := Q } (stE as 2) := by
  rintro as Q _ ⟨m, x, n, rfl, hm, hm2, hn, hq⟩
  refine ⟨hm, hm, ?_⟩
  let I : Nat → EnvD → Prop := fun k env => ∃ r b j : Int, env = [some (.v (.int m)), some (.v (.int x)), some (.v (.int j)), some (.v (.int r)), some (.v (.int b))] ∧ (0 ≤ r ∧ r < m) ∧ (0 ≤ b ∧ b < m) ∧ 0 ≤ j ∧ k = j.toNat ∧ r * b ^ j.toNat % m = x ^ n.toNat % m
  have md : ∀ a : Int, 0 ≤ a % m ∧ a % m < m := fun a => ⟨Int.emod_nonneg _ (by omega), Int.emod_lt_of_pos _ hm⟩
  refine ⟨I, ⟨n.toNat, 1 % m, x % m, n, rfl, md 1, md x, hn, rfl, ?_⟩, fun k env hI => ?_⟩
  · rw [MB.emod_mul_l, Int.one_mul, MB.emod_pow]
  obtain ⟨r, b, j, rfl, hr, hb, hj, rfl, e⟩ := hI
  refine ⟨fun h => ?_, fun h => ?_⟩
  · have hj0 : 0 < j := of_decide_eq_true h
    refine ⟨fun e => ∃ m', m' < j.toNat ∧ I m' e, fun _ z => z, ?_⟩
    refine ⟨by decide, fun h1 => ?_, fun h1 => ?_⟩
    · have h1 : j % 2 = 1 := of_decide_eq_true h1
      refine ⟨.inl ⟨by omega, by omega⟩, hm, .inl ⟨by omega, by omega⟩, hm, ⟨by decide, by decide⟩, ?_⟩
      exact ⟨(j / 2).toNat, by omega, r * b % m, b * b % m, j / 2, rfl, md _, md _, by omega, rfl, by rw [MB.ladder_odd r b m hj h1, e]⟩
    · have h1 : ¬ j % 2 = 1 := of_decide_eq_false h1
      refine ⟨.inl ⟨by omega, by omega⟩, hm, ⟨by decide, by decide⟩, ?_⟩
      exact ⟨(j / 2).toNat, by omega, r, b * b % m, j / 2, rfl, hr, md _, by omega, rfl, by rw [MB.ladder_even r b m hj h1, e]⟩
  · have hj0 : ¬ 0 < j := of_decide_eq_false h
    have ej : j = 0 := by omega
    subst ej
    have e2 : r = x ^ n.toNat % m := by
      rw [← e, show (0 : Int).toNat = 0 from rfl, Int.pow_zero, Int.mul_one, Int.emod_eq_of_lt hr.1 hr.2]
    show Q (.v (.int r))
    rw [e2]
    exact hq

theorem ok_power {f : Addr} {fd : FuncData} (F : Fun K "power" "power" s_power f fd)    : FnOk P w K mg base CX0 1 f fd ["modulus", "x", "n"] (SpD K okH 3 M_power) :=
  def_ok F sc_power rfl (fun cdv A outer s H E hr =>
 (s_cons (s_set 3 sc_power.nd (d_mod d_int (d_var 0)))
 (s_cons (s_set 4 sc_power.nd (d_mod (d_var 1) (d_var 0)))
 (s_cons (s_while PassesOwn.never (t_gt (d_var 2) d_int)
 (s_cons (s_if (t_eq hr (d_mod (d_var 2) d_int) d_int)
 (s_one (s_set 3 sc_power.nd (d_mod (d_mul (d_var 3) (d_var 4)) (d_var 0))))
 s_nil)
 (s_cons (s_set 4 sc_power.nd (d_mod (d_mul (d_var 4) (d_var 4)) (d_var 0)))
 (s_one (s_set 2 sc_power.nd (d_div (d_var 2) d_int))))))
 (s_one (s_ret (d_var 3))))))) mf_power
/-! ### passes -/
abbrev s_passes : Stmt := topS 4
theorem sc_passes : FnScope ["n", "base", "odd", "twos", "x", "turn"] ["n", "base"] (defScope s_passes) := ⟨rfl, rfl, rfl, by decide +kernel, rfl, by decide +kernel, by decide +kernel⟩
def M_passes : WM := fun as Q => ∃ n b : Int, as = [.v (.int n), .v (.int b)] ∧ 2 ≤ n ∧ n < 2 ^ 62 ∧ ∀ odd twos : Nat, n - 1 = odd * 2 ^ twos → odd % 2 = 1 → Q (.v (.bool (MB.passR n b odd twos)))

def w_passes : WS := (wSeq (wSet 2 (wBin fSub (wVar 0) (wC (.int 1))))
 (wSeq (wSet 3 (wC (.int 0)))
 (wSeq (wWhile (wTest (wBin fEq (wBin fMod (wVar 2) (wC (.int 2))) (wC (.int 0))))
 (wSeq (wSet 2 (wBin fDiv (wVar 2) (wC (.int 2))))
 (wSet 3 (wBin fAdd (wVar 3) (wC (.int 1))))))
 (wSeq (wSet 4 (wCallP 3 M_power (wCons (wVar 0) (wCons (wVar 1) (wCons (wVar 2) wNil)))))
 (wSeq (wIf (wTest (wIn (wVar 4) (wTupP (wCons (wC (.int 1)) (wCons (wBin fSub (wVar 0) (wC (.int 1))) wNil)))))
 (wRet (wC (.bool true)))
 wNx)
 (wSeq (wFor (iR1 (wBin fSub (wVar 3) (wC (.int 1)))) (gN 5)
 (wSeq (wSet 4 (wBin fMod (wBin fMul (wVar 4) (wVar 4)) (wVar 0)))
 (wIf (wTest (wBin fEq (wVar 4) (wBin fSub (wVar 0) (wC (.int 1)))))
 (wRet (wC (.bool true)))
 wNx)))
 (wRet (wC (.bool false)))))))))
theorem mf_passes : ∀ as Q, as.length = 2 → M_passes as Q → w_passes { nx := fun _ => Q (.v .none), rt := Q } (stE as 4) := by
  rintro as Q _ ⟨n, b, rfl, n0, n1, hq⟩
  let I : Nat → EnvD → Prop := fun k env => ∃ o t : Nat, env = [some (.v (.int n)), some (.v (.int b)), some (.v (.int o)), some (.v (.int t)), none, none] ∧ n - 1 = o * 2 ^ t ∧ 0 < o ∧ k = o
  refine ⟨I, ⟨(n - 1).toNat, (n - 1).toNat, 0, ?_, by omega, by omega, rfl⟩, fun k env hI => ?_⟩
  · rw [show (((n - 1).toNat : Nat) : Int) = n - 1 by omega]
    rfl
  obtain ⟨o, t, rfl, e, o0, rfl⟩ := hI
  refine ⟨by decide, fun h => ?_, fun h => ?_⟩
  · have h2 : (k : Int) % 2 = 0 := of_decide_eq_true h
    refine ⟨fun e => ∃ m', m' < k ∧ I m' e, fun _ z => z, div200 (by decide) (by decide) _, ?_⟩
    refine ⟨k / 2, by omega, k / 2, t + 1, rfl, ?_, by omega, rfl⟩
    rw [e, Int.pow_succ]
    have : (k : Int) = ((k / 2 : Nat) : Int) * 2 := by omega
    generalize ((k / 2 : Nat) : Int) = u at *
    rw [this]
    grind
  · have h2 : ¬ (k : Int) % 2 = 0 := of_decide_eq_false h
    have hq' := hq k t e (by omega)
    have x0 : 0 ≤ b ^ k % n := Int.emod_nonneg _ (by omega)
    have x1 : b ^ k % n < n := Int.emod_lt_of_pos _ (by omega)
    refine ⟨rfl, rfl, n, b, k, rfl, by omega, by omega, by omega, ?_⟩
    refine ⟨rfl, lk rfl, _, [1, n - 1], rfl, rfl, fun h => ?_, fun h => ?_⟩
    · have h' : (1 == b ^ k % n || (n - 1 == b ^ k % n || false)) = true := h
      have : MB.passR n b k t = true := by
        unfold MB.passR
        rw [Bool.or_false] at h'
        rw [BEq.comm (a := b ^ k % n) (b := 1), BEq.comm (a := b ^ k % n) (b := n - 1), h', Bool.true_or]
      rw [this] at hq'
      exact hq'
    · have h' : (1 == b ^ k % n || (n - 1 == b ^ k % n || false)) = false := h
      rw [Bool.or_false] at h'
      have hp : MB.passR n b k t = (List.range (t - 1)).any fun t => b ^ (k * 2 ^ (t + 1)) % n == n - 1 := by
        unfold MB.passR
        rw [BEq.comm (a := b ^ k % n) (b := 1), BEq.comm (a := b ^ k % n) (b := n - 1), h', Bool.false_or]
      by_cases t0 : t = 0
      · subst t0
        refine ⟨⟨by decide, by decide⟩, fun j env => j = 0 ∧ env = [some (.v (.int n)), some (.v (.int b)), some (.v (.int k)), some (.v (.int (0 : Nat))), some (.v (.int (b ^ k % n))), none], ⟨rfl, rfl⟩, ?_, ?_⟩
        · rintro i d env hd _
          obtain ⟨hi, _⟩ := rng_at hd
          exact absurd (show i < 0 from hi) (Nat.not_lt_zero _)
        · rintro env ⟨_, rfl⟩
          rw [hp] at hq'
          exact hq'
      have ht : n < 2 ^ 62 → t < 62 := fun h => by
        apply Nat.lt_of_not_le
        intro z
        have z2 : (2 : Nat) ^ 62 ≤ 2 ^ t := Nat.pow_le_pow_right (by decide) z
        have z3 : ((2 ^ 62 : Nat) : Int) ≤ ((2 ^ t : Nat) : Int) := Int.ofNat_le.mpr z2
        rw [MB.two_pow_cast t] at z3
        have z4 : (1 : Int) * 2 ^ t ≤ k * 2 ^ t := Int.mul_le_mul_of_nonneg_right (by omega) (Int.le_of_lt (Int.pow_pos (by decide)))
        omega
      have ht := ht n1
      refine ⟨⟨by omega, by omega⟩, fun j env => ∃ u, env = [some (.v (.int n)), some (.v (.int b)), some (.v (.int k)), some (.v (.int t)), some (.v (.int (b ^ (k * 2 ^ j) % n))), u] ∧ ((List.range j).any fun t => b ^ (k * 2 ^ (t + 1)) % n == n - 1) = false, ⟨none, ?_, rfl⟩, ?_, ?_⟩
      · rw [Nat.pow_zero, Nat.mul_one]
        rfl
      · rintro i d env hd ⟨u, rfl, hn⟩
        obtain ⟨hi, rfl⟩ := rng_at hd
        have y0 : 0 ≤ b ^ (k * 2 ^ i) % n := Int.emod_nonneg _ (by omega)
        have y1 : b ^ (k * 2 ^ i) % n < n := Int.emod_lt_of_pos _ (by omega)
        have es : b ^ (k * 2 ^ i) % n * (b ^ (k * 2 ^ i) % n) % n = b ^ (k * 2 ^ (i + 1)) % n := by
          rw [← Int.mul_emod, ← Int.pow_add]
          congr 2
          rw [Nat.pow_succ, ← Nat.mul_assoc]
          omega
        refine ⟨.inl ⟨by omega, by omega⟩, by omega, ?_⟩
        rw [es]
        refine ⟨fun h => ?_, fun h => ?_⟩
        · have h' : b ^ (k * 2 ^ (i + 1)) % n = n - 1 := of_decide_eq_true h
          have : MB.passR n b k t = true := by
            rw [hp, List.any_eq_true]
            exact ⟨i, List.mem_range.mpr (by omega), by rw [h']; exact beq_self_eq_true _⟩
          rw [this] at hq'
          exact hq'
        · have h' : ¬ b ^ (k * 2 ^ (i + 1)) % n = n - 1 := of_decide_eq_false h
          refine ⟨_, rfl, ?_⟩
          rw [List.range_succ, List.any_append, hn, Bool.false_or]
          show (_ || false) = false
          rw [Bool.or_false]
          exact beq_eq_false_iff_ne.mpr h'
      · rintro env ⟨u, rfl, hn⟩
        rw [rng_len, show ((t : Int) - 1).toNat = t - 1 by omega] at hn
        rw [hp, hn] at hq'
        exact hq'

theorem ok_passes {f : Addr} {fd : FuncData} (F : Fun K "passes" "passes" s_passes f fd) (h_power : Has P w K mg base okH 1 "power" 3 M_power) (m_range : mg "range" = none)  : FnOk P w K mg base CX0 2 f fd ["n", "base"] (SpD K okH 2 M_passes) :=
  def_ok F sc_passes rfl (fun cdv A outer s H E hr =>
 (s_cons (s_set 2 sc_passes.nd (d_sub (d_var 0) d_int))
 (s_cons (s_set 3 sc_passes.nd d_int)
 (s_cons (s_while PassesOwn.never (t_eq hr (d_mod (d_var 2) d_int) d_int)
 (s_cons (s_set 2 sc_passes.nd (d_div (d_var 2) d_int))
 (s_one (s_set 3 sc_passes.nd (d_add (d_var 3) d_int)))))
 (s_cons (s_set 4 sc_passes.nd (d_call h_power hr (by decide) (a_cons (d_var 0) (a_cons (d_var 1) (a_cons (d_var 2) a_nil)))))
 (s_cons (s_if (t_in hr (d_var 4) (d_b (d_tup (a_cons d_int (a_cons (d_sub (d_var 0) d_int) a_nil)))))
 (s_one (s_ret d_bl))
 s_nil)
 (s_cons (s_for (vs := [5]) PassesOwn.never rfl (i_r1 m_range (d_sub (d_var 3) d_int)) (g_name 5 sc_passes.nd)
 (s_cons (s_set 4 sc_passes.nd (d_mod (d_mul (d_var 4) (d_var 4)) (d_var 0)))
 (s_one (s_if (t_eq hr (d_var 4) (d_sub (d_var 0) d_int))
 (s_one (s_ret d_bl))
 s_nil))))
 (s_one (s_ret d_bl))))))))) mf_passes
/-! ### is_prime -/
abbrev s_is_prime : Stmt := topS 5
theorem sc_is_prime : FnScope ["n", "base"] ["n"] (defScope s_is_prime) := ⟨rfl, rfl, rfl, by decide +kernel, rfl, by decide +kernel, by decide +kernel⟩
def M_is_prime : WM := fun as Q => ∃ n : Int, as = [.v (.int n)] ∧ n < 2 ^ 62 ∧ (n < 2 → Q (.v (.bool false))) ∧ (2 ≤ n → ∀ b, MB.basesL.find? (fun b => n % b == 0) = some b → Q (.v (.bool (n == b)))) ∧
  (2 ≤ n → MB.basesL.find? (fun b => n % b == 0) = none → ∀ odd twos : Nat, n - 1 = odd * 2 ^ twos → odd % 2 = 1 → Q (.v (.bool (MB.basesL.all fun b => MB.passR n b odd twos))))

def w_is_prime : WS := (wSeq (wIf (wTest (wBin fLt (wVar 0) (wC (.int 2))))
 (wRet (wC (.bool false)))
 wNx)
 (wSeq (wFor (iS (wC (.tuple [.int 2, .int 3, .int 5, .int 7, .int 11, .int 13, .int 17, .int 19, .int 23, .int 29, .int 31, .int 37]))) (gN 1)
 (wIf (wTest (wBin fEq (wBin fMod (wVar 0) (wVar 1)) (wC (.int 0))))
 (wRet (wBin fEq (wVar 0) (wVar 1)))
 wNx))
 (wRet (wAll (wFz (wLc (iS (wC (.tuple [.int 2, .int 3, .int 5, .int 7, .int 11, .int 13, .int 17, .int 19, .int 23, .int 29, .int 31, .int 37]))) (gN 1) wYes (wCallP 2 M_passes (wCons (wVar 0) (wCons (wVar 1) wNil))) [1]))))))
theorem odd_of (m : Nat) (h : 0 < m) : ∃ o t : Nat, m = o * 2 ^ t ∧ o % 2 = 1 := by
  induction m using Nat.strongRecOn with
  | ind m ih =>
    by_cases e : m % 2 = 1
    · exact ⟨m, 0, by simp, e⟩
    · obtain ⟨o, t, h1, h2⟩ := ih (m / 2) (by omega) (by omega)
      refine ⟨o, t + 1, ?_, h2⟩
      have : m = m / 2 * 2 := by omega
      rw [this, h1, Nat.pow_succ]
      rw [Nat.mul_assoc]
theorem odd_uniq {o t o' t' : Nat} (h : o * 2 ^ t = o' * 2 ^ t') (h1 : o % 2 = 1) (h2 : o' % 2 = 1) : o = o' ∧ t = t' := by
  induction t generalizing t' with
  | zero =>
    cases t' with
    | zero => simpa using h
    | succ t' =>
      rw [Nat.pow_zero, Nat.mul_one, Nat.pow_succ, ← Nat.mul_assoc] at h
      omega
  | succ t ih =>
    cases t' with
    | zero =>
      rw [Nat.pow_zero, Nat.mul_one, Nat.pow_succ, ← Nat.mul_assoc] at h
      omega
    | succ t' =>
      rw [Nat.pow_succ, Nat.pow_succ, ← Nat.mul_assoc, ← Nat.mul_assoc] at h
      have := ih (t' := t') (by omega)
      exact ⟨this.1, by omega⟩
theorem odd_ofI {n : Int} (h : 2 ≤ n) : ∃ o t : Nat, n - 1 = o * 2 ^ t ∧ o % 2 = 1 := by
  obtain ⟨o, t, h1, h2⟩ := odd_of (n - 1).toNat (by omega)
  refine ⟨o, t, ?_, h2⟩
  have : (((n - 1).toNat : Nat) : Int) = ((o * 2 ^ t : Nat) : Int) := by rw [h1]
  rw [Int.natCast_mul, MB.two_pow_cast] at this
  omega
theorem mf_is_prime : ∀ as Q, as.length = 1 → M_is_prime as Q → w_is_prime { nx := fun _ => Q (.v .none), rt := Q } (stE as 1) := by
  rintro as Q _ ⟨n, rfl, n1, h1, h2, h3⟩
  refine ⟨fun h => h1 (of_decide_eq_true h), fun h => ?_⟩
  have n2 : 2 ≤ n := Int.not_lt.mp (of_decide_eq_false h)
  let bs : List Int := MB.basesL
  refine ⟨fun k env => ∃ u, (u = none ∨ ∃ d, u = some (.v d)) ∧ env = [some (.v (.int n)), u] ∧ ∀ j, j < k → ∀ b, bs[j]? = some b → ¬ n % b = 0, ⟨none, .inl rfl, rfl, fun j hj => absurd hj (Nat.not_lt_zero _)⟩, ?_, ?_⟩
  · rintro i d env hd ⟨u, _, rfl, hn⟩
    have hd' : (bs.map PyData.int)[i]? = some d := hd
    rw [List.getElem?_map] at hd'
    obtain ⟨b, hb, rfl⟩ := Option.map_eq_some_iff.mp hd'
    have hmem : b ∈ bs := List.mem_of_getElem? hb
    have bpos : 0 < b := by
      have : ∀ b ∈ bs, 0 < b := by decide
      exact this b hmem
    refine ⟨bpos, fun h => ?_, fun h => ?_⟩
    · have h' : n % b = 0 := of_decide_eq_true h
      have hf : MB.basesL.find? (fun b => n % b == 0) = some b := by
        rw [List.find?_eq_some_iff_getElem]
        have hi : i < bs.length := (List.getElem?_eq_some_iff.mp hb).1
        refine ⟨beq_iff_eq.mpr h', i, hi, (List.getElem?_eq_some_iff.mp hb).2, fun j hj => ?_⟩
        rw [Bool.not_eq_true', beq_eq_false_iff_ne]
        exact hn j hj _ (List.getElem?_eq_getElem (by omega))
      have := h2 n2 b hf
      exact this
    · have h' : ¬ n % b = 0 := of_decide_eq_false h
      refine ⟨some (.v (.int b)), .inr ⟨_, rfl⟩, rfl, fun j hj c hc => ?_⟩
      by_cases ej : j = i
      · subst ej
        rw [hb] at hc
        cases hc
        exact h'
      · exact hn j (by omega) c hc
  · rintro env ⟨u, hu, rfl, hn⟩
    have hf : MB.basesL.find? (fun b => n % b == 0) = none := by
      rw [List.find?_eq_none]
      intro b hb
      obtain ⟨j, hj, rfl⟩ := List.mem_iff_getElem.mp hb
      rw [beq_iff_eq]
      exact hn j hj _ (List.getElem?_eq_getElem hj)
    obtain ⟨o, t, e, ho⟩ := odd_ofI n2
    have hq := h3 n2 hf o t e ho
    have hpass : ∀ b ∈ MB.basesL, ∀ R : Rt → Prop, R (.v (.bool (MB.passR n b o t))) → M_passes [.v (.int n), .v (.int b)] R := fun b _ R hR => ⟨n, b, rfl, n2, n1, fun o' t' e' ho' => by
      have : o' = o ∧ t' = t := odd_uniq (Int.natCast_inj.mp (by rw [Int.natCast_mul, Int.natCast_mul, MB.two_pow_cast, MB.two_pow_cast, ← e, ← e'])) ho' ho
      rw [this.1, this.2]
      exact hR⟩
    refine ⟨by show 12 < 1000000; decide, ⟨by rcases hu with rfl | ⟨d, rfl⟩; exact trivial; exact rfl, trivial⟩, fun k acc => acc = ((MB.basesL.take k).map fun b => PyData.bool (MB.passR n b o t)), rfl, fun i d acc hd ha => ?_, fun acc ha => ?_⟩
    · have hd' : (bs.map PyData.int)[i]? = some d := hd
      rw [List.getElem?_map] at hd'
      obtain ⟨b, hb, rfl⟩ := Option.map_eq_some_iff.mp hd'
      refine wtrue ⟨rfl, rfl, hpass b (List.mem_of_getElem? hb) _ ?_⟩
      have hb' : MB.basesL[i]? = some b := hb
      show acc ++ _ = _
      rw [ha, List.take_add_one, hb', List.map_append]
      rfl
    · have e12 : MB.basesL.take 12 = MB.basesL := rfl
      have ha' : acc = ((MB.basesL.take 12).map fun b => PyData.bool (MB.passR n b o t)) := ha
      refine ⟨MB.basesL.map fun b => MB.passR n b o t, ?_, ?_⟩
      · rw [ha', e12, List.map_map]
        rfl
      · rw [List.all_map]
        exact hq

theorem ok_is_prime {f : Addr} {fd : FuncData} (F : Fun K "is_prime" "is_prime" s_is_prime f fd) (h_passes : Has P w K mg base okH 2 "passes" 2 M_passes) (m_all : mg "all" = none) (g_BASES : GlD K mg "BASES" (.tuple [.int 2, .int 3, .int 5, .int 7, .int 11, .int 13, .int 17, .int 19, .int 23, .int 29, .int 31, .int 37])) : FnOk P w K mg base CX0 3 f fd ["n"] (SpD K okH 1 M_is_prime) :=
  def_ok F sc_is_prime rfl (fun cdv A outer s H E hr =>
 (s_cons (s_if (t_lt (d_var 0) d_int)
 (s_one (s_ret d_bl))
 s_nil)
 (s_cons (s_for (vs := [1]) PassesOwn.never rfl (i_seq (d_gl g_BASES)) (g_name 1 sc_is_prime.nd)
 (s_one (s_if (t_eq hr (d_mod (d_var 0) (d_var 1)) d_int)
 (s_one (s_ret (d_eq hr (d_var 0) (d_var 1))))
 s_nil)))
 (s_one (s_ret (d_all rfl m_all (d_b (d_fz (l_lc (own := [("base", 1)]) rfl sc_is_prime.nd (i_seq (d_gl g_BASES)) (blkOk_by (N := ["n", "base"]) (sc := defScope s_is_prime) (by decide +kernel)) ⟨(gName 1), fun _ _ _ _ _ => (pg_name (i := 1) sc_is_prime.nd rfl (Or.inl rfl)), (sg_name (i := 1) (by decide))⟩ ⟨tYes, fun _ _ _ _ _ => pts_nil, st_yes⟩ ⟨(tCall (SpD K okH 2 M_passes) [] E0 (tCons (tVar 0) (tCons (tVar 1) tNil))), fun _ _ _ _ _ => (pe_has h_passes hr (by decide) (pa_cons (pv 0) (pa_cons (pv 1) pa_nil))), (snd_call (snd_cons snd_var (snd_cons snd_var snd_nil)))⟩))))))))) mf_is_prime
/-! ### is_whole -/
abbrev s_is_whole : Stmt := topS 9
theorem sc_is_whole : FnScope ["value"] ["value"] (defScope s_is_whole) := ⟨rfl, rfl, rfl, by decide +kernel, rfl, by decide +kernel, by decide +kernel⟩
/-- an int that is no truth value -/
def isW : D → Bool
  | .int _ => true
  | _ => false
def noScr : D → Bool
  | .dict _ => false
  | _ => true
def M_is_whole : WM := fun as Q => ∃ d : D, as = [.v d] ∧ noScr d = true ∧ Q (.v (.bool (isW d)))

def w_is_whole : WS := (wRet (wBl (wAndD (wTest (wIsI "int" (wVar 0))) (wTest (wBl (wNot (wTest (wIsI "bool" (wVar 0)))))))))
theorem kit_ii : kitB "int" "int" = some true := by decide +kernel
theorem kit_bi : kitB "bool" "int" = some true := by decide +kernel
theorem kit_ni : kitB "NoneType" "int" = some false := by decide +kernel
theorem kit_si : kitB "str" "int" = some false := by decide +kernel
theorem kit_li : kitB "list" "int" = some false := by decide +kernel
theorem kit_ti : kitB "tuple" "int" = some false := by decide +kernel
theorem kit_ib : kitB "int" "bool" = some false := by decide +kernel
theorem kit_bb : kitB "bool" "bool" = some true := by decide +kernel
theorem mf_is_whole : ∀ as Q, as.length = 1 → M_is_whole as Q → w_is_whole { nx := fun _ => Q (.v .none), rt := Q } (stE as 0) := by
  rintro as Q _ ⟨d, rfl, hn, hq⟩
  cases d with
  | int i => exact ⟨true, kit_ii, true, fun _ => ⟨false, kit_ib, rfl⟩, hq⟩
  | bool b => exact ⟨true, kit_bi, false, fun _ => ⟨true, kit_bb, rfl⟩, hq⟩
  | none => exact ⟨false, kit_ni, true, fun h => (nomatch h), hq⟩
  | str s => exact ⟨false, kit_si, true, fun h => (nomatch h), hq⟩
  | list ds => exact ⟨false, kit_li, true, fun h => (nomatch h), hq⟩
  | tuple ds => exact ⟨false, kit_ti, true, fun h => (nomatch h), hq⟩
  | dict ds => cases hn

theorem ok_is_whole {f : Addr} {fd : FuncData} (F : Fun K "is_whole" "is_whole" s_is_whole f fd)  (m_bool : mg "bool" = none) (m_int : mg "int" = none) (m_isinstance : mg "isinstance" = none)  : FnOk P w K mg base CX0 1 f fd ["value"] (SpD K okH 1 M_is_whole) :=
  def_ok F sc_is_whole rfl (fun cdv A outer s H E hr =>
 (s_one (s_ret (d_and (d_isi (T := "int") m_isinstance m_int (by decide +kernel) (d_var 0)) (d_one (d_not (d_isi (T := "bool") m_isinstance m_bool (by decide +kernel) (d_var 0)))))))) mf_is_whole
/-! ### is_residue -/
abbrev s_is_residue : Stmt := topS 10
theorem sc_is_residue : FnScope ["p", "value"] ["p", "value"] (defScope s_is_residue) := ⟨rfl, rfl, rfl, by decide +kernel, rfl, by decide +kernel, by decide +kernel⟩
def resB (p : Int) : D → Bool
  | .int v => decide (0 ≤ v) && decide (v < p)
  | _ => false
def M_is_residue : WM := fun as Q => ∃ (p : Int) (d : D), as = [.v (.int p), .v d] ∧ noScr d = true ∧ Q (.v (.bool (resB p d)))

def w_is_residue : WS := (wRet (wBl (wAndD (wTest (wCallP 1 M_is_whole (wCons (wVar 1) wNil))) (wTest (wChn fLe fLt (wC (.int 0)) (wVar 1) (wVar 0))))))
theorem mf_is_residue : ∀ as Q, as.length = 2 → M_is_residue as Q → w_is_residue { nx := fun _ => Q (.v .none), rt := Q } (stE as 0) := by
  rintro as Q _ ⟨p, d, rfl, hn, hq⟩
  refine ⟨rfl, rfl, d, rfl, hn, ?_⟩
  cases d with
  | int i => exact ⟨decide (0 ≤ i) && decide (i < p), fun _ => ⟨decide (i < p), fun _ => rfl, rfl⟩, hq⟩
  | bool b => exact ⟨true, fun h => (nomatch h), hq⟩
  | none => exact ⟨true, fun h => (nomatch h), hq⟩
  | str s => exact ⟨true, fun h => (nomatch h), hq⟩
  | list ds => exact ⟨true, fun h => (nomatch h), hq⟩
  | tuple ds => exact ⟨true, fun h => (nomatch h), hq⟩
  | dict ds => cases hn

theorem ok_is_residue {f : Addr} {fd : FuncData} (F : Fun K "is_residue" "is_residue" s_is_residue f fd) (h_is_whole : Has P w K mg base okH 1 "is_whole" 1 M_is_whole)   : FnOk P w K mg base CX0 2 f fd ["p", "value"] (SpD K okH 2 M_is_residue) :=
  def_ok F sc_is_residue rfl (fun cdv A outer s H E hr =>
 (s_one (s_ret (d_and (d_call h_is_whole hr (by decide) (a_cons (d_var 1) a_nil)) (d_one (d_chn op_le opd_le op_lt opd_lt d_int (d_var 1) (d_var 0))))))) mf_is_residue
/-! ### discriminant -/
abbrev s_discriminant : Stmt := topS 11
theorem sc_discriminant : FnScope ["curve", "p", "a", "b"] ["curve"] (defScope s_discriminant) := ⟨rfl, rfl, rfl, by decide +kernel, rfl, by decide +kernel, by decide +kernel⟩
def M_discriminant : WM := fun as Q => ∃ p a b : Int, as = [.v (.tuple [.int p, .int a, .int b])] ∧ 0 < p ∧ (-(2 ^ 64) < a ∧ a < 2 ^ 64) ∧ (-(2 ^ 64) < b ∧ b < 2 ^ 64) ∧ Q (.v (.int ((4 * a * a * a + 27 * b * b) % p)))

def w_discriminant : WS := (wSeq (wAsg (wVar 0) (gT 3 (gsCons (gN 1) (gsCons (gN 2) (gsCons (gN 3) gsNil)))))
 (wRet (wBin fMod (wBin fAdd (wBin fMul (wBin fMul (wBin fMul (wC (.int 4)) (wVar 2)) (wVar 2)) (wVar 2)) (wBin fMul (wBin fMul (wC (.int 27)) (wVar 3)) (wVar 3))) (wVar 1))))
theorem mf_discriminant : ∀ as Q, as.length = 1 → M_discriminant as Q → w_discriminant { nx := fun _ => Q (.v .none), rt := Q } (stE as 3) := by
  rintro as Q _ ⟨p, a, b, rfl, p0, ha, hb, hq⟩
  have ca : ∀ z, CMul z a := fun z => .inr ha
  have cb : ∀ z, CMul z b := fun z => .inr hb
  exact ⟨rfl, rfl, ca _, ca _, ca _, cb _, cb _, p0, hq⟩

theorem ok_discriminant {f : Addr} {fd : FuncData} (F : Fun K "discriminant" "discriminant" s_discriminant f fd)    : FnOk P w K mg base CX0 1 f fd ["curve"] (SpD K okH 1 M_discriminant) :=
  def_ok F sc_discriminant rfl (fun cdv A outer s H E hr =>
 (s_cons (s_asg (vs := [1, 2, 3]) (d_var 0) (g_tupN (g_cons (g_name 1 sc_discriminant.nd) (g_cons (g_name 2 sc_discriminant.nd) (g_cons (g_name 3 sc_discriminant.nd) g_nil)))))
 (s_one (s_ret (d_mod (d_add (d_mul (d_mul (d_mul d_int (d_var 2)) (d_var 2)) (d_var 2)) (d_mul (d_mul d_int (d_var 3)) (d_var 3))) (d_var 1)))))) mf_discriminant
/-! ### is_curve -/
abbrev s_is_curve : Stmt := topS 12
theorem sc_is_curve : FnScope ["value", "p"] ["value"] (defScope s_is_curve) := ⟨rfl, rfl, rfl, by decide +kernel, rfl, by decide +kernel, by decide +kernel⟩
/-- a tuple of three ints -/
def tri : D → Bool
  | .tuple [.int _, .int _, .int _] => true
  | _ => false
def noScrs : D → Bool
  | .tuple ds => ds.all noScr
  | d => noScr d
def cvB (p a b : Int) (B : Bool) : Bool := (decide (5 ≤ p) && decide (p ≤ 2305843009213693951)) && ((decide (0 ≤ a) && decide (a < p)) && ((decide (0 ≤ b) && decide (b < p)) && (!decide ((4 * a * a * a + 27 * b * b) % p = 0) && B)))
def M_is_curve : WM := fun as Q => ∃ d : D, as = [.v d] ∧ ((tri d = false ∧ noScrs d = true ∧ Q (.v (.bool false))) ∨ ∃ (p a b : Int) (B : Bool), d = .tuple [.int p, .int a, .int b] ∧ (cvB p a b true = true → ∀ R : Rt → Prop, R (.v (.bool B)) → M_is_prime [.v (.int p)] R) ∧ Q (.v (.bool (cvB p a b B))))

def w_is_curve_L6 : WS := (wRet (wBl (wAndD (wTest (wBin fNe (wCallP 1 M_discriminant (wCons (wVar 0) wNil)) (wC (.int 0)))) (wTest (wCallP 1 M_is_prime (wCons (wVar 1) wNil))))))
def w_is_curve_L3 : WS := (wSeq (wSet 1 (wIx (wVar 0) (wC (.int 0))))
 (wSeq (wIf (wOrD (wNot (wTest (wChn fLe fLe (wC (.int 5)) (wVar 1) (wC (.int 2305843009213693951))))) (wOrD (wNot (wTest (wCallP 2 M_is_residue (wCons (wVar 1) (wCons (wIx (wVar 0) (wC (.int 1))) wNil))))) (wNot (wTest (wCallP 2 M_is_residue (wCons (wVar 1) (wCons (wIx (wVar 0) (wC (.int 2))) wNil)))))))
 (wRet (wC (.bool false)))
 wNx)
 w_is_curve_L6))
def w_is_curve : WS := (wSeq (wIf (wOrD (wNot (wTest (wIsI "tuple" (wVar 0)))) (wOrD (wTest (wBin fNe (wLen (wVar 0)) (wC (.int 3)))) (wNot (wTest (wCallP 1 M_is_whole (wCons (wIx (wVar 0) (wC (.int 0))) wNil))))))
 (wRet (wC (.bool false)))
 wNx)
 w_is_curve_L3)
theorem kit_nt : kitB "NoneType" "tuple" = some false := by decide +kernel
theorem kit_bt : kitB "bool" "tuple" = some false := by decide +kernel
theorem kit_it : kitB "int" "tuple" = some false := by decide +kernel
theorem kit_st : kitB "str" "tuple" = some false := by decide +kernel
theorem kit_lt : kitB "list" "tuple" = some false := by decide +kernel
theorem kit_tt' : kitB "tuple" "tuple" = some true := by decide +kernel
theorem is_curve_L3 {p : Int} {y z : D} {Q : Rt → Prop} {t : Option Sl} (hy : noScr y = true) (hz : noScr z = true) (h : (isW y && isW z) = false) (hq : Q (.v (.bool false))) :
    w_is_curve_L3 { nx := fun _ => Q (.v .none), rt := Q } [some (.v (.tuple [.int p, y, z])), t] := by
  have hr : (!resB p y || !resB p z) = true := by
    cases hw : isW y with
    | false =>
      have : resB p y = false := by cases y <;> first | rfl | cases hw
      rw [this]; rfl
    | true =>
      rw [hw, Bool.true_and] at h
      have : resB p z = false := by cases z <;> first | rfl | cases h
      rw [this, Bool.or_eq_true]
      exact .inr rfl
  refine ⟨_, rfl, decide (p ≤ 2305843009213693951), fun _ => rfl, !resB p y || !resB p z, fun _ => ⟨_, rfl, rfl, rfl, p, y, rfl, hy, !resB p z, fun _ => ⟨_, rfl, rfl, rfl, p, z, rfl, hz, rfl⟩, rfl⟩, fun _ => hq, fun h => ?_⟩
  exfalso
  have h' : (!(decide (5 ≤ p) && decide (p ≤ 2305843009213693951)) || (!resB p y || !resB p z)) = false := h
  rw [hr, Bool.or_true] at h'
  cases h'
theorem mf_is_curve : ∀ as Q, as.length = 1 → M_is_curve as Q → w_is_curve { nx := fun _ => Q (.v .none), rt := Q } (stE as 1) := by
  rintro as Q _ ⟨d, rfl, ⟨ht, hn, hq⟩ | ⟨p, a, b, B, rfl, hB, hq⟩⟩
  · have no : ∀ {P : Prop} {c : Bool}, ((true || c) = true → Q (.v (.bool false))) ∧ ((true || c) = false → P) := fun {P c} => ⟨fun _ => hq, fun h => (nomatch h)⟩
    cases d with
    | int i => exact ⟨false, kit_it, true, fun h => (nomatch h), no⟩
    | bool b => exact ⟨false, kit_bt, true, fun h => (nomatch h), no⟩
    | none => exact ⟨false, kit_nt, true, fun h => (nomatch h), no⟩
    | str s => exact ⟨false, kit_st, true, fun h => (nomatch h), no⟩
    | list ds => exact ⟨false, kit_lt, true, fun h => (nomatch h), no⟩
    | dict ds => cases hn
    | tuple ds =>
      match ds, ht, hn with
      | [], _, _ => exact ⟨true, kit_tt', true, fun _ => ⟨true, fun h => (nomatch h), rfl⟩, fun _ => hq, fun h => (nomatch h)⟩
      | [x], _, _ => exact ⟨true, kit_tt', true, fun _ => ⟨true, fun h => (nomatch h), rfl⟩, fun _ => hq, fun h => (nomatch h)⟩
      | [x, y], _, _ => exact ⟨true, kit_tt', true, fun _ => ⟨true, fun h => (nomatch h), rfl⟩, fun _ => hq, fun h => (nomatch h)⟩
      | x :: y :: z :: u :: r, _, _ =>
        have hl : ((x :: y :: z :: u :: r).length : Int) ≠ 3 := by
          rw [List.length_cons, List.length_cons, List.length_cons, List.length_cons]
          omega
        refine ⟨true, kit_tt', true, fun _ => ⟨true, fun h => ?_, ?_⟩, fun _ => hq, fun h => (nomatch h)⟩
        · have h' : (!decide (((x :: y :: z :: u :: r).length : Int) = 3)) = false := h
          rw [decide_eq_false hl] at h'
          cases h'
        · show (!decide (((x :: y :: z :: u :: r).length : Int) = 3) || true) = true
          rw [Bool.or_true]
      | [x, y, z], ht, hn =>
        have hn' : (noScr x && (noScr y && (noScr z && true))) = true := hn
        rw [Bool.and_eq_true, Bool.and_eq_true, Bool.and_true] at hn'
        refine ⟨true, kit_tt', !isW x, fun _ => ⟨!isW x, fun _ => ⟨_, rfl, rfl, rfl, x, rfl, hn'.1, rfl⟩, rfl⟩, fun h => hq, fun h => ?_⟩
        have hx : isW x = true := by
          have h' : (!isW x) = false := h
          rwa [Bool.not_eq_false'] at h'
        cases x with
        | int p =>
          refine is_curve_L3 hn'.2.1 hn'.2.2 ?_ hq
          cases y <;> cases z <;> first | rfl | cases ht
        | bool b => cases hx
        | none => cases hx
        | str s => cases hx
        | list ds => cases hx
        | tuple ds => cases hx
        | dict ds => cases hx
  · refine ⟨true, kit_tt', false, fun _ => ⟨false, fun _ => ⟨_, rfl, rfl, rfl, .int p, rfl, rfl, rfl⟩, rfl⟩, wfalse ?_⟩
    refine ⟨_, rfl, decide (p ≤ 2305843009213693951), fun _ => rfl, !(decide (0 ≤ a) && decide (a < p)) || !(decide (0 ≤ b) && decide (b < p)), fun _ => ⟨_, rfl, rfl, rfl, p, .int a, rfl, rfl, !(decide (0 ≤ b) && decide (b < p)), fun _ => ⟨_, rfl, rfl, rfl, p, .int b, rfl, rfl, rfl⟩, rfl⟩, fun h => ?_, fun h => ?_⟩
    · have h' : (!(decide (5 ≤ p) && decide (p ≤ 2305843009213693951)) || (!(decide (0 ≤ a) && decide (a < p)) || !(decide (0 ≤ b) && decide (b < p)))) = true := h
      have e : cvB p a b B = false := by
        unfold cvB
        revert h'
        cases decide (5 ≤ p) && decide (p ≤ 2305843009213693951) <;> cases decide (0 ≤ a) && decide (a < p) <;> cases decide (0 ≤ b) && decide (b < p) <;> simp
      rw [e] at hq
      exact hq
    · have h' : (!(decide (5 ≤ p) && decide (p ≤ 2305843009213693951)) || (!(decide (0 ≤ a) && decide (a < p)) || !(decide (0 ≤ b) && decide (b < p)))) = false := h
      rw [Bool.or_eq_false_iff, Bool.or_eq_false_iff, Bool.not_eq_false', Bool.not_eq_false', Bool.not_eq_false'] at h'
      obtain ⟨h1, h2, h3⟩ := h'
      have e : ∀ C : Bool, cvB p a b C = (!decide ((4 * a * a * a + 27 * b * b) % p = 0) && C) := fun C => by
        unfold cvB
        rw [h1, h2, h3]
        rfl
      rw [Bool.and_eq_true, decide_eq_true_iff, decide_eq_true_iff] at h1 h2 h3
      rw [e] at hq
      refine ⟨rfl, rfl, p, a, b, rfl, by omega, ⟨by omega, by omega⟩, ⟨by omega, by omega⟩, ?_⟩
      by_cases hd : (4 * a * a * a + 27 * b * b) % p = 0
      · rw [decide_eq_true hd] at hq
        refine ⟨true, fun h => ?_, ?_⟩
        · exfalso
          have h' : (!decide ((4 * a * a * a + 27 * b * b) % p = 0)) = true := h
          rw [decide_eq_true hd] at h'
          cases h'
        · show Q (.v (.bool ((!decide ((4 * a * a * a + 27 * b * b) % p = 0)) && true)))
          rw [decide_eq_true hd]
          exact hq
      · refine ⟨B, fun _ => ⟨rfl, rfl, hB (by rw [e, decide_eq_false hd]; rfl) _ rfl⟩, hq⟩

theorem ok_is_curve {f : Addr} {fd : FuncData} (F : Fun K "is_curve" "is_curve" s_is_curve f fd) (h_is_whole : Has P w K mg base okH 1 "is_whole" 1 M_is_whole) (h_is_residue : Has P w K mg base okH 2 "is_residue" 2 M_is_residue) (h_discriminant : Has P w K mg base okH 1 "discriminant" 1 M_discriminant) (h_is_prime : Has P w K mg base okH 3 "is_prime" 1 M_is_prime) (m_isinstance : mg "isinstance" = none) (m_len : mg "len" = none) (m_tuple : mg "tuple" = none) (g_LEAST_PRIME : GlD K mg "LEAST_PRIME" (.int 5)) (g_MOST_PRIME : GlD K mg "MOST_PRIME" (.int 2305843009213693951)) : FnOk P w K mg base CX0 4 f fd ["value"] (SpD K okH 1 M_is_curve) :=
  def_ok F sc_is_curve rfl (fun cdv A outer s H E hr =>
 (s_cons (s_if (t_w (w_or (t_not (t_val (d_isi (T := "tuple") m_isinstance m_tuple (by decide +kernel) (d_var 0)))) (w_or (t_ne hr (d_len m_len (d_b (d_var 0))) d_int) (w_or1 (t_not (t_val (d_call h_is_whole hr (by decide) (a_cons (d_ix (d_b (d_var 0)) d_int) a_nil))))))))
 (s_one (s_ret d_bl))
 s_nil)
 (s_cons (s_set 1 sc_is_curve.nd (d_ix (d_b (d_var 0)) d_int))
 (s_cons (s_if (t_w (w_or (t_not (t_chn op_le opd_le op_le opd_le (d_gl g_LEAST_PRIME) (d_var 1) (d_gl g_MOST_PRIME))) (w_or (t_not (t_val (d_call h_is_residue hr (by decide) (a_cons (d_var 1) (a_cons (d_ix (d_b (d_var 0)) d_int) a_nil))))) (w_or1 (t_not (t_val (d_call h_is_residue hr (by decide) (a_cons (d_var 1) (a_cons (d_ix (d_b (d_var 0)) d_int) a_nil)))))))))
 (s_one (s_ret d_bl))
 s_nil)
 (s_one (s_ret (d_and (d_ne hr (d_call h_discriminant hr (by decide) (a_cons (d_var 0) a_nil)) d_int) (d_one (d_call h_is_prime hr (by decide) (a_cons (d_var 1) a_nil)))))))))) mf_is_curve
/-! ### _law_wide -/
abbrev s__law_wide : Stmt := topS 14
theorem sc__law_wide : FnScope ["script", "k", "cell", "mixed"] ["script", "k"] (defScope s__law_wide) := ⟨rfl, rfl, rfl, by decide +kernel, rfl, by decide +kernel, by decide +kernel⟩
abbrev M__law_wide : WM := M_wide

def w__law_wide : WS := (wSeq (wSet 2 (wC (.int 0)))
 (wSeq (wIf (wTest (wBin fLt (wVar 1) (wLen (wVar 0))))
 (wSet 2 (wUn fAbs (wIx (wVar 0) (wVar 1))))
 wNx)
 (wSeq (wIf (wTest (wBin fGe (wVar 2) (wC (.int 1000000000000000000))))
 (wRet (wVar 2))
 wNx)
 (wSeq (wSet 3 (wBin fMod (wUn fInt (wBin fAdd (wBin fMul (wBin fAdd (wVar 2) (wC (.int 1))) (wC (.int 6364136223846793005))) (wBin fMul (wBin fAdd (wVar 1) (wC (.int 1))) (wC (.int 1442695040888963407))))) (wC (.int 2305843009213693951))))
 (wRet (wBin fMod (wUn fInt (wBin fAdd (wBin fMul (wVar 3) (wC (.int 3202034522624059733))) (wBin fDiv (wVar 3) (wC (.int 1000003))))) (wC (.int 2305843009213693951))))))))
theorem mf__law_wide : ∀ as Q, as.length = 2 → M__law_wide as Q → w__law_wide { nx := fun _ => Q (.v .none), rt := Q } (stE as 2) := by
  rintro as Q _ ⟨ns, k, rfl, k0, hq⟩
  have next : ∀ cell : Int, ∃ (c : Int → Prop), True := fun _ => ⟨fun _ => True, trivial⟩
  have h0 : (0 : Int) < 2305843009213693951 := by decide
  refine ⟨fun h => ?_, fun h => ?_⟩
  · have hk : k < (dints ns).length := of_decide_eq_true h
    rw [List.length_map] at hk
    obtain ⟨v, hv, _⟩ := atI_ints k0 hk
    refine ⟨_, hv, ⟨fun _ => hq _, fun _ => ?_⟩⟩
    refine ⟨.inr ⟨by decide, by decide⟩, .inr ⟨by decide, by decide⟩, h0, .inr ⟨by decide, by decide⟩, div200 (by decide) (by decide) _, h0, hq _⟩
  · refine ⟨fun _ => hq _, fun _ => ?_⟩
    refine ⟨.inr ⟨by decide, by decide⟩, .inr ⟨by decide, by decide⟩, h0, .inr ⟨by decide, by decide⟩, div200 (by decide) (by decide) _, h0, hq _⟩

theorem ok__law_wide {f : Addr} {fd : FuncData} (F : Fun K "_law_wide" "_law_wide" s__law_wide f fd)  (m_abs : mg "abs" = none) (m_int : mg "int" = none) (m_len : mg "len" = none)  : FnOk P w K mg base CX0 1 f fd ["script", "k"] (SpD K okH 2 M__law_wide) :=
  def_ok F sc__law_wide rfl (fun cdv A outer s H E hr =>
 (s_cons (s_set 2 sc__law_wide.nd d_int)
 (s_cons (s_if (t_lt (d_var 1) (d_len m_len (d_b (d_var 0))))
 (s_one (s_set 2 sc__law_wide.nd (d_abs m_abs (d_ix (d_b (d_var 0)) (d_var 1)))))
 s_nil)
 (s_cons (s_if (t_ge (d_var 2) d_int)
 (s_one (s_ret (d_var 2)))
 s_nil)
 (s_cons (s_set 3 sc__law_wide.nd (d_mod (d_intc m_int (d_add (d_mul (d_add (d_var 2) d_int) d_int) (d_mul (d_add (d_var 1) d_int) d_int))) d_int))
 (s_one (s_ret (d_mod (d_intc m_int (d_add (d_mul (d_var 3) d_int) (d_div (d_var 3) d_int))) d_int)))))))) mf__law_wide
/-! ### _law_take -/
abbrev s__law_take : Stmt := topS 15
theorem sc__law_take : FnScope ["pool", "most", "taken"] ["pool", "most"] (defScope s__law_take) := ⟨rfl, rfl, rfl, by decide +kernel, rfl, by decide +kernel, by decide +kernel⟩
abbrev M__law_take : WM := DL.M_take
theorem ok__law_take {f : Addr} {fd : FuncData} (F : Fun K "_law_take" "_law_take" s__law_take f fd) (h__law_wide : Has P w K mg base okH 1 "_law_wide" 2 M__law_wide) (m_int : mg "int" = none) : FnOk P w K mg base CX0 2 f fd ["pool", "most"] (SpD K okH 2 M__law_take) := take_ok F sc__law_take (fun cdv A outer s H E hr => (pss_cons (ps_if (pt_cmpR op_lt (pe_ix ix_seq (pv 0) pe_int (fun _ _ => rfl)) pe_int (nomark _)) (pss_cons (ps_asg (pe_op op_add (pe_ix ix_seq (pv 0) pe_int (fun _ _ => rfl)) pe_int) (pg_sub (pv 0) pe_int set_list)) (pss_one (ps_asg (pe_has h__law_wide hr (by decide) (pa_cons (pe_ix ix_seq (pv 0) pe_int (fun _ _ => rfl)) (pa_cons (pe_ix ix_seq (pv 0) pe_int (fun _ _ => rfl)) pa_nil))) (pg_sub (pv 0) pe_int set_list)))) pss_nil) (pss_cons (ps_set (i := 2) sc__law_take.nd rfl (Or.inl rfl) (pe_op op_mod (pe_callTy call_int1 (by rfl) m_int (by decide +kernel) (pa_cons (pe_ix ix_seq (pv 0) pe_int (fun _ _ => rfl)) pa_nil)) (pv 1))) (pss_cons (ps_asg (pe_op op_fdivW (pe_ix ix_seq (pv 0) pe_int (fun _ _ => rfl)) (pv 1)) (pg_sub (pv 0) pe_int set_list)) (pss_one (ps_ret (pv 2)))))))
/-! ### _law_pool -/
abbrev s__law_pool : Stmt := topS 16
theorem sc__law_pool : FnScope ["script"] ["script"] (defScope s__law_pool) := ⟨rfl, rfl, rfl, by decide +kernel, rfl, by decide +kernel, by decide +kernel⟩
abbrev M__law_pool : WM := M_pool

def w__law_pool : WS := (wRetO (wLstP (wCons (wC (.int 0)) (wCons (wFz (wListOf (wVar 0))) (wCons (wUn fNeg (wC (.int 1))) wNil)))))
theorem mf__law_pool : ∀ as Q, as.length = 1 → M__law_pool as Q → w__law_pool { nx := fun _ => Q (.v .none), rt := Q } (stE as 0) := by
  rintro as Q _ ⟨ns, rfl, hq⟩
  exact ⟨rfl, lk rfl, hq⟩

theorem ok__law_pool {f : Addr} {fd : FuncData} (F : Fun K "_law_pool" "_law_pool" s__law_pool f fd)  (m_list : mg "list" = none)  : FnOk P w K mg base CX0 1 f fd ["script"] (SpD K okH 1 M__law_pool) :=
  def_ok F sc__law_pool rfl (fun cdv A outer s H E hr =>
 (s_one (s_retO (l_lst (a_cons d_int (a_cons (d_fz (l_listOf m_list (d_b (d_var 0)))) (a_cons (d_neg d_int) a_nil))))))) mf__law_pool
/-! ### _law_mod -/
abbrev s__law_mod : Stmt := topS 17
theorem sc__law_mod : FnScope ["x", "p"] ["x", "p"] (defScope s__law_mod) := ⟨rfl, rfl, rfl, by decide +kernel, rfl, by decide +kernel, by decide +kernel⟩
/-- _law_mod(x, p) -/
def M__law_mod : WM := fun as Q => ∃ x p : Int, as = [.v (.int x), .v (.int p)] ∧ 0 < p ∧ Q (.v (.int (x % p)))

def w__law_mod : WS := (wRet (wBin fMod (wUn fInt (wVar 0)) (wVar 1)))
theorem mf__law_mod : ∀ as Q, as.length = 2 → M__law_mod as Q → w__law_mod { nx := fun _ => Q (.v .none), rt := Q } (stE as 0) := by
  rintro as Q _ ⟨x, p, rfl, p0, hq⟩
  exact ⟨p0, hq⟩

theorem ok__law_mod {f : Addr} {fd : FuncData} (F : Fun K "_law_mod" "_law_mod" s__law_mod f fd)  (m_int : mg "int" = none)  : FnOk P w K mg base CX0 1 f fd ["x", "p"] (SpD K okH 2 M__law_mod) :=
  def_ok F sc__law_mod rfl (fun cdv A outer s H E hr =>
 (s_one (s_ret (d_mod (d_intc m_int (d_var 0)) (d_var 1))))) mf__law_mod
/-! ### _law_prime_from -/
abbrev s__law_prime_from : Stmt := topS 18
theorem sc__law_prime_from : FnScope ["number", "candidate", "divided", "d"] ["number"] (defScope s__law_prime_from) := ⟨rfl, rfl, rfl, by decide +kernel, rfl, by decide +kernel, by decide +kernel⟩
/-- _law_prime_from(n): a prime -/
def M__law_prime_from : WM := fun as Q => ∃ n : Int, as = [.v (.int n)] ∧ 5 ≤ n ∧ n + 600 ≤ 160000 ∧ ∀ c : Int, MB.PrimeI c → 5 ≤ c → c < n + 600 → Q (.v (.int c))

def w__law_prime_from : WS := (wSeq (wFor (iR2 (wVar 0) (wBin fAdd (wVar 0) (wC (.int 600)))) (gN 1)
 (wSeq (wSet 2 (wC (.bool false)))
 (wSeq (wFor (iR2 (wC (.int 2)) (wC (.int 400))) (gN 3)
 (wIf (wAndD (wTest (wBin fLe (wBin fMul (wVar 3) (wVar 3)) (wVar 1))) (wTest (wBin fEq (wCallP 2 M__law_mod (wCons (wVar 1) (wCons (wVar 3) wNil))) (wC (.int 0)))))
 (wSeq (wSet 2 (wC (.bool true)))
 wBk)
 wNx))
 (wIf (wNot (wTest (wVar 2)))
 (wRet (wVar 1))
 wNx))))
 (wRet (wC (.int 5))))
theorem mf__law_prime_from : ∀ as Q, as.length = 1 → M__law_prime_from as Q → w__law_prime_from { nx := fun _ => Q (.v .none), rt := Q } (stE as 3) := by
  rintro as Q _ ⟨n, rfl, n0, n1, hq⟩
  refine ⟨⟨by omega, by omega, by omega, by omega⟩, fun k env => ∃ t1 t2 t3, env = [some (.v (.int n)), t1, t2, t3], ⟨_, _, _, rfl⟩, ?_, ?_⟩
  · rintro i d env hd ⟨t1, t2, t3, rfl⟩
    obtain ⟨hi, rfl⟩ := rng_at hd
    obtain ⟨c, hc⟩ : ∃ c, c = n + (i : Int) := ⟨_, rfl⟩
    rw [← hc]
    refine ⟨⟨by decide, by decide, by decide, by decide⟩, fun k env => ∃ t3, env = [some (.v (.int n)), some (.v (.int c)), some (.v (.bool false)), t3] ∧ ∀ d : Int, 2 ≤ d → d < 2 + (k : Int) → d * d ≤ c → c % d ≠ 0, ⟨_, rfl, fun d _ _ => by omega⟩, ?_, ?_⟩
    · rintro j e env he ⟨t3, rfl, ht⟩
      obtain ⟨hj, rfl⟩ := rng_at he
      have dp : (0 : Int) < 2 + (j : Int) := by omega
      refine ⟨.inl ⟨by omega, by omega⟩, decide (c % (2 + (j : Int)) = 0), fun h => ⟨rfl, rfl, _, _, rfl, dp, rfl⟩, fun h => ?_, fun h => ?_⟩
      · exact wfalse ⟨_, _, _, rfl⟩
      · refine ⟨_, rfl, fun d d2 d3 d4 d5 => ?_⟩
        by_cases hd : d = 2 + (j : Int)
        · subst hd
          have h' : (decide ((2 + (j : Int)) * (2 + (j : Int)) ≤ c) && decide (c % (2 + (j : Int)) = 0)) = false := h
          rw [decide_eq_true d4, decide_eq_true d5] at h'
          cases h'
        · exact ht d d2 (by omega) d4 d5
    · rintro env ⟨t3, rfl, ht⟩
      rw [rng_len] at ht
      exact wtrue (hq c (MB.prime_of_trial 400 (by omega) (by omega) (by decide) fun d d2 d3 => ht d d2 (by omega)) (by omega) (by omega))
  · rintro env ⟨t1, t2, t3, rfl⟩
    exact hq 5 (MB.prime_of_trial 3 (by decide) (by decide) (by decide) fun d d2 d3 _ => by
      have : d = 2 := by omega
      subst this
      decide) (by decide) (by omega)

theorem ok__law_prime_from {f : Addr} {fd : FuncData} (F : Fun K "_law_prime_from" "_law_prime_from" s__law_prime_from f fd) (h__law_mod : Has P w K mg base okH 1 "_law_mod" 2 M__law_mod) (m_range : mg "range" = none)  : FnOk P w K mg base CX0 2 f fd ["number"] (SpD K okH 1 M__law_prime_from) :=
  def_ok F sc__law_prime_from rfl (fun cdv A outer s H E hr =>
 (s_cons (s_for (vs := [1]) PassesOwn.never rfl (i_r2 m_range (d_var 0) (d_add (d_var 0) d_int)) (g_name 1 sc__law_prime_from.nd)
 (s_cons (s_set 2 sc__law_prime_from.nd d_bl)
 (s_cons (s_for (vs := [3]) PassesOwn.never rfl (i_r2 m_range d_int d_int) (g_name 3 sc__law_prime_from.nd)
 (s_one (s_if (t_w (w_and (t_le (d_mul (d_var 3) (d_var 3)) (d_var 1)) (w_and1 (t_eq hr (d_call h__law_mod hr (by decide) (a_cons (d_var 1) (a_cons (d_var 3) a_nil))) d_int))))
 (s_cons (s_set 2 sc__law_prime_from.nd d_bl)
 (s_one s_break))
 s_nil)))
 (s_one (s_if (t_not (t_val (d_var 2)))
 (s_one (s_ret (d_var 1)))
 s_nil)))))
 (s_one (s_ret d_int)))) mf__law_prime_from
/-! ### _law_prime -/
abbrev s__law_prime : Stmt := topS 19
theorem sc__law_prime : FnScope ["pool", "most"] ["pool", "most"] (defScope s__law_prime) := ⟨rfl, rfl, rfl, by decide +kernel, rfl, by decide +kernel, by decide +kernel⟩
/-- _law_prime(pool, m): a prime -/
def M__law_prime : WM := fun as Q => ∃ m : Int, as = [.hnd, .v (.int m)] ∧ 5 < m ∧ m < 150000 ∧ ∀ c : Int, MB.PrimeI c → 5 ≤ c → c < m + 600 → Q (.v (.int c))

def w__law_prime : WS := (wRet (wCallP 1 M__law_prime_from (wCons (wBin fAdd (wC (.int 5)) (wCallP 2 M__law_take (wConsH 0 (wCons (wBin fSub (wVar 1) (wC (.int 5))) wNil)))) wNil)))
theorem mf__law_prime : ∀ as Q, as.length = 2 → M__law_prime as Q → w__law_prime { nx := fun _ => Q (.v .none), rt := Q } (stE as 0) := by
  rintro as Q _ ⟨m, rfl, n0, n1, hq⟩
  refine tk (by omega) (by omega) fun r r0 r1 => ⟨rfl, rfl, _, rfl, by omega, by omega, fun c c0 c1 c2 => hq c c0 c1 (by omega)⟩

theorem ok__law_prime {f : Addr} {fd : FuncData} (F : Fun K "_law_prime" "_law_prime" s__law_prime f fd) (h__law_prime_from : Has P w K mg base okH 2 "_law_prime_from" 1 M__law_prime_from) (h__law_take : Has P w K mg base okH 2 "_law_take" 2 M__law_take)   : FnOk P w K mg base CX0 3 f fd ["pool", "most"] (SpD K okH 2 M__law_prime) :=
  def_ok F sc__law_prime rfl (fun cdv A outer s H E hr =>
 (s_one (s_ret (d_call h__law_prime_from hr (by decide) (a_cons (d_add d_int (d_call h__law_take hr (by decide) (a_hnd 0 (a_cons (d_sub (d_var 1) d_int) a_nil)))) a_nil))))) mf__law_prime
/-! ### _law_pair -/
abbrev s__law_pair : Stmt := topS 20
theorem sc__law_pair : FnScope ["pool", "p", "a", "b"] ["pool", "p"] (defScope s__law_pair) := ⟨rfl, rfl, rfl, by decide +kernel, rfl, by decide +kernel, by decide +kernel⟩
def M__law_pair : WM := fun as Q => ∃ p : Int, as = [.hnd, .v (.int p)] ∧ 2 ≤ p ∧ p < 2 ^ 100 ∧ ∀ a b : Int, 0 ≤ a → a < p → 0 ≤ b → b < p → Q (.v (.tuple [.int a, .int b]))

def w__law_pair : WS := (wSeq (wSet 2 (wIx (wFz (wLstP (wCons (wCallP 2 M__law_take (wConsH 0 (wCons (wVar 1) wNil))) (wCons (wC (.int 0)) (wCons (wCallP 2 M__law_take (wConsH 0 (wCons (wVar 1) wNil))) (wCons (wC (.int 1)) (wCons (wCallP 2 M__law_take (wConsH 0 (wCons (wVar 1) wNil))) wNil))))))) (wCallP 2 M__law_take (wConsH 0 (wCons (wC (.int 5)) wNil)))))
 (wSeq (wSet 3 (wIx (wFz (wLstP (wCons (wCallP 2 M__law_take (wConsH 0 (wCons (wVar 1) wNil))) (wCons (wCallP 2 M__law_take (wConsH 0 (wCons (wVar 1) wNil))) (wCons (wC (.int 0)) (wCons (wCallP 2 M__law_take (wConsH 0 (wCons (wVar 1) wNil))) wNil)))))) (wCallP 2 M__law_take (wConsH 0 (wCons (wC (.int 4)) wNil)))))
 (wRet (wTupP (wCons (wVar 2) (wCons (wVar 3) wNil))))))
theorem mf__law_pair : ∀ as Q, as.length = 2 → M__law_pair as Q → w__law_pair { nx := fun _ => Q (.v .none), rt := Q } (stE as 2) := by
  rintro as Q _ ⟨p, rfl, p2, p1, hq⟩
  refine tk (by omega) (by omega) fun x0 h0 h0' => tk (by omega) (by omega) fun x1 h1 h1' => tk (by omega) (by omega) fun x2 h2 h2' => ⟨rfl, lk rfl, tk (by decide) (by decide) fun r r0 r1 => ?_⟩
  obtain ⟨a, ea, a0, a1⟩ : ∃ a : Int, atI [PyData.int x0, .int 0, .int x1, .int 1, .int x2] r = some (.int a) ∧ 0 ≤ a ∧ a < p := by
    have : r = 0 ∨ r = 1 ∨ r = 2 ∨ r = 3 ∨ r = 4 := by omega
    rcases this with rfl | rfl | rfl | rfl | rfl <;> exact ⟨_, rfl, by omega, by omega⟩
  refine ⟨_, ea, ?_⟩
  refine tk (by omega) (by omega) fun y0 h0 h0' => tk (by omega) (by omega) fun y1 h1 h1' => tk (by omega) (by omega) fun y2 h2 h2' => ⟨rfl, lk rfl, tk (by decide) (by decide) fun r r0 r1 => ?_⟩
  obtain ⟨b, eb, b0, b1⟩ : ∃ b : Int, atI [PyData.int y0, .int y1, .int 0, .int y2] r = some (.int b) ∧ 0 ≤ b ∧ b < p := by
    have : r = 0 ∨ r = 1 ∨ r = 2 ∨ r = 3 := by omega
    rcases this with rfl | rfl | rfl | rfl <;> exact ⟨_, rfl, by omega, by omega⟩
  exact ⟨_, eb, rfl, lk rfl, hq a b a0 a1 b0 b1⟩

theorem ok__law_pair {f : Addr} {fd : FuncData} (F : Fun K "_law_pair" "_law_pair" s__law_pair f fd) (h__law_take : Has P w K mg base okH 2 "_law_take" 2 M__law_take)   : FnOk P w K mg base CX0 3 f fd ["pool", "p"] (SpD K okH 2 M__law_pair) :=
  def_ok F sc__law_pair rfl (fun cdv A outer s H E hr =>
 (s_cons (s_set 2 sc__law_pair.nd (d_ix (d_b (d_fz (l_lst (a_cons (d_call h__law_take hr (by decide) (a_hnd 0 (a_cons (d_var 1) a_nil))) (a_cons d_int (a_cons (d_call h__law_take hr (by decide) (a_hnd 0 (a_cons (d_var 1) a_nil))) (a_cons d_int (a_cons (d_call h__law_take hr (by decide) (a_hnd 0 (a_cons (d_var 1) a_nil))) a_nil)))))))) (d_call h__law_take hr (by decide) (a_hnd 0 (a_cons d_int a_nil)))))
 (s_cons (s_set 3 sc__law_pair.nd (d_ix (d_b (d_fz (l_lst (a_cons (d_call h__law_take hr (by decide) (a_hnd 0 (a_cons (d_var 1) a_nil))) (a_cons (d_call h__law_take hr (by decide) (a_hnd 0 (a_cons (d_var 1) a_nil))) (a_cons d_int (a_cons (d_call h__law_take hr (by decide) (a_hnd 0 (a_cons (d_var 1) a_nil))) a_nil))))))) (d_call h__law_take hr (by decide) (a_hnd 0 (a_cons d_int a_nil)))))
 (s_one (s_ret (d_tup (a_cons (d_var 2) (a_cons (d_var 3) a_nil)))))))) mf__law_pair
/-! ### _law_curve -/
abbrev s__law_curve : Stmt := topS 21
theorem sc__law_curve : FnScope ["pool", "most", "p", "k", "a", "b"] ["pool", "most"] (defScope s__law_curve) := ⟨rfl, rfl, rfl, by decide +kernel, rfl, by decide +kernel, by decide +kernel⟩
def M__law_curve : WM := fun as Q => ∃ m : Int, as = [.hnd, .v (.int m)] ∧ 5 < m ∧ m < 150000 ∧ ∀ p a b : Int, MB.PrimeI p → 5 ≤ p → p < m + 600 → 0 ≤ a → a < p → 0 ≤ b → b < p → (4 * a * a * a + 27 * b * b) % p ≠ 0 → Q (.v (.tuple [.int p, .int a, .int b]))

def w__law_curve : WS := (wSeq (wSet 2 (wCallP 2 M__law_prime (wConsH 0 (wCons (wVar 1) wNil))))
 (wSeq (wFor (iR1 (wC (.int 60))) (gN 3)
 (wSeq (wAsg (wCallP 2 M__law_pair (wConsH 0 (wCons (wVar 2) wNil))) (gT 2 (gsCons (gN 4) (gsCons (gN 5) gsNil))))
 (wIf (wTest (wBin fNe (wCallP 2 M__law_mod (wCons (wBin fAdd (wBin fMul (wBin fMul (wBin fMul (wC (.int 4)) (wVar 4)) (wVar 4)) (wVar 4)) (wBin fMul (wBin fMul (wC (.int 27)) (wVar 5)) (wVar 5))) (wCons (wVar 2) wNil))) (wC (.int 0))))
 (wRet (wTupP (wCons (wVar 2) (wCons (wVar 4) (wCons (wVar 5) wNil)))))
 wNx)))
 (wRet (wTupP (wCons (wVar 2) (wCons (wC (.int 0)) (wCons (wC (.int 1)) wNil)))))))
theorem no27 {p : Int} (hp : MB.PrimeI p) (p5 : 5 ≤ p) : (27 : Int) % p ≠ 0 := fun z => by
  obtain ⟨k, hk⟩ := Int.dvd_of_emod_eq_zero z
  have k0 : 0 < k := by
    apply Int.not_le.mp
    intro h
    have := Int.mul_nonpos_of_nonneg_of_nonpos (a := p) (b := k) (by omega) h
    omega
  have k5 : k ≤ 5 := by
    apply Int.not_lt.mp
    intro h
    have := Int.mul_le_mul_of_nonneg_right p5 (by omega : 0 ≤ k)
    omega
  have : k = 1 ∨ k = 2 ∨ k = 3 ∨ k = 4 ∨ k = 5 := by omega
  rcases this with rfl | rfl | rfl | rfl | rfl
  · exact hp.2 3 (by decide) (by omega) (by omega)
  · omega
  · exact hp.2 3 (by decide) (by omega) (by omega)
  · omega
  · omega
theorem mf__law_curve : ∀ as Q, as.length = 2 → M__law_curve as Q → w__law_curve { nx := fun _ => Q (.v .none), rt := Q } (stE as 4) := by
  rintro as Q _ ⟨m, rfl, m0, m1, hq⟩
  refine ⟨rfl, rfl, m, rfl, m0, m1, fun p hp p5 pm => ?_⟩
  have cm : ∀ a : Int, 0 ≤ a → a < p → ∀ z, CMul z a := fun a h0 h1 z => .inr ⟨by omega, by omega⟩
  refine ⟨⟨by decide, by decide⟩, fun k env => ∃ t3 t4 t5, env = [some .hnd, some (.v (.int m)), some (.v (.int p)), t3, t4, t5], ⟨none, none, none, rfl⟩, ?_, ?_⟩
  · rintro i d env hd ⟨t3, t4, t5, rfl⟩
    refine ⟨rfl, rfl, p, rfl, by omega, by omega, fun a b a0 a1 b0 b1 => ⟨rfl, rfl, ?_⟩⟩
    refine ⟨cm a a0 a1 _, cm a a0 a1 _, cm a a0 a1 _, cm b b0 b1 _, cm b b0 b1 _, rfl, rfl, _, p, rfl, by omega, fun h => ?_, fun h => ⟨_, _, _, rfl⟩⟩
    have h' : (!decide ((4 * a * a * a + 27 * b * b) % p = 0)) = true := h
    rw [Bool.not_eq_true', decide_eq_false_iff_not] at h'
    exact ⟨rfl, lk rfl, hq p a b hp p5 pm a0 a1 b0 b1 h'⟩
  · rintro env ⟨t3, t4, t5, rfl⟩
    exact ⟨rfl, lk rfl, hq p 0 1 hp p5 pm (by omega) (by omega) (by omega) (by omega) (no27 hp p5)⟩

theorem ok__law_curve {f : Addr} {fd : FuncData} (F : Fun K "_law_curve" "_law_curve" s__law_curve f fd) (h__law_prime : Has P w K mg base okH 3 "_law_prime" 2 M__law_prime) (h__law_pair : Has P w K mg base okH 3 "_law_pair" 2 M__law_pair) (h__law_mod : Has P w K mg base okH 1 "_law_mod" 2 M__law_mod) (m_range : mg "range" = none)  : FnOk P w K mg base CX0 4 f fd ["pool", "most"] (SpD K okH 2 M__law_curve) :=
  def_ok F sc__law_curve rfl (fun cdv A outer s H E hr =>
 (s_cons (s_set 2 sc__law_curve.nd (d_call h__law_prime hr (by decide) (a_hnd 0 (a_cons (d_var 1) a_nil))))
 (s_cons (s_for (vs := [3]) PassesOwn.never rfl (i_r1 m_range d_int) (g_name 3 sc__law_curve.nd)
 (s_cons (s_asg (vs := [4, 5]) (d_call h__law_pair hr (by decide) (a_hnd 0 (a_cons (d_var 2) a_nil))) (g_tupN (g_cons (g_name 4 sc__law_curve.nd) (g_cons (g_name 5 sc__law_curve.nd) g_nil))))
 (s_one (s_if (t_ne hr (d_call h__law_mod hr (by decide) (a_cons (d_add (d_mul (d_mul (d_mul d_int (d_var 4)) (d_var 4)) (d_var 4)) (d_mul (d_mul d_int (d_var 5)) (d_var 5))) (a_cons (d_var 2) a_nil))) d_int)
 (s_one (s_ret (d_tup (a_cons (d_var 2) (a_cons (d_var 4) (a_cons (d_var 5) a_nil))))))
 s_nil))))
 (s_one (s_ret (d_tup (a_cons (d_var 2) (a_cons d_int (a_cons d_int a_nil))))))))) mf__law_curve
/-! ### _law_is_prime -/
abbrev s__law_is_prime : Stmt := topS 23
theorem sc__law_is_prime : FnScope ["number", "d"] ["number"] (defScope s__law_is_prime) := ⟨rfl, rfl, rfl, by decide +kernel, rfl, by decide +kernel, by decide +kernel⟩
def trI (n : Int) : Bool := decide (2 ≤ n) && MB.tr n.toNat
def M__law_is_prime : WM := fun as Q => ∃ n : Int, as = [.v (.int n)] ∧ Q (.v (.bool (trI n)))

def w__law_is_prime : WS := (wSeq (wIf (wTest (wBin fLt (wVar 0) (wC (.int 2))))
 (wRet (wC (.bool false)))
 wNx)
 (wSeq (wFor (iR2 (wC (.int 2)) (wC (.int 50))) (gN 1)
 (wIf (wAndD (wTest (wBin fLe (wBin fMul (wVar 1) (wVar 1)) (wVar 0))) (wTest (wBin fEq (wCallP 2 M__law_mod (wCons (wVar 0) (wCons (wVar 1) wNil))) (wC (.int 0)))))
 (wRet (wC (.bool false)))
 wNx))
 (wRet (wC (.bool true)))))
theorem mf__law_is_prime : ∀ as Q, as.length = 1 → M__law_is_prime as Q → w__law_is_prime { nx := fun _ => Q (.v .none), rt := Q } (stE as 1) := by
  rintro as Q _ ⟨n, rfl, hq⟩
  refine ⟨fun h => ?_, fun h => ?_⟩
  · have h' : n < 2 := of_decide_eq_true h
    have e : trI n = false := by unfold trI; rw [decide_eq_false (show ¬ 2 ≤ n by omega)]; rfl
    rw [e] at hq
    exact hq
  have h' : ¬ n < 2 := of_decide_eq_false h
  refine ⟨⟨by decide, by decide, by decide, by decide⟩, fun i env => ∃ t, env = [some (.v (.int n)), t] ∧ ∀ d : Nat, 2 ≤ d → d < 2 + i → ¬ ((d : Int) * d ≤ n ∧ n % d = 0), ⟨none, rfl, fun d h1 h2 => by omega⟩, ?_, ?_⟩
  · rintro i x env hx ⟨t, rfl, hn⟩
    obtain ⟨hi, e⟩ := rng_at hx
    have hi' : i < 48 := hi
    rw [show (2 : Int) + i = ((2 + i : Nat) : Int) by omega] at e
    subst e
    refine ⟨.inl ⟨by omega, by omega⟩, decide (n % ((2 + i : Nat) : Int) = 0), fun _ => ⟨rfl, rfl, n, _, rfl, by omega, rfl⟩, fun h => ?_, fun h => ?_⟩
    · have h2 : (decide (((2 + i : Nat) : Int) * ((2 + i : Nat) : Int) ≤ n) && decide (n % ((2 + i : Nat) : Int) = 0)) = true := h
      rw [Bool.and_eq_true, decide_eq_true_iff, decide_eq_true_iff] at h2
      have e : trI n = false := by
        unfold trI
        rw [decide_eq_true (show 2 ≤ n by omega), Bool.true_and]
        apply Bool.eq_false_iff.mpr
        intro z
        unfold MB.tr at z
        rw [Bool.and_eq_true, List.all_eq_true] at z
        have := z.2 (2 + i) (List.mem_range.mpr (by omega))
        rw [Bool.or_eq_true, Bool.or_eq_true, decide_eq_true_iff, decide_eq_true_iff, bne_iff_ne] at this
        have ec : ((n.toNat : Nat) : Int) = n := by omega
        rcases this with (y | y) | y
        · omega
        · have : ((n.toNat : Nat) : Int) < (((2 + i) * (2 + i) : Nat) : Int) := by exact_mod_cast y
          rw [ec, Int.natCast_mul] at this
          omega
        · apply y
          have : ((n.toNat % (2 + i) : Nat) : Int) = 0 := by rw [Int.natCast_emod, ec]; exact h2.2
          exact Int.natCast_inj.mp this
      rw [e] at hq
      exact hq
    · have h2 : (decide (((2 + i : Nat) : Int) * ((2 + i : Nat) : Int) ≤ n) && decide (n % ((2 + i : Nat) : Int) = 0)) = false := h
      refine ⟨_, rfl, fun d d1 d2 hh => ?_⟩
      by_cases hd : d = 2 + i
      · subst hd
        rw [decide_eq_true hh.1, decide_eq_true hh.2] at h2
        cases h2
      · exact hn d d1 (by omega) hh
  · rintro env ⟨t, rfl, hn⟩
    rw [rng_len] at hn
    have e : trI n = true := by
      unfold trI
      rw [decide_eq_true (show 2 ≤ n by omega), Bool.true_and]
      unfold MB.tr
      rw [decide_eq_true (show 2 ≤ n.toNat by omega), Bool.true_and, List.all_eq_true]
      intro d hd
      have hd := List.mem_range.mp hd
      have ec : ((n.toNat : Nat) : Int) = n := by omega
      by_cases h1 : d < 2
      · rw [decide_eq_true h1]; rfl
      by_cases h2 : n.toNat < d * d
      · rw [decide_eq_true h2, Bool.or_true]; rfl
      have h3 := hn d (by omega) (by have : ((50 : Int) - 2).toNat = 48 := rfl; omega)
      have h4 : n.toNat % d ≠ 0 := fun z => h3 ⟨by
        have : ((d * d : Nat) : Int) ≤ ((n.toNat : Nat) : Int) := by exact_mod_cast Nat.le_of_not_lt h2
        rw [ec, Int.natCast_mul] at this
        exact this, by rw [← ec, ← Int.natCast_emod, z]; rfl⟩
      rw [bne_iff_ne.mpr h4, Bool.or_true]
    rw [e] at hq
    exact hq

theorem ok__law_is_prime {f : Addr} {fd : FuncData} (F : Fun K "_law_is_prime" "_law_is_prime" s__law_is_prime f fd) (h__law_mod : Has P w K mg base okH 1 "_law_mod" 2 M__law_mod) (m_range : mg "range" = none)  : FnOk P w K mg base CX0 2 f fd ["number"] (SpD K okH 1 M__law_is_prime) :=
  def_ok F sc__law_is_prime rfl (fun cdv A outer s H E hr =>
 (s_cons (s_if (t_lt (d_var 0) d_int)
 (s_one (s_ret d_bl))
 s_nil)
 (s_cons (s_for (vs := [1]) PassesOwn.never rfl (i_r2 m_range d_int d_int) (g_name 1 sc__law_is_prime.nd)
 (s_one (s_if (t_w (w_and (t_le (d_mul (d_var 1) (d_var 1)) (d_var 0)) (w_and1 (t_eq hr (d_call h__law_mod hr (by decide) (a_cons (d_var 0) (a_cons (d_var 1) a_nil))) d_int))))
 (s_one (s_ret d_bl))
 s_nil)))
 (s_one (s_ret d_bl))))) mf__law_is_prime
/-! ### _law_flat -/
abbrev s__law_flat : Stmt := topS 24
theorem sc__law_flat : FnScope ["pool", "p", "t"] ["pool", "p"] (defScope s__law_flat) := ⟨rfl, rfl, rfl, by decide +kernel, rfl, by decide +kernel, by decide +kernel⟩
def M__law_flat : WM := fun as Q => ∃ p : Int, as = [.hnd, .v (.int p)] ∧ 2 ≤ p ∧ p < 2 ^ 60 ∧ ∀ a b : Int, -10 ≤ a → a < 2 ^ 61 → -10 ≤ b → b < 2 ^ 61 → Q (.v (.tuple [.int a, .int b]))

def w__law_flat : WS := (wSeq (wSet 2 (wCallP 2 M__law_take (wConsH 0 (wCons (wVar 1) wNil))))
 (wRet (wTupP (wCons (wCallP 2 M__law_mod (wCons (wBin fMul (wBin fMul (wUn fNeg (wC (.int 3))) (wVar 2)) (wVar 2)) (wCons (wVar 1) wNil))) (wCons (wCallP 2 M__law_mod (wCons (wBin fMul (wBin fMul (wBin fMul (wC (.int 2)) (wVar 2)) (wVar 2)) (wVar 2)) (wCons (wVar 1) wNil))) wNil)))))
theorem mf__law_flat : ∀ as Q, as.length = 2 → M__law_flat as Q → w__law_flat { nx := fun _ => Q (.v .none), rt := Q } (stE as 1) := by
  rintro as Q _ ⟨p, rfl, p2, p1, hq⟩
  refine tk (by omega) (by omega) fun t t0 t1 => ?_
  have ct : ∀ z, CMul z t := fun z => .inr ⟨by omega, by omega⟩
  have bd : ∀ x : Int, -10 ≤ x % p ∧ x % p < 2 ^ 61 := fun x => ⟨by have := Int.emod_nonneg x (show p ≠ 0 by omega); omega, by have := Int.emod_lt_of_pos x (show 0 < p by omega); omega⟩
  exact ⟨ct _, ct _, rfl, rfl, _, p, rfl, by omega, ct _, ct _, ct _, rfl, rfl, _, p, rfl, by omega, rfl, lk rfl, hq _ _ (bd _).1 (bd _).2 (bd _).1 (bd _).2⟩

theorem ok__law_flat {f : Addr} {fd : FuncData} (F : Fun K "_law_flat" "_law_flat" s__law_flat f fd) (h__law_take : Has P w K mg base okH 2 "_law_take" 2 M__law_take) (h__law_mod : Has P w K mg base okH 1 "_law_mod" 2 M__law_mod)   : FnOk P w K mg base CX0 3 f fd ["pool", "p"] (SpD K okH 2 M__law_flat) :=
  def_ok F sc__law_flat rfl (fun cdv A outer s H E hr =>
 (s_cons (s_set 2 sc__law_flat.nd (d_call h__law_take hr (by decide) (a_hnd 0 (a_cons (d_var 1) a_nil))))
 (s_one (s_ret (d_tup (a_cons (d_call h__law_mod hr (by decide) (a_cons (d_mul (d_mul (d_neg d_int) (d_var 2)) (d_var 2)) (a_cons (d_var 1) a_nil))) (a_cons (d_call h__law_mod hr (by decide) (a_cons (d_mul (d_mul (d_mul d_int (d_var 2)) (d_var 2)) (d_var 2)) (a_cons (d_var 1) a_nil))) a_nil))))))) mf__law_flat
/-! ### law -/
abbrev s_law : Stmt := topS 25
theorem sc_law : FnScope ["script", "pool", "k", "p", "size", "a", "b", "value", "due", "curve", "values"] ["script"] (defScope s_law) := ⟨rfl, rfl, rfl, by decide +kernel, rfl, by decide +kernel, by decide +kernel⟩

def w_law_L14 : WS := (wIf (wAndD (wTest (wVar 8)) (wTest (wBin fNe (wCallP 1 M_discriminant (wCons (wVar 7) wNil)) (wCallP 2 M__law_mod (wCons (wBin fAdd (wBin fMul (wBin fMul (wBin fMul (wC (.int 4)) (wVar 5)) (wVar 5)) (wVar 5)) (wBin fMul (wBin fMul (wC (.int 27)) (wVar 6)) (wVar 6))) (wCons (wVar 3) wNil))))))
 (wRet (wC (.bool false)))
 wNx)
def w_law_L9 : WS := (wSeq (wSet 7 (wTupP (wCons (wVar 3) (wCons (wVar 5) (wCons (wVar 6) wNil)))))
 (wSeq (wSet 8 (wBl (wAndD (wTest (wBin fGe (wVar 3) (wC (.int 5)))) (wTest (wBl (wAndD (wTest (wCallP 1 M__law_is_prime (wCons (wVar 3) wNil))) (wTest (wBl (wAndD (wTest (wChn fLe fLt (wC (.int 0)) (wVar 5) (wVar 3))) (wTest (wChn fLe fLt (wC (.int 0)) (wVar 6) (wVar 3))))))))))))
 (wSeq (wSet 8 (wBl (wAndD (wTest (wVar 8)) (wTest (wBin fNe (wCallP 2 M__law_mod (wCons (wBin fAdd (wBin fMul (wBin fMul (wBin fMul (wC (.int 4)) (wVar 5)) (wVar 5)) (wVar 5)) (wBin fMul (wBin fMul (wC (.int 27)) (wVar 6)) (wVar 6))) (wCons (wVar 3) wNil))) (wC (.int 0)))))))
 (wSeq (wIf (wOrD (wTest (wBin fNe (wCallP 1 M_is_curve (wCons (wVar 7) wNil)) (wVar 8))) (wNot (wTest (wIsI "bool" (wCallP 1 M_is_curve (wCons (wVar 7) wNil))))))
 (wRet (wC (.bool false)))
 wNx)
 w_law_L14))))
def w_law_L5 : WS := (wSeq (wSet 5 (wBin fSub (wCallP 2 M__law_take (wConsH 1 (wCons (wBin fAdd (wVar 4) (wC (.int 2))) wNil))) (wC (.int 1))))
 (wSeq (wSet 6 (wBin fSub (wCallP 2 M__law_take (wConsH 1 (wCons (wBin fAdd (wVar 4) (wC (.int 2))) wNil))) (wC (.int 1))))
 (wSeq (wIf (wTest (wBin fEq (wCallP 2 M__law_take (wConsH 1 (wCons (wC (.int 3)) wNil))) (wC (.int 0))))
 (wAsg (wCallP 2 M__law_flat (wConsH 1 (wCons (wVar 4) wNil))) (gT 2 (gsCons (gN 5) (gsCons (gN 6) gsNil))))
 wNx)
 w_law_L9)))
def w_law_L24 : WS := (wRet (wBl (wAndD (wTest (wBin fIsB (wCallP 1 M_is_curve (wCons (wTupP (wCons (wBin fMul (wVar 3) (wVar 3)) (wCons (wVar 5) (wCons (wVar 6) wNil)))) wNil)) (wC (.bool false)))) (wTest (wBl (wAndD (wTest (wBin fIsB (wCallP 1 M_is_curve (wCons (wTupP (wCons (wC (.int 2)) (wCons (wC (.int 1)) (wCons (wC (.int 1)) wNil)))) wNil)) (wC (.bool false)))) (wTest (wBin fIsB (wCallP 1 M_is_curve (wCons (wTupP (wCons (wC (.int 3)) (wCons (wC (.int 1)) (wCons (wC (.int 1)) wNil)))) wNil)) (wC (.bool false))))))))))
def w_law_L19 : WS := (wSeq (wAsg (wVar 9) (gT 3 (gsCons (gN 3) (gsCons (gN 5) (gsCons (gN 6) gsNil)))))
 (wSeq (wSet 10 (wFz (wLstP (wCons (wFz (wListOf (wVar 9))) (wCons (wTupP (wCons (wVar 3) (wCons (wVar 5) wNil))) (wCons (wCatT (wVar 9) (wTupP (wCons (wC (.int 0)) wNil))) (wCons (wTupP (wCons (wVar 3) (wCons (wVar 5) (wCons (wC .none) wNil)))) (wCons (wTupP (wCons (wVar 3) (wCons (wC (.str "1")) (wCons (wVar 6) wNil)))) (wCons (wTupP (wCons (wUn fStr (wVar 3)) (wCons (wVar 5) (wCons (wVar 6) wNil)))) (wCons (wC .none) (wCons (wC (.int 7)) (wCons (wTupP wNil) (wCons (wTupP (wCons (wVar 3) (wCons (wFz (wLstP (wCons (wVar 5) wNil))) (wCons (wVar 6) wNil)))) (wCons (wTupP (wCons (wVar 3) (wCons (wC (.bool true)) (wCons (wVar 6) wNil)))) wNil))))))))))))))
 (wSeq (wFor (iS (wVar 10)) (gN 7)
 (wIf (wTest (wBin fIsNotB (wCallP 1 M_is_curve (wCons (wVar 7) wNil)) (wC (.bool false))))
 (wRet (wC (.bool false)))
 wNx))
 w_law_L24)))
def w_law_L16 : WS := (wSeq (wSet 9 (wCallP 2 M__law_curve (wConsH 1 (wCons (wC (.int 400)) wNil))))
 (wSeq (wIf (wTest (wBin fIsNotB (wCallP 1 M_is_curve (wCons (wVar 9) wNil)) (wC (.bool true))))
 (wRet (wC (.bool false)))
 wNx)
 w_law_L19))
def w_law : WS := (wSeq (wSetH okH 1 (wCallOP 1 M__law_pool (wCons (wVar 0) wNil)))
 (wSeq (wFor (iR1 (wC (.int 6))) (gN 2)
 (wSeq (wSet 3 (wIx (wFz (wLstP (wCons (wBin fSub (wCallP 2 M__law_take (wConsH 1 (wCons (wC (.int 2004)) wNil))) (wC (.int 3))) (wCons (wCallP 2 M__law_prime (wConsH 1 (wCons (wC (.int 2000)) wNil))) (wCons (wCallP 2 M__law_take (wConsH 1 (wCons (wC (.int 12)) wNil))) wNil))))) (wCallP 2 M__law_take (wConsH 1 (wCons (wC (.int 3)) wNil)))))
 (wSeq (wSet 4 (wBin fMax2 (wVar 3) (wC (.int 2))))
 w_law_L5)))
 w_law_L16))
theorem sh_bl (b : Bool) : SeqAt.shaped (.bool b) = true := by cases b <;> rfl
theorem find_prime {n : Nat} {B : Bool} (h2 : 2 ≤ n) (h : n < 2 ^ 20) (hb : ∀ b, MB.basesN.find? (fun b => n % b == 0) = some b → (n == b) = B) (hm : MB.basesN.find? (fun b => n % b == 0) = none → ∀ t, t < 20 → (n - 1) % 2 ^ t = 0 → (n - 1) / 2 ^ t % 2 = 1 → (MB.basesN.all fun b => MB.passN n b ((n - 1) / 2 ^ t) t) = B) (R : Rt → Prop) (hR : R (.v (.bool B))) : M_is_prime [.v (.int n)] R := by
  refine ⟨n, rfl, by omega, fun z => by omega, fun _ b hf => ?_, fun _ hf odd twos e ho => ?_⟩
  · rw [MB.find_cast] at hf
    obtain ⟨c, hc, rfl⟩ := Option.map_eq_some_iff.mp hf
    rw [MB.beq_cast, hb c hc]
    exact hR
  · rw [MB.find_cast, Option.map_eq_none_iff] at hf
    have e' : n - 1 = odd * 2 ^ twos := by
      have : ((n - 1 : Nat) : Int) = ((odd * 2 ^ twos : Nat) : Int) := by
        rw [Int.natCast_mul, MB.two_pow_cast]
        omega
      exact Int.natCast_inj.mp this
    obtain ⟨h1, h2', h3⟩ := MB.odd_lt e' h ho h2
    rw [MB.all_cast (n := n) (by omega) (by omega) (by omega) (by omega)]
    have := hm hf twos h1 h2' (by rw [h3]; exact ho)
    rw [h3] at this
    rw [this]
    exact hR
theorem small_prime_ok {p : Int} (h2 : 2 ≤ p) (h : p < 2620) (R : Rt → Prop) (hR : R (.v (.bool (trI p)))) : M_is_prime [.v (.int p)] R := by
  obtain ⟨n, rfl⟩ : ∃ n : Nat, p = n := ⟨p.toNat, by omega⟩
  have hs := MB.sm_all (n := n) (by omega)
  unfold MB.smN at hs
  rw [decide_eq_false (show ¬ n < 2 by omega), Bool.false_or] at hs
  have et : trI (n : Int) = MB.tr n := by
    unfold trI
    rw [decide_eq_true h2, Bool.true_and, Int.toNat_natCast]
  refine find_prime (B := trI n) (by omega) (by omega) (fun b hb => ?_) (fun hm t ht h3 h4 => ?_) R hR
  · rw [hb] at hs
    rw [et]
    exact beq_iff_eq.mp hs
  · rw [hm] at hs
    have hs' : MB.mrN n = true := hs
    unfold MB.mrN at hs'
    have := List.all_eq_true.mp hs' t (List.mem_range.mpr ht)
    rw [h3, h4] at this
    rw [et]
    exact beq_iff_eq.mp this
theorem square_ok {p : Int} (h5 : 5 ≤ p) (h : p < 1001) (ht : trI p = true) (R : Rt → Prop) (hR : R (.v (.bool false))) : M_is_prime [.v (.int (p * p))] R := by
  obtain ⟨n, rfl⟩ : ∃ n : Nat, p = n := ⟨p.toNat, by omega⟩
  have hs := List.all_eq_true.mp MB.sq_all n (List.mem_range.mpr (by omega))
  unfold MB.sqN at hs
  have et : MB.tr n = true := by
    unfold trI at ht
    rw [Bool.and_eq_true, Int.toNat_natCast] at ht
    exact ht.2
  rw [decide_eq_false (show ¬ n < 5 by omega), et, Bool.false_or] at hs
  have hs : (match MB.basesN.find? (fun b => n * n % b == 0) with | some b => !(n * n == b) | none => (List.range 20).all fun t => !((n * n - 1) % 2 ^ t == 0 && ((n * n - 1) / 2 ^ t) % 2 == 1) || !(MB.basesN.all fun b => MB.passN (n * n) b ((n * n - 1) / 2 ^ t) t)) = true := hs
  have nn : n * n < 2 ^ 20 := by
    have := Nat.mul_le_mul (show n ≤ 1000 by omega) (show n ≤ 1000 by omega)
    omega
  have n2 : 2 ≤ n * n := by
    have := Nat.mul_le_mul (show 2 ≤ n by omega) (show 2 ≤ n by omega)
    omega
  have e : ((n : Int) * (n : Int)) = ((n * n : Nat) : Int) := (Int.natCast_mul n n).symm
  rw [e]
  refine find_prime (B := false) n2 nn (fun b hb => ?_) (fun hm t ht h3 h4 => ?_) R hR
  · rw [hb] at hs
    exact (Bool.not_eq_true' _).mp hs
  · rw [hm] at hs
    have := List.all_eq_true.mp hs t (List.mem_range.mpr ht)
    rw [h3, h4] at this
    exact (Bool.not_eq_true' _).mp this
theorem cv_true {p a b : Int} {B : Bool} (h : cvB p a b B = true) : 5 ≤ p := by
  unfold cvB at h
  rw [Bool.and_eq_true, Bool.and_eq_true, decide_eq_true_iff] at h
  exact h.1.1
theorem prime_tr {p : Int} (hp : MB.PrimeI p) : trI p = true := by
  have h2 := hp.1
  unfold trI
  rw [decide_eq_true h2, Bool.true_and]
  unfold MB.tr
  rw [decide_eq_true (show 2 ≤ p.toNat by omega), Bool.true_and, List.all_eq_true]
  intro d hd
  by_cases h1 : d < 2
  · rw [decide_eq_true h1]; rfl
  by_cases h3 : p.toNat < d * d
  · rw [decide_eq_true h3, Bool.or_true]; rfl
  have hdp : (d : Int) < p := by
    have := Nat.mul_le_mul_right d (show 2 ≤ d by omega)
    omega
  have := hp.2 d (by omega) hdp
  have h4 : p.toNat % d ≠ 0 := fun z => this (by
    have ec : ((p.toNat : Nat) : Int) = p := by omega
    rw [← ec, ← Int.natCast_emod, z]; rfl)
  rw [bne_iff_ne.mpr h4, Bool.or_true]
theorem law_L24 {d0 d2 d4 t7 t8 t9 t10 : Option Sl} {p a b : Int} {Q : Rt → Prop} (hp : MB.PrimeI p) (p5 : 5 ≤ p) (p1 : p < 1001) (hq : Q (.v (.bool true))) :
    w_law_L24 { nx := fun _ => Q (.v .none), rt := Q } [d0, some .hnd, d2, some (.v (.int p)), d4, some (.v (.int a)), some (.v (.int b)), t7, t8, t9, t10] := by
  have f1 : cvB (p * p) a b false = false := by unfold cvB; simp
  have f2 : cvB 2 1 1 true = false := by unfold cvB; rw [decide_eq_false (by decide : ¬ (5 : Int) ≤ 2)]; rfl
  have f3 : cvB 3 1 1 true = false := by unfold cvB; rw [decide_eq_false (by decide : ¬ (5 : Int) ≤ 3)]; rfl
  refine ⟨.inl ⟨by omega, by omega⟩, rfl, lk rfl, rfl, rfl, _, rfl, .inr ⟨p * p, a, b, false, rfl, fun _ R hR => square_ok p5 p1 (prime_tr hp) R hR, ?_⟩⟩
  rw [f1]
  refine ⟨true, fun _ => ⟨rfl, lk rfl, rfl, rfl, _, rfl, .inr ⟨2, 1, 1, true, rfl, fun z => (by rw [f2] at z; cases z), ?_⟩⟩, hq⟩
  rw [f2]
  refine ⟨true, fun _ => ⟨rfl, lk rfl, rfl, rfl, _, rfl, .inr ⟨3, 1, 1, true, rfl, fun z => (by rw [f3] at z; cases z), ?_⟩⟩, rfl⟩
  rw [f3]
  rfl
theorem law_L16 {d0 d2 t3 t4 t5 t6 t7 t8 t9 : Option Sl} {Q : Rt → Prop} (hq : Q (.v (.bool true))) :
    w_law_L16 { nx := fun _ => Q (.v .none), rt := Q } [d0, some .hnd, d2, t3, t4, t5, t6, t7, t8, t9, none] := by
  refine ⟨rfl, rfl, 400, rfl, by decide, by decide, fun p a b hp p5 p1 a0 a1 b0 b1 hd => ?_⟩
  have ht := prime_tr hp
  have cv : cvB p a b true = true := by
    unfold cvB
    rw [decide_eq_true p5, decide_eq_true (show p ≤ 2305843009213693951 by omega), decide_eq_true a0, decide_eq_true a1, decide_eq_true b0, decide_eq_true b1, decide_eq_false hd]
    rfl
  refine ⟨rfl, rfl, _, rfl, .inr ⟨p, a, b, true, rfl, fun _ R hR => small_prime_ok (by omega) (by omega) R (by rw [ht]; exact hR), ?_⟩⟩
  rw [cv]
  have lg : p.natAbs.log2 < 1920 := by
    have := Nat.log2_le_self p.natAbs
    omega
  refine wfalse ⟨rfl, rfl, rfl, lk rfl, rfl, lk rfl, Nat.le_of_ble_eq_true rfl, rfl, lk rfl, rfl, lk rfl, lg, rfl, lk rfl, rfl, lk rfl, rfl, lk rfl, rfl, lk rfl, rfl, lk rfl, rfl, lk rfl, ?_⟩
  let L : List D := [.list [.int p, .int a, .int b], .tuple [.int p, .int a], .tuple [.int p, .int a, .int b, .int 0], .tuple [.int p, .int a, .none], .tuple [.int p, .str "1", .int b], .tuple [.str (toString p), .int a, .int b], .none, .int 7, .tuple [], .tuple [.int p, .list [.int a], .int b], .tuple [.int p, .bool true, .int b]]
  have key : ∀ d ∈ L, tri d = false ∧ noScrs d = true := by
    intro d hd
    rcases List.mem_cons.mp hd with rfl | hd
    · exact ⟨rfl, rfl⟩
    rcases List.mem_cons.mp hd with rfl | hd
    · exact ⟨rfl, rfl⟩
    rcases List.mem_cons.mp hd with rfl | hd
    · exact ⟨rfl, rfl⟩
    rcases List.mem_cons.mp hd with rfl | hd
    · exact ⟨rfl, rfl⟩
    rcases List.mem_cons.mp hd with rfl | hd
    · exact ⟨rfl, rfl⟩
    rcases List.mem_cons.mp hd with rfl | hd
    · exact ⟨rfl, rfl⟩
    rcases List.mem_cons.mp hd with rfl | hd
    · exact ⟨rfl, rfl⟩
    rcases List.mem_cons.mp hd with rfl | hd
    · exact ⟨rfl, rfl⟩
    rcases List.mem_cons.mp hd with rfl | hd
    · exact ⟨rfl, rfl⟩
    rcases List.mem_cons.mp hd with rfl | hd
    · exact ⟨rfl, rfl⟩
    rw [List.mem_singleton.mp hd]
    exact ⟨rfl, rfl⟩
  refine ⟨fun k env => ∃ t7, env = [d0, some .hnd, d2, some (.v (.int p)), t4, some (.v (.int a)), some (.v (.int b)), t7, t8, some (.v (.tuple [.int p, .int a, .int b])), some (.v (.list L))], ⟨_, rfl⟩, ?_, ?_⟩
  · rintro i d env hd ⟨t7, rfl⟩
    have hd' : L[i]? = some d := hd
    obtain ⟨k1, k2⟩ := key d (List.mem_of_getElem? hd')
    exact ⟨rfl, rfl, d, rfl, .inl ⟨k1, k2, wfalse ⟨_, rfl⟩⟩⟩
  · rintro env ⟨t7, rfl⟩
    exact law_L24 hp p5 (by omega) hq
theorem law_L9 {d0 d2 t4 t7 t8 t9 : Option Sl} {p a b : Int} {W : WEnds} (p0 : -4 < p) (p1 : p < 2610) (ha : -20 < a ∧ a < 2 ^ 62) (hb : -20 < b ∧ b < 2 ^ 62) (hw : ∀ t7 t8, W.nx [d0, some .hnd, d2, some (.v (.int p)), t4, some (.v (.int a)), some (.v (.int b)), t7, t8, t9, none]) :
    w_law_L9 W [d0, some .hnd, d2, some (.v (.int p)), t4, some (.v (.int a)), some (.v (.int b)), t7, t8, t9, none] := by
  have ca : ∀ z, CMul z a := fun z => .inr ⟨by omega, by omega⟩
  have cb : ∀ z, CMul z b := fun z => .inr ⟨by omega, by omega⟩
  obtain ⟨due1, h1⟩ : ∃ x : Bool, x = (decide (5 ≤ p) && (trI p && ((decide (0 ≤ a) && decide (a < p)) && (decide (0 ≤ b) && decide (b < p))))) := ⟨_, rfl⟩
  obtain ⟨due, h2⟩ : ∃ x : Bool, x = (due1 && !decide ((4 * a * a * a + 27 * b * b) % p = 0)) := ⟨_, rfl⟩
  refine ⟨rfl, lk rfl, trI p && ((decide (0 ≤ a) && decide (a < p)) && (decide (0 ≤ b) && decide (b < p))), fun _ => ⟨rfl, rfl, p, rfl, (decide (0 ≤ a) && decide (a < p)) && (decide (0 ≤ b) && decide (b < p)), fun _ => ⟨decide (a < p), fun _ => rfl, decide (0 ≤ b) && decide (b < p), fun _ => ⟨decide (b < p), fun _ => rfl, rfl⟩, rfl⟩, rfl⟩, ?_⟩
  have dp : due1 = true → 5 ≤ p := fun h => by
    rw [h1, Bool.and_eq_true, decide_eq_true_iff] at h
    exact h.1
  have h1' : (decide (5 ≤ p) && (trI p && ((decide (0 ≤ a) && decide (a < p)) && (decide (0 ≤ b) && decide (b < p))))) = due1 := h1.symm
  refine ⟨!decide ((4 * a * a * a + 27 * b * b) % p = 0), fun h => ⟨ca _, ca _, ca _, cb _, cb _, rfl, rfl, _, p, rfl, by have := dp (h1.trans h); omega, rfl⟩, ?_⟩
  have e1 : cvB p a b (trI p) = due := by
    rw [h2, h1]
    unfold cvB
    rw [decide_eq_true (show p ≤ 2305843009213693951 by omega), Bool.and_true]
    cases decide (5 ≤ p) <;> cases trI p <;> cases decide (0 ≤ a) && decide (a < p) <;> cases decide (0 ≤ b) && decide (b < p) <;> cases decide ((4 * a * a * a + 27 * b * b) % p = 0) <;> rfl
  have e2 : ((decide (5 ≤ p) && (trI p && ((decide (0 ≤ a) && decide (a < p)) && (decide (0 ≤ b) && decide (b < p))))) && !decide ((4 * a * a * a + 27 * b * b) % p = 0)) = due := by rw [h2, h1]
  have cur : ∀ R : Rt → Prop, R (.v (.bool due)) → M_is_curve [.v (.tuple [.int p, .int a, .int b])] R := fun R hR => ⟨_, rfl, .inr ⟨p, a, b, trI p, rfl, fun z R' hR' => small_prime_ok (by have := cv_true z; omega) (by omega) R' hR', by rw [e1]; exact hR⟩⟩
  have tail : w_law_L14 W [d0, some .hnd, d2, some (.v (.int p)), t4, some (.v (.int a)), some (.v (.int b)), some (.v (.tuple [.int p, .int a, .int b])), some (.v (.bool due)), t9, none] := by
    refine ⟨false, fun h => ?_, ?_⟩
    · have hdue : due = true := h
      have p5 : 5 ≤ p := dp (by rw [h2, Bool.and_eq_true] at hdue; exact hdue.1)
      exact ⟨rfl, rfl, p, a, b, rfl, by omega, ⟨by omega, by omega⟩, ⟨by omega, by omega⟩, ca _, ca _, ca _, cb _, cb _, rfl, rfl, _, p, rfl, by omega, no_ne rfl⟩
    · rw [Bool.and_false]
      exact wfalse (hw _ _)
  have start : wSeq (wIf (wOrD (wTest (wBin fNe (wCallP 1 M_is_curve (wCons (wVar 7) wNil)) (wVar 8))) (wNot (wTest (wIsI "bool" (wCallP 1 M_is_curve (wCons (wVar 7) wNil)))))) (wRet (wC (.bool false))) wNx) w_law_L14 W [d0, some .hnd, d2, some (.v (.int p)), t4, some (.v (.int a)), some (.v (.int b)), some (.v (.tuple [.int p, .int a, .int b])), some (.v (.bool due)), t9, none] := by
    refine ⟨rfl, rfl, cur _ ⟨sh_bl _, sh_bl _, false, fun _ => ⟨rfl, rfl, cur _ ⟨true, kit_bb, rfl⟩⟩, ?_⟩⟩
    have e : (!PyData.eqv (.bool due) (.bool due) || false) = false := by cases due <;> rfl
    show ((!PyData.eqv (.bool due) (.bool due) || false) = true → _) ∧ ((!PyData.eqv (.bool due) (.bool due) || false) = false → _)
    rw [e]
    exact wfalse tail
  rw [← e2] at start
  exact start
theorem law_L5 {d0 d2 t5 t6 t7 t8 t9 : Option Sl} {p z : Int} {W : WEnds} (z0 : 2 ≤ z) (z1 : z < 2610) (p0 : -4 < p) (p1 : p < 2610) (hw : ∀ t4 t5 t6 t7 t8, W.nx [d0, some .hnd, d2, some (.v (.int p)), t4, t5, t6, t7, t8, t9, none]) :
    w_law_L5 W [d0, some .hnd, d2, some (.v (.int p)), some (.v (.int z)), t5, t6, t7, t8, t9, none] := by
  refine tk (by omega) (by omega) fun a a0 a1 => tk (by omega) (by omega) fun b b0 b1 => tk (by decide) (by decide) fun r r0 r1 => ⟨fun _ => ?_, fun _ => ?_⟩
  · exact ⟨rfl, rfl, z, rfl, z0, by omega, fun u v u0 u1 v0 v1 => ⟨rfl, rfl, law_L9 p0 p1 ⟨by omega, by omega⟩ ⟨by omega, by omega⟩ fun t7 t8 => hw _ _ _ _ _⟩⟩
  · exact law_L9 p0 p1 ⟨by omega, by omega⟩ ⟨by omega, by omega⟩ fun t7 t8 => hw _ _ _ _ _
theorem mf_law : ∀ as Q, as.length = 1 → M_law as Q → w_law { nx := fun _ => Q (.v .none), rt := Q } (stE as 10) := by
  rintro as Q _ ⟨ns, rfl, hns, hq⟩
  refine ⟨rfl, rfl, ns, rfl, ⟨0, ns, -1, rfl, by decide⟩, ?_⟩
  refine ⟨⟨by decide, by decide⟩, fun i env => ∃ d2 t3 t4 t5 t6 t7 t8 t9, env = [some (.v (scr ns)), some .hnd, d2, t3, t4, t5, t6, t7, t8, t9, none], ⟨_, _, _, _, _, _, _, _, rfl⟩, ?_, ?_⟩
  · rintro i d env hd ⟨d2, t3, t4, t5, t6, t7, t8, t9, rfl⟩
    refine tk (by decide) (by decide) fun x x0 x1 => ⟨rfl, rfl, 2000, rfl, by decide, by decide, fun c hc c5 c1 => tk (by decide) (by decide) fun y y0 y1 => ⟨rfl, lk rfl, tk (by decide) (by decide) fun r r0 r1 => ?_⟩⟩
    obtain ⟨p, ep, p0, p1⟩ : ∃ p : Int, atI [PyData.int (x - 3), .int c, .int y] r = some (.int p) ∧ -4 < p ∧ p < 2610 := by
      have : r = 0 ∨ r = 1 ∨ r = 2 := by omega
      rcases this with rfl | rfl | rfl <;> exact ⟨_, rfl, by omega, by omega⟩
    refine ⟨_, ep, ?_⟩
    exact law_L5 (z := if (2 : Int) > p then 2 else p) (by split <;> omega) (by split <;> omega) p0 p1 fun t4 t5 t6 t7 t8 => ⟨_, _, _, _, _, _, _, _, rfl⟩
  · rintro env ⟨d2, t3, t4, t5, t6, t7, t8, t9, rfl⟩
    exact law_L16 hq

theorem ok_law {f : Addr} {fd : FuncData} (F : Fun K "law" "law" s_law f fd) (h__law_pool : Has P w K mg base okH 1 "_law_pool" 1 M__law_pool) (h__law_take : Has P w K mg base okH 2 "_law_take" 2 M__law_take) (h__law_prime : Has P w K mg base okH 3 "_law_prime" 2 M__law_prime) (h__law_flat : Has P w K mg base okH 3 "_law_flat" 2 M__law_flat) (h__law_is_prime : Has P w K mg base okH 2 "_law_is_prime" 1 M__law_is_prime) (h__law_mod : Has P w K mg base okH 1 "_law_mod" 2 M__law_mod) (h_is_curve : Has P w K mg base okH 4 "is_curve" 1 M_is_curve) (h_discriminant : Has P w K mg base okH 1 "discriminant" 1 M_discriminant) (h__law_curve : Has P w K mg base okH 4 "_law_curve" 2 M__law_curve) (m_bool : mg "bool" = none) (m_isinstance : mg "isinstance" = none) (m_list : mg "list" = none) (m_max : mg "max" = none) (m_range : mg "range" = none) (m_str : mg "str" = none)  : FnOk P w K mg base CX0 5 f fd ["script"] (SpD K okH 1 M_law) :=
  def_ok F sc_law rfl (fun cdv A outer s H E hr =>
 (s_cons (s_setH 1 sc_law.nd (l_call h__law_pool hr (by decide) (a_cons (d_var 0) a_nil)))
 (s_cons (s_for (vs := [2]) PassesOwn.never rfl (i_r1 m_range d_int) (g_name 2 sc_law.nd)
 (s_cons (s_set 3 sc_law.nd (d_ix (d_b (d_fz (l_lst (a_cons (d_sub (d_call h__law_take hr (by decide) (a_hnd 1 (a_cons d_int a_nil))) d_int) (a_cons (d_call h__law_prime hr (by decide) (a_hnd 1 (a_cons d_int a_nil))) (a_cons (d_call h__law_take hr (by decide) (a_hnd 1 (a_cons d_int a_nil))) a_nil)))))) (d_call h__law_take hr (by decide) (a_hnd 1 (a_cons d_int a_nil)))))
 (s_cons (s_set 4 sc_law.nd (d_max2 rfl m_max (d_var 3) d_int))
 (s_cons (s_set 5 sc_law.nd (d_sub (d_call h__law_take hr (by decide) (a_hnd 1 (a_cons (d_add (d_var 4) d_int) a_nil))) d_int))
 (s_cons (s_set 6 sc_law.nd (d_sub (d_call h__law_take hr (by decide) (a_hnd 1 (a_cons (d_add (d_var 4) d_int) a_nil))) d_int))
 (s_cons (s_if (t_eq hr (d_call h__law_take hr (by decide) (a_hnd 1 (a_cons d_int a_nil))) d_int)
 (s_one (s_asg (vs := [5, 6]) (d_call h__law_flat hr (by decide) (a_hnd 1 (a_cons (d_var 4) a_nil))) (g_tupN (g_cons (g_name 5 sc_law.nd) (g_cons (g_name 6 sc_law.nd) g_nil)))))
 s_nil)
 (s_cons (s_set 7 sc_law.nd (d_tup (a_cons (d_var 3) (a_cons (d_var 5) (a_cons (d_var 6) a_nil)))))
 (s_cons (s_set 8 sc_law.nd (d_and (d_ge (d_var 3) d_int) (d_and (d_call h__law_is_prime hr (by decide) (a_cons (d_var 3) a_nil)) (d_and (d_chn op_le opd_le op_lt opd_lt d_int (d_var 5) (d_var 3)) (d_one (d_chn op_le opd_le op_lt opd_lt d_int (d_var 6) (d_var 3)))))))
 (s_cons (s_set 8 sc_law.nd (d_and (d_var 8) (d_one (d_ne hr (d_call h__law_mod hr (by decide) (a_cons (d_add (d_mul (d_mul (d_mul d_int (d_var 5)) (d_var 5)) (d_var 5)) (d_mul (d_mul d_int (d_var 6)) (d_var 6))) (a_cons (d_var 3) a_nil))) d_int))))
 (s_cons (s_if (t_w (w_or (t_ne hr (d_call h_is_curve hr (by decide) (a_cons (d_var 7) a_nil)) (d_var 8)) (w_or1 (t_not (t_val (d_isi (T := "bool") m_isinstance m_bool (by decide +kernel) (d_call h_is_curve hr (by decide) (a_cons (d_var 7) a_nil))))))))
 (s_one (s_ret d_bl))
 s_nil)
 (s_one (s_if (t_w (w_and (t_val (d_var 8)) (w_and1 (t_ne hr (d_call h_discriminant hr (by decide) (a_cons (d_var 7) a_nil)) (d_call h__law_mod hr (by decide) (a_cons (d_add (d_mul (d_mul (d_mul d_int (d_var 5)) (d_var 5)) (d_var 5)) (d_mul (d_mul d_int (d_var 6)) (d_var 6))) (a_cons (d_var 3) a_nil)))))))
 (s_one (s_ret d_bl))
 s_nil))))))))))))
 (s_cons (s_set 9 sc_law.nd (d_call h__law_curve hr (by decide) (a_hnd 1 (a_cons d_int a_nil))))
 (s_cons (s_if (t_isnotB (d_call h_is_curve hr (by decide) (a_cons (d_var 9) a_nil)) d_bl)
 (s_one (s_ret d_bl))
 s_nil)
 (s_cons (s_asg (vs := [3, 5, 6]) (d_var 9) (g_tupN (g_cons (g_name 3 sc_law.nd) (g_cons (g_name 5 sc_law.nd) (g_cons (g_name 6 sc_law.nd) g_nil)))))
 (s_cons (s_set 10 sc_law.nd (d_fz (l_lst (a_cons (d_fz (l_listOf m_list (d_b (d_var 9)))) (a_cons (d_tup (a_cons (d_var 3) (a_cons (d_var 5) a_nil))) (a_cons (d_catT (d_var 9) (d_tup (a_cons d_int a_nil))) (a_cons (d_tup (a_cons (d_var 3) (a_cons (d_var 5) (a_cons d_non a_nil)))) (a_cons (d_tup (a_cons (d_var 3) (a_cons d_str (a_cons (d_var 6) a_nil)))) (a_cons (d_tup (a_cons (d_strc m_str (d_var 3)) (a_cons (d_var 5) (a_cons (d_var 6) a_nil)))) (a_cons d_non (a_cons d_int (a_cons (d_tup a_nil) (a_cons (d_tup (a_cons (d_var 3) (a_cons (d_fz (l_lst (a_cons (d_var 5) a_nil))) (a_cons (d_var 6) a_nil)))) (a_cons (d_tup (a_cons (d_var 3) (a_cons d_bl (a_cons (d_var 6) a_nil)))) a_nil))))))))))))))
 (s_cons (s_for (vs := [7]) PassesOwn.never rfl (i_seq (d_var 10)) (g_name 7 sc_law.nd)
 (s_one (s_if (t_isnotB (d_call h_is_curve hr (by decide) (a_cons (d_var 7) a_nil)) d_bl)
 (s_one (s_ret d_bl))
 s_nil)))
 (s_one (s_ret (d_and (d_isB (d_call h_is_curve hr (by decide) (a_cons (d_tup (a_cons (d_mul (d_var 3) (d_var 3)) (a_cons (d_var 5) (a_cons (d_var 6) a_nil)))) a_nil)) d_bl) (d_and (d_isB (d_call h_is_curve hr (by decide) (a_cons (d_tup (a_cons d_int (a_cons d_int (a_cons d_int a_nil)))) a_nil)) d_bl) (d_one (d_isB (d_call h_is_curve hr (by decide) (a_cons (d_tup (a_cons d_int (a_cons d_int (a_cons d_int a_nil)))) a_nil)) d_bl)))))))))))))) mf_law
end
theorem all_mk {l : PySem.W.OpenLaw} {w : World} {K : PySem.W.Frag} {h : Heap} {mg : Str → Option Value} {fa f0 f1 f2 f3 f4 f5 f6 f7 f8 f9 f10 f11 f12 f13 f14 f15 f16 f17 : Addr} (X : K.In h) (G : h.Ns mainGlobals mg) (hfa : mg "law" = some (.ref fa))
    {od0 an0 : Option Addr} {sl0 : Array (Option Value)} {oc0 kV0 dc0 pm0 cd0 ct0 : Value}
    (a0 : PySem.W.nsIn K mainGlobals "power" = some (some (.ref f0))) (l0 : K.lookup f0 = some ⟨oc0, od0, .func (PySem.W.fnOf "power" "power" (defArgs s_power) (defBody s_power) (defScope s_power) .none kV0 dc0 pm0 an0 cd0 ct0), sl0⟩) (c0 : PySem.W.codeIn K cd0 "power" = true) (k0 : PySem.W.keepIn K (.ref f0) = true)
    {od1 an1 : Option Addr} {sl1 : Array (Option Value)} {oc1 kV1 dc1 pm1 cd1 ct1 : Value}
    (a1 : PySem.W.nsIn K mainGlobals "passes" = some (some (.ref f1))) (l1 : K.lookup f1 = some ⟨oc1, od1, .func (PySem.W.fnOf "passes" "passes" (defArgs s_passes) (defBody s_passes) (defScope s_passes) .none kV1 dc1 pm1 an1 cd1 ct1), sl1⟩) (c1 : PySem.W.codeIn K cd1 "passes" = true) (k1 : PySem.W.keepIn K (.ref f1) = true)
    {od2 an2 : Option Addr} {sl2 : Array (Option Value)} {oc2 kV2 dc2 pm2 cd2 ct2 : Value}
    (a2 : PySem.W.nsIn K mainGlobals "is_prime" = some (some (.ref f2))) (l2 : K.lookup f2 = some ⟨oc2, od2, .func (PySem.W.fnOf "is_prime" "is_prime" (defArgs s_is_prime) (defBody s_is_prime) (defScope s_is_prime) .none kV2 dc2 pm2 an2 cd2 ct2), sl2⟩) (c2 : PySem.W.codeIn K cd2 "is_prime" = true) (k2 : PySem.W.keepIn K (.ref f2) = true)
    {od3 an3 : Option Addr} {sl3 : Array (Option Value)} {oc3 kV3 dc3 pm3 cd3 ct3 : Value}
    (a3 : PySem.W.nsIn K mainGlobals "is_whole" = some (some (.ref f3))) (l3 : K.lookup f3 = some ⟨oc3, od3, .func (PySem.W.fnOf "is_whole" "is_whole" (defArgs s_is_whole) (defBody s_is_whole) (defScope s_is_whole) .none kV3 dc3 pm3 an3 cd3 ct3), sl3⟩) (c3 : PySem.W.codeIn K cd3 "is_whole" = true) (k3 : PySem.W.keepIn K (.ref f3) = true)
    {od4 an4 : Option Addr} {sl4 : Array (Option Value)} {oc4 kV4 dc4 pm4 cd4 ct4 : Value}
    (a4 : PySem.W.nsIn K mainGlobals "is_residue" = some (some (.ref f4))) (l4 : K.lookup f4 = some ⟨oc4, od4, .func (PySem.W.fnOf "is_residue" "is_residue" (defArgs s_is_residue) (defBody s_is_residue) (defScope s_is_residue) .none kV4 dc4 pm4 an4 cd4 ct4), sl4⟩) (c4 : PySem.W.codeIn K cd4 "is_residue" = true) (k4 : PySem.W.keepIn K (.ref f4) = true)
    {od5 an5 : Option Addr} {sl5 : Array (Option Value)} {oc5 kV5 dc5 pm5 cd5 ct5 : Value}
    (a5 : PySem.W.nsIn K mainGlobals "discriminant" = some (some (.ref f5))) (l5 : K.lookup f5 = some ⟨oc5, od5, .func (PySem.W.fnOf "discriminant" "discriminant" (defArgs s_discriminant) (defBody s_discriminant) (defScope s_discriminant) .none kV5 dc5 pm5 an5 cd5 ct5), sl5⟩) (c5 : PySem.W.codeIn K cd5 "discriminant" = true) (k5 : PySem.W.keepIn K (.ref f5) = true)
    {od6 an6 : Option Addr} {sl6 : Array (Option Value)} {oc6 kV6 dc6 pm6 cd6 ct6 : Value}
    (a6 : PySem.W.nsIn K mainGlobals "is_curve" = some (some (.ref f6))) (l6 : K.lookup f6 = some ⟨oc6, od6, .func (PySem.W.fnOf "is_curve" "is_curve" (defArgs s_is_curve) (defBody s_is_curve) (defScope s_is_curve) .none kV6 dc6 pm6 an6 cd6 ct6), sl6⟩) (c6 : PySem.W.codeIn K cd6 "is_curve" = true) (k6 : PySem.W.keepIn K (.ref f6) = true)
    {od7 an7 : Option Addr} {sl7 : Array (Option Value)} {oc7 kV7 dc7 pm7 cd7 ct7 : Value}
    (a7 : PySem.W.nsIn K mainGlobals "_law_wide" = some (some (.ref f7))) (l7 : K.lookup f7 = some ⟨oc7, od7, .func (PySem.W.fnOf "_law_wide" "_law_wide" (defArgs s__law_wide) (defBody s__law_wide) (defScope s__law_wide) .none kV7 dc7 pm7 an7 cd7 ct7), sl7⟩) (c7 : PySem.W.codeIn K cd7 "_law_wide" = true) (k7 : PySem.W.keepIn K (.ref f7) = true)
    {od8 an8 : Option Addr} {sl8 : Array (Option Value)} {oc8 kV8 dc8 pm8 cd8 ct8 : Value}
    (a8 : PySem.W.nsIn K mainGlobals "_law_take" = some (some (.ref f8))) (l8 : K.lookup f8 = some ⟨oc8, od8, .func (PySem.W.fnOf "_law_take" "_law_take" (defArgs s__law_take) (defBody s__law_take) (defScope s__law_take) .none kV8 dc8 pm8 an8 cd8 ct8), sl8⟩) (c8 : PySem.W.codeIn K cd8 "_law_take" = true) (k8 : PySem.W.keepIn K (.ref f8) = true)
    {od9 an9 : Option Addr} {sl9 : Array (Option Value)} {oc9 kV9 dc9 pm9 cd9 ct9 : Value}
    (a9 : PySem.W.nsIn K mainGlobals "_law_pool" = some (some (.ref f9))) (l9 : K.lookup f9 = some ⟨oc9, od9, .func (PySem.W.fnOf "_law_pool" "_law_pool" (defArgs s__law_pool) (defBody s__law_pool) (defScope s__law_pool) .none kV9 dc9 pm9 an9 cd9 ct9), sl9⟩) (c9 : PySem.W.codeIn K cd9 "_law_pool" = true) (k9 : PySem.W.keepIn K (.ref f9) = true)
    {od10 an10 : Option Addr} {sl10 : Array (Option Value)} {oc10 kV10 dc10 pm10 cd10 ct10 : Value}
    (a10 : PySem.W.nsIn K mainGlobals "_law_mod" = some (some (.ref f10))) (l10 : K.lookup f10 = some ⟨oc10, od10, .func (PySem.W.fnOf "_law_mod" "_law_mod" (defArgs s__law_mod) (defBody s__law_mod) (defScope s__law_mod) .none kV10 dc10 pm10 an10 cd10 ct10), sl10⟩) (c10 : PySem.W.codeIn K cd10 "_law_mod" = true) (k10 : PySem.W.keepIn K (.ref f10) = true)
    {od11 an11 : Option Addr} {sl11 : Array (Option Value)} {oc11 kV11 dc11 pm11 cd11 ct11 : Value}
    (a11 : PySem.W.nsIn K mainGlobals "_law_prime_from" = some (some (.ref f11))) (l11 : K.lookup f11 = some ⟨oc11, od11, .func (PySem.W.fnOf "_law_prime_from" "_law_prime_from" (defArgs s__law_prime_from) (defBody s__law_prime_from) (defScope s__law_prime_from) .none kV11 dc11 pm11 an11 cd11 ct11), sl11⟩) (c11 : PySem.W.codeIn K cd11 "_law_prime_from" = true) (k11 : PySem.W.keepIn K (.ref f11) = true)
    {od12 an12 : Option Addr} {sl12 : Array (Option Value)} {oc12 kV12 dc12 pm12 cd12 ct12 : Value}
    (a12 : PySem.W.nsIn K mainGlobals "_law_prime" = some (some (.ref f12))) (l12 : K.lookup f12 = some ⟨oc12, od12, .func (PySem.W.fnOf "_law_prime" "_law_prime" (defArgs s__law_prime) (defBody s__law_prime) (defScope s__law_prime) .none kV12 dc12 pm12 an12 cd12 ct12), sl12⟩) (c12 : PySem.W.codeIn K cd12 "_law_prime" = true) (k12 : PySem.W.keepIn K (.ref f12) = true)
    {od13 an13 : Option Addr} {sl13 : Array (Option Value)} {oc13 kV13 dc13 pm13 cd13 ct13 : Value}
    (a13 : PySem.W.nsIn K mainGlobals "_law_pair" = some (some (.ref f13))) (l13 : K.lookup f13 = some ⟨oc13, od13, .func (PySem.W.fnOf "_law_pair" "_law_pair" (defArgs s__law_pair) (defBody s__law_pair) (defScope s__law_pair) .none kV13 dc13 pm13 an13 cd13 ct13), sl13⟩) (c13 : PySem.W.codeIn K cd13 "_law_pair" = true) (k13 : PySem.W.keepIn K (.ref f13) = true)
    {od14 an14 : Option Addr} {sl14 : Array (Option Value)} {oc14 kV14 dc14 pm14 cd14 ct14 : Value}
    (a14 : PySem.W.nsIn K mainGlobals "_law_curve" = some (some (.ref f14))) (l14 : K.lookup f14 = some ⟨oc14, od14, .func (PySem.W.fnOf "_law_curve" "_law_curve" (defArgs s__law_curve) (defBody s__law_curve) (defScope s__law_curve) .none kV14 dc14 pm14 an14 cd14 ct14), sl14⟩) (c14 : PySem.W.codeIn K cd14 "_law_curve" = true) (k14 : PySem.W.keepIn K (.ref f14) = true)
    {od15 an15 : Option Addr} {sl15 : Array (Option Value)} {oc15 kV15 dc15 pm15 cd15 ct15 : Value}
    (a15 : PySem.W.nsIn K mainGlobals "_law_is_prime" = some (some (.ref f15))) (l15 : K.lookup f15 = some ⟨oc15, od15, .func (PySem.W.fnOf "_law_is_prime" "_law_is_prime" (defArgs s__law_is_prime) (defBody s__law_is_prime) (defScope s__law_is_prime) .none kV15 dc15 pm15 an15 cd15 ct15), sl15⟩) (c15 : PySem.W.codeIn K cd15 "_law_is_prime" = true) (k15 : PySem.W.keepIn K (.ref f15) = true)
    {od16 an16 : Option Addr} {sl16 : Array (Option Value)} {oc16 kV16 dc16 pm16 cd16 ct16 : Value}
    (a16 : PySem.W.nsIn K mainGlobals "_law_flat" = some (some (.ref f16))) (l16 : K.lookup f16 = some ⟨oc16, od16, .func (PySem.W.fnOf "_law_flat" "_law_flat" (defArgs s__law_flat) (defBody s__law_flat) (defScope s__law_flat) .none kV16 dc16 pm16 an16 cd16 ct16), sl16⟩) (c16 : PySem.W.codeIn K cd16 "_law_flat" = true) (k16 : PySem.W.keepIn K (.ref f16) = true)
    {od17 an17 : Option Addr} {sl17 : Array (Option Value)} {oc17 kV17 dc17 pm17 cd17 ct17 : Value}
    (a17 : PySem.W.nsIn K mainGlobals "law" = some (some (.ref f17))) (l17 : K.lookup f17 = some ⟨oc17, od17, .func (PySem.W.fnOf "law" "law" (defArgs s_law) (defBody s_law) (defScope s_law) .none kV17 dc17 pm17 an17 cd17 ct17), sl17⟩) (c17 : PySem.W.codeIn K cd17 "law" = true) (k17 : PySem.W.keepIn K (.ref f17) = true)
    (z_abs : PySem.W.nsIn K mainGlobals "abs" = some none)
    (z_all : PySem.W.nsIn K mainGlobals "all" = some none)
    (z_bool : PySem.W.nsIn K mainGlobals "bool" = some none)
    (z_int : PySem.W.nsIn K mainGlobals "int" = some none)
    (z_isinstance : PySem.W.nsIn K mainGlobals "isinstance" = some none)
    (z_len : PySem.W.nsIn K mainGlobals "len" = some none)
    (z_list : PySem.W.nsIn K mainGlobals "list" = some none)
    (z_max : PySem.W.nsIn K mainGlobals "max" = some none)
    (z_range : PySem.W.nsIn K mainGlobals "range" = some none)
    (z_str : PySem.W.nsIn K mainGlobals "str" = some none)
    (z_tuple : PySem.W.nsIn K mainGlobals "tuple" = some none)
    {a_BASES : Addr} (q_BASES : PySem.W.nsIn K mainGlobals "BASES" = some (some (.ref a_BASES)))
    {od_BASES : _} {n_BASES : _} {sl_BASES : _} {t_BASES_0 t_BASES_1 t_BASES_2 t_BASES_3 t_BASES_4 t_BASES_5 t_BASES_6 t_BASES_7 t_BASES_8 t_BASES_9 t_BASES_10 t_BASES_11 : _} (l_BASES : K.lookup a_BASES = some ⟨.type "tuple", od_BASES, .seq #[.int 2 t_BASES_0, .int 3 t_BASES_1, .int 5 t_BASES_2, .int 7 t_BASES_3, .int 11 t_BASES_4, .int 13 t_BASES_5, .int 17 t_BASES_6, .int 19 t_BASES_7, .int 23 t_BASES_8, .int 29 t_BASES_9, .int 31 t_BASES_10, .int 37 t_BASES_11] n_BASES, sl_BASES⟩)
    {t_LEAST_PRIME : _} (q_LEAST_PRIME : PySem.W.nsIn K mainGlobals "LEAST_PRIME" = some (some (.int 5 t_LEAST_PRIME)))
    {t_MOST_PRIME : _} (q_MOST_PRIME : PySem.W.nsIn K mainGlobals "MOST_PRIME" = some (some (.int 2305843009213693951 t_MOST_PRIME)))
    : ∃ fd : FuncData, (∀ (s : Shared) (v : Value), BindsTo s fd ⟨[v], []⟩ [("script", v)]) ∧ ∀ base : Heap, K.In base → base.Ns mainGlobals mg → FnOk l.prog w K mg base CX0 5 fa fd ["script"] (SpD K okH 1 M_law) := by
  have e := hfa.symm.trans (PySem.W.mg_of X G a17)
  cases e
  have F0 := fun_mk (st := s_power) l0 c0 k0
  have b0 := F0.binds (ps := ["modulus", "x", "n"]) fun _ _ _ _ _ _ us hl => match us, hl with | [_, _, _], _ => rfl
  have F1 := fun_mk (st := s_passes) l1 c1 k1
  have b1 := F1.binds (ps := ["n", "base"]) fun _ _ _ _ _ _ us hl => match us, hl with | [_, _], _ => rfl
  have F2 := fun_mk (st := s_is_prime) l2 c2 k2
  have b2 := F2.binds (ps := ["n"]) fun _ _ _ _ _ _ us hl => match us, hl with | [_], _ => rfl
  have F3 := fun_mk (st := s_is_whole) l3 c3 k3
  have b3 := F3.binds (ps := ["value"]) fun _ _ _ _ _ _ us hl => match us, hl with | [_], _ => rfl
  have F4 := fun_mk (st := s_is_residue) l4 c4 k4
  have b4 := F4.binds (ps := ["p", "value"]) fun _ _ _ _ _ _ us hl => match us, hl with | [_, _], _ => rfl
  have F5 := fun_mk (st := s_discriminant) l5 c5 k5
  have b5 := F5.binds (ps := ["curve"]) fun _ _ _ _ _ _ us hl => match us, hl with | [_], _ => rfl
  have F6 := fun_mk (st := s_is_curve) l6 c6 k6
  have b6 := F6.binds (ps := ["value"]) fun _ _ _ _ _ _ us hl => match us, hl with | [_], _ => rfl
  have F7 := fun_mk (st := s__law_wide) l7 c7 k7
  have b7 := F7.binds (ps := ["script", "k"]) fun _ _ _ _ _ _ us hl => match us, hl with | [_, _], _ => rfl
  have F8 := fun_mk (st := s__law_take) l8 c8 k8
  have b8 := F8.binds (ps := ["pool", "most"]) fun _ _ _ _ _ _ us hl => match us, hl with | [_, _], _ => rfl
  have F9 := fun_mk (st := s__law_pool) l9 c9 k9
  have b9 := F9.binds (ps := ["script"]) fun _ _ _ _ _ _ us hl => match us, hl with | [_], _ => rfl
  have F10 := fun_mk (st := s__law_mod) l10 c10 k10
  have b10 := F10.binds (ps := ["x", "p"]) fun _ _ _ _ _ _ us hl => match us, hl with | [_, _], _ => rfl
  have F11 := fun_mk (st := s__law_prime_from) l11 c11 k11
  have b11 := F11.binds (ps := ["number"]) fun _ _ _ _ _ _ us hl => match us, hl with | [_], _ => rfl
  have F12 := fun_mk (st := s__law_prime) l12 c12 k12
  have b12 := F12.binds (ps := ["pool", "most"]) fun _ _ _ _ _ _ us hl => match us, hl with | [_, _], _ => rfl
  have F13 := fun_mk (st := s__law_pair) l13 c13 k13
  have b13 := F13.binds (ps := ["pool", "p"]) fun _ _ _ _ _ _ us hl => match us, hl with | [_, _], _ => rfl
  have F14 := fun_mk (st := s__law_curve) l14 c14 k14
  have b14 := F14.binds (ps := ["pool", "most"]) fun _ _ _ _ _ _ us hl => match us, hl with | [_, _], _ => rfl
  have F15 := fun_mk (st := s__law_is_prime) l15 c15 k15
  have b15 := F15.binds (ps := ["number"]) fun _ _ _ _ _ _ us hl => match us, hl with | [_], _ => rfl
  have F16 := fun_mk (st := s__law_flat) l16 c16 k16
  have b16 := F16.binds (ps := ["pool", "p"]) fun _ _ _ _ _ _ us hl => match us, hl with | [_, _], _ => rfl
  have F17 := fun_mk (st := s_law) l17 c17 k17
  have m_abs := PySem.W.mg_none_of X G z_abs
  have m_all := PySem.W.mg_none_of X G z_all
  have m_bool := PySem.W.mg_none_of X G z_bool
  have m_int := PySem.W.mg_none_of X G z_int
  have m_isinstance := PySem.W.mg_none_of X G z_isinstance
  have m_len := PySem.W.mg_none_of X G z_len
  have m_list := PySem.W.mg_none_of X G z_list
  have m_max := PySem.W.mg_none_of X G z_max
  have m_range := PySem.W.mg_none_of X G z_range
  have m_str := PySem.W.mg_none_of X G z_str
  have m_tuple := PySem.W.mg_none_of X G z_tuple
  have g_BASES : GlD K mg "BASES" (.tuple [.int 2, .int 3, .int 5, .int 7, .int 11, .int 13, .int 17, .int 19, .int 23, .int 29, .int 31, .int 37]) := ⟨.ref a_BASES, ⟨_, PySem.W.mg_of X G q_BASES, rfl⟩, fun _ => .tup (xs := [V.int 2, V.int 3, V.int 5, V.int 7, V.int 11, V.int 13, V.int 17, V.int 19, V.int 23, V.int 29, V.int 31, V.int 37]) (.inr ⟨_, _, _, l_BASES, rfl, rfl, Nat.le_of_ble_eq_true rfl, (.cons ⟨_, rfl⟩ (.cons ⟨_, rfl⟩ (.cons ⟨_, rfl⟩ (.cons ⟨_, rfl⟩ (.cons ⟨_, rfl⟩ (.cons ⟨_, rfl⟩ (.cons ⟨_, rfl⟩ (.cons ⟨_, rfl⟩ (.cons ⟨_, rfl⟩ (.cons ⟨_, rfl⟩ (.cons ⟨_, rfl⟩ (.cons ⟨_, rfl⟩ .nil))))))))))))⟩) (.cons (.int _) (.cons (.int _) (.cons (.int _) (.cons (.int _) (.cons (.int _) (.cons (.int _) (.cons (.int _) (.cons (.int _) (.cons (.int _) (.cons (.int _) (.cons (.int _) (.cons (.int _) .nil))))))))))))⟩
  have g_LEAST_PRIME : GlD K mg "LEAST_PRIME" (.int 5) := ⟨.int 5, ⟨_, PySem.W.mg_of X G q_LEAST_PRIME, ⟨_, rfl⟩⟩, fun _ => .int _⟩
  have g_MOST_PRIME : GlD K mg "MOST_PRIME" (.int 2305843009213693951) := ⟨.int 2305843009213693951, ⟨_, PySem.W.mg_of X G q_MOST_PRIME, ⟨_, rfl⟩⟩, fun _ => .int _⟩
  refine ⟨PySem.W.fnOf "law" "law" (defArgs s_law) (defBody s_law) (defScope s_law) .none kV17 dc17 pm17 an17 cd17 ct17, fun s v => .of_eq rfl, fun base _ _ => ?_⟩
  have h_power : Has l.prog w K mg base okH 1 "power" 3 M_power := ⟨⟨_, _, _, ok_power F0, PySem.W.mg_of X G a0, F0.kp, b0⟩⟩
  have h_passes : Has l.prog w K mg base okH 2 "passes" 2 M_passes := ⟨⟨_, _, _, ok_passes F1 h_power m_range, PySem.W.mg_of X G a1, F1.kp, b1⟩⟩
  have h_is_prime : Has l.prog w K mg base okH 3 "is_prime" 1 M_is_prime := ⟨⟨_, _, _, ok_is_prime F2 h_passes m_all g_BASES, PySem.W.mg_of X G a2, F2.kp, b2⟩⟩
  have h_is_whole : Has l.prog w K mg base okH 1 "is_whole" 1 M_is_whole := ⟨⟨_, _, _, ok_is_whole F3 m_bool m_int m_isinstance, PySem.W.mg_of X G a3, F3.kp, b3⟩⟩
  have h_is_residue : Has l.prog w K mg base okH 2 "is_residue" 2 M_is_residue := ⟨⟨_, _, _, ok_is_residue F4 h_is_whole, PySem.W.mg_of X G a4, F4.kp, b4⟩⟩
  have h_discriminant : Has l.prog w K mg base okH 1 "discriminant" 1 M_discriminant := ⟨⟨_, _, _, ok_discriminant F5, PySem.W.mg_of X G a5, F5.kp, b5⟩⟩
  have h_is_curve : Has l.prog w K mg base okH 4 "is_curve" 1 M_is_curve := ⟨⟨_, _, _, ok_is_curve F6 h_is_whole h_is_residue h_discriminant h_is_prime m_isinstance m_len m_tuple g_LEAST_PRIME g_MOST_PRIME, PySem.W.mg_of X G a6, F6.kp, b6⟩⟩
  have h__law_wide : Has l.prog w K mg base okH 1 "_law_wide" 2 M__law_wide := ⟨⟨_, _, _, ok__law_wide F7 m_abs m_int m_len, PySem.W.mg_of X G a7, F7.kp, b7⟩⟩
  have h__law_take : Has l.prog w K mg base okH 2 "_law_take" 2 M__law_take := ⟨⟨_, _, _, ok__law_take F8 h__law_wide m_int, PySem.W.mg_of X G a8, F8.kp, b8⟩⟩
  have h__law_pool : Has l.prog w K mg base okH 1 "_law_pool" 1 M__law_pool := ⟨⟨_, _, _, ok__law_pool F9 m_list, PySem.W.mg_of X G a9, F9.kp, b9⟩⟩
  have h__law_mod : Has l.prog w K mg base okH 1 "_law_mod" 2 M__law_mod := ⟨⟨_, _, _, ok__law_mod F10 m_int, PySem.W.mg_of X G a10, F10.kp, b10⟩⟩
  have h__law_prime_from : Has l.prog w K mg base okH 2 "_law_prime_from" 1 M__law_prime_from := ⟨⟨_, _, _, ok__law_prime_from F11 h__law_mod m_range, PySem.W.mg_of X G a11, F11.kp, b11⟩⟩
  have h__law_prime : Has l.prog w K mg base okH 3 "_law_prime" 2 M__law_prime := ⟨⟨_, _, _, ok__law_prime F12 h__law_prime_from h__law_take, PySem.W.mg_of X G a12, F12.kp, b12⟩⟩
  have h__law_pair : Has l.prog w K mg base okH 3 "_law_pair" 2 M__law_pair := ⟨⟨_, _, _, ok__law_pair F13 h__law_take, PySem.W.mg_of X G a13, F13.kp, b13⟩⟩
  have h__law_curve : Has l.prog w K mg base okH 4 "_law_curve" 2 M__law_curve := ⟨⟨_, _, _, ok__law_curve F14 h__law_prime h__law_pair h__law_mod m_range, PySem.W.mg_of X G a14, F14.kp, b14⟩⟩
  have h__law_is_prime : Has l.prog w K mg base okH 2 "_law_is_prime" 1 M__law_is_prime := ⟨⟨_, _, _, ok__law_is_prime F15 h__law_mod m_range, PySem.W.mg_of X G a15, F15.kp, b15⟩⟩
  have h__law_flat : Has l.prog w K mg base okH 3 "_law_flat" 2 M__law_flat := ⟨⟨_, _, _, ok__law_flat F16 h__law_take h__law_mod, PySem.W.mg_of X G a16, F16.kp, b16⟩⟩
  exact ok_law F17 h__law_pool h__law_take h__law_prime h__law_flat h__law_is_prime h__law_mod h_is_curve h_discriminant h__law_curve m_bool m_isinstance m_list m_max m_range m_str
end G
open PySem PySem.W PyProof.Rows
set_option maxRecDepth 100000 in
set_option maxHeartbeats 0 in
theorem PySem.Challenge.cw_curvetally_k21_curves_known_holds : PySem.Challenge.rw_curvetally_k21_curves_known.Holds := by
  w_on; o_law; k_head; (case hw => w_witness2)
  k_fill
  refine L2.walk_of (l := PySem.Challenge.rw_curvetally_k21_curves_known) (n := 63) (k := 5) (x := "script") (CX := fun _ => L2.CX0) (sp := fun w => DL.SpD _ G.okH 1 DL.M_law) rfl (by decide) rfl ⟨rfl, by decide, by decide⟩ (fun w h Y => PySem.W.kIn_of Y) ?F (fun _ _ a ns hl _ hS => DL.law_sp hS hl) (fun _ _ _ _ _ h => h)
  case F =>
    intro w mg fa h KX GG hmg
    refine' G.all_mk KX GG hmg ?a0 ?l0 ?c0 ?k0 ?a1 ?l1 ?c1 ?k1 ?a2 ?l2 ?c2 ?k2 ?a3 ?l3 ?c3 ?k3 ?a4 ?l4 ?c4 ?k4 ?a5 ?l5 ?c5 ?k5 ?a6 ?l6 ?c6 ?k6 ?a7 ?l7 ?c7 ?k7 ?a8 ?l8 ?c8 ?k8 ?a9 ?l9 ?c9 ?k9 ?a10 ?l10 ?c10 ?k10 ?a11 ?l11 ?c11 ?k11 ?a12 ?l12 ?c12 ?k12 ?a13 ?l13 ?c13 ?k13 ?a14 ?l14 ?c14 ?k14 ?a15 ?l15 ?c15 ?k15 ?a16 ?l16 ?c16 ?k16 ?a17 ?l17 ?c17 ?k17 ?z_abs ?z_all ?z_bool ?z_int ?z_isinstance ?z_len ?z_list ?z_max ?z_range ?z_str ?z_tuple ?q_BASES ?l_BASES ?q_LEAST_PRIME ?q_MOST_PRIME
    (case a0 => k_is)
    (case l0 => k_is)
    (case c0 => k_is)
    (case k0 => k_is)
    (case a1 => k_is)
    (case l1 => k_is)
    (case c1 => k_is)
    (case k1 => k_is)
    (case a2 => k_is)
    (case l2 => k_is)
    (case c2 => k_is)
    (case k2 => k_is)
    (case a3 => k_is)
    (case l3 => k_is)
    (case c3 => k_is)
    (case k3 => k_is)
    (case a4 => k_is)
    (case l4 => k_is)
    (case c4 => k_is)
    (case k4 => k_is)
    (case a5 => k_is)
    (case l5 => k_is)
    (case c5 => k_is)
    (case k5 => k_is)
    (case a6 => k_is)
    (case l6 => k_is)
    (case c6 => k_is)
    (case k6 => k_is)
    (case a7 => k_is)
    (case l7 => k_is)
    (case c7 => k_is)
    (case k7 => k_is)
    (case a8 => k_is)
    (case l8 => k_is)
    (case c8 => k_is)
    (case k8 => k_is)
    (case a9 => k_is)
    (case l9 => k_is)
    (case c9 => k_is)
    (case k9 => k_is)
    (case a10 => k_is)
    (case l10 => k_is)
    (case c10 => k_is)
    (case k10 => k_is)
    (case a11 => k_is)
    (case l11 => k_is)
    (case c11 => k_is)
    (case k11 => k_is)
    (case a12 => k_is)
    (case l12 => k_is)
    (case c12 => k_is)
    (case k12 => k_is)
    (case a13 => k_is)
    (case l13 => k_is)
    (case c13 => k_is)
    (case k13 => k_is)
    (case a14 => k_is)
    (case l14 => k_is)
    (case c14 => k_is)
    (case k14 => k_is)
    (case a15 => k_is)
    (case l15 => k_is)
    (case c15 => k_is)
    (case k15 => k_is)
    (case a16 => k_is)
    (case l16 => k_is)
    (case c16 => k_is)
    (case k16 => k_is)
    (case a17 => k_is)
    (case l17 => k_is)
    (case c17 => k_is)
    (case k17 => k_is)
    (case z_abs => k_is)
    (case z_all => k_is)
    (case z_bool => k_is)
    (case z_int => k_is)
    (case z_isinstance => k_is)
    (case z_len => k_is)
    (case z_list => k_is)
    (case z_max => k_is)
    (case z_range => k_is)
    (case z_str => k_is)
    (case z_tuple => k_is)
    (case q_BASES => k_is)
    (case l_BASES => k_is)
    (case q_LEAST_PRIME => k_is)
    (case q_MOST_PRIME => k_is)
