import PyProof.Rows.All
import HandS.Conv
import HandS.Deep
import HandS.ForExc
import HandS.ForMost
import HandS.IsInst
import HandS.More
import HandS.Style
import HandS.TupAny
import HandS.TupMul
import HandS.Wide
import HandS.Zip
import KE.OsArith
import KE.SortData
import OpenK.AllK
import Wide.All
import Wide.FinOn
import PySem.Challenge.RW_cutstairs_k43_densest_parts
set_option Elab.async false
set_option linter.all false
set_option maxRecDepth 100000
set_option maxHeartbeats 400000
namespace Fn
open PySem PySem.Spec PyProof.Rows L2
/-! ### plain data, what a name holds, what an evaluation ends in -/
inductive D where
  | non | bl (b : Bool) | int (i : Int) | str (x : Str) | tup (xs : List D) | ctup (xs : List D) | lst (xs : List D)
  | dk (kvs : List (Key × D)) | dt (kvs : List (List Key × D)) | fn (k : Nat)
inductive M where
  | l (ds : List D) | k (kvs : List (Key × D)) | t (kvs : List (List Key × D))
inductive B where
  | dat (d : D) | own (m : M) | vw (m : M) | bor (m : M) | scr (ns : List Int)
inductive Res (α : Type) where
  | ok (a : α) | exc (c : Nat) | bad
namespace Res
def bind {α β : Type} (r : Res α) (f : α → Res β) : Res β := match r with
  | .ok a => f a
  | .exc c => .exc c
  | .bad => .bad
def map {α β : Type} (f : α → β) (r : Res α) : Res β := r.bind fun a => .ok (f a)
theorem ok_bind {α β : Type} (a : α) (f : α → Res β) : (Res.ok a).bind f = f a := rfl
theorem exc_bind {α β : Type} (c : Nat) (f : α → Res β) : (Res.exc c : Res α).bind f = .exc c := rfl
theorem bad_bind {α β : Type} (f : α → Res β) : (Res.bad : Res α).bind f = .bad := rfl
end Res
def frzM : M → D
  | .l ds => .lst ds
  | .k kvs => .dk kvs
  | .t kvs => .dt kvs
/-- a value that is handed on within an expression: what is fresh is locked -/
def rd : B → B
  | .own m => .dat (frzM m)
  | b => b
abbrev Env := List (Option B)
/-! ### how data lies in the heap -/
mutual
inductive Rp (K : PySem.W.Frag) (fa : Nat → Option Addr) (F : Hp) : V → D → Prop
  | non : Rp K fa F .non .non
  | bl (b : Bool) : Rp K fa F (.bl b) (.bl b)
  | int (i : Int) : Rp K fa F (.int i) (.int i)
  | str (x : Str) : Rp K fa F (.str x) (.str x)
  | tup {a : Addr} {xs : List V} {ds : List D} : F a = some (.tup xs) → RpAll K fa F xs ds → Rp K fa F (.ref a) (.tup ds)
  | ctup {a : Addr} {xs : List V} {ds : List D} : SqT K (fun _ => none) a xs → RpAll K fa F xs ds → Rp K fa F (.ref a) (.ctup ds)
  | lst {a : Addr} {xs : List V} {ds : List D} : F a = some (.lst xs) → RpAll K fa F xs ds → Rp K fa F (.ref a) (.lst ds)
  | dk {a : Addr} {kvs : List (Key × V)} {kds : List (Key × D)} : F a = some (.dK kvs) → kvs.map (·.1) = kds.map (·.1) → RpAll K fa F (kvs.map (·.2)) (kds.map (·.2)) → Rp K fa F (.ref a) (.dk kds)
  | dt {a : Addr} {kvs : List (List Key × V)} {kds : List (List Key × D)} : F a = some (.dT kvs) → kvs.map (·.1) = kds.map (·.1) → RpAll K fa F (kvs.map (·.2)) (kds.map (·.2)) → Rp K fa F (.ref a) (.dt kds)
  | fn {a : Addr} {k : Nat} : fa k = some a → Rp K fa F (.ref a) (.fn k)
inductive RpAll (K : PySem.W.Frag) (fa : Nat → Option Addr) (F : Hp) : List V → List D → Prop
  | nil : RpAll K fa F [] []
  | cons {v : V} {vs : List V} {d : D} {ds : List D} : Rp K fa F v d → RpAll K fa F vs ds → RpAll K fa F (v :: vs) (d :: ds)
end
inductive RpM (K : PySem.W.Frag) (fa : Nat → Option Addr) (F : Hp) : HO → M → Prop
  | l {xs : List V} {ds : List D} : RpAll K fa F xs ds → RpM K fa F (.lst xs) (.l ds)
  | k {kvs : List (Key × V)} {kds : List (Key × D)} : kvs.map (·.1) = kds.map (·.1) → RpAll K fa F (kvs.map (·.2)) (kds.map (·.2)) → RpM K fa F (.dK kvs) (.k kds)
  | t {kvs : List (List Key × V)} {kds : List (List Key × D)} : kvs.map (·.1) = kds.map (·.1) → RpAll K fa F (kvs.map (·.2)) (kds.map (·.2)) → RpM K fa F (.dT kvs) (.t kds)
section
variable {K : PySem.W.Frag} {fa : Nat → Option Addr} {F F' H H' : Hp}
theorem same_sqT (e : Same F F') {a : Addr} {xs : List V} (h : SqT K F a xs) : SqT K F' a xs := by
  rcases h with (h | ⟨o, h⟩) | h
  · exact .inl (.inl (e _ _ h))
  · exact .inl (.inr ⟨o, e _ _ h⟩)
  · exact .inr h
mutual
theorem Rp.mono (e : Same F F') : ∀ {v : V} {d : D}, Rp K fa F v d → Rp K fa F' v d
  | _, _, .non => .non
  | _, _, .bl b => .bl b
  | _, _, .int i => .int i
  | _, _, .str x => .str x
  | _, _, .tup h r => .tup (e _ _ h) (RpAll.mono e r)
  | _, _, .ctup h r => .ctup h (RpAll.mono e r)
  | _, _, .lst h r => .lst (e _ _ h) (RpAll.mono e r)
  | _, _, .dk h q r => .dk (e _ _ h) q (RpAll.mono e r)
  | _, _, .dt h q r => .dt (e _ _ h) q (RpAll.mono e r)
  | _, _, .fn h => .fn h
theorem RpAll.mono (e : Same F F') : ∀ {vs : List V} {ds : List D}, RpAll K fa F vs ds → RpAll K fa F' vs ds
  | _, _, .nil => .nil
  | _, _, .cons h r => .cons (Rp.mono e h) (RpAll.mono e r)
end
theorem RpM.mono (e : Same F F') {o : HO} {m : M} (h : RpM K fa F o m) : RpM K fa F' o m := by
  cases h with
  | l r => exact .l (r.mono e)
  | k q r => exact .k q (r.mono e)
  | t q r => exact .t q (r.mono e)
theorem RpAll.len : ∀ {vs : List V} {ds : List D}, RpAll K fa F vs ds → vs.length = ds.length
  | _, _, .nil => rfl
  | _, _, .cons _ r => congrArg (· + 1) r.len
theorem RpAll.get : ∀ {vs : List V} {ds : List D} {i : Nat} {d : D}, RpAll K fa F vs ds → ds[i]? = some d → ∃ v, vs[i]? = some v ∧ Rp K fa F v d
  | _, _, _, _, .nil, h => by simp at h
  | _, _, 0, _, .cons h _, e => by simp at e; subst e; exact ⟨_, rfl, h⟩
  | _, _, i + 1, d, .cons _ r, e => by
    obtain ⟨v, h1, h2⟩ := RpAll.get (i := i) (d := d) r (by simpa using e)
    exact ⟨v, by simpa using h1, h2⟩
theorem RpAll.get' : ∀ {vs : List V} {ds : List D} {i : Nat} {v : V}, RpAll K fa F vs ds → vs[i]? = some v → ∃ d, ds[i]? = some d ∧ Rp K fa F v d
  | _, _, _, _, .nil, h => by simp at h
  | _, _, 0, _, .cons h _, e => by simp at e; subst e; exact ⟨_, rfl, h⟩
  | _, _, i + 1, v, .cons _ r, e => by
    obtain ⟨d, h1, h2⟩ := RpAll.get' (i := i) (v := v) r (by simpa using e)
    exact ⟨d, by simpa using h1, h2⟩
theorem RpAll.app : ∀ {vs ws : List V} {ds es : List D}, RpAll K fa F vs ds → RpAll K fa F ws es → RpAll K fa F (vs ++ ws) (ds ++ es)
  | _, _, _, _, .nil, s => s
  | _, _, _, _, .cons h r, s => .cons h (r.app s)
theorem RpAll.take : ∀ {vs : List V} {ds : List D} (n : Nat), RpAll K fa F vs ds → RpAll K fa F (vs.take n) (ds.take n)
  | _, _, 0, _ => .nil
  | _, _, _ + 1, .nil => .nil
  | _, _, n + 1, .cons h r => .cons h (r.take n)
theorem RpAll.drop : ∀ {vs : List V} {ds : List D} (n : Nat), RpAll K fa F vs ds → RpAll K fa F (vs.drop n) (ds.drop n)
  | _, _, 0, r => r
  | _, _, _ + 1, .nil => .nil
  | _, _, n + 1, .cons _ r => r.drop n
theorem RpAll.rev {vs : List V} {ds : List D} (h : RpAll K fa F vs ds) : RpAll K fa F vs.reverse ds.reverse := by
  induction vs generalizing ds with
  | nil => cases h; exact .nil
  | cons v vs ih =>
    cases h with
    | cons h r =>
      rw [List.reverse_cons, List.reverse_cons]
      exact (ih r).app (.cons h .nil)
theorem RpAll.set : ∀ {vs : List V} {ds : List D} (i : Nat) {v : V} {d : D}, RpAll K fa F vs ds → Rp K fa F v d → RpAll K fa F (vs.set i v) (ds.set i d)
  | _, _, _, _, _, .nil, _ => .nil
  | _, _, 0, _, _, .cons _ r, h => .cons h r
  | _, _, i + 1, _, _, .cons q r, h => .cons q (r.set i h)
theorem RpAll.ints : ∀ {vs : List V} {ns : List Int}, RpAll K fa F vs (ns.map D.int) → vs = ns.map V.int
  | _, [], .nil => rfl
  | _, n :: ns, .cons h r => by cases h; rw [r.ints]; rfl
theorem RpAll.of_ints : ∀ (ns : List Int), RpAll K fa F (ns.map V.int) (ns.map D.int)
  | [] => .nil
  | n :: ns => .cons (.int n) (RpAll.of_ints ns)
theorem RpAll.strs : ∀ {vs : List V} {ns : List Str}, RpAll K fa F vs (ns.map D.str) → vs = ns.map V.str
  | _, [], .nil => rfl
  | _, n :: ns, .cons h r => by cases h; rw [r.strs]; rfl
theorem RpAll.of_strs : ∀ (ns : List Str), RpAll K fa F (ns.map V.str) (ns.map D.str)
  | [] => .nil
  | n :: ns => .cons (.str n) (RpAll.of_strs ns)
theorem RpAll.bls : ∀ {vs : List V} {ns : List Bool}, RpAll K fa F vs (ns.map D.bl) → vs = ns.map V.bl
  | _, [], .nil => rfl
  | _, n :: ns, .cons h r => by cases h; rw [r.bls]; rfl
theorem RpM.frz {o : HO} {m : M} {p : Addr} (h : RpM K fa F o m) (e : F p = some o) : Rp K fa F (.ref p) (frzM m) := by
  cases h with
  | l r => exact .lst e r
  | k q r => exact .dk e q r
  | t q r => exact .dt e q r
/-! ### growing -/
structure Grow (F H F' H' : Hp) : Prop where
  fh : Same F F'
  hh : Same H H'
  sub : Same F' H'
  new : ∀ a o, H a = some o → (∀ xs, o ≠ .tup xs) → F a = none → F' a = none
theorem Grow.refl (s : Same F H) : Grow F H F H := ⟨Same.refl F, Same.refl H, s, fun _ _ _ _ e => e⟩
theorem Grow.trans {F1 H1 F2 H2 : Hp} (a : Grow F H F1 H1) (b : Grow F1 H1 F2 H2) : Grow F H F2 H2 :=
  ⟨a.fh.trans b.fh, a.hh.trans b.hh, b.sub, fun c o h n e => b.new c o (a.hh _ _ h) n (a.new c o h n e)⟩
theorem upd_none {p b : Addr} {o : HO} (h : H p = none) (e : H b ≠ none) : upd H p o b = H b := upd_ne fun z => e (z ▸ h)
theorem same_upd {p : Addr} {o : HO} (h : H p = none) : Same H (upd H p o) := fun b u q => by rw [upd_ne (ne_of_none q h)]; exact q
theorem Same.none {p : Addr} (s : Same F H) (h : H p = none) : F p = none := s.free h
/-- a new object, not locked -/
theorem Grow.newH (s : Same F H) {p : Addr} {o : HO} (h : H p = none) : Grow F H F (upd H p o) :=
  ⟨Same.refl F, same_upd h, s.trans (same_upd h), fun _ _ _ _ e => e⟩
/-- a new object, locked -/
theorem Grow.newF (s : Same F H) {p : Addr} {o : HO} (h : H p = none) : Grow F H (upd F p o) (upd H p o) :=
  ⟨same_upd (s.free h), same_upd h, fun b u q => by
    by_cases hb : b = p
    · subst hb; rw [upd_same] at q ⊢; exact q
    · rw [upd_ne hb] at q ⊢; exact s _ _ q, fun a o ha _ e => by
    have hb : a ≠ p := ne_of_none ha h
    rw [upd_ne hb]; exact e⟩
/-- locking what was new -/
theorem Grow.lock {F1 H1 : Hp} (g : Grow F H F1 H1) {p : Addr} {o : HO} (h : H p = none) (e : H1 p = some o) (f : F1 p = none) : Grow F H (upd F1 p o) H1 :=
  ⟨g.fh.trans (same_upd f), g.hh, fun b u q => by
    by_cases hb : b = p
    · subst hb; rw [upd_same] at q; rw [e]; exact q
    · rw [upd_ne hb] at q; exact g.sub _ _ q, fun a o ha n ea => by
    have hb : a ≠ p := ne_of_none ha h
    rw [upd_ne hb]; exact g.new a o ha n ea⟩
/-- a tuple that stands, locked -/
theorem Grow.tup {F1 H1 : Hp} (g : Grow F H F1 H1) {p : Addr} {xs : List V} (e : H1 p = some (.tup xs)) : Grow F H (upd F1 p (.tup xs)) H1 :=
  ⟨fun b u q => by
    by_cases hb : b = p
    · subst hb
      have := g.sub _ _ (g.fh _ _ q)
      rw [e] at this
      rw [upd_same]
      exact this
    · rw [upd_ne hb]; exact g.fh _ _ q, g.hh, fun b u q => by
    by_cases hb : b = p
    · subst hb; rw [upd_same] at q; rw [e]; exact q
    · rw [upd_ne hb] at q; exact g.sub _ _ q, fun a o ha n ea => by
    have hb : a ≠ p := fun z => by
      subst z
      have := g.hh _ _ ha
      rw [e] at this
      exact n xs (Option.some.inj this).symm
    rw [upd_ne hb]; exact g.new a o ha n ea⟩
end
theorem RpM.notTup {K : PySem.W.Frag} {fa : Nat → Option Addr} {F : Hp} {o : HO} {m : M} (h : RpM K fa F o m) : ∀ xs, o ≠ .tup xs := by
  cases h <;> (intro xs z; cases z)
/-! ### the fixed part of a def's run: what stood at its entry, and the wish about errors -/
structure G where
  K : PySem.W.Frag
  fa : Nat → Option Addr
  F0 : Hp
  G0 : Hp
  E : Nat → Hp → Prop
/-- what an expression gave -/
def RB (g : G) (F H F' H' : Hp) (v : V) : B → Prop
  | .dat d => Rp g.K g.fa F' v d
  | .own m => ∃ p o, v = .ref p ∧ H p = none ∧ H' p = some o ∧ F' p = none ∧ RpM g.K g.fa F' o m
  | .vw m => ∃ p o, v = .ref p ∧ H' p = some o ∧ RpM g.K g.fa F' o m
  | .bor m => ∃ p o, v = .ref p ∧ g.G0 p = some o ∧ RpM g.K g.fa F' o m
  | .scr ns => ∃ p, v = .ref p ∧ SqL g.K g.G0 p (ns.map V.int)
/-- a value in hand -/
def RR (g : G) (F H : Hp) (v : V) : B → Prop
  | .dat d => Rp g.K g.fa F v d
  | .own _ => False
  | .vw m => ∃ p o, v = .ref p ∧ H p = some o ∧ RpM g.K g.fa F o m
  | .bor m => ∃ p o, v = .ref p ∧ g.G0 p = some o ∧ RpM g.K g.fa F o m
  | .scr ns => ∃ p, v = .ref p ∧ SqL g.K g.G0 p (ns.map V.int)
/-- what a name holds -/
def RN (g : G) (F H : Hp) (v : V) : B → Prop
  | .dat d => Rp g.K g.fa F v d
  | .own m => ∃ p o, v = .ref p ∧ H p = some o ∧ F p = none ∧ g.G0 p = none ∧ RpM g.K g.fa F o m
  | .vw _ => False
  | .bor m => ∃ p o, v = .ref p ∧ g.G0 p = some o ∧ RpM g.K g.fa F o m
  | .scr ns => ∃ p, v = .ref p ∧ SqL g.K g.G0 p (ns.map V.int)
/-- the state within a def's body -/
structure St (g : G) (F H : Hp) (σ : L2.St) (ρ : Env) : Prop where
  gr : Grow g.F0 g.G0 F H
  len : σ.length = ρ.length
  at_ : ∀ (i : Nat) (b : B), ρ[i]? = some (some b) → ∃ v, σ[i]? = some (some v) ∧ RN g F H v b
  apart : ∀ (i j : Nat) (m m' : M), i ≠ j → ρ[i]? = some (some (.own m)) → ρ[j]? = some (some (.own m')) → σ[i]? ≠ σ[j]?
section
variable {g : G} {F H F' H' : Hp} {σ : L2.St} {ρ : Env}
theorem St.sub (s : St g F H σ ρ) : Same F H := s.gr.sub
theorem RN.mono {v : V} {b : B} (r : RN g F H v b) (e : Grow F H F' H') : RN g F' H' v b := by
  cases b with
  | dat d => exact Rp.mono e.fh r
  | own m =>
    obtain ⟨p, o, rfl, h, f, n, q⟩ := r
    exact ⟨p, o, rfl, e.hh _ _ h, e.new p o h q.notTup f, n, q.mono e.fh⟩
  | vw m => exact r
  | bor m =>
    obtain ⟨p, o, rfl, h, q⟩ := r
    exact ⟨p, o, rfl, h, q.mono e.fh⟩
  | scr ns => exact r
theorem RR.mono {v : V} {b : B} (r : RR g F H v b) (e : Grow F H F' H') : RR g F' H' v b := by
  cases b with
  | dat d => exact Rp.mono e.fh r
  | own m => exact r
  | vw m =>
    obtain ⟨p, o, rfl, h, q⟩ := r
    exact ⟨p, o, rfl, e.hh _ _ h, q.mono e.fh⟩
  | bor m =>
    obtain ⟨p, o, rfl, h, q⟩ := r
    exact ⟨p, o, rfl, h, q.mono e.fh⟩
  | scr ns => exact r
/-- from an expression's value to one in hand: what is fresh is locked -/
theorem RB.rd {v : V} {b : B} (e : Grow F H F' H') (r : RB g F H F' H' v b) : ∃ F'', Grow F H F'' H' ∧ RR g F'' H' v (rd b) := by
  cases b with
  | dat d => exact ⟨F', e, r⟩
  | own m =>
    obtain ⟨p, o, rfl, h, ho, f, q⟩ := r
    refine ⟨upd F' p o, e.lock h ho f, ?_⟩
    exact (q.mono (same_upd f)).frz upd_same
  | vw m =>
    obtain ⟨p, o, rfl, h, q⟩ := r
    exact ⟨F', e, p, o, rfl, h, q⟩
  | bor m =>
    obtain ⟨p, o, rfl, h, q⟩ := r
    exact ⟨F', e, p, o, rfl, h, q⟩
  | scr ns => exact ⟨F', e, r⟩
/-- a value in hand, as an expression's value -/
theorem RR.rb {v : V} {b : B} {F0 H0 : Hp} (r : RR g F H v b) : RB g F0 H0 F H v b := by
  cases b with
  | dat d => exact r
  | own m => exact r.elim
  | vw m => exact r
  | bor m => exact r
  | scr ns => exact r
theorem RB.later {v : V} {b : B} {F1 H1 : Hp} (e : Grow F H F1 H1) (r : RB g F1 H1 F' H' v b) : RB g F H F' H' v b := by
  cases b with
  | dat d => exact r
  | own m =>
    obtain ⟨p, o, rfl, h, z⟩ := r
    exact ⟨p, o, rfl, e.hh.free h, z⟩
  | vw m => exact r
  | bor m => exact r
  | scr ns => exact r
theorem St.grow (s : St g F H σ ρ) (e : Grow F H F' H') : St g F' H' σ ρ :=
  ⟨s.gr.trans e, s.len, fun i b h => let ⟨v, h1, h2⟩ := s.at_ i b h; ⟨v, h1, h2.mono e⟩, s.apart⟩
theorem St.own_none (s : St g F H σ ρ) {i : Nat} {m : M} (h : ρ[i]? = some (some (.own m))) : ∃ p o, σ[i]? = some (some (.ref p)) ∧ H p = some o ∧ F p = none ∧ g.G0 p = none ∧ RpM g.K g.fa F o m := by
  obtain ⟨v, h1, p, o, rfl, h2⟩ := s.at_ i _ h
  exact ⟨p, o, h1, h2⟩
theorem set_some {α : Type} {l : List (Option α)} {i j : Nat} {x : Option α} {y : α} (h : (l.set i x)[j]? = some (some y)) : (i = j ∧ x = some y ∧ j < l.length) ∨ (i ≠ j ∧ l[j]? = some (some y)) := by
  by_cases hij : i = j
  · subst hij
    by_cases hl : i < l.length
    · rw [List.getElem?_set_self hl] at h
      exact .inl ⟨rfl, Option.some.inj h, hl⟩
    · rw [List.getElem?_eq_none (by simpa using hl)] at h
      cases h
  · rw [List.getElem?_set_ne hij] at h
    exact .inr ⟨hij, h⟩
/-- a name takes what an expression gave -/
theorem St.put (s : St g F H σ ρ) {v : V} {b : B} (e : Grow F H F' H') (r : RB g F H F' H' v b) (i : Nat) (hv : ∀ m, b ≠ .vw m) : St g F' H' (σ.set i (some v)) (ρ.set i (some b)) := by
  have s1 := s.grow e
  refine ⟨s1.gr, by simp [s1.len], fun j b' h => ?_, fun j k m m' hjk h1 h2 => ?_⟩
  · rcases set_some h with ⟨rfl, h1, h2⟩ | ⟨h1, h2⟩
    · cases h1
      refine ⟨v, by rw [List.getElem?_set_self (by rw [s1.len]; exact h2)], ?_⟩
      cases b with
      | dat d => exact r
      | own m =>
        obtain ⟨p, o, rfl, h, z, f, q⟩ := r
        exact ⟨p, o, rfl, z, f, s.gr.hh.free h, q⟩
      | vw m => exact absurd rfl (hv m)
      | bor m => exact r
      | scr ns => exact r
    · obtain ⟨w, h3, h4⟩ := s1.at_ j b' h2
      exact ⟨w, by rw [List.getElem?_set_ne h1]; exact h3, h4⟩
  · -- what is fresh stands apart
    have fresh : ∀ {m : M} {j : Nat} {m' : M}, b = .own m → ρ[j]? = some (some (.own m')) → σ[j]? ≠ some (some v) := fun {m j m'} hb hj => by
      subst hb
      obtain ⟨p, o, rfl, h, _⟩ := r
      obtain ⟨q, oq, h3, h4, _⟩ := s.own_none hj
      rw [h3]
      intro z
      cases z
      rw [h] at h4
      cases h4
    rcases set_some h1 with ⟨rfl, e1, l1⟩ | ⟨n1, e1⟩ <;> rcases set_some h2 with ⟨rfl, e2, l2⟩ | ⟨n2, e2⟩
    · exact absurd rfl hjk
    · cases e1
      rw [List.getElem?_set_self (by rw [s.len]; exact l1), List.getElem?_set_ne n2]
      exact fun z => fresh rfl e2 z.symm
    · cases e2
      rw [List.getElem?_set_self (by rw [s.len]; exact l2), List.getElem?_set_ne n1]
      exact fresh rfl e1
    · rw [List.getElem?_set_ne n1, List.getElem?_set_ne n2]
      exact s1.apart j k m m' hjk e1 e2
/-- a name is forgotten -/
theorem St.drop (s : St g F H σ ρ) (i : Nat) : St g F H (σ.set i none) (ρ.set i none) := by
  refine ⟨s.gr, by simp [s.len], fun j b h => ?_, fun j k m m' hjk h1 h2 => ?_⟩
  · rcases set_some h with ⟨rfl, h1, h2⟩ | ⟨h1, h2⟩
    · cases h1
    · obtain ⟨w, h3, h4⟩ := s.at_ j b h2
      exact ⟨w, by rw [List.getElem?_set_ne h1]; exact h3, h4⟩
  · rcases set_some h1 with ⟨rfl, e1, l1⟩ | ⟨n1, e1⟩
    · cases e1
    rcases set_some h2 with ⟨rfl, e2, l2⟩ | ⟨n2, e2⟩
    · cases e2
    rw [List.getElem?_set_ne n1, List.getElem?_set_ne n2]
    exact s.apart j k m m' hjk e1 e2
/-- an owned object is changed -/
theorem St.change (s : St g F H σ ρ) {i : Nat} {m m' : M} {p : Addr} {o' : HO} (h : ρ[i]? = some (some (.own m))) (hp : σ[i]? = some (some (.ref p))) (q : RpM g.K g.fa F o' m') : St g F (upd H p o') σ (ρ.set i (some (.own m'))) := by
  obtain ⟨p', o, h1, h2, h3, h4, h5⟩ := s.own_none h
  rw [hp] at h1
  cases h1
  have il : i < ρ.length := (List.getElem?_eq_some_iff.mp h).1
  refine ⟨⟨s.gr.fh, fun b u z => ?_, fun b u z => ?_, s.gr.new⟩, by simp [s.len], fun j b hj => ?_, fun j k n n' hjk e1 e2 => ?_⟩
  · rw [upd_ne (ne_of_none z h4)]; exact s.gr.hh _ _ z
  · rw [upd_ne (ne_of_none z h3)]; exact s.sub _ _ z
  · rcases set_some hj with ⟨rfl, e1, l1⟩ | ⟨n1, e1⟩
    · cases e1
      exact ⟨_, hp, p, o', rfl, upd_same, h3, h4, q⟩
    · obtain ⟨w, h6, h7⟩ := s.at_ j b e1
      refine ⟨w, h6, ?_⟩
      cases b with
      | dat d => exact h7
      | own n =>
        obtain ⟨r, or, rfl, a1, a2, a3, a4⟩ := h7
        have ne : r ≠ p := fun z => s.apart i j m n n1 h e1 (by rw [hp, h6, z])
        exact ⟨r, or, rfl, by rw [upd_ne ne]; exact a1, a2, a3, a4⟩
      | vw n => exact h7
      | bor n => exact h7
      | scr ns => exact h7
  · have back : ∀ {j : Nat} {n : M}, (ρ.set i (some (.own m')))[j]? = some (some (.own n)) → ∃ n', ρ[j]? = some (some (.own n')) := fun {j n} hj => by
      rcases set_some hj with ⟨rfl, e1, l1⟩ | ⟨n1, e1⟩
      · exact ⟨m, h⟩
      · exact ⟨n, e1⟩
    obtain ⟨a, ha⟩ := back e1
    obtain ⟨b, hb⟩ := back e2
    exact s.apart j k a b hjk ha hb
/-- an owned object is locked -/
theorem St.lock (s : St g F H σ ρ) {i : Nat} {m : M} (h : ρ[i]? = some (some (.own m))) : ∃ F', Grow g.F0 g.G0 F' H ∧ Same F F' ∧ St g F' H σ (ρ.set i (some (.dat (frzM m)))) := by
  obtain ⟨p, o, h1, h2, h3, h4, h5⟩ := s.own_none h
  have gr : Grow g.F0 g.G0 (upd F p o) H := s.gr.lock h4 h2 h3
  refine ⟨upd F p o, gr, same_upd h3, gr, by simp [s.len], fun j b hj => ?_, fun j k n n' hjk e1 e2 => ?_⟩
  · rcases set_some hj with ⟨rfl, e1, l1⟩ | ⟨n1, e1⟩
    · cases e1
      exact ⟨_, h1, (h5.mono (same_upd h3)).frz upd_same⟩
    · obtain ⟨w, h6, h7⟩ := s.at_ j b e1
      refine ⟨w, h6, ?_⟩
      cases b with
      | dat d => exact Rp.mono (same_upd h3) h7
      | own n =>
        obtain ⟨r, or, rfl, a1, a2, a3, a4⟩ := h7
        have ne : r ≠ p := fun z => s.apart i j m n n1 h e1 (by rw [h1, h6, z])
        exact ⟨r, or, rfl, a1, by rw [upd_ne ne]; exact a2, a3, a4.mono (same_upd h3)⟩
      | vw n => exact h7
      | bor n =>
        obtain ⟨r, or, rfl, a1, a2⟩ := h7
        exact ⟨r, or, rfl, a1, a2.mono (same_upd h3)⟩
      | scr ns => exact h7
  · have back : ∀ {j : Nat} {n : M}, (ρ.set i (some (.dat (frzM m))))[j]? = some (some (.own n)) → ρ[j]? = some (some (.own n)) := fun {j n} hj => by
      rcases set_some hj with ⟨rfl, e1, l1⟩ | ⟨n1, e1⟩
      · cases e1
      · exact e1
    exact s.apart j k n n' hjk (back e1) (back e2)
end
/-! ### readings -/
/-- what is wanted behind an expression that ends so -/
def Post (g : G) (F H : Hp) (r : Res B) (Q : VK) : Prop := match r with
  | .ok b => ∀ v F' H', Grow F H F' H' → RB g F H F' H' v b → Q v H'
  | .exc c => ∀ F' H', Grow F H F' H' → g.E c H'
  | .bad => False
def tF (g : G) (f : Env → Res B) : TE := fun σ H Q => ∃ F ρ, St g F H σ ρ ∧ Post g F H (f ρ) Q
def PostA (g : G) (F H : Hp) (r : Res (List B)) (Q : List V → Hp → Prop) : Prop := match r with
  | .ok bs => ∀ vs F' H', Grow F H F' H' → Paired (RR g F' H') vs bs → Q vs H'
  | .exc c => ∀ F' H', Grow F H F' H' → g.E c H'
  | .bad => False
def tFA (g : G) (f : Env → Res (List B)) : TA := fun σ H Q => ∃ F ρ, St g F H σ ρ ∧ PostA g F H (f ρ) Q
def PostT (g : G) (F H : Hp) (r : Res Bool) (Q : Bool → Hp → Prop) : Prop := match r with
  | .ok b => ∀ F' H', Grow F H F' H' → Q b H'
  | .exc c => ∀ F' H', Grow F H F' H' → g.E c H'
  | .bad => False
def tFT (g : G) (f : Env → Res Bool) : TT := fun σ H Q => ∃ F ρ, St g F H σ ρ ∧ PostT g F H (f ρ) Q
section
variable {g : G} {F H F' H' : Hp} {σ : L2.St} {ρ : Env}
theorem Post.later {r : Res B} {Q : VK} (h : Post g F H r Q) (e : Grow F H F' H') : Post g F' H' r Q := by
  cases r with
  | ok b => exact fun v F2 H2 e2 rb => h v F2 H2 (e.trans e2) (rb.later e)
  | exc c => exact fun F2 H2 e2 => h F2 H2 (e.trans e2)
  | bad => exact h
theorem PostA.later {r : Res (List B)} {Q : List V → Hp → Prop} (h : PostA g F H r Q) (e : Grow F H F' H') : PostA g F' H' r Q := by
  cases r with
  | ok b => exact fun v F2 H2 e2 rb => h v F2 H2 (e.trans e2) rb
  | exc c => exact fun F2 H2 e2 => h F2 H2 (e.trans e2)
  | bad => exact h
theorem PostT.later {r : Res Bool} {Q : Bool → Hp → Prop} (h : PostT g F H r Q) (e : Grow F H F' H') : PostT g F' H' r Q := by
  cases r with
  | ok b => exact fun F2 H2 e2 => h F2 H2 (e.trans e2)
  | exc c => exact fun F2 H2 e2 => h F2 H2 (e.trans e2)
  | bad => exact h
/-- an expression's reading, then what is done with its value in hand -/
theorem run1 {f : Env → Res B} {Q : VK} (s : St g F H σ ρ) (hok : ∀ b v F1 H1, f ρ = .ok b → Grow F H F1 H1 → RR g F1 H1 v (rd b) → Q v H1) (hexc : ∀ c, f ρ = .exc c → ∀ F' H', Grow F H F' H' → g.E c H') (hbad : f ρ ≠ .bad) : tF g f σ H Q := by
  refine ⟨F, ρ, s, ?_⟩
  cases e : f ρ with
  | ok b => exact fun v F1 H1 e1 rb => let ⟨F2, e2, r2⟩ := rb.rd e1; hok b v F2 H1 e e2 r2
  | exc c => exact hexc c e
  | bad => exact hbad e
end
end Fn
namespace Fn
open PySem PySem.Spec PyProof.Rows L2
/-! ### data as the library's data -/
mutual
def toPy : D → PyData
  | .non => .none
  | .bl b => .bool b
  | .int i => .int i
  | .str x => .str x
  | .tup xs => .tuple (toPys xs)
  | .ctup xs => .tuple (toPys xs)
  | .lst xs => .list (toPys xs)
  | .dk _ => .dict []
  | .dt _ => .dict []
  | .fn _ => .dict []
def toPys : List D → List PyData
  | [] => []
  | x :: xs => toPy x :: toPys xs
end
theorem toPys_map (xs : List D) : toPys xs = xs.map toPy := by
  induction xs with
  | nil => rfl
  | cons x xs ih => rw [toPys, ih]; rfl
structure Sm (g : G) (F H : Hp) : Prop where
  fh : Same F H
  gh : Same g.G0 H
theorem St.sm {g : G} {F H : Hp} {σ : L2.St} {ρ : Env} (s : St g F H σ ρ) : Sm g F H := ⟨s.gr.sub, s.gr.hh⟩
theorem Sm.grow {g : G} {F H F' H' : Hp} (s : Sm g F H) (e : Grow F H F' H') : Sm g F' H' := ⟨e.sub, s.gh.trans e.hh⟩
section
variable {g : G} {F H F' H' : Hp}
theorem sqT_none {K : PySem.W.Frag} {a : Addr} {xs : List V} (h : SqT K (fun _ => none) a xs) : SqT K H a xs := by
  rcases h with (h | ⟨o, h⟩) | h
  · cases h
  · cases h
  · exact .inr h
mutual
theorem Rp.dp {K : PySem.W.Frag} {fa : Nat → Option Addr} (e : Same F H) : ∀ {v : V} {d : D}, Rp K fa F v d → (toPy d).canLay0 = true → Dp K H v (toPy d)
  | _, _, .non, _ => .non
  | _, _, .bl b, _ => .bl b
  | _, _, .int i, _ => .int i
  | _, _, .str x, _ => .str x
  | _, _, .tup h r, c => by
    simp only [toPy, PyData.canLay0] at c ⊢
    exact .tup (SqT.of (e _ _ h)) (RpAll.dp e r c)
  | _, _, .ctup h r, c => by
    simp only [toPy, PyData.canLay0] at c ⊢
    exact .tup (sqT_none h) (RpAll.dp e r c)
  | _, _, .lst h r, c => by
    simp only [toPy, PyData.canLay0] at c ⊢
    exact .lst (SqL.of (e _ _ h)) (RpAll.dp e r c)
  | _, _, .dk _ _ _, c => by simp [toPy, PyData.canLay0] at c
  | _, _, .dt _ _ _, c => by simp [toPy, PyData.canLay0] at c
  | _, _, .fn _, c => by simp [toPy, PyData.canLay0] at c
theorem RpAll.dp {K : PySem.W.Frag} {fa : Nat → Option Addr} (e : Same F H) : ∀ {vs : List V} {ds : List D}, RpAll K fa F vs ds → PyData.canLayAll0 (toPys ds) = true → DpAll K H vs (toPys ds)
  | _, _, .nil, _ => .nil
  | _, _, .cons h r, c => by
    simp only [toPys, PyData.canLayAll0, Bool.and_eq_true] at c ⊢
    exact .cons (Rp.dp e h c.1) (RpAll.dp e r c.2)
end
/-! ### what is wanted behind a result -/
theorem Post.dat {d : D} {Q : VK} {v : V} (h : Post g F H (.ok (.dat d)) Q) (s : Sm g F H) (r : Rp g.K g.fa F v d) : Q v H := h v F H (Grow.refl s.fh) r
theorem Post.int {i : Int} {Q : VK} (h : Post g F H (.ok (.dat (.int i))) Q) (s : Sm g F H) : Q (.int i) H := h.dat s (.int i)
theorem Post.bl {i : Bool} {Q : VK} (h : Post g F H (.ok (.dat (.bl i))) Q) (s : Sm g F H) : Q (.bl i) H := h.dat s (.bl i)
theorem Post.str {i : Str} {Q : VK} (h : Post g F H (.ok (.dat (.str i))) Q) (s : Sm g F H) : Q (.str i) H := h.dat s (.str i)
theorem Post.newM {m : M} {o : HO} {Q : VK} (h : Post g F H (.ok (.own m)) Q) (s : Sm g F H) (r : RpM g.K g.fa F o m) (p : Addr) (hp : H p = none) : Q (.ref p) (upd H p o) :=
  h (.ref p) F (upd H p o) (Grow.newH s.fh hp) ⟨p, o, rfl, hp, upd_same, s.fh.free hp, r⟩
theorem Post.newL {ds : List D} {xs : List V} {Q : VK} (h : Post g F H (.ok (.own (.l ds))) Q) (s : Sm g F H) (r : RpAll g.K g.fa F xs ds) (p : Addr) (hp : H p = none) : Q (.ref p) (upd H p (.lst xs)) :=
  h.newM s (.l r) p hp
theorem Post.newT {ds : List D} {xs : List V} {Q : VK} (h : Post g F H (.ok (.dat (.tup ds))) Q) (s : Sm g F H) (r : RpAll g.K g.fa F xs ds) (p : Addr) (hp : H p = none) : Q (.ref p) (upd H p (.tup xs)) :=
  h (.ref p) (upd F p (.tup xs)) (upd H p (.tup xs)) (Grow.newF s.fh hp) (.tup upd_same (r.mono (same_upd (s.fh.free hp))))
/-! ### readings of sequences -/
def seqI : B → Option (List D)
  | .dat (.tup xs) => some xs
  | .dat (.ctup xs) => some xs
  | .dat (.lst xs) => some xs
  | .vw (.l xs) => some xs
  | .bor (.l xs) => some xs
  | .scr ns => some (ns.map .int)
  | _ => none
/-- lists that stand by themselves in the heap -/
def seqL : B → Option (List D)
  | .dat (.lst xs) => some xs
  | .vw (.l xs) => some xs
  | .bor (.l xs) => some xs
  | _ => none
theorem seqL_ok {v : V} {b : B} {ds : List D} (s : Sm g F H) (r : RR g F H v b) (h : seqL b = some ds) : ∃ a xs, v = .ref a ∧ H a = some (.lst xs) ∧ RpAll g.K g.fa F xs ds := by
  unfold seqL at h
  split at h
  · cases h
    cases r with
    | lst h1 h2 => exact ⟨_, _, rfl, s.fh _ _ h1, h2⟩
  · cases h
    obtain ⟨p, o, rfl, h1, h2⟩ := r
    cases h2 with
    | l h2 => exact ⟨_, _, rfl, h1, h2⟩
  · cases h
    obtain ⟨p, o, rfl, h1, h2⟩ := r
    cases h2 with
    | l h2 => exact ⟨_, _, rfl, s.gh _ _ h1, h2⟩
  · cases h
theorem seqI_ok {v : V} {b : B} {ds : List D} (s : Sm g F H) (r : RR g F H v b) (h : seqI b = some ds) : ∃ a xs, v = .ref a ∧ (SqL g.K H a xs ∨ SqT g.K H a xs) ∧ RpAll g.K g.fa F xs ds := by
  unfold seqI at h
  split at h
  · cases h
    cases r with
    | tup h1 h2 => exact ⟨_, _, rfl, .inr (SqT.of (s.fh _ _ h1)), h2⟩
  · cases h
    cases r with
    | ctup h1 h2 => exact ⟨_, _, rfl, .inr (sqT_none h1), h2⟩
  · cases h
    cases r with
    | lst h1 h2 => exact ⟨_, _, rfl, .inl (SqL.of (s.fh _ _ h1)), h2⟩
  · cases h
    obtain ⟨p, o, rfl, h1, h2⟩ := r
    cases h2 with
    | l h2 => exact ⟨_, _, rfl, .inl (SqL.of h1), h2⟩
  · cases h
    obtain ⟨p, o, rfl, h1, h2⟩ := r
    cases h2 with
    | l h2 => exact ⟨_, _, rfl, .inl (SqL.of (s.gh _ _ h1)), h2⟩
  · cases h
    obtain ⟨p, rfl, h1⟩ := r
    exact ⟨_, _, rfl, .inl (s.gh.seq h1), RpAll.of_ints _⟩
  · cases h
end
/-! ### operators -/
def OpG (g : G) (r : R2) (f : B → B → Res B) : Prop := ∀ (F H : Hp) (x y : V) (a b : B) (Q : VK), Sm g F H → RR g F H x a → RR g F H y b → Post g F H (f a b) Q → r x y H Q
def bin2 (f : B → B → Res B) (fa fb : Env → Res B) : Env → Res B := fun ρ => (fa ρ).bind fun x => (fb ρ).bind fun y => f (rd x) (rd y)
section
variable {X : Cx} {g : G} {a b : Expr} {fa fb : Env → Res B} {pos : Pos}
theorem PE.imp {e : Expr} {t t' : TE} (h : PE X e t) (i : ∀ σ H Q, t' σ H Q → t σ H Q) : PE X e t' := ⟨fun pins s σ H Q I w => h.run pins s σ H Q I (i σ H Q w)⟩
theorem PT.imp {e : Expr} {t t' : TT} (h : PT X e t) (i : ∀ σ H Q, t' σ H Q → t σ H Q) : PT X e t' := ⟨fun pins s σ H Q I w => h.run pins s σ H Q I (i σ H Q w)⟩
theorem PA.imp {e : List Expr} {t t' : TA} (h : PA X e t) (i : ∀ σ H Q, t' σ H Q → t σ H Q) : PA X e t' := ⟨fun p pins s σ H Q I w => h.run p pins s σ H Q I (i σ H Q w)⟩
/-- two expressions, then an operation on their values -/
theorem run2 {r : R2} {f : B → B → Res B} (hg : OpG g r f) {σ : L2.St} {H : Hp} {Q : VK} (h : tF g (bin2 f fa fb) σ H Q) : tOp r (tF g fa) (tF g fb) σ H Q := by
  obtain ⟨F, ρ, s, p⟩ := h
  unfold bin2 at p
  refine run1 s (fun bx v F1 H1 e1 g1 r1 => ?_) (fun c e => ?_) (fun e => ?_)
  · rw [e1, Res.ok_bind] at p
    have s1 := s.grow g1
    refine run1 s1 (fun by_ w F2 H2 e2 g2 r2 => ?_) (fun c e => ?_) (fun e => ?_)
    · rw [e2, Res.ok_bind] at p
      exact hg F2 H2 v w _ _ Q (s1.sm.grow g2) (r1.mono g2) r2 (p.later (g1.trans g2))
    · rw [e, Res.exc_bind] at p
      exact fun F' H' gr => p F' H' (g1.trans gr)
    · rw [e] at p
      exact p
  · rw [e] at p
    exact p
  · rw [e] at p
    exact p
theorem fe_bin {op : Operator} {r : R2} {f : B → B → Res B} (ho : OpR X (binaryOp op) r) (hg : OpG g r f) (ha : PE X a (tF g fa)) (hb : PE X b (tF g fb)) : PE X (.BinOp a op b pos) (tF g (bin2 f fa fb)) :=
  PE.imp (pe_op ho ha hb) fun _ _ _ h => run2 hg h
theorem fe_cmp {op : CmpOp} {r : R2} {f : B → B → Res B} (ho : OpR X (compareOp op) r) (hg : OpG g r f) (ha : PE X a (tF g fa)) (hb : PE X b (tF g fb)) (hm : behindInMarks op b = false) : PE X (.Compare a [op] [b] pos) (tF g (bin2 f fa fb)) :=
  PE.imp (pe_cmpR ho ha hb hm) fun _ _ _ h => run2 hg h
end
/-! #### + -/
def catL (xs : List D) (b : B) : Res B := match seqL b with
  | some ys => if xs.length + ys.length ≤ sizeLine then .ok (.own (.l (xs ++ ys))) else .bad
  | none => .bad
def catT (xs : List D) (b : B) : Res B := match b with
  | .dat (.tup ys) => if xs.length + ys.length ≤ sizeLine then .ok (.dat (.tup (xs ++ ys))) else .bad
  | _ => .bad
def addB (a b : B) : Res B := match a with
  | .dat (.int i) => (match b with | .dat (.int j) => .ok (.dat (.int (i + j))) | _ => .bad)
  | .dat (.str i) => (match b with | .dat (.str j) => if i.length + j.length ≤ sizeLine then .ok (.dat (.str (i ++ j))) else .bad | _ => .bad)
  | .dat (.tup xs) => catT xs b
  | .dat (.lst xs) => catL xs b
  | .vw (.l xs) => catL xs b
  | .bor (.l xs) => catL xs b
  | _ => .bad
def rAdd (K : PySem.W.Frag) : R2 := fun x y H Q => rI0 (fun i j => .int (i + j)) x y H Q ∨ (∃ i j, x = .str i ∧ y = .str j ∧ i.length + j.length ≤ sizeLine ∧ Q (.str (i ++ j)) H) ∨ rCatA K x y H Q ∨ rCat x y H Q
theorem op_addF {X : Cx} : OpR X (binaryOp .Add) (rAdd X.K) := OpR.or op_add (OpR.or op_add_str (OpR.or op_catA op_cat))
theorem g_add {g : G} {K : PySem.W.Frag} (hK : g.K = K) : OpG g (rAdd K) addB := by
  subst hK
  intro F H x y a b Q s ra rb p
  have cat : ∀ {xs : List D}, seqL a = some xs → Post g F H (catL xs b) Q → rAdd g.K x y H Q := fun {xs} ha p => by
    unfold catL at p
    split at p
    · rename_i ys hb
      split at p
      · rename_i hz
        obtain ⟨p1, xs', rfl, h1, r1⟩ := seqL_ok s ra ha
        obtain ⟨p2, ys', rfl, h2, r2⟩ := seqL_ok s rb hb
        exact .inr (.inr (.inr ⟨p1, p2, xs', ys', rfl, rfl, h1, h2, by rw [r1.len, r2.len]; exact hz, p.newL s (r1.app r2)⟩))
      · exact p.elim
    · exact p.elim
  unfold addB at p
  split at p
  · split at p
    · cases ra
      cases rb
      exact .inl ⟨_, _, rfl, rfl, p.int s⟩
    · exact p.elim
  · split at p
    · split at p
      · rename_i hz
        cases ra
        cases rb
        exact .inr (.inl ⟨_, _, rfl, rfl, hz, p.str s⟩)
      · exact p.elim
    · exact p.elim
  · unfold catT at p
    split at p
    · split at p
      · rename_i xs ys hz
        cases ra with
        | tup h1 r1 =>
          cases rb with
          | tup h2 r2 =>
            refine .inr (.inr (.inl ⟨_, _, _, _, rfl, rfl, SqT.of (s.fh _ _ h1), SqT.of (s.fh _ _ h2), by rw [r1.len, r2.len]; exact hz, fun e => ?_, fun e e2 => ?_, fun _ _ => ?_⟩))
            · subst e
              cases r1
              exact p.dat s (.tup h2 r2)
            · subst e2
              cases r2
              rw [List.append_nil] at p
              exact p.dat s (.tup h1 r1)
            · exact p.newT s (r1.app r2)
      · exact p.elim
    · exact p.elim
  · exact cat rfl p
  · exact cat rfl p
  · exact cat rfl p
  · exact p.elim
/-! #### -, *, //, %, <<, >>, &, ** -/
def int2 (C : Int → Int → Bool) (f : Int → Int → Int) (a b : B) : Res B := match a with
  | .dat (.int i) => (match b with | .dat (.int j) => if C i j then .ok (.dat (.int (f i j))) else .bad | _ => .bad)
  | _ => .bad
theorem g_int2 {g : G} {C : Int → Int → Bool} {C' : Int → Int → Prop} {f : Int → Int → Int} (hC : ∀ i j, C i j = true → C' i j) : OpG g (rI C' fun i j => .int (f i j)) (int2 C f) := by
  intro F H x y a b Q s ra rb p
  unfold int2 at p
  split at p
  · split at p
    · split at p
      · rename_i hc
        cases ra
        cases rb
        exact ⟨_, _, rfl, rfl, hC _ _ hc, p.int s⟩
      · exact p.elim
    · exact p.elim
  · exact p.elim
def CDivG (i j : Int) : Prop := j ≠ 0 ∧ j.natAbs.log2 < 9000
theorem op_fdivG {X : Cx} : OpR X (binaryOp .FloorDiv) (rI CDivG fun i j => .int (i.fdiv j)) := opI fun _ _ _ _ _ _ _ hc q => floordiv_int hc.1 q (.inl (PyProof.noPylong_of_log2 hc.2))
theorem op_modG {X : Cx} : OpR X (binaryOp .Mod) (rI (fun _ j => j ≠ 0) fun i j => .int (i.fmod j)) := opI fun _ _ _ _ _ _ _ hc q => mod_int' hc q
def subB : B → B → Res B := int2 (fun _ _ => true) (fun i j => i - j)
def divB : B → B → Res B := int2 (fun _ j => decide (j ≠ 0) && decide (j.natAbs.log2 < 9000)) Int.fdiv
def modB : B → B → Res B := int2 (fun _ j => decide (j ≠ 0)) Int.fmod
def shlB : B → B → Res B := int2 (fun i j => decide (0 ≤ j) && decide (j ≤ 1000000) && decide (i.natAbs < 2 ^ 64)) fun i j => i * 2 ^ j.toNat
def powB : B → B → Res B := int2 (fun i j => decide (0 ≤ j) && decide (j ≤ 1000000) && decide (i.natAbs < 2 ^ 64)) fun i j => i ^ j.toNat
def shrB : B → B → Res B := int2 (fun _ j => decide (0 ≤ j)) fun i j => i / 2 ^ j.toNat
def andB : B → B → Res B := int2 (fun _ _ => true) Builtin.bitAnd
/-- x repeated -/
def repS (x : Str) (n : Int) : Str := ⟨(List.replicate n.toNat x.cps.toList).flatten.toArray⟩
def mulB (a b : B) : Res B := match a with
  | .dat (.int i) => (match b with | .dat (.int j) => if i.natAbs.log2 + j.natAbs.log2 < 1000000 then .ok (.dat (.int (i * j))) else .bad | _ => .bad)
  | .dat (.str x) => (match b with | .dat (.int j) => if -1000 ≤ j ∧ j ≤ 1000 ∧ x.length ≤ 1000 then .ok (.dat (.str (repS x j))) else .bad | _ => .bad)
  | _ => .bad
theorem fold_rep (x : Str) : ∀ (k : Nat) (acc : List Nat), (List.replicate k x.cps).foldl (· ++ ·) acc.toArray = (acc ++ (List.replicate k x.cps.toList).flatten).toArray
  | 0, acc => by simp
  | k + 1, acc => by
    rw [List.replicate_succ, List.foldl_cons, List.replicate_succ, List.flatten_cons, ← List.append_assoc]
    have e : acc.toArray ++ x.cps = (acc ++ x.cps.toList).toArray := by simp
    rw [e]
    exact fold_rep x k _
theorem rep_eq (x : Str) (k : Nat) : (⟨(List.replicate k x.cps).foldl (· ++ ·) #[]⟩ : Str) = ⟨(List.replicate k x.cps.toList).flatten.toArray⟩ := by
  have e := fold_rep x k []
  rw [List.nil_append] at e
  exact congrArg Str.mk e
def rRepS : R2 := fun x y H Q => ∃ z j, x = .str z ∧ y = .int j ∧ -1000 ≤ j ∧ j ≤ 1000 ∧ z.length ≤ 1000 ∧ Q (.str (repS z j)) H
theorem op_repS {X : Cx} : OpR X (binaryOp .Mult) rRepS := by
  intro pins s σ H x y v u Q I rx ry h
  obtain ⟨z, j, rfl, rfl, h1, h2, h3, q⟩ := h
  obtain ⟨t, rfl⟩ := rx
  obtain ⟨t', rfl⟩ := ry
  have hr : (decide (j < -(2 ^ 63 : Int)) || decide (j ≥ 2 ^ 63)) = false := by
    have a1 : ¬ j < -(2 ^ 63 : Int) := by omega
    have a2 : ¬ j ≥ 2 ^ 63 := by omega
    rw [decide_eq_false a1, decide_eq_false a2]
    rfl
  have line : sizeLine = 16777216 := sizeLine_eq
  refine PySem.P.mul_str hr (fun hj _ => ?_) (fun hj _ => ?_) ?_
  · have z1 : (1000 : Int) ≤ (2 ^ 63 - 1) / j := by
      rw [Int.le_ediv_iff_mul_le (by omega)]
      omega
    omega
  · have hk : j.toNat ≤ 1000 := by omega
    have hm : z.length * j.toNat ≤ 1000 * 1000 := Nat.mul_le_mul h3 hk
    unfold Builtin.Str.tooLong
    rw [decide_eq_false]
    omega
  · have e0 : ∀ w : Str, w = repS z j → EP X pins σ Q (.str w s.toks) { s with toks := s.toks + 1 } := fun w e => ⟨.str w, H, I.tok _, ⟨_, rfl⟩, by rw [e]; exact q⟩
    by_cases c1 : j < 1
    · rw [if_pos c1]
      refine ⟨by decide, e0 _ ?_⟩
      have : j.toNat = 0 := by omega
      unfold repS
      rw [this]
      rfl
    · rw [if_neg c1]
      by_cases c2 : (j == 1 || z.length == 0) = true
      · rw [if_pos c2]
        refine ⟨.str z, H, I, ⟨_, rfl⟩, ?_⟩
        have e : z = repS z j := by
          unfold repS
          rw [Bool.or_eq_true] at c2
          rcases c2 with c2 | c2
          · have : j = 1 := by simpa using c2
            subst this
            simp
          · have hz : z.length = 0 := by simpa using c2
            have hl : z.cps.toList = [] := by
              have : z.cps.toList.length = 0 := by rw [Array.length_toList]; exact hz
              exact List.length_eq_zero_iff.mp this
            have hc : z.cps = #[] := by
              have := congrArg List.toArray hl
              simpa using this
            rw [hl]
            have : (List.replicate j.toNat ([] : List Nat)).flatten = [] := by simp
            rw [this]
            cases z
            simp only at hc
            rw [hc]
        rw [← e] at q
        exact q
      · rw [if_neg c2, rep_eq]
        refine ⟨?_, e0 _ rfl⟩
        have hk : j.toNat ≤ 1000 := by omega
        have hm : j.toNat * z.length ≤ 1000 * 1000 := Nat.mul_le_mul hk h3
        have e : (⟨(List.replicate j.toNat z.cps.toList).flatten.toArray⟩ : Str).length = j.toNat * z.length := by
          simp [Str.length]
        rw [e]
        omega
def rMul : R2 := fun x y H Q => rI CMulW (fun i j => .int (i * j)) x y H Q ∨ rRepS x y H Q
theorem op_mulF {X : Cx} : OpR X (binaryOp .Mult) rMul := OpR.or op_mulW op_repS
theorem g_mul {g : G} : OpG g rMul mulB := by
  intro F H x y a b Q s ra rb p
  unfold mulB at p
  split at p
  · split at p
    · split at p
      · rename_i hc
        cases ra
        cases rb
        exact .inl ⟨_, _, rfl, rfl, hc, p.int s⟩
      · exact p.elim
    · exact p.elim
  · split at p
    · split at p
      · rename_i hc
        cases ra
        cases rb
        exact .inr ⟨_, _, rfl, rfl, hc.1, hc.2.1, hc.2.2, p.str s⟩
      · exact p.elim
    · exact p.elim
  · exact p.elim
theorem g_sub {g : G} : OpG g (rI0 fun i j => .int (i - j)) subB := fun F H x y a b Q s ra rb p => by
  obtain ⟨i, j, h1, h2, _, q⟩ := g_int2 (C' := fun _ _ => True) (fun _ _ _ => trivial) F H x y a b Q s ra rb p
  exact ⟨i, j, h1, h2, q⟩
theorem g_and {g : G} : OpG g (rI0 fun i j => .int (Builtin.bitAnd i j)) andB := fun F H x y a b Q s ra rb p => by
  obtain ⟨i, j, h1, h2, _, q⟩ := g_int2 (C' := fun _ _ => True) (fun _ _ _ => trivial) F H x y a b Q s ra rb p
  exact ⟨i, j, h1, h2, q⟩
theorem g_div {g : G} : OpG g (rI CDivG fun i j => .int (i.fdiv j)) divB := g_int2 fun i j h => by
  rw [Bool.and_eq_true] at h
  exact ⟨of_decide_eq_true h.1, of_decide_eq_true h.2⟩
theorem g_mod {g : G} : OpG g (rI (fun _ j => j ≠ 0) fun i j => .int (i.fmod j)) modB := g_int2 fun i j h => of_decide_eq_true h
theorem pow_c {i j : Int} (h : (decide (0 ≤ j) && decide (j ≤ 1000000) && decide (i.natAbs < 2 ^ 64)) = true) : CPow i j := by
  rw [Bool.and_eq_true, Bool.and_eq_true] at h
  exact ⟨of_decide_eq_true h.1.1, of_decide_eq_true h.1.2, of_decide_eq_true h.2⟩
theorem g_shl {g : G} : OpG g (rI CPow fun i j => .int (i * 2 ^ j.toNat)) shlB := g_int2 fun i j h => pow_c h
theorem g_pow {g : G} : OpG g (rI CPow fun i j => .int (i ^ j.toNat)) powB := g_int2 fun i j h => pow_c h
theorem g_shr {g : G} : OpG g (rI (fun _ j => 0 ≤ j) fun i j => .int (i / 2 ^ j.toNat)) shrB := g_int2 fun i j h => of_decide_eq_true h
end Fn
namespace Fn
open PySem PySem.Spec PyProof.Rows L2
/-! #### ==, != -/
def datOf : B → D
  | .dat d => d
  | .own m => frzM m
  | .vw m => frzM m
  | .bor m => frzM m
  | .scr ns => .lst (ns.map .int)
/-- == of data; True and 1 are alike to it -/
def eqD (d e : D) : Res Bool := if (SeqAt.shaped (toPy d) && SeqAt.shaped (toPy e)) = true then .ok (PyData.eqv (toPy d) (toPy e)) else .bad
def eqB (a b : B) : Res B := (eqD (datOf a) (datOf b)).bind fun k => .ok (.dat (.bl k))
def neB (a b : B) : Res B := (eqD (datOf a) (datOf b)).bind fun k => .ok (.dat (.bl !k))
section
variable {g : G} {F H : Hp} {v : V}
theorem frz_dp {p : Addr} {o : HO} {m : M} (s : Sm g F H) (h : H p = some o) (r : RpM g.K g.fa F o m) (c : (toPy (frzM m)).canLay0 = true) : Dp g.K H (.ref p) (toPy (frzM m)) := by
  cases r with
  | l r =>
    simp only [frzM, toPy, PyData.canLay0] at c ⊢
    exact .lst (SqL.of h) (RpAll.dp s.fh r c)
  | k _ _ => simp [frzM, toPy, PyData.canLay0] at c
  | t _ _ => simp [frzM, toPy, PyData.canLay0] at c
theorem RR.dp {b : B} (s : Sm g F H) (r : RR g F H v b) (c : (toPy (datOf b)).canLay0 = true) : Dp g.K H v (toPy (datOf b)) := by
  cases b with
  | dat d => exact Rp.dp s.fh r c
  | own m => exact r.elim
  | vw m =>
    obtain ⟨p, o, rfl, h, q⟩ := r
    exact frz_dp s h q c
  | bor m =>
    obtain ⟨p, o, rfl, h, q⟩ := r
    exact frz_dp s (s.gh _ _ h) q c
  | scr ns =>
    obtain ⟨p, rfl, h⟩ := r
    simp only [datOf, toPy, PyData.canLay0] at c ⊢
    exact .lst (s.gh.seq h) (RpAll.dp s.fh (K := g.K) (fa := g.fa) (RpAll.of_ints ns) c)
end
theorem g_eq {g : G} {K : PySem.W.Frag} (hK : g.K = K) : OpG g (rEqD K) eqB := by
  subst hK
  intro F H x y a b Q s ra rb p
  unfold eqB eqD at p
  split at p
  · rename_i h
    rw [Bool.and_eq_true] at h
    exact ⟨_, _, ra.dp s (SeqAt.canLay_of_shaped h.1), rb.dp s (SeqAt.canLay_of_shaped h.2), h.1, h.2, p.bl s⟩
  · exact p.elim
theorem g_ne {g : G} {K : PySem.W.Frag} (hK : g.K = K) : OpG g (rNeD K) neB := by
  subst hK
  intro F H x y a b Q s ra rb p
  unfold neB eqD at p
  split at p
  · rename_i h
    rw [Bool.and_eq_true] at h
    exact ⟨_, _, ra.dp s (SeqAt.canLay_of_shaped h.1), rb.dp s (SeqAt.canLay_of_shaped h.2), h.1, h.2, p.bl s⟩
  · exact p.elim
/-! #### <, <=, >, >= -/
def notNone : PyData → Bool
  | .none => false
  | _ => true
def ltPy (x y : PyData) : Res Bool := if (SeqAt.shaped x && (SeqAt.shaped y && (PySem.W.alike x y && notNone x))) = true then .ok (PySem.W.dataLt x y) else .bad
def ltD (d e : D) : Res Bool := match d with
  | .int i => (match e with | .int j => .ok (decide (i < j)) | _ => .bad)
  | .str x => (match e with | .str y => .ok (decide (x.cps.toList < y.cps.toList)) | _ => .bad)
  | d => ltPy (toPy d) (toPy e)
def ltB (a b : B) : Res B := (ltD (datOf a) (datOf b)).bind fun k => .ok (.dat (.bl k))
def cmpI (f : Int → Int → Bool) (a b : B) : Res B := match a with
  | .dat (.int i) => (match b with | .dat (.int j) => .ok (.dat (.bl (f i j))) | _ => .bad)
  | _ => .bad
def rLtD (K : PySem.W.Frag) : R2 := fun x y H Q => ∃ d e, Dp K H x d ∧ Dp K H y e ∧ PySem.W.alike d e = true ∧ d ≠ .none ∧ d.depth ≤ 64 ∧ Q (.bl (PySem.W.dataLt d e)) H
theorem op_ltD {X : Cx} (hu : X.A.units + 64 < cLine) : OpR X (compareOp .Lt) (rLtD X.K) := by
  intro pins s σ H x y v u Q I rx ry h
  obtain ⟨d, e, hd, he, ha, hn, hs, q⟩ := h
  obtain ⟨as, r1⟩ := Dp.reads I d x v hd rx
  obtain ⟨bs, r2⟩ := Dp.reads I e y u he ry
  exact PySem.W.rcLt_alike d e X.A s v u as bs r1 r2 ha hn (by have := Nat.min_le_left d.depth e.depth; omega) X.prog X.w X.xe _ ⟨.bl _, H, I, rfl, q⟩
def rLt (K : PySem.W.Frag) : R2 := fun x y H Q => rI0 (fun i j => .bl (decide (i < j))) x y H Q ∨ (∃ i j, x = .str i ∧ y = .str j ∧ Q (.bl (decide (i.cps.toList < j.cps.toList))) H) ∨ rLtD K x y H Q
theorem op_ltF {X : Cx} (hu : X.A.units + 64 < cLine) : OpR X (compareOp .Lt) (rLt X.K) := OpR.or op_lt (OpR.or op_lt_str (op_ltD hu))
theorem rr_int {g : G} {F H : Hp} {v : V} {b : B} {i : Int} (r : RR g F H v b) (h : datOf b = .int i) : v = .int i := by
  cases b with
  | dat d => cases h; cases r; rfl
  | own m => exact r.elim
  | vw m => cases m <;> cases h
  | bor m => cases m <;> cases h
  | scr ns => cases h
theorem rr_str {g : G} {F H : Hp} {v : V} {b : B} {i : Str} (r : RR g F H v b) (h : datOf b = .str i) : v = .str i := by
  cases b with
  | dat d => cases h; cases r; rfl
  | own m => exact r.elim
  | vw m => cases m <;> cases h
  | bor m => cases m <;> cases h
  | scr ns => cases h
theorem g_lt {g : G} {K : PySem.W.Frag} (hK : g.K = K) : OpG g (rLt K) ltB := by
  subst hK
  intro F H x y a b Q s ra rb p
  unfold ltB ltD at p
  split at p
  · rename_i i ha
    split at p
    · rename_i j hb
      exact .inl ⟨i, j, rr_int ra ha, rr_int rb hb, p.bl s⟩
    · exact p.elim
  · rename_i i ha
    split at p
    · rename_i j hb
      exact .inr (.inl ⟨i, j, rr_str ra ha, rr_str rb hb, p.bl s⟩)
    · exact p.elim
  · by_cases h : (SeqAt.shaped (toPy (datOf a)) && (SeqAt.shaped (toPy (datOf b)) && (PySem.W.alike (toPy (datOf a)) (toPy (datOf b)) && notNone (toPy (datOf a))))) = true
    · unfold ltPy at p
      rw [if_pos h] at p
      simp only [Bool.and_eq_true] at h
      obtain ⟨h1, h2, h3, h4⟩ := h
      exact .inr (.inr ⟨_, _, ra.dp s (SeqAt.canLay_of_shaped h1), rb.dp s (SeqAt.canLay_of_shaped h2), h3, fun e => by rw [e] at h4; exact Bool.false_ne_true h4, SeqAt.depth_of_shaped h1, p.bl s⟩)
    · unfold ltPy at p
      rw [if_neg h] at p
      exact p.elim
theorem g_cmpI {g : G} {f : Int → Int → Bool} : OpG g (rI0 fun i j => .bl (f i j)) (cmpI f) := by
  intro F H x y a b Q s ra rb p
  unfold cmpI at p
  split at p
  · split at p
    · cases ra
      cases rb
      exact ⟨_, _, rfl, rfl, p.bl s⟩
    · exact p.elim
  · exact p.elim
/-! #### is, is not; in, not in -/
def isNone : D → Bool
  | .non => true
  | _ => false
def isB (neg : Bool) (a b : B) : Res B := match b with
  | .dat .non => (match a with | .own _ => .bad | a => .ok (.dat (.bl (isNone (datOf a) != neg))))
  | .dat (.bl y) => (match a with | .dat (.bl x) => .ok (.dat (.bl (decide (x = y) != neg))) | _ => .bad)
  | _ => .bad
def rIs : R2 := fun x y H Q => (y = .non ∧ Q (.bl (decide (x = .non))) H) ∨ rIsB x y H Q
def rIsNot : R2 := fun x y H Q => (y = .non ∧ Q (.bl (!decide (x = .non))) H) ∨ rNotB x y H Q
theorem op_isF {X : Cx} : OpR X (compareOp .Is) rIs := OpR.or op_isN op_isBl
theorem op_isNotF {X : Cx} : OpR X (compareOp .IsNot) rIsNot := OpR.or op_notN op_notBl
theorem rr_none {g : G} {F H : Hp} {v : V} {b : B} (r : RR g F H v b) : decide (v = .non) = isNone (datOf b) := by
  cases b with
  | dat d => cases r <;> simp [datOf, isNone]
  | own m => exact r.elim
  | vw m =>
    obtain ⟨p, o, rfl, _⟩ := r
    cases m <;> simp [datOf, frzM, isNone]
  | bor m =>
    obtain ⟨p, o, rfl, _⟩ := r
    cases m <;> simp [datOf, frzM, isNone]
  | scr ns =>
    obtain ⟨p, rfl, _⟩ := r
    simp [datOf, isNone]
theorem g_is {g : G} : OpG g rIs (isB false) := by
  intro F H x y a b Q s ra rb p
  unfold isB at p
  split at p
  · cases rb
    split at p
    · exact p.elim
    · have q := p.bl s
      refine .inl ⟨rfl, ?_⟩
      rw [rr_none ra]
      simpa using q
  · split at p
    · cases ra
      cases rb
      have q := p.bl s
      exact .inr ⟨_, _, rfl, rfl, by simpa using q⟩
    · exact p.elim
  · exact p.elim
theorem g_isNot {g : G} : OpG g rIsNot (isB true) := by
  intro F H x y a b Q s ra rb p
  unfold isB at p
  split at p
  · cases rb
    split at p
    · exact p.elim
    · have q := p.bl s
      refine .inl ⟨rfl, ?_⟩
      rw [rr_none ra]
      simpa using q
  · split at p
    · cases ra
      cases rb
      have q := p.bl s
      exact .inr ⟨_, _, rfl, rfl, by simpa using q⟩
    · exact p.elim
  · exact p.elim
/-- x in xs: a text among signs of a text; a flat thing among flat things; data among a list of data; a key of a dict -/
def flatD : D → Bool
  | .int _ => true
  | .str _ => true
  | _ => false
def keyD : D → Option Key
  | .int i => some (.inl i)
  | .str x => some (.inr x)
  | _ => none
def strIn (x y : Str) : Bool := !(Builtin.Str.occurrences y x 0 y.length 1).isEmpty
end Fn
namespace Fn
open PySem PySem.Spec PyProof.Rows L2
/-! ### sorted -/
def leD : D → D → Bool := PySem.W.dataLe false toPy
def isTup1 : PyData → Bool
  | .tuple (_ :: _) => true
  | _ => false
def isPlain : PyData → Bool
  | .none => false
  | .tuple _ => false
  | _ => true
def sortOk (ds : List D) : Bool := (toPys ds).all SeqAt.shaped && ((toPys ds).all (fun a => (toPys ds).all fun b => PySem.W.alike a b) && ((toPys ds).all isTup1 || (toPys ds).all isPlain))
theorem sortOk_iff {ds : List D} (h : sortOk ds = true) : (∀ d ∈ ds, SeqAt.shaped (toPy d) = true) ∧ PySem.W.AllAlike (ds.map toPy) ∧ PySem.W.Sortable (ds.map toPy) := by
  unfold sortOk at h
  rw [toPys_map] at h
  simp only [Bool.and_eq_true, Bool.or_eq_true, List.all_eq_true] at h
  obtain ⟨h1, h2, h3⟩ := h
  refine ⟨fun d hd => h1 _ (List.mem_map.mpr ⟨d, hd, rfl⟩), fun d hd d' hd' => h2 d hd d' hd', ?_⟩
  rcases h3 with h3 | h3
  · refine .inl fun d hd => ?_
    have q := h3 d hd
    cases d with
    | tuple xs =>
      cases xs with
      | nil => cases q
      | cons x r => exact ⟨x, r, rfl⟩
    | _ => cases q
  · refine .inr fun d hd => ?_
    have q := h3 d hd
    constructor
    · rintro rfl
      cases q
    · rintro xs rfl
      cases q
mutual
theorem reads_lt {h : Heap} : ∀ (d : PyData) (v : Value) (as : List Addr), d.canLay0 = true → Reads h v d as → ∀ a ∈ as, a < h.objs.size
  | .none, _, _, _, r => by cases r; intro a ha; cases ha
  | .bool _, _, _, _, r => by cases r; intro a ha; cases ha
  | .int _, _, _, _, r => by cases r; intro a ha; cases ha
  | .str _, _, _, _, r => by cases r; intro a ha; cases ha
  | .list xs, _, _, c, r => by
    simp only [PyData.canLay0] at c
    cases r with
    | list h1 h2 h3 h4 =>
      intro a ha
      rcases List.mem_cons.mp ha with e | ha
      · rw [e]; exact Heap.lt_size h1
      · exact readsAll_lt xs _ _ c h4 a ha
  | .tuple xs, _, _, c, r => by
    simp only [PyData.canLay0] at c
    cases r with
    | tuple h1 h2 h3 h4 =>
      intro a ha
      exact readsAll_lt xs _ _ c h4 a ha
  | .dict _, _, _, c, r => by simp [PyData.canLay0] at c
theorem readsAll_lt {h : Heap} : ∀ (ds : List PyData) (vs : List Value) (as : List Addr), PyData.canLayAll0 ds = true → ReadsAll h vs ds as → ∀ a ∈ as, a < h.objs.size
  | [], _, _, _, r => by cases r; intro a ha; cases ha
  | d :: ds, _, _, c, r => by
    simp only [PyData.canLayAll0, Bool.and_eq_true] at c
    cases r with
    | cons h1 h2 =>
      intro a ha
      rcases List.mem_append.mp ha with hm | hm
      · exact reads_lt d _ _ c.1 h1 a hm
      · exact readsAll_lt ds _ _ c.2 h2 a hm
end
section
variable {X : Cx} {pins : List (Addr × Obj)} {σ : L2.St} {H : Hp} {s : Shared}
/-- values that read as data, in a row -/
theorem each_of (I : Inv X pins σ H s) : ∀ {xs : List V} {us : List Value} {ds : List D}, Vals xs us → DpAll X.K H xs (toPys ds) →
    PySem.W.EachIs (fun v (b : V × D) => RelV b.1 v) us (xs.zip ds) ∧ PySem.W.EachIs (fun v (b : V × D) => ∃ as, Reads s.heap v (toPy b.2) as) us (xs.zip ds)
  | [], _, [], .nil, _ => ⟨.nil, .nil⟩
  | [], _, _ :: _, .nil, h => by
    simp only [toPys] at h
    cases h
  | _ :: _, _, [], .cons _ _, h => by
    simp only [toPys] at h
    cases h
  | x :: xs, u :: us, d :: ds, .cons r t, h => by
    simp only [toPys] at h
    cases h with
    | cons h1 h2 =>
      obtain ⟨e1, e2⟩ := each_of I t h2
      exact ⟨.cons r e1, .cons (Dp.reads I _ _ _ h1 r) e2⟩
theorem each_vals : ∀ {us : List Value} {bs : List (V × D)}, PySem.W.EachIs (fun v (b : V × D) => RelV b.1 v) us bs → Vals (bs.map (·.1)) us
  | _, _, .nil => .nil
  | _, _, .cons r t => .cons r (each_vals t)
/-- the items in order, with their data -/
def sortZ (xs : List V) (ds : List D) : List (V × D) := (xs.zip ds).mergeSort (PySem.W.dataLe false fun b => toPy b.2)
theorem zip_snd : ∀ {xs : List V} {ds : List D}, xs.length = ds.length → (xs.zip ds).map (·.2) = ds
  | [], [], _ => rfl
  | _ :: _, _ :: _, h => by
    rw [List.zip_cons_cons, List.map_cons, zip_snd (by simpa using h)]
  | [], _ :: _, h => by simp at h
  | _ :: _, [], h => by simp at h
theorem sortZ_snd {xs : List V} {ds : List D} (h : xs.length = ds.length) : (sortZ xs ds).map (·.2) = ds.mergeSort leD := by
  unfold sortZ leD
  have e := List.map_mergeSort (r := PySem.W.dataLe false fun b : V × D => toPy b.2) (s := PySem.W.dataLe false toPy) (f := fun b : V × D => b.2) (l := xs.zip ds) (fun a _ b _ => rfl)
  rw [zip_snd h] at e
  exact e
theorem rp_zip {K : PySem.W.Frag} {fa : Nat → Option Addr} {F : Hp} : ∀ {xs : List V} {ds : List D}, RpAll K fa F xs ds → ∀ b ∈ xs.zip ds, Rp K fa F b.1 b.2
  | _, _, .nil, b, hb => by simp at hb
  | _, _, .cons h r, b, hb => by
    rw [List.zip_cons_cons] at hb
    rcases List.mem_cons.mp hb with rfl | hb
    · exact h
    · exact rp_zip r b hb
theorem rp_unzip {K : PySem.W.Frag} {fa : Nat → Option Addr} {F : Hp} : ∀ {bs : List (V × D)}, (∀ b ∈ bs, Rp K fa F b.1 b.2) → RpAll K fa F (bs.map (·.1)) (bs.map (·.2))
  | [], _ => .nil
  | b :: bs, h => .cons (h b List.mem_cons_self) (rp_unzip fun c hc => h c (List.mem_cons_of_mem _ hc))
theorem sortZ_rp {K : PySem.W.Frag} {fa : Nat → Option Addr} {F : Hp} {xs : List V} {ds : List D} (r : RpAll K fa F xs ds) : RpAll K fa F ((sortZ xs ds).map (·.1)) (ds.mergeSort leD) := by
  rw [← sortZ_snd r.len]
  exact rp_unzip fun b hb => rp_zip r b ((List.mergeSort_perm _ _).mem_iff.mp hb)
theorem map_toPy_zip {xs : List V} {ds : List D} (h : xs.length = ds.length) : (xs.zip ds).map (fun b => toPy b.2) = ds.map toPy := by
  have e : (xs.zip ds).map (fun b => toPy b.2) = ((xs.zip ds).map (·.2)).map toPy := by rw [List.map_map]; rfl
  rw [e, zip_snd h]
def rSortF (K : PySem.W.Frag) : List V → Hp → VK → Prop := fun vs H Q => ∃ (a : Addr) (xs : List V) (ds : List D), vs = [.ref a] ∧ SqL K H a xs ∧ DpAll K H xs (toPys ds) ∧ xs.length = ds.length ∧ sortOk ds = true ∧
  ∀ p, H p = none → Q (.ref p) (upd H p (.lst ((sortZ xs ds).map (·.1))))
theorem cr_sortF (hu : X.A.units + 100 < cLine) : CallR X (.builtin "sorted") (rSortF X.K) := by
  intro pins s σ H vs us Q I r h
  obtain ⟨a, xs, ds, rfl, hs, hd, hl, ho, q⟩ := h
  obtain ⟨its, rv, pl, hz⟩ := I.list hs
  rw [Vals.ref1 r]
  obtain ⟨o1, o2, o3⟩ := sortOk_iff ho
  obtain ⟨e1, e2⟩ := each_of I rv hd
  have hlz : (xs.zip ds).length = xs.length := by rw [List.length_zip, ← hl]; exact Nat.min_self _
  refine PySem.W.sorted_data (bs := xs.zip ds) (enc := fun b => toPy b.2) pl.isList e1 e2 (by rw [map_toPy_zip hl]; exact o2) (by rw [map_toPy_zip hl]; exact o3) (by rw [hlz]; exact hz) (fun b hb => ?_) fun out ho1 ho2 => ?_
  · have := SeqAt.depth_of_shaped (o1 b.2 (List.of_mem_zip hb).2)
    omega
  · obtain ⟨ep, he'⟩ := PyProof.Rows.sortedAll_at s.heap its out.toArray
    have hv : Vals ((sortZ xs ds).map (·.1)) out := each_vals ho2
    have hlen : ((sortZ xs ds).map (·.1)).length ≤ sizeLine := by rw [hv.length, ho1, hlz]; exact hz
    exact ⟨.ref _, upd H (s.heap.objs.size + 1) (.lst ((sortZ xs ds).map (·.1))), I.laid (t' := s.toks) (fun _ _ => PyProof.Rows.sortedAll_old) (Nat.le_succ _) ⟨hlen, out, ep, hv, he'⟩, rfl, q _ (I.hok.fresh (Nat.le_succ _))⟩
/-- behind the collecting of what is walked: the new list is sorted -/
theorem sort_new {A : Around} {E : Value → Shared → Prop} {xs : List V} {us : List Value} {ds : List D} {Q : VK} {tk : Nat} {h' : Heap} (hu : A.units + 100 < cLine) (I : Inv X pins σ H { s with heap := h', toks := tk }) (rv : Vals xs us) (hd : DpAll X.K H xs (toPys ds)) (hl : xs.length = ds.length)
    (ho : sortOk ds = true) (hz : xs.length ≤ sizeLine) (q : ∀ p, H p = none → Q (.ref p) (upd H p (.lst ((sortZ xs ds).map (·.1))))) :
    wpAny (model X.prog X.w) A (call (.builtin "list.sort") [.ref h'.objs.size]) (fun _ s' => EP X pins σ Q (.ref h'.objs.size) s') E { s with heap := h'.push (seqObj "list" us.toArray 0), toks := tk } := by
  obtain ⟨o1, o2, o3⟩ := sortOk_iff ho
  obtain ⟨e1, e2⟩ := each_of I rv hd
  have hlz : (xs.zip ds).length = xs.length := by rw [List.length_zip, ← hl]; exact Nat.min_self _
  have hoL : (h'.push (seqObj "list" us.toArray 0)).get? h'.objs.size = some (seqObj "list" us.toArray 0) := Heap.get?_push_size _ rfl
  have e3 : PySem.W.EachIs (fun v (b : V × D) => ∃ as, Reads (h'.push (seqObj "list" us.toArray 0)) v (toPy b.2) as ∧ h'.objs.size ∉ as) us (xs.zip ds) := by
    have go : ∀ {vs : List Value} {bs : List (V × D)}, (∀ b ∈ bs, SeqAt.shaped (toPy b.2) = true) → PySem.W.EachIs (fun v (b : V × D) => ∃ as, Reads h' v (toPy b.2) as) vs bs → PySem.W.EachIs (fun v (b : V × D) => ∃ as, Reads (h'.push (seqObj "list" us.toArray 0)) v (toPy b.2) as ∧ h'.objs.size ∉ as) vs bs := by
      intro vs bs hs e
      induction e with
      | nil => exact .nil
      | cons r t ih =>
        obtain ⟨as, rr⟩ := r
        refine .cons ⟨as, PyProof.Rows.Reads.keeps (fun b o e => Heap.get?_push_of_some _ e) rr, fun hm => Nat.lt_irrefl _ (reads_lt _ _ _ (SeqAt.canLay_of_shaped (hs _ List.mem_cons_self)) rr _ hm)⟩ (ih fun b hb => hs b (List.mem_cons_of_mem _ hb))
    exact go (fun b hb => o1 b.2 (List.of_mem_zip hb).2) e2
  refine PySem.W.list_sort_data (bs := xs.zip ds) (enc := fun b => toPy b.2) (s := { s with heap := h'.push (seqObj "list" us.toArray 0), toks := tk }) hoL e1 e3
    (by rw [map_toPy_zip hl]; exact o2) (by rw [map_toPy_zip hl]; exact o3) (by rw [hlz]; exact hz) (fun b hb => ?_) fun out ho1 ho2 => ?_
  · have := SeqAt.depth_of_shaped (o1 b.2 (List.of_mem_zip hb).2)
    omega
  · have hv : Vals ((sortZ xs ds).map (·.1)) out := each_vals ho2
    have hlen : ((sortZ xs ds).map (·.1)).length ≤ sizeLine := by rw [hv.length, ho1, hlz]; exact hz
    obtain ⟨e', he'⟩ := PyProof.Rows.sortedHeap_at (vs := us) (out := out.toArray) hoL
    refine ⟨.ref h'.objs.size, upd H h'.objs.size (.lst ((sortZ xs ds).map (·.1))), I.laid (t' := tk) (fun b u e => ?_) (Nat.le_refl _) (show ObjOk X.prog X.w _ _ _ (.lst ((sortZ xs ds).map (·.1))) from ⟨hlen, out, e', hv, he'⟩), rfl, q _ (I.hok.fresh (Nat.le_refl _))⟩
    have hb : b < h'.objs.size := Heap.lt_size e
    rw [PyProof.Rows.sortedHeap_old (Nat.ne_of_lt hb) (by rw [size_push']; exact Nat.lt_succ_of_lt hb)]
    exact Heap.get?_push_of_some _ e
end
section
variable {X : Cx}
/-- sorted of a dict -/
def rSortDk (K : PySem.W.Frag) : List V → Hp → VK → Prop := fun vs H Q => ∃ (a : Addr) (kvs : List (Key × V)) (ds : List D), vs = [.ref a] ∧ Rd H a (.dK kvs) ∧ DpAll K H (kvs.map fun kv => kV kv.1) (toPys ds) ∧ kvs.length = ds.length ∧ sortOk ds = true ∧
  ∀ p, H p = none → Q (.ref p) (upd H p (.lst ((sortZ (kvs.map fun kv => kV kv.1) ds).map (·.1))))
theorem cr_sortDk (hc : X.calm = true) (hu : X.A.units + 200 < cLine) : CallR X (.builtin "sorted") (rSortDk X.K) := by
  intro pins s σ H xs us Q I r q
  obtain ⟨a, kvs, ds, ex, hd, hdp, hl, ho, q⟩ := q
  subst ex
  obtain ⟨u, eu, rx⟩ := vals1 r
  subst eu
  cases rx
  obtain ⟨z, lo, vs, rel, dd⟩ := dk_rd I.hok hd
  obtain ⟨ep, hat⟩ := dd.dictAt
  have hl2 : kvs.length = vs.length := Paired.length rel
  have h16 : vs.length ≤ sizeLine := by rw [← hl2]; exact z
  refine Calls.call_function_entry PyProof.Rows.kind_sorted PyProof.Rows.plain_sorted PyProof.Rows.entry_sorted (PyProof.Rows.args_sorted1 _) ?_
  unfold Builtin.«sorted»
  refine wpAny_bind (m := checkCount "sorted" 1 1 _) (wpAny_pure ?_)
  refine wpAny_bind (PySem.W.kdu_collect (A := X.A.in1) (PySem.W.kdl_dict (knd := mixKind X.prog X.w) (kvs := vs) (ep := ep) lo) (I.ok.hd hc) hat h16 fun h' tk acc hk hacc => ?_)
  have I1 : Inv X pins σ H { s with heap := h', toks := tk } := I.kept hk
  have rv : Vals (kvs.map fun kv => kV kv.1) acc.toList := by
    refine vals_of_at (by rw [List.length_map, hl2, ← hacc.1]; exact Array.length_toList.symm) fun j x w h1 h2 => ?_
    obtain ⟨k, y, hky, hi⟩ := hacc.2 j w (by rw [← Array.getElem?_toList]; exact h2)
    have e1 : (kvs.map (·.1))[j]? = some k := by
      rw [KV.keys rel, List.getElem?_map, hky] <;> rfl
    have e2 : (kvs.map fun kv => kV kv.1)[j]? = some (kV k) := by
      have e3 : (kvs.map fun kv => kV kv.1) = (kvs.map (·.1)).map kV := by rw [List.map_map] <;> rfl
      rw [e3, List.getElem?_map, e1] <;> rfl
    rw [e2] at h1
    cases h1
    exact keyIs_rel hi
  refine wpAny_bind (wpAny_newList ?_ (by have e : acc.toList.length = acc.size := by {simp}; rw [e, hacc.1]; exact h16))
  refine wpAny_bind (wpAny_holding (wpAny_mono (sort_new (A := X.A.in1) (E := X.xe) (s := s) (Q := Q) (by show X.A.units + 1 + 100 < cLine; omega) I1 rv hdp (by rw [List.length_map]; exact hl) ho (by rw [List.length_map]; exact z) q) (fun _ s' x => ?_) fun _ _ e => e))
  exact wpAny_pure ⟨_, rfl, x⟩
end
end Fn
namespace Fn
open PySem PySem.Spec PyProof.Rows L2
def keyB : Key → D
  | .inl i => .int i
  | .inr x => .str x
/-- a key of a dict whose keys are tuples, as data -/
def kD (k : List Key) : D := .tup (k.map keyB)
section
variable {X : Cx}
def rSortDt (K : PySem.W.Frag) : List V → Hp → VK → Prop := fun vs H Q => ∃ (a : Addr) (kvs : List (List Key × V)), vs = [.ref a] ∧ Rd H a (.dT kvs) ∧ sortOk (kvs.map fun kv => kD kv.1) = true ∧
  ∀ p bs, H p = none → IsKeys H kvs bs → Q (.ref p) (upd H p (.lst ((sortZ (bs.map V.ref) (kvs.map fun kv => kD kv.1)).map (·.1))))
theorem kV_dp {K : PySem.W.Frag} {H : Hp} : ∀ (k : List Key), DpAll K H (k.map kV) (toPys (k.map keyB))
  | [] => .nil
  | .inl i :: r => .cons (.int i) (kV_dp r)
  | .inr x :: r => .cons (.str x) (kV_dp r)
theorem keys_dp {K : PySem.W.Frag} {H : Hp} : ∀ {kvs : List (List Key × V)} {bs : List Addr}, IsKeys H kvs bs → DpAll K H (bs.map V.ref) (toPys (kvs.map fun kv => kD kv.1))
  | _, _, .nil => .nil
  | _, _, .cons h r => .cons (.tup (SqT.of h) (kV_dp _)) (keys_dp r)
theorem cr_sortDt (hc : X.calm = true) (hu : X.A.units + 200 < cLine) : CallR X (.builtin "sorted") (rSortDt X.K) := by
  intro pins s σ H xs us Q I r h
  obtain ⟨d, kvs, rfl, hd, ho1, q⟩ := h
  obtain ⟨u, rfl, rx⟩ := r.one
  cases rx
  obtain ⟨z, hs, ks, pr, o, es, ep, ho, hx, hdt, he, hn⟩ := (show ObjOk X.prog X.w H s.heap d (.dT kvs) from hd.ok I.hok)
  have l1 : es.size = ks.length := size_of_entries he
  have l2 : kvs.length = ks.length := Paired.length pr
  refine Calls.call_function_entry PyProof.Rows.kind_sorted PyProof.Rows.plain_sorted PyProof.Rows.entry_sorted (PyProof.Rows.args_sorted1 _) ?_
  unfold Builtin.«sorted»
  refine wpAny_bind (m := checkCount "sorted" 1 1 _) (wpAny_pure ?_)
  refine wpAny_bind (PySem.W.kdu_collect (A := X.A.in1) (kdl_raw hs hx hdt) (I.ok.hd hc) ho (by omega) fun h' tk acc' hk it => ?_)
  have ea : acc'.toList = ks.map fun x => Value.ref x.2.1 := by
    have hl : acc'.toList.length = ks.length := by rw [Array.length_toList, it.1]; exact l1
    apply List.ext_getElem?
    intro j
    rw [List.getElem?_map]
    cases hj : acc'.toList[j]? with
    | none =>
      have h1 := List.getElem?_eq_none_iff.mp hj
      rw [List.getElem?_eq_none (by omega)]
      all_goals rfl
    | some v =>
      obtain ⟨en, hen, hv⟩ := it.2 j v (by rw [← Array.getElem?_toList]; exact hj)
      have qe := entry_at he j
      rw [hen] at qe
      cases hb : ks[j]? with
      | none =>
        rw [hb] at qe
        exact nomatch (show some en = none from qe)
      | some b =>
        rw [hb] at qe
        have e2 : en = entryOfKey (tupleKind (mixKind X.prog X.w)) b := Option.some.inj qe
        rw [hv, e2]
        all_goals rfl
  have eb : acc'.toList = (ks.map fun x => x.2.1).map Value.ref := by rw [ea, List.map_map]; all_goals rfl
  have rv : Vals ((ks.map fun x => x.2.1).map V.ref) acc'.toList := by rw [eb]; exact vals_refs _
  have hz : ((ks.map fun x => x.2.1).map V.ref).length ≤ sizeLine := by rw [List.length_map, List.length_map]; omega
  have I1 : Inv X pins σ H { s with heap := h', toks := tk } := I.kept hk
  have hK : IsKeys H kvs (ks.map fun x => x.2.1) := isKeys_of pr
  refine wpAny_bind (wpAny_newList ?_ (by rw [← rv.length]; exact hz))
  refine wpAny_bind (wpAny_holding (wpAny_mono (sort_new (A := X.A.in1) (E := X.xe) (s := s) (Q := Q) (by show X.A.units + 1 + 100 < cLine; omega) I1 rv (keys_dp hK) (by rw [List.length_map, List.length_map, List.length_map]; exact l2.symm) ho1 hz (fun p hp => q p _ hp hK)) (fun _ s' x => ?_) fun _ _ e => e))
  exact wpAny_pure ⟨_, rfl, x⟩
end
end Fn
namespace Fn
open PySem PySem.Spec PyProof.Rows L2
/-! ### dicts as data -/
def getK {κ : Type} [DecidableEq κ] (kvs : List (κ × D)) (k : κ) : Option D := (kvs.find? fun kv => decide (kv.1 = k)).map (·.2)
def putD {κ : Type} [DecidableEq κ] (kvs : List (κ × D)) (k : κ) (v : D) : List (κ × D) :=
  if (kvs.any fun kv => decide (kv.1 = k)) = true then kvs.map (fun kv => if kv.1 = k then (kv.1, v) else kv) else kvs ++ [(k, v)]
section
variable {κ : Type} [DecidableEq κ] {K : PySem.W.Frag} {fa : Nat → Option Addr} {F : Hp}
theorem get_rel : ∀ {kvs : List (κ × V)} {kds : List (κ × D)}, kvs.map (·.1) = kds.map (·.1) → RpAll K fa F (kvs.map (·.2)) (kds.map (·.2)) → ∀ k,
    (valV kvs k = none ∧ getK kds k = none) ∨ ∃ v d, valV kvs k = some v ∧ getK kds k = some d ∧ Rp K fa F v d
  | [], [], _, _, _ => .inl ⟨rfl, rfl⟩
  | [], _ :: _, h, _, _ => by simp at h
  | _ :: _, [], h, _, _ => by simp at h
  | (a, v) :: kvs, (b, d) :: kds, h, r, k => by
    simp only [List.map_cons, List.cons.injEq] at h r
    obtain ⟨e, h⟩ := h
    subst e
    cases r with
    | cons r1 r2 =>
      by_cases c : a = k
      · refine .inr ⟨v, d, ?_, ?_, r1⟩
        · simp [valV, List.find?_cons, c]
        · simp [getK, List.find?_cons, c]
      · rcases get_rel h r2 k with ⟨h1, h2⟩ | ⟨v', d', h1, h2, h3⟩
        · refine .inl ⟨?_, ?_⟩
          · simpa [valV, List.find?_cons, c] using h1
          · simpa [getK, List.find?_cons, c] using h2
        · refine .inr ⟨v', d', ?_, ?_, h3⟩
          · simpa [valV, List.find?_cons, c] using h1
          · simpa [getK, List.find?_cons, c] using h2
theorem any_rel : ∀ {kvs : List (κ × V)} {kds : List (κ × D)}, kvs.map (·.1) = kds.map (·.1) → ∀ k, (kvs.any fun kv => decide (kv.1 = k)) = (kds.any fun kv => decide (kv.1 = k))
  | [], [], _, _ => rfl
  | [], _ :: _, h, _ => by simp at h
  | _ :: _, [], h, _ => by simp at h
  | (a, v) :: kvs, (b, d) :: kds, h, k => by
    simp only [List.map_cons, List.cons.injEq] at h
    obtain ⟨e, h⟩ := h
    subst e
    simp only [List.any_cons]
    rw [any_rel h k]
theorem put_keys : ∀ {kvs : List (κ × V)} {kds : List (κ × D)}, kvs.map (·.1) = kds.map (·.1) → ∀ k v d, (putK kvs k v).map (·.1) = (putD kds k d).map (·.1) := by
  intro kvs kds h k v d
  unfold putK putD
  rw [any_rel h k]
  split
  · rw [List.map_map, List.map_map]
    have e1 : ((fun x : κ × V => x.1) ∘ fun kv : κ × V => if kv.1 = k then (kv.1, v) else kv) = fun x => x.1 := by
      funext x
      show (if x.1 = k then (x.1, v) else x).1 = x.1
      split <;> rfl
    have e2 : ((fun x : κ × D => x.1) ∘ fun kv : κ × D => if kv.1 = k then (kv.1, d) else kv) = fun x => x.1 := by
      funext x
      show (if x.1 = k then (x.1, d) else x).1 = x.1
      split <;> rfl
    rw [e1, e2, h]
  · rw [List.map_append, List.map_append, h]
    rfl
theorem put_map {v : V} {d : D} {k : κ} (hv : Rp K fa F v d) : ∀ {kvs : List (κ × V)} {kds : List (κ × D)}, kvs.map (·.1) = kds.map (·.1) → RpAll K fa F (kvs.map (·.2)) (kds.map (·.2)) →
    RpAll K fa F ((kvs.map fun kv => if kv.1 = k then (kv.1, v) else kv).map (·.2)) ((kds.map fun kv => if kv.1 = k then (kv.1, d) else kv).map (·.2))
  | [], [], _, _ => .nil
  | [], _ :: _, h, _ => by simp at h
  | _ :: _, [], h, _ => by simp at h
  | (a, x) :: kvs, (b, y) :: kds, h, r => by
    simp only [List.map_cons, List.cons.injEq] at h r ⊢
    obtain ⟨e, h⟩ := h
    subst e
    cases r with
    | cons r1 r2 =>
      by_cases c : a = k
      · rw [if_pos c, if_pos c]
        exact .cons hv (put_map hv h r2)
      · rw [if_neg c, if_neg c]
        exact .cons r1 (put_map hv h r2)
theorem put_rel {kvs : List (κ × V)} {kds : List (κ × D)} (h : kvs.map (·.1) = kds.map (·.1)) (r : RpAll K fa F (kvs.map (·.2)) (kds.map (·.2))) {k : κ} {v : V} {d : D} (hv : Rp K fa F v d) :
    RpAll K fa F ((putK kvs k v).map (·.2)) ((putD kds k d).map (·.2)) := by
  unfold putK putD
  rw [any_rel h k]
  split
  · exact put_map hv h r
  · rw [List.map_append, List.map_append]
    exact r.app (.cons hv .nil)
end
def dkOf : B → Option (List (Key × D))
  | .dat (.dk kvs) => some kvs
  | .vw (.k kvs) => some kvs
  | .bor (.k kvs) => some kvs
  | _ => none
def dtOf : B → Option (List (List Key × D))
  | .dat (.dt kvs) => some kvs
  | .vw (.t kvs) => some kvs
  | .bor (.t kvs) => some kvs
  | _ => none
def tkeyL : List D → Option (List Key)
  | [] => some []
  | d :: ds => match keyD d, tkeyL ds with
    | some k, some ks => some (k :: ks)
    | _, _ => none
/-- a tuple as a key -/
def tkey : B → Option (List Key)
  | .dat (.tup xs) => tkeyL xs
  | _ => none
section
variable {g : G} {F H : Hp} {v : V} {b : B}
theorem dkOf_ok {kds : List (Key × D)} (s : Sm g F H) (r : RR g F H v b) (h : dkOf b = some kds) : ∃ a kvs, v = .ref a ∧ H a = some (.dK kvs) ∧ kvs.map (·.1) = kds.map (·.1) ∧ RpAll g.K g.fa F (kvs.map (·.2)) (kds.map (·.2)) := by
  unfold dkOf at h
  split at h
  · cases h
    cases r with
    | dk h1 h2 h3 => exact ⟨_, _, rfl, s.fh _ _ h1, h2, h3⟩
  · cases h
    obtain ⟨p, o, rfl, h1, h2⟩ := r
    cases h2 with
    | k h2 h3 => exact ⟨_, _, rfl, h1, h2, h3⟩
  · cases h
    obtain ⟨p, o, rfl, h1, h2⟩ := r
    cases h2 with
    | k h2 h3 => exact ⟨_, _, rfl, s.gh _ _ h1, h2, h3⟩
  · cases h
theorem dtOf_ok {kds : List (List Key × D)} (s : Sm g F H) (r : RR g F H v b) (h : dtOf b = some kds) : ∃ a kvs, v = .ref a ∧ H a = some (.dT kvs) ∧ kvs.map (·.1) = kds.map (·.1) ∧ RpAll g.K g.fa F (kvs.map (·.2)) (kds.map (·.2)) := by
  unfold dtOf at h
  split at h
  · cases h
    cases r with
    | dt h1 h2 h3 => exact ⟨_, _, rfl, s.fh _ _ h1, h2, h3⟩
  · cases h
    obtain ⟨p, o, rfl, h1, h2⟩ := r
    cases h2 with
    | t h2 h3 => exact ⟨_, _, rfl, h1, h2, h3⟩
  · cases h
    obtain ⟨p, o, rfl, h1, h2⟩ := r
    cases h2 with
    | t h2 h3 => exact ⟨_, _, rfl, s.gh _ _ h1, h2, h3⟩
  · cases h
theorem keyD_ok {k : Key} {d : D} (h : keyD d = some k) (r : Rp g.K g.fa F v d) : v = kV k := by
  unfold keyD at h
  split at h
  · cases h; cases r; rfl
  · cases h; cases r; rfl
  · cases h
theorem tkeyL_ok : ∀ {ds : List D} {vs : List V} {ks : List Key}, tkeyL ds = some ks → RpAll g.K g.fa F vs ds → vs = ks.map kV
  | [], _, _, h, r => by cases h; cases r; rfl
  | d :: ds, _, ks, h, r => by
    unfold tkeyL at h
    split at h
    · rename_i k ks' h1 h2
      cases h
      cases r with
      | cons r1 r2 => rw [keyD_ok h1 r1, tkeyL_ok h2 r2]; rfl
    · cases h
theorem tkey_ok {ks : List Key} (s : Sm g F H) (r : RR g F H v b) (h : tkey b = some ks) : ∃ a, v = .ref a ∧ H a = some (.tup (ks.map kV)) := by
  unfold tkey at h
  split at h
  · cases r with
    | tup h1 h2 => exact ⟨_, rfl, by rw [← tkeyL_ok h h2]; exact s.fh _ _ h1⟩
  · cases h
theorem rr_key {k : Key} (r : RR g F H v b) (h : keyD (datOf b) = some k) : v = kV k := by
  cases b with
  | dat d => exact keyD_ok h r
  | own m => exact r.elim
  | vw m => cases m <;> cases h
  | bor m => cases m <;> cases h
  | scr ns => cases h
end
/-- what a dict holds at a key -/
def dgetB (a k : B) : Option (Option D) := match dkOf a with
  | some kvs => (match keyD (datOf k) with | some q => some (getK kvs q) | none => none)
  | none => (match dtOf a with
    | some kvs => (match tkey k with | some q => some (getK kvs q) | none => none)
    | none => none)
theorem dgetB_ok {g : G} {F H : Hp} {x y : V} {a k : B} {o : Option D} (s : Sm g F H) (ra : RR g F H x a) (rk : RR g F H y k) (h : dgetB a k = some o) :
    ∃ p ov, x = .ref p ∧ DGet H p y ov ∧ ((ov = none ∧ o = none) ∨ ∃ v d, ov = some v ∧ o = some d ∧ Rp g.K g.fa F v d) := by
  unfold dgetB at h
  split at h
  · rename_i kvs hk
    obtain ⟨p, kv, rfl, h1, h2, h3⟩ := dkOf_ok s ra hk
    split at h
    · rename_i q hq
      cases h
      have e := rr_key rk hq
      subst e
      exact ⟨p, _, rfl, DGet.k h1, get_rel h2 h3 q⟩
    · cases h
  · split at h
    · rename_i kvs hk
      obtain ⟨p, kv, rfl, h1, h2, h3⟩ := dtOf_ok s ra hk
      split at h
      · rename_i q hq
        cases h
        obtain ⟨b, rfl, hb⟩ := tkey_ok s rk hq
        exact ⟨p, _, rfl, DGet.t h1 hb, get_rel h2 h3 q⟩
      · cases h
    · cases h
/-! ### in, not in -/
def inSeq (d : D) (ds : List D) (lst : Bool) : Res Bool :=
  if (SeqAt.shaped (toPy d) && SeqAt.shaped (.list (toPys ds))) = true then .ok (ds.any fun e => PyData.eqv (toPy e) (toPy d)) else .bad
def inB (neg : Bool) (a b : B) : Res B := match b with
  | .dat (.str y) => (match a with | .dat (.str x) => .ok (.dat (.bl (strIn x y != neg))) | _ => .bad)
  | b => match dgetB b a with
    | some o => .ok (.dat (.bl (o.isSome != neg)))
    | none => match seqI b with
      | some ds => (inSeq (datOf a) ds true).bind fun k => .ok (.dat (.bl (k != neg)))
      | none => .bad
def rInS (K : PySem.W.Frag) (neg : Bool) : R2 := fun x y H Q => ∃ d ds, Dp K H x d ∧ (Dp K H y (.list ds) ∨ Dp K H y (.tuple ds)) ∧ SeqAt.shaped d = true ∧ SeqAt.shaped (.list ds) = true ∧ Q (.bl ((ds.any fun z => PyData.eqv z d) != neg)) H
theorem room_seq {A : Around} {d : PyData} {ds : List PyData} (hd : SeqAt.shaped d = true) (hu : A.units + 100 < cLine) : A.units + 1 + min (PyData.depthAll ds) d.depth < cLine := by
  have := SeqAt.depth_of_shaped hd
  have h2 : min (PyData.depthAll ds) d.depth ≤ d.depth := Nat.min_le_right _ _
  omega
theorem op_inS {X : Cx} (hu : X.A.units + 100 < cLine) : OpR X (compareOp .In) (rInS X.K false) := by
  intro pins s σ H x y v u Q I rx ry h
  obtain ⟨d, ds, hd, he, sd, se, q⟩ := h
  obtain ⟨as, r1⟩ := Dp.reads I d x v hd rx
  have q' : Q (.bl (ds.any fun z => PyData.eqv z d)) H := by simpa using q
  rcases he with he | he
  · obtain ⟨bs, r2⟩ := Dp.reads I (.list ds) y u he ry
    exact SeqAt.in_list_reads r2 r1 (SeqAt.canLay_of_shaped se) (SeqAt.canLay_of_shaped sd) (room_seq sd hu) ⟨.bl _, H, I, rfl, q'⟩
  · obtain ⟨bs, r2⟩ := Dp.reads I (.tuple ds) y u he ry
    exact SeqAt.in_tuple_reads r2 r1 (SeqAt.canLay_of_shaped se) (SeqAt.canLay_of_shaped sd) (room_seq sd hu) ⟨.bl _, H, I, rfl, q'⟩
theorem op_notInS {X : Cx} (hu : X.A.units + 100 < cLine) : OpR X (compareOp .NotIn) (rInS X.K true) := by
  intro pins s σ H x y v u Q I rx ry h
  obtain ⟨d, ds, hd, he, sd, se, q⟩ := h
  obtain ⟨as, r1⟩ := Dp.reads I d x v hd rx
  have q' : Q (.bl (!ds.any fun z => PyData.eqv z d)) H := by simpa using q
  rcases he with he | he
  · obtain ⟨bs, r2⟩ := Dp.reads I (.list ds) y u he ry
    exact SeqAt.notIn_list_reads r2 r1 (SeqAt.canLay_of_shaped se) (SeqAt.canLay_of_shaped sd) (room_seq sd hu) ⟨.bl _, H, I, rfl, q'⟩
  · obtain ⟨bs, r2⟩ := Dp.reads I (.tuple ds) y u he ry
    exact SeqAt.notIn_tuple_reads r2 r1 (SeqAt.canLay_of_shaped se) (SeqAt.canLay_of_shaped sd) (room_seq sd hu) ⟨.bl _, H, I, rfl, q'⟩
def rInDk (neg : Bool) : R2 := fun y x H Q => ∃ a o, x = .ref a ∧ DGet H a y o ∧ Q (.bl (o.isSome != neg)) H
theorem op_inDk {X : Cx} (hu : X.A.units + 100 < cLine) : OpR X (compareOp .In) (rInDk false) := by
  intro pins s σ H y x v u Q I ry rx h
  obtain ⟨a, o, rfl, gd, q⟩ := h
  cases rx
  exact d_in (by omega) I gd ry fun s' I' => ⟨.bl _, H, I', rfl, by simpa using q⟩
theorem op_notInDk {X : Cx} (hu : X.A.units + 100 < cLine) : OpR X (compareOp .NotIn) (rInDk true) := by
  intro pins s σ H y x v u Q I ry rx h
  obtain ⟨a, o, rfl, gd, q⟩ := h
  cases rx
  exact d_notIn (by omega) I gd ry fun s' I' => ⟨.bl _, H, I', rfl, by simpa using q⟩
def rInT (neg : Bool) : R2 := fun x y H Q => ∃ i j, x = .str i ∧ y = .str j ∧ Q (.bl (strIn i j != neg)) H
theorem op_inT {X : Cx} : OpR X (compareOp .In) (rInT false) := by
  intro pins s σ H x y v u Q I rx ry h
  obtain ⟨i, j, rfl, rfl, q⟩ := h
  exact op_in_str pins s σ H _ _ v u Q I rx ry ⟨i, j, rfl, rfl, by simpa [strIn] using q⟩
theorem op_notInT {X : Cx} : OpR X (compareOp .NotIn) (rInT true) := by
  intro pins s σ H x y v u Q I rx ry h
  obtain ⟨i, j, rfl, rfl, q⟩ := h
  exact L2.op_notIn_str pins s σ H _ _ v u Q I rx ry ⟨i, j, rfl, rfl, by simpa [strIn] using q⟩
def rInF (K : PySem.W.Frag) (neg : Bool) : R2 := fun x y H Q => rInT neg x y H Q ∨ rInDk neg x y H Q ∨ rInS K neg x y H Q
theorem op_inF {X : Cx} (hu : X.A.units + 100 < cLine) : OpR X (compareOp .In) (rInF X.K false) := OpR.or op_inT (OpR.or (op_inDk hu) (op_inS hu))
theorem op_notInF {X : Cx} (hu : X.A.units + 100 < cLine) : OpR X (compareOp .NotIn) (rInF X.K true) := OpR.or op_notInT (OpR.or (op_notInDk hu) (op_notInS hu))
theorem seq_dp {g : G} {F H : Hp} {v : V} {b : B} {ds : List D} (s : Sm g F H) (r : RR g F H v b) (h : seqI b = some ds) (c : PyData.canLayAll0 (toPys ds) = true) : Dp g.K H v (.list (toPys ds)) ∨ Dp g.K H v (.tuple (toPys ds)) := by
  obtain ⟨a, xs, rfl, h1, h2⟩ := seqI_ok s r h
  rcases h1 with h1 | h1
  · exact .inl (.lst h1 (RpAll.dp s.fh h2 c))
  · exact .inr (.tup h1 (RpAll.dp s.fh h2 c))
theorem g_in {g : G} {K : PySem.W.Frag} {neg : Bool} (hK : g.K = K) : OpG g (rInF K neg) (inB neg) := by
  subst hK
  intro F H x y a b Q s ra rb p
  unfold inB at p
  split at p
  · split at p
    · cases ra
      cases rb
      exact .inl ⟨_, _, rfl, rfl, p.bl s⟩
    · exact p.elim
  · split at p
    · rename_i o ho
      obtain ⟨q, ov, rfl, gd, hr⟩ := dgetB_ok s rb ra ho
      refine .inr (.inl ⟨q, ov, rfl, gd, ?_⟩)
      have e : ov.isSome = o.isSome := by
        rcases hr with ⟨e1, e2⟩ | ⟨v, d, e1, e2, _⟩ <;> rw [e1, e2] <;> rfl
      rw [e]
      exact p.bl s
    · split at p
      · rename_i ds hs
        unfold inSeq at p
        split at p
        · rename_i h
          rw [Bool.and_eq_true] at h
          have c : PyData.canLayAll0 (toPys ds) = true := by
            have := SeqAt.canLay_of_shaped h.2
            simpa only [PyData.canLay0] using this
          refine .inr (.inr ⟨_, _, ra.dp s (SeqAt.canLay_of_shaped h.1), seq_dp s rb hs c, h.1, h.2, ?_⟩)
          have e : ((toPys ds).any fun z => PyData.eqv z (toPy (datOf a))) = ds.any fun e => PyData.eqv (toPy e) (toPy (datOf a)) := by
            rw [toPys_map, List.any_map]
            rfl
          rw [e]
          exact p.bl s
        · exact p.elim
      · exact p.elim
/-! ### subscripts -/
def idxB (a i : B) : Res B := match dgetB a i with
  | some (some d) => .ok (.dat d)
  | some none => .bad
  | none => match i with
    | .dat (.int k) => (match a with
      | .dat (.str x) => (match atI x.cps.toList k with | some c => if x.length ≤ sizeLine then .ok (.dat (.str ⟨#[c]⟩)) else .bad | none => .bad)
      | a => (match seqI a with
        | some ds => (match atI ds k with | some d => .ok (.dat d) | none => .bad)
        | none => .bad))
    | _ => .bad
def rIxD : R2 := fun x y H Q => ∃ a v, x = .ref a ∧ DGet H a y (some v) ∧ Q v H
theorem ix_dict {X : Cx} (hu : X.A.units + 100 < cLine) : IxR X rIxD := by
  intro value slice pins s σ H x y v u Q I rx ry h hs
  obtain ⟨a, z, rfl, gd, q⟩ := h
  cases rx
  exact tail_any (dict_typeIs I gd) PySem.F.slot_dict_getitem.lookup (d_getItem (by omega) I gd ry fun w' s' I' rw' => ⟨z, H, I', rw', q⟩) hs
def rIxF (K : PySem.W.Frag) : R2 := fun x y H Q => rIxD x y H Q ∨ rIx K x y H Q
theorem ix_F {X : Cx} (hu : X.A.units + 100 < cLine) : IxR X (rIxF X.K) := IxR.or (ix_dict hu) ix_seq
theorem atI_rp {K : PySem.W.Frag} {fa : Nat → Option Addr} {F : Hp} {xs : List V} {ds : List D} {k : Int} {d : D} (r : RpAll K fa F xs ds) (h : atI ds k = some d) : ∃ v, atI xs k = some v ∧ Rp K fa F v d := by
  unfold atI at h ⊢
  rw [r.len]
  cases e : ixN ds.length k with
  | none => rw [e] at h; cases h
  | some j =>
    rw [e] at h
    exact r.get h
theorem g_idx {g : G} {K : PySem.W.Frag} (hK : g.K = K) : OpG g (rIxF K) idxB := by
  subst hK
  intro F H x y a b Q s ra rb p
  unfold idxB at p
  split at p
  · rename_i d hd
    obtain ⟨q, ov, rfl, gd, hr⟩ := dgetB_ok s ra rb hd
    rcases hr with ⟨_, e2⟩ | ⟨v, d', rfl, e2, r⟩
    · cases e2
    · cases e2
      exact .inl ⟨q, v, rfl, gd, p.dat s r⟩
  · exact p.elim
  · split at p
    · split at p
      · split at p
        · rename_i c hc
          split at p
          · rename_i hz
            cases ra
            cases rb
            exact .inr (.inr (.inr ⟨_, _, c, rfl, rfl, hz, hc, p.str s⟩))
          · exact p.elim
        · exact p.elim
      · split at p
        · rename_i ds hs
          split at p
          · rename_i d hd
            cases rb
            obtain ⟨q, xs, rfl, h1, h2⟩ := seqI_ok s ra hs
            obtain ⟨v, hv, rv⟩ := atI_rp h2 hd
            rcases h1 with h1 | h1
            · exact .inr (.inl ⟨q, xs, _, v, rfl, rfl, h1, hv, p.dat s rv⟩)
            · exact .inr (.inr (.inl ⟨q, xs, _, v, rfl, rfl, h1, hv, p.dat s rv⟩))
          · exact p.elim
        · exact p.elim
    · exact p.elim
theorem fe_idx {X : Cx} {g : G} {a b : Expr} {fa fb : Env → Res B} {pos : Pos} (hu : X.A.units + 100 < cLine) (hK : g.K = X.K) (hp : PlainIx b) (ha : PE X a (tF g fa)) (hb : PE X b (tF g fb)) : PE X (.Subscript a b pos) (tF g (bin2 idxB fa fb)) :=
  PE.imp (pe_ix (ix_F hu) ha hb hp) fun _ _ _ h => run2 (g_idx hK) h
end Fn
namespace Fn
open PySem PySem.Spec PyProof.Rows L2
/-! ### forms of syntax -/
def nst : Expr → Bool
  | .Starred .. => false
  | _ => true
def nsl : Expr → Bool
  | .Slice .. => false
  | _ => true
def nset : Expr → Bool
  | .Set .. => false
  | _ => true
def plainT : Expr → Bool
  | .UnaryOp .. => false
  | .BoolOp .. => false
  | .IfExp .. => false
  | .Compare .. => false
  | _ => true
theorem star_cons {e : Expr} {es : List Expr} {env : PySem.Env} (h : nst e = true) : starEach (e :: es) env = (false, eval e env) :: starEach es env := by
  cases e <;> first | rfl | cases h
theorem star_none {env : PySem.Env} {pos : Pos} : ∀ {es : List Expr}, es.all nst = true → (backTo pos (starEach es env)).any (·.1) = false
  | [], _ => rfl
  | e :: es, h => by
    rw [List.all_cons, Bool.and_eq_true] at h
    rw [star_cons h.1]
    exact star_none h.2
theorem nsl_ix {b : Expr} (h : nsl b = true) : PlainIx b := by
  intro o i
  cases b <;> first | rfl | cases h
theorem nset_mark {op : CmpOp} {b : Expr} (h : nset b = true) : behindInMarks op b = false := by
  cases b <;> first | rfl | cases h
theorem plainT_eq {e : Expr} {env : PySem.Env} (h : plainT e = true) : ∀ whole, isTrue e env whole = (do let v ← whole; standAt e.pos; holding [v] (truthy v)) := by
  intro whole
  cases e <;> first | rfl | cases h
section
variable {X : Cx} {g : G} {a b c : Expr} {pos : Pos} {fa fb fc : Env → Res B}
/-! ### names, written things -/
def varB (i : Nat) (ρ : Env) : Res B := match ρ[i]? with
  | some (some (.dat d)) => .ok (.dat d)
  | some (some (.own m)) => .ok (.vw m)
  | some (some (.bor m)) => .ok (.bor m)
  | some (some (.scr ns)) => .ok (.scr ns)
  | _ => .bad
theorem var_run {i : Nat} {σ : L2.St} {H : Hp} {Q : VK} (h : tF g (varB i) σ H Q) : tVar i σ H Q := by
  obtain ⟨F, ρ, s, p⟩ := h
  unfold varB at p
  split at p
  · rename_i d e
    obtain ⟨v, h1, h2⟩ := s.at_ i _ e
    exact ⟨v, h1, p v F H (Grow.refl s.sub) h2⟩
  · rename_i m e
    obtain ⟨v, h1, q, o, rfl, h2, h3, h4, h5⟩ := s.at_ i _ e
    exact ⟨_, h1, p _ F H (Grow.refl s.sub) ⟨q, o, rfl, h2, h5⟩⟩
  · rename_i m e
    obtain ⟨v, h1, h2⟩ := s.at_ i _ e
    exact ⟨v, h1, p v F H (Grow.refl s.sub) h2⟩
  · rename_i ns e
    obtain ⟨v, h1, h2⟩ := s.at_ i _ e
    exact ⟨v, h1, p v F H (Grow.refl s.sub) h2⟩
  · exact p.elim
theorem con_run {v : V} {d : D} {σ : L2.St} {H : Hp} {Q : VK} (hv : ∀ F, Rp g.K g.fa F v d) (h : tF g (fun _ => .ok (.dat d)) σ H Q) : tC v σ H Q := by
  obtain ⟨F, ρ, s, p⟩ := h
  exact p v F H (Grow.refl s.sub) (hv F)
/-! ### argument lists -/
def consA (fa : Env → Res B) (fs : Env → Res (List B)) : Env → Res (List B) := fun ρ => (fa ρ).bind fun x => (fs ρ).bind fun xs => .ok (rd x :: xs)
theorem fa_nil : PA X [] (tFA g fun _ => .ok []) := PA.imp pa_nil fun _ _ _ ⟨F, _, s, p⟩ => p [] F _ (Grow.refl s.sub) .nil
theorem fa_cons {e : Expr} {es : List Expr} {fs : Env → Res (List B)} (hn : nst e = true) (ha : PE X e (tF g fa)) (hr : PA X es (tFA g fs)) : PA X (e :: es) (tFA g (consA fa fs)) := by
  refine PA.imp (pa_cons ha hr (star_cons hn)) fun σ H Q ⟨F, ρ, s, p⟩ => ?_
  unfold consA at p
  show tF g fa σ H _
  refine run1 s (fun bx v F1 H1 e1 g1 r1 => ?_) (fun c e => ?_) (fun e => ?_)
  · rw [e1, Res.ok_bind] at p
    have s1 := s.grow g1
    refine ⟨F1, ρ, s1, ?_⟩
    cases e2 : fs ρ with
    | ok bs =>
      rw [e2, Res.ok_bind] at p
      exact fun vs F2 H2 g2 r2 => p (v :: vs) F2 H2 (g1.trans g2) (.cons (r1.mono g2) r2)
    | exc c =>
      rw [e2, Res.exc_bind] at p
      exact fun F' H' gr => p F' H' (g1.trans gr)
    | bad =>
      rw [e2] at p
      exact p
  · rw [e] at p
    exact p
  · rw [e] at p
    exact p
/-- arguments, then what is done with them -/
theorem runA {fs : Env → Res (List B)} {f : List B → Res B} {r : List V → Hp → VK → Prop} {σ : L2.St} {H : Hp} {Q : VK}
    (hg : ∀ (F H : Hp) (vs : List V) (bs : List B) (Q : VK), Sm g F H → Paired (RR g F H) vs bs → Post g F H (f bs) Q → r vs H Q)
    (h : tF g (fun ρ => (fs ρ).bind f) σ H Q) : tFA g fs σ H fun vs H1 => r vs H1 Q := by
  obtain ⟨F, ρ, s, p⟩ := h
  refine ⟨F, ρ, s, ?_⟩
  dsimp only at p
  cases e : fs ρ with
  | ok bs =>
    rw [e, Res.ok_bind] at p
    exact fun vs F1 H1 g1 r1 => hg F1 H1 vs bs Q (s.sm.grow g1) r1 (p.later g1)
  | exc c =>
    rw [e, Res.exc_bind] at p
    exact p
  | bad =>
    rw [e] at p
    exact p
def CallG (g : G) (r : List V → Hp → VK → Prop) (f : List B → Res B) : Prop := ∀ (F H : Hp) (vs : List V) (bs : List B) (Q : VK), Sm g F H → Paired (RR g F H) vs bs → Post g F H (f bs) Q → r vs H Q
theorem fe_callB {x : Str} {p : Pos} {e : Expr} {es : List Expr} {id : String} {r : List V → Hp → VK → Prop} {fs : Env → Res (List B)} {f : List B → Res B} (hc : CallR X (.builtin id) r) (hg : Gl X x) (hm : X.mg x = none) (hv : bootBuiltins x = some (.builtin id)) (hcg : CallG g r f)
    (ha : PA X (e :: es) (tFA g fs)) (hn : x ≠ "__name__") (hdb : (x == ("__debug__" : Str)) = false) (hst : (e :: es).all nst = true) : PE X (.Call (.Name x p) (e :: es) [] pos) (tF g fun ρ => (fs ρ).bind f) := by
  rw [List.all_cons, Bool.and_eq_true] at hst
  exact PE.imp (pe_callB hc hg hm hv ha hn hdb (star_cons hst.1) (star_none hst.2)) fun _ _ _ h => runA hcg h
theorem fe_callTy {x : Str} {p : Pos} {e : Expr} {es : List Expr} {T : String} {r : List V → Hp → VK → Prop} {fs : Env → Res (List B)} {f : List B → Res B} (hc : CallR X (.type T) r) (hg : Gl X x) (hm : X.mg x = none) (hv : bootBuiltins x = some (.type T)) (hcg : CallG g r f)
    (ha : PA X (e :: es) (tFA g fs)) (hn : x ≠ "__name__") (hdb : (x == ("__debug__" : Str)) = false) (hst : (e :: es).all nst = true) : PE X (.Call (.Name x p) (e :: es) [] pos) (tF g fun ρ => (fs ρ).bind f) := by
  rw [List.all_cons, Bool.and_eq_true] at hst
  exact PE.imp (pe_callTy hc hg hm hv ha hn hdb (star_cons hst.1) (star_none hst.2)) fun _ _ _ h => runA hcg h
/-! ### displays -/
def dats : List B → Option (List D)
  | [] => some []
  | .dat d :: bs => (match dats bs with | some ds => some (d :: ds) | none => none)
  | _ => none
theorem dats_ok {F H : Hp} : ∀ {bs : List B} {vs : List V} {ds : List D}, dats bs = some ds → Paired (RR g F H) vs bs → RpAll g.K g.fa F vs ds
  | [], _, _, h, .nil => by cases h; exact .nil
  | .dat d :: bs, _, _, h, .cons r rs => by
    unfold dats at h
    split at h
    · rename_i ds' h'
      cases h
      exact .cons r (dats_ok h' rs)
    · cases h
  | .own _ :: _, _, _, h, _ => by cases h
  | .vw _ :: _, _, _, h, _ => by cases h
  | .bor _ :: _, _, _, h, _ => by cases h
  | .scr _ :: _, _, _, h, _ => by cases h
def tupB (bs : List B) : Res B := match dats bs with
  | some ds => if ds.length ≤ sizeLine then .ok (.dat (.tup ds)) else .bad
  | none => .bad
def lstB (bs : List B) : Res B := match dats bs with
  | some ds => if ds.length ≤ sizeLine then .ok (.own (.l ds)) else .bad
  | none => .bad
theorem g_tup : CallG g (fun xs H1 Q => xs.length ≤ sizeLine ∧ ∀ p, H1 p = none → Q (.ref p) (upd H1 p (.tup xs))) tupB := by
  intro F H vs bs Q s r p
  unfold tupB at p
  split at p
  · rename_i ds hd
    split at p
    · rename_i hz
      have rr := dats_ok hd r
      exact ⟨by rw [rr.len]; exact hz, p.newT s rr⟩
    · exact p.elim
  · exact p.elim
theorem g_lst : CallG g (fun xs H1 Q => xs.length ≤ sizeLine ∧ ∀ p, H1 p = none → Q (.ref p) (upd H1 p (.lst xs))) lstB := by
  intro F H vs bs Q s r p
  unfold lstB at p
  split at p
  · rename_i ds hd
    split at p
    · rename_i hz
      have rr := dats_ok hd r
      exact ⟨by rw [rr.len]; exact hz, p.newL s rr⟩
    · exact p.elim
  · exact p.elim
theorem fe_tup {es : List Expr} {k : Nat} {fs : Env → Res (List B)} (ha : PA X es (tFA g fs)) : PE X (.Tuple es k pos) (tF g fun ρ => (fs ρ).bind tupB) := PE.imp (pe_tup ha) fun _ _ _ h => runA g_tup h
theorem fe_lst {es : List Expr} {fs : Env → Res (List B)} (ha : PA X es (tFA g fs)) : PE X (.List es pos) (tF g fun ρ => (fs ρ).bind lstB) := PE.imp (pe_lst ha) fun _ _ _ h => runA g_lst h
theorem fe_dicK : PE X (.Dict [] [] pos) (tF g fun _ => .ok (.own (.k []))) := PE.imp pe_dnewK fun σ H Q ⟨F, ρ, s, p⟩ => fun d hd => p.newM s.sm (.k (kvs := []) rfl .nil) d hd
theorem fe_dicT : PE X (.Dict [] [] pos) (tF g fun _ => .ok (.own (.t []))) := PE.imp pe_dnewT fun σ H Q ⟨F, ρ, s, p⟩ => fun d hd => p.newM s.sm (.t (kvs := []) rfl .nil) d hd
/-! ### one value, then what is done with it -/
def one1 (f : B → Res B) (fa : Env → Res B) : Env → Res B := fun ρ => (fa ρ).bind fun x => f (rd x)
theorem runU {f : B → Res B} {R : V → Hp → VK → Prop} {σ : L2.St} {H : Hp} {Q : VK} (hg : ∀ (F H : Hp) (v : V) (b : B) (Q : VK), Sm g F H → RR g F H v b → Post g F H (f b) Q → R v H Q) (h : tF g (one1 f fa) σ H Q) : tF g fa σ H fun v H1 => R v H1 Q := by
  obtain ⟨F, ρ, s, p⟩ := h
  unfold one1 at p
  refine run1 s (fun bx v F1 H1 e1 g1 r1 => ?_) (fun c e => ?_) (fun e => ?_)
  · rw [e1, Res.ok_bind] at p
    exact hg F1 H1 v _ Q (s.sm.grow g1) r1 (p.later g1)
  · rw [e] at p
    exact p
  · rw [e] at p
    exact p
def negB (b : B) : Res B := match b with
  | .dat (.int i) => .ok (.dat (.int (-i)))
  | _ => .bad
theorem fe_neg (ha : PE X a (tF g fa)) : PE X (.UnaryOp .USub a pos) (tF g (one1 negB fa)) := by
  refine PE.imp (pe_un un_neg ha) fun σ H Q h => runU (f := negB) (R := rU fun i => .int (-i)) (fun F H v b Q s r p => ?_) h
  unfold negB at p
  split at p
  · cases r
    exact ⟨_, rfl, p.int s⟩
  · exact p.elim
def notB (b : B) : Res B := match b with
  | .dat (.bl k) => .ok (.dat (.bl !k))
  | _ => .bad
theorem fe_not (ha : PE X a (tF g fa)) : PE X (.UnaryOp .Not a pos) (tF g (one1 notB fa)) := by
  refine PE.imp (pe_not ha) fun σ H Q h => runU (f := notB) (R := fun x H1 Q => ∃ c, x = .bl c ∧ Q (.bl (!c)) H1) (fun F H v b Q s r p => ?_) h
  unfold notB at p
  split at p
  · cases r
    exact ⟨_, rfl, p.bl s⟩
  · exact p.elim
def revB (b : B) : Res B := match b with
  | .scr ns => .ok (.own (.l (ns.reverse.map .int)))
  | b => match seqL b with
    | some ds => .ok (.own (.l ds.reverse))
    | none => .bad
/-! ### and, or as values: the left ones are truths -/
def andV (fa fb : Env → Res B) : Env → Res B := fun ρ => (fa ρ).bind fun x => match x with
  | .dat (.bl true) => fb ρ
  | .dat (.bl false) => .ok (.dat (.bl false))
  | _ => .bad
def orV (fa fb : Env → Res B) : Env → Res B := fun ρ => (fa ρ).bind fun x => match x with
  | .dat (.bl false) => fb ρ
  | .dat (.bl true) => .ok (.dat (.bl true))
  | _ => .bad
theorem fe_and {rest : List Expr} (ha : PE X a (tF g fa)) (hb : PE X (.BoolOp .And (b :: rest) pos) (tF g fb)) : PE X (.BoolOp .And (a :: b :: rest) pos) (tF g (andV fa fb)) := by
  refine PE.imp (pe_and ha hb) fun σ H Q ⟨F, ρ, s, p⟩ => ?_
  unfold andV at p
  show tF g fa σ H _
  refine run1 s (fun bx v F1 H1 e1 g1 r1 => ?_) (fun c e => ?_) (fun e => ?_)
  · rw [e1, Res.ok_bind] at p
    split at p
    · cases r1
      refine ⟨true, rfl, ?_⟩
      rw [if_pos rfl]
      exact ⟨F1, ρ, s.grow g1, p.later g1⟩
    · cases r1
      refine ⟨false, rfl, ?_⟩
      rw [if_neg Bool.false_ne_true]
      exact (p.later g1).bl (s.sm.grow g1)
    · exact p.elim
  · rw [e] at p
    exact p
  · rw [e] at p
    exact p
theorem fe_or {rest : List Expr} (ha : PE X a (tF g fa)) (hb : PE X (.BoolOp .Or (b :: rest) pos) (tF g fb)) : PE X (.BoolOp .Or (a :: b :: rest) pos) (tF g (orV fa fb)) := by
  refine PE.imp (pe_or ha hb) fun σ H Q ⟨F, ρ, s, p⟩ => ?_
  unfold orV at p
  show tF g fa σ H _
  refine run1 s (fun bx v F1 H1 e1 g1 r1 => ?_) (fun c e => ?_) (fun e => ?_)
  · rw [e1, Res.ok_bind] at p
    split at p
    · cases r1
      refine ⟨false, rfl, ?_⟩
      rw [if_neg Bool.false_ne_true]
      exact ⟨F1, ρ, s.grow g1, p.later g1⟩
    · cases r1
      refine ⟨true, rfl, ?_⟩
      rw [if_pos rfl]
      exact (p.later g1).bl (s.sm.grow g1)
    · exact p.elim
  · rw [e] at p
    exact p
  · rw [e] at p
    exact p
/-! ### tests -/
def truB (b : B) : Res Bool := match b with
  | .dat .non => .ok false
  | .dat (.bl k) => .ok k
  | .dat (.int i) => .ok (i != 0)
  | .dat (.str x) => if x.length ≤ sizeLine then .ok ((x.length : Int) != 0) else .bad
  | b => match dkOf b with
    | some kvs => .ok (!kvs.isEmpty)
    | none => match seqI b with
      | some ds => .ok (!ds.isEmpty)
      | none => .bad
def testV (fa : Env → Res B) : Env → Res Bool := fun ρ => (fa ρ).bind fun x => truB (rd x)
theorem truB_ok {F H : Hp} {v : V} {b : B} {k : Bool} (s : Sm g F H) (r : RR g F H v b) (h : truB b = .ok k) : TruV g.K v H k := by
  unfold truB at h
  split at h
  · cases h; cases r; rfl
  · cases h; cases r; rfl
  · cases h; cases r; rfl
  · split at h
    · cases h; cases r; exact ⟨by assumption, rfl⟩
    · cases h
  · split at h
    · rename_i kvs hk
      cases h
      obtain ⟨p, xs, rfl, h1, h2, h3⟩ := dkOf_ok s r hk
      refine .inr (.inr ⟨xs, h1, ?_⟩)
      cases xs with
      | nil => cases kvs with
        | nil => rfl
        | cons _ _ => simp at h2
      | cons _ _ => cases kvs with
        | nil => simp at h2
        | cons _ _ => rfl
    · split at h
      · rename_i ds hs
        cases h
        obtain ⟨p, xs, rfl, h1, h2⟩ := seqI_ok s r hs
        have e : (!ds.isEmpty) = !xs.isEmpty := by cases h2 <;> rfl
        rw [e]
        rcases h1 with h1 | h1
        · exact .inl ⟨xs, h1, rfl⟩
        · exact .inr (.inl ⟨xs, h1, rfl⟩)
      · cases h
theorem ft_val (hK : g.K = X.K) (hp : plainT a = true) (ha : PE X a (tF g fa)) : PT X a (tFT g (testV fa)) := by
  refine PT.imp (pt_truth ha (plainT_eq hp)) fun σ H Q ⟨F, ρ, s, p⟩ => ?_
  unfold testV at p
  show tF g fa σ H _
  rw [← hK]
  refine run1 s (fun bx v F1 H1 e1 g1 r1 => ?_) (fun c e => ?_) (fun e => ?_)
  · rw [e1, Res.ok_bind] at p
    cases e2 : truB (rd bx) with
    | ok k =>
      rw [e2] at p
      exact ⟨k, truB_ok (s.sm.grow g1) r1 e2, p F1 H1 g1⟩
    | exc c =>
      exfalso
      unfold truB at e2
      repeat (split at e2 <;> try cases e2)
    | bad =>
      rw [e2] at p
      exact p.elim
  · rw [e] at p
    exact p
  · rw [e] at p
    exact p
end
end Fn
namespace Fn
open PySem PySem.Spec PyProof.Rows L2
/-! ### built-in functions -/
section
variable {X : Cx} {g : G}
theorem paired1 {α β : Type} {R : α → β → Prop} {xs : List α} {b : β} (h : Paired R xs [b]) : ∃ x, xs = [x] ∧ R x b := by
  cases h with
  | cons r t => cases t; exact ⟨_, rfl, r⟩
theorem paired2 {α β : Type} {R : α → β → Prop} {xs : List α} {b c : β} (h : Paired R xs [b, c]) : ∃ x y, xs = [x, y] ∧ R x b ∧ R y c := by
  cases h with
  | cons r t =>
    obtain ⟨y, rfl, r'⟩ := paired1 t
    exact ⟨_, _, rfl, r, r'⟩
def intsD : List D → Option (List Int)
  | [] => some []
  | .int i :: ds => (match intsD ds with | some ns => some (i :: ns) | none => none)
  | _ => none
def blsD : List D → Option (List Bool)
  | [] => some []
  | .bl i :: ds => (match blsD ds with | some ns => some (i :: ns) | none => none)
  | _ => none
theorem intsD_ok : ∀ {ds : List D} {ns : List Int}, intsD ds = some ns → ds = ns.map D.int
  | [], _, h => by cases h; rfl
  | .int i :: ds, _, h => by
    unfold intsD at h
    split at h
    · rename_i ns e
      cases h
      rw [intsD_ok e]; rfl
    · cases h
  | .non :: _, _, h => by cases h
  | .bl _ :: _, _, h => by cases h
  | .str _ :: _, _, h => by cases h
  | .tup _ :: _, _, h => by cases h
  | .ctup _ :: _, _, h => by cases h
  | .lst _ :: _, _, h => by cases h
  | .dk _ :: _, _, h => by cases h
  | .dt _ :: _, _, h => by cases h
  | .fn _ :: _, _, h => by cases h
theorem blsD_ok : ∀ {ds : List D} {ns : List Bool}, blsD ds = some ns → ds = ns.map D.bl
  | [], _, h => by cases h; rfl
  | .bl i :: ds, _, h => by
    unfold blsD at h
    split at h
    · rename_i ns e
      cases h
      rw [blsD_ok e]; rfl
    · cases h
  | .non :: _, _, h => by cases h
  | .int _ :: _, _, h => by cases h
  | .str _ :: _, _, h => by cases h
  | .tup _ :: _, _, h => by cases h
  | .ctup _ :: _, _, h => by cases h
  | .lst _ :: _, _, h => by cases h
  | .dk _ :: _, _, h => by cases h
  | .dt _ :: _, _, h => by cases h
  | .fn _ :: _, _, h => by cases h
theorem intsD_map (ns : List Int) : intsD (ns.map D.int) = some ns := by
  induction ns with
  | nil => rfl
  | cons n ns ih => rw [List.map_cons, intsD, ih]
theorem blsD_map (ns : List Bool) : blsD (ns.map D.bl) = some ns := by
  induction ns with
  | nil => rfl
  | cons n ns ih => rw [List.map_cons, blsD, ih]
def lenB (bs : List B) : Res B := match bs with
  | [.dat (.str x)] => if x.length ≤ sizeLine then .ok (.dat (.int x.length)) else .bad
  | [b] => (match dkOf b with
    | some kvs => .ok (.dat (.int kvs.length))
    | none => match seqI b with
      | some ds => .ok (.dat (.int ds.length))
      | none => .bad)
  | _ => .bad
def rLenF (K : PySem.W.Frag) : List V → Hp → VK → Prop := fun xs H Q => (∃ p ys, xs = [.ref p] ∧ (SqL K H p ys ∨ SqT K H p ys) ∧ Q (.int ys.length) H) ∨ (∃ z, xs = [.str z] ∧ z.length ≤ sizeLine ∧ Q (.int z.length) H) ∨ ∃ a kvs, xs = [V.ref a] ∧ H a = some (.dK kvs) ∧ Q (.int kvs.length) H
theorem c_len : CallR X (.builtin "len") (rLenF X.K) := CallR.or call_len_seq (CallR.or call_len_str call_lenD)
theorem g_len {K : PySem.W.Frag} (hK : g.K = K) : CallG g (rLenF K) lenB := by
  subst hK
  intro F H vs bs Q s r p
  unfold lenB at p
  split at p
  · split at p
    · obtain ⟨v, rfl, rv⟩ := paired1 r
      cases rv
      exact .inr (.inl ⟨_, rfl, by assumption, p.int s⟩)
    · exact p.elim
  · obtain ⟨v, rfl, rv⟩ := paired1 r
    split at p
    · rename_i kvs hk
      obtain ⟨q, xs, rfl, h1, h2, h3⟩ := dkOf_ok s rv hk
      have e : xs.length = kvs.length := by simpa using congrArg List.length h2
      exact .inr (.inr ⟨q, xs, rfl, h1, by rw [e]; exact p.int s⟩)
    · split at p
      · rename_i ds hs
        obtain ⟨q, xs, rfl, h1, h2⟩ := seqI_ok s rv hs
        exact .inl ⟨q, xs, rfl, h1, by rw [h2.len]; exact p.int s⟩
      · exact p.elim
  · exact p.elim
def absF (bs : List B) : Res B := match bs with
  | [.dat (.int i)] => .ok (.dat (.int (if i < 0 then -i else i)))
  | _ => .bad
theorem g_abs : CallG g (fun xs H Q => ∃ i, xs = [.int i] ∧ Q (.int (if i < 0 then -i else i)) H) absF := by
  intro F H vs bs Q s r p
  unfold absF at p
  split at p
  · obtain ⟨v, rfl, rv⟩ := paired1 r
    cases rv
    exact ⟨_, rfl, p.int s⟩
  · exact p.elim
/-- the least, the greatest of whole numbers -/
def minI : List Int → Int
  | [] => 0
  | n :: ns => ns.foldl min n
def maxI : List Int → Int
  | [] => 0
  | n :: ns => ns.foldl max n
theorem foldl_min : ∀ (ns : List Int) (n : Int), (ns.foldl min n = n ∨ ns.foldl min n ∈ ns) ∧ ns.foldl min n ≤ n ∧ ∀ y ∈ ns, ns.foldl min n ≤ y
  | [], n => ⟨.inl rfl, Int.le_refl _, fun y h => by cases h⟩
  | m :: ns, n => by
    obtain ⟨h1, h2, h3⟩ := foldl_min ns (min n m)
    rw [List.foldl_cons]
    refine ⟨?_, by omega, fun y hy => ?_⟩
    · rcases h1 with h1 | h1
      · rw [h1]
        by_cases c : n ≤ m
        · exact .inl (by omega)
        · exact .inr (by rw [show min n m = m by omega]; exact List.mem_cons_self)
      · exact .inr (List.mem_cons_of_mem _ h1)
    · rcases List.mem_cons.mp hy with rfl | hy
      · omega
      · exact h3 y hy
theorem foldl_max : ∀ (ns : List Int) (n : Int), (ns.foldl max n = n ∨ ns.foldl max n ∈ ns) ∧ n ≤ ns.foldl max n ∧ ∀ y ∈ ns, y ≤ ns.foldl max n
  | [], n => ⟨.inl rfl, Int.le_refl _, fun y h => by cases h⟩
  | m :: ns, n => by
    obtain ⟨h1, h2, h3⟩ := foldl_max ns (max n m)
    rw [List.foldl_cons]
    refine ⟨?_, by omega, fun y hy => ?_⟩
    · rcases h1 with h1 | h1
      · rw [h1]
        by_cases c : m ≤ n
        · exact .inl (by omega)
        · exact .inr (by rw [show max n m = m by omega]; exact List.mem_cons_self)
      · exact .inr (List.mem_cons_of_mem _ h1)
    · rcases List.mem_cons.mp hy with rfl | hy
      · omega
      · exact h3 y hy
theorem minI_ok {ns : List Int} (h : 0 < ns.length) : minI ns ∈ ns ∧ ∀ y ∈ ns, minI ns ≤ y := by
  cases ns with
  | nil => simp at h
  | cons n ns =>
    obtain ⟨h1, h2, h3⟩ := foldl_min ns n
    refine ⟨?_, fun y hy => ?_⟩
    · rcases h1 with h1 | h1
      · show ns.foldl min n ∈ n :: ns
        rw [h1]; exact List.mem_cons_self
      · exact List.mem_cons_of_mem _ h1
    · rcases List.mem_cons.mp hy with rfl | hy
      · exact h2
      · exact h3 y hy
theorem maxI_ok {ns : List Int} (h : 0 < ns.length) : maxI ns ∈ ns ∧ ∀ y ∈ ns, y ≤ maxI ns := by
  cases ns with
  | nil => simp at h
  | cons n ns =>
    obtain ⟨h1, h2, h3⟩ := foldl_max ns n
    refine ⟨?_, fun y hy => ?_⟩
    · rcases h1 with h1 | h1
      · show ns.foldl max n ∈ n :: ns
        rw [h1]; exact List.mem_cons_self
      · exact List.mem_cons_of_mem _ h1
    · rcases List.mem_cons.mp hy with rfl | hy
      · exact h2
      · exact h3 y hy
def mnxB (two : Int → Int → Int) (many : List Int → Int) (bs : List B) : Res B := match bs with
  | [.dat (.int i), .dat (.int j)] => .ok (.dat (.int (two i j)))
  | [b] => (match seqL b with
    | some ds => (match intsD ds with
      | some ns => if 0 < ns.length then .ok (.dat (.int (many ns))) else .bad
      | none => .bad)
    | none => .bad)
  | _ => .bad
def minF : List B → Res B := mnxB (fun i j => if j < i then j else i) minI
def maxF : List B → Res B := mnxB (fun i j => if j > i then j else i) maxI
def rMinF (K : PySem.W.Frag) : List V → Hp → VK → Prop := fun xs H Q => (∃ i j, xs = [.int i, .int j] ∧ Q (.int (if j < i then j else i)) H) ∨ rMin K xs H Q
def rMaxF (K : PySem.W.Frag) : List V → Hp → VK → Prop := fun xs H Q => (∃ i j, xs = [.int i, .int j] ∧ Q (.int (if j > i then j else i)) H) ∨ rMax K xs H Q
theorem c_min (hc : X.calm = true) : CallR X (.builtin "min") (rMinF X.K) := CallR.or (call_min2 hc) (cr_min hc)
theorem c_max (hc : X.calm = true) : CallR X (.builtin "max") (rMaxF X.K) := CallR.or (call_max2 hc) (cr_max hc)
theorem ints_at {F H : Hp} {v : V} {b : B} {ds : List D} {ns : List Int} (s : Sm g F H) (r : RR g F H v b) (h : seqL b = some ds) (e : intsD ds = some ns) : ∃ a, v = .ref a ∧ SqL g.K H a (ns.map V.int) := by
  obtain ⟨a, xs, rfl, h1, h2⟩ := seqL_ok s r h
  have ed := intsD_ok e
  subst ed
  have ex := h2.ints
  subst ex
  exact ⟨a, rfl, SqL.of h1⟩
theorem g_min {K : PySem.W.Frag} (hK : g.K = K) : CallG g (rMinF K) minF := by
  subst hK
  intro F H vs bs Q s r p
  unfold minF mnxB at p
  split at p
  · obtain ⟨v, w, rfl, rv, rw'⟩ := paired2 r
    cases rv
    cases rw'
    exact .inl ⟨_, _, rfl, p.int s⟩
  · obtain ⟨v, rfl, rv⟩ := paired1 r
    split at p
    · rename_i ds hd
      split at p
      · rename_i ns hn
        split at p
        · rename_i hl
          obtain ⟨a, rfl, h1⟩ := ints_at s rv hd hn
          obtain ⟨m1, m2⟩ := minI_ok hl
          refine .inr ⟨a, ns, rfl, h1, hl, fun m h2 h3 => ?_⟩
          have e : m = minI ns := by
            have a1 := h3 _ m1
            have a2 := m2 _ h2
            omega
          subst e
          exact p.int s
        · exact p.elim
      · exact p.elim
    · exact p.elim
  · exact p.elim
theorem g_max {K : PySem.W.Frag} (hK : g.K = K) : CallG g (rMaxF K) maxF := by
  subst hK
  intro F H vs bs Q s r p
  unfold maxF mnxB at p
  split at p
  · obtain ⟨v, w, rfl, rv, rw'⟩ := paired2 r
    cases rv
    cases rw'
    exact .inl ⟨_, _, rfl, p.int s⟩
  · obtain ⟨v, rfl, rv⟩ := paired1 r
    split at p
    · rename_i ds hd
      split at p
      · rename_i ns hn
        split at p
        · rename_i hl
          obtain ⟨a, rfl, h1⟩ := ints_at s rv hd hn
          obtain ⟨m1, m2⟩ := maxI_ok hl
          refine .inr ⟨a, ns, rfl, h1, hl, fun m h2 h3 => ?_⟩
          have e : m = maxI ns := by
            have a1 := h3 _ m1
            have a2 := m2 _ h2
            omega
          subst e
          exact p.int s
        · exact p.elim
      · exact p.elim
    · exact p.elim
  · exact p.elim
def sumF (bs : List B) : Res B := match bs with
  | [b] => (match seqL b with
    | some ds => (match intsD ds with
      | some ns => .ok (.dat (.int ns.sum))
      | none => .bad)
    | none => .bad)
  | _ => .bad
theorem g_sum {K : PySem.W.Frag} (hK : g.K = K) : CallG g (rSum K) sumF := by
  subst hK
  intro F H vs bs Q s r p
  unfold sumF at p
  split at p
  · obtain ⟨v, rfl, rv⟩ := paired1 r
    split at p
    · rename_i ds hd
      split at p
      · rename_i ns hn
        obtain ⟨a, rfl, h1⟩ := ints_at s rv hd hn
        exact ⟨a, ns, rfl, h1, p.int s⟩
      · exact p.elim
    · exact p.elim
  · exact p.elim
def anyAllF (f : List Bool → Bool) (bs : List B) : Res B := match bs with
  | [b] => (match seqL b with
    | some ds => (match blsD ds with
      | some ns => .ok (.dat (.bl (f ns)))
      | none => .bad)
    | none => .bad)
  | _ => .bad
def anyF : List B → Res B := anyAllF fun ns => ns.any id
def allF : List B → Res B := anyAllF fun ns => ns.all id
theorem bls_at {F H : Hp} {v : V} {b : B} {ds : List D} {ns : List Bool} (s : Sm g F H) (r : RR g F H v b) (h : seqL b = some ds) (e : blsD ds = some ns) : ∃ a, v = .ref a ∧ SqL g.K H a (ns.map V.bl) := by
  obtain ⟨a, xs, rfl, h1, h2⟩ := seqL_ok s r h
  have ed := blsD_ok e
  subst ed
  have ex := h2.bls
  subst ex
  exact ⟨a, rfl, SqL.of h1⟩
theorem g_any {K : PySem.W.Frag} (hK : g.K = K) : CallG g (rAny K) anyF := by
  subst hK
  intro F H vs bs Q s r p
  unfold anyF anyAllF at p
  split at p
  · obtain ⟨v, rfl, rv⟩ := paired1 r
    split at p
    · rename_i ds hd
      split at p
      · rename_i ns hn
        obtain ⟨a, rfl, h1⟩ := bls_at s rv hd hn
        exact ⟨a, ns, rfl, h1, p.bl s⟩
      · exact p.elim
    · exact p.elim
  · exact p.elim
theorem g_all {K : PySem.W.Frag} (hK : g.K = K) : CallG g (rAll K) allF := by
  subst hK
  intro F H vs bs Q s r p
  unfold allF anyAllF at p
  split at p
  · obtain ⟨v, rfl, rv⟩ := paired1 r
    split at p
    · rename_i ds hd
      split at p
      · rename_i ns hn
        obtain ⟨a, rfl, h1⟩ := bls_at s rv hd hn
        exact ⟨a, ns, rfl, h1, p.bl s⟩
      · exact p.elim
    · exact p.elim
  · exact p.elim
/-! ### classes called -/
def intF (bs : List B) : Res B := match bs with
  | [.dat (.int i)] => .ok (.dat (.int i))
  | [.dat (.bl k)] => .ok (.dat (.int (if k then 1 else 0)))
  | _ => .bad
theorem g_int : CallG g (fun xs H Q => (∃ i, xs = [.int i] ∧ Q (.int i) H) ∨ ∃ k, xs = [.bl k] ∧ Q (.int (if k then 1 else 0)) H) intF := by
  intro F H vs bs Q s r p
  unfold intF at p
  split at p
  · obtain ⟨v, rfl, rv⟩ := paired1 r
    cases rv
    exact .inl ⟨_, rfl, p.int s⟩
  · obtain ⟨v, rfl, rv⟩ := paired1 r
    cases rv
    exact .inr ⟨_, rfl, p.int s⟩
  · exact p.elim
def strF (bs : List B) : Res B := match bs with
  | [.dat (.int i)] => if i.natAbs.log2 < 1920 then .ok (.dat (.str (toString i))) else .bad
  | _ => .bad
theorem g_str : CallG g (fun xs H Q => ∃ i, xs = [.int i] ∧ i.natAbs.log2 < 1920 ∧ Q (.str (toString i)) H) strF := by
  intro F H vs bs Q s r p
  unfold strF at p
  split at p
  · split at p
    · obtain ⟨v, rfl, rv⟩ := paired1 r
      cases rv
      exact ⟨_, rfl, by assumption, p.str s⟩
    · exact p.elim
  · exact p.elim
def isTupD : B → Bool
  | .dat (.tup _) => true
  | .dat (.ctup _) => true
  | _ => false
def tupF (bs : List B) : Res B := match bs with
  | [.dat (.tup xs)] => .ok (.dat (.tup xs))
  | [.dat (.ctup xs)] => .ok (.dat (.ctup xs))
  | [b] => (match seqI b with
    | some ds => .ok (.dat (.tup ds))
    | none => .bad)
  | _ => .bad
theorem seqI_list {F H : Hp} {v : V} {b : B} {ds : List D} (s : Sm g F H) (r : RR g F H v b) (h : seqI b = some ds) (n1 : ∀ xs, b ≠ .dat (.tup xs)) (n2 : ∀ xs, b ≠ .dat (.ctup xs)) : ∃ a xs, v = .ref a ∧ SqL g.K H a xs ∧ RpAll g.K g.fa F xs ds := by
  unfold seqI at h
  split at h
  · exact absurd rfl (n1 _)
  · exact absurd rfl (n2 _)
  · cases h
    cases r with
    | lst h1 h2 => exact ⟨_, _, rfl, SqL.of (s.fh _ _ h1), h2⟩
  · cases h
    obtain ⟨p, o, rfl, h1, h2⟩ := r
    cases h2 with
    | l h2 => exact ⟨_, _, rfl, SqL.of h1, h2⟩
  · cases h
    obtain ⟨p, o, rfl, h1, h2⟩ := r
    cases h2 with
    | l h2 => exact ⟨_, _, rfl, SqL.of (s.gh _ _ h1), h2⟩
  · cases h
    obtain ⟨p, rfl, h1⟩ := r
    exact ⟨_, _, rfl, s.gh.seq h1, RpAll.of_ints _⟩
  · cases h
def rTupF (K : PySem.W.Frag) : List V → Hp → VK → Prop := fun xs H Q => ∃ p ys, xs = [.ref p] ∧ ((SqL K H p ys ∧ ∀ l, H l = none → Q (.ref l) (upd H l (.tup ys))) ∨ (SqT K H p ys ∧ Q (.ref p) H))
theorem g_tupF {K : PySem.W.Frag} (hK : g.K = K) : CallG g (rTupF K) tupF := by
  subst hK
  intro F H vs bs Q s r p
  unfold tupF at p
  split at p
  · obtain ⟨v, rfl, rv⟩ := paired1 r
    cases rv with
    | tup h1 h2 => exact ⟨_, _, rfl, .inr ⟨SqT.of (s.fh _ _ h1), p.dat s (.tup h1 h2)⟩⟩
  · obtain ⟨v, rfl, rv⟩ := paired1 r
    cases rv with
    | ctup h1 h2 => exact ⟨_, _, rfl, .inr ⟨sqT_none h1, p.dat s (.ctup h1 h2)⟩⟩
  · rename_i b n1 n2
    obtain ⟨v, rfl, rv⟩ := paired1 r
    split at p
    · rename_i ds hs
      obtain ⟨a, xs, rfl, h1, h2⟩ := seqI_list s rv hs (fun xs e => n1 xs (by rw [e])) (fun xs e => n2 xs (by rw [e]))
      exact ⟨a, xs, rfl, .inl ⟨h1, p.newT s h2⟩⟩
    · exact p.elim
  · exact p.elim
def lstF (bs : List B) : Res B := match bs with
  | [b] => (match seqI b with
    | some ds => .ok (.own (.l ds))
    | none => .bad)
  | _ => .bad
def rLstF (K : PySem.W.Frag) : List V → Hp → VK → Prop := fun xs H Q => ∃ p ys, xs = [.ref p] ∧ (SqL K H p ys ∨ SqT K H p ys) ∧ ∀ l, H l = none → Q (.ref l) (upd H l (.lst ys))
theorem g_lstF {K : PySem.W.Frag} (hK : g.K = K) : CallG g (rLstF K) lstF := by
  subst hK
  intro F H vs bs Q s r p
  unfold lstF at p
  split at p
  · obtain ⟨v, rfl, rv⟩ := paired1 r
    split at p
    · rename_i ds hs
      obtain ⟨a, xs, rfl, h1, h2⟩ := seqI_ok s rv hs
      exact ⟨a, xs, rfl, h1, p.newL s h2⟩
    · exact p.elim
  · exact p.elim
/-! ### sorted -/
def sortF (bs : List B) : Res B := match bs with
  | [b] => (match dkOf b with
    | some kvs => if sortOk (kvs.map fun kv => keyB kv.1) = true then .ok (.own (.l ((kvs.map fun kv => keyB kv.1).mergeSort leD))) else .bad
    | none => match dtOf b with
      | some kvs => if sortOk (kvs.map fun kv => kD kv.1) = true then .ok (.own (.l ((kvs.map fun kv => kD kv.1).mergeSort leD))) else .bad
      | none => match seqL b with
        | some ds => if sortOk ds = true then .ok (.own (.l (ds.mergeSort leD))) else .bad
        | none => .bad)
  | _ => .bad
def rSortAll (K : PySem.W.Frag) : List V → Hp → VK → Prop := fun xs H Q => rSortDk K xs H Q ∨ rSortDt K xs H Q ∨ rSortF K xs H Q
theorem c_sort (hc : X.calm = true) (hu : X.A.units + 200 < cLine) : CallR X (.builtin "sorted") (rSortAll X.K) := CallR.or (cr_sortDk hc hu) (CallR.or (cr_sortDt hc hu) (cr_sortF (by omega)))
theorem keyB_rp {F : Hp} : ∀ (k : Key), Rp g.K g.fa F (kV k) (keyB k)
  | .inl i => .int i
  | .inr x => .str x
theorem keysB_rp {F : Hp} : ∀ (ks : List Key), RpAll g.K g.fa F (ks.map kV) (ks.map keyB)
  | [] => .nil
  | k :: ks => .cons (keyB_rp k) (keysB_rp ks)
theorem lay_of {ds : List D} (h : sortOk ds = true) : PyData.canLayAll0 (toPys ds) = true := by
  obtain ⟨h1, _, _⟩ := sortOk_iff h
  have go : ∀ ds : List D, (∀ d ∈ ds, SeqAt.shaped (toPy d) = true) → PyData.canLayAll0 (toPys ds) = true := by
    intro ds
    induction ds with
    | nil => intro _; simp [toPys, PyData.canLayAll0]
    | cons d ds ih =>
      intro h
      rw [toPys, PyData.canLayAll0, SeqAt.canLay_of_shaped (h d List.mem_cons_self), ih fun e he => h e (List.mem_cons_of_mem _ he)]
      rfl
  exact go ds h1
/-- the keys of a dict whose keys are tuples, locked -/
theorem lock_keys {F H : Hp} (s : Same F H) : ∀ {kvs : List (List Key × V)} {bs : List Addr}, IsKeys H kvs bs → ∀ {F1 : Hp}, Grow F H F1 H → ∃ F', Grow F H F' H ∧ Same F1 F' ∧ RpAll g.K g.fa F' (bs.map V.ref) (kvs.map fun kv => kD kv.1)
  | _, _, .nil, F1, g1 => ⟨F1, g1, Same.refl _, .nil⟩
  | kv :: kvs, b :: bs, .cons h r, F1, g1 => by
    have g2 : Grow F H (upd F1 b (.tup (kv.1.map kV))) H := g1.tup h
    obtain ⟨F', g3, s3, r3⟩ := lock_keys s r g2
    refine ⟨F', g3, fun c o e => s3 _ _ ?_, .cons (.tup (s3 _ _ upd_same) (keysB_rp _)) r3⟩
    by_cases hb : c = b
    · subst hb
      have := g1.sub _ _ e
      rw [h] at this
      rw [upd_same]
      exact this
    · rw [upd_ne hb]
      exact e
theorem g_sort {K : PySem.W.Frag} (hK : g.K = K) : CallG g (rSortAll K) sortF := by
  subst hK
  intro F H vs bs Q s r p
  unfold sortF at p
  split at p
  · obtain ⟨v, rfl, rv⟩ := paired1 r
    split at p
    · rename_i kvs hk
      split at p
      · rename_i ho
        obtain ⟨a, xs, rfl, h1, h2, h3⟩ := dkOf_ok s rv hk
        have ek : xs.map (fun kv => kV kv.1) = (kvs.map (·.1)).map kV := by rw [← h2, List.map_map]; rfl
        have eb : kvs.map (fun kv => keyB kv.1) = (kvs.map (·.1)).map keyB := by rw [List.map_map]; rfl
        have rr : RpAll g.K g.fa F (xs.map fun kv => kV kv.1) (kvs.map fun kv => keyB kv.1) := by
          rw [ek, eb]
          exact keysB_rp _
        refine .inl ⟨a, xs, _, rfl, .inl h1, RpAll.dp s.fh rr (lay_of ho), by have e := congrArg List.length h2; simpa using e, ho, p.newL s (sortZ_rp rr)⟩
      · exact p.elim
    · split at p
      · rename_i kvs hk
        split at p
        · rename_i ho
          obtain ⟨a, xs, rfl, h1, h2, h3⟩ := dtOf_ok s rv hk
          have ek : xs.map (fun kv => kD kv.1) = kvs.map fun kv => kD kv.1 := by
            have e := congrArg (List.map kD) h2
            rw [List.map_map, List.map_map] at e
            exact e
          refine .inr (.inl ⟨a, xs, rfl, .inl h1, by rw [ek]; exact ho, fun q bs hq hb => ?_⟩)
          obtain ⟨F', g1, _, r1⟩ := lock_keys (g := g) s.fh hb (Grow.refl s.fh)
          have p' := p.later g1
          rw [← ek] at p'
          exact p'.newL (s.grow g1) (sortZ_rp r1) q hq
        · exact p.elim
      · split at p
        · rename_i ds hs
          split at p
          · rename_i ho
            obtain ⟨a, xs, rfl, h1, h2⟩ := seqL_ok s rv hs
            exact .inr (.inr ⟨a, xs, ds, rfl, SqL.of h1, RpAll.dp s.fh h2 (lay_of ho), h2.len, ho, p.newL s (sortZ_rp h2)⟩)
          · exact p.elim
        · exact p.elim
  · exact p.elim
end
end Fn
namespace Fn
open PySem PySem.Spec PyProof.Rows L2
section
variable {X : Cx} {g : G} {a b c : Expr} {pos : Pos} {fa fb fc : Env → Res B}
/-! ### tests of comparisons, and, or, not; a if t else b -/
def tstB (b : B) : Res Bool := match b with
  | .dat (.bl k) => .ok k
  | _ => .bad
theorem tst_run {f : Env → Res B} {σ : L2.St} {H : Hp} {Q : Bool → Hp → Prop} (h : tFT g (fun ρ => (f ρ).bind tstB) σ H Q) : tF g f σ H fun x H' => ∃ k, x = .bl k ∧ Q k H' := by
  obtain ⟨F, ρ, s, p⟩ := h
  refine ⟨F, ρ, s, ?_⟩
  dsimp only at p
  cases e : f ρ with
  | ok b =>
    rw [e, Res.ok_bind] at p
    intro v F' H' g1 r1
    unfold tstB at p
    split at p
    · cases r1
      exact ⟨_, rfl, p F' H' g1⟩
    · exact p.elim
  | exc c =>
    rw [e, Res.exc_bind] at p
    exact p
  | bad =>
    rw [e] at p
    exact p
theorem ft_cmp {op : CmpOp} {r : R2} {f : B → B → Res B} (ho : OpR X (compareOp op) r) (hg : OpG g r f) (ha : PE X a (tF g fa)) (hb : PE X b (tF g fb)) (hm : behindInMarks op b = false) : PT X (.Compare a [op] [b] pos) (tFT g fun ρ => (bin2 f fa fb ρ).bind tstB) :=
  PT.imp (pt_cmpR ho ha hb hm) fun _ _ _ h => run2 hg (tst_run h)
/-- a op b op' c -/
def chn (f f' : B → B → Res B) (fa fb fc : Env → Res B) : Env → Res B := fun ρ => (fa ρ).bind fun x => (fb ρ).bind fun y => (f (rd x) (rd y)).bind fun z => match z with
  | .dat (.bl true) => (fc ρ).bind fun w => f' (rd y) (rd w)
  | .dat (.bl false) => .ok (.dat (.bl false))
  | _ => .bad
theorem chn_run {r r' : R2} {f f' : B → B → Res B} (hg : OpG g r f) (hg' : OpG g r' f') {σ : L2.St} {H : Hp} {Q : VK} (h : tF g (chn f f' fa fb fc) σ H Q) : tChain r r' (tF g fa) (tF g fb) (tF g fc) σ H Q := by
  obtain ⟨F, ρ, s, p⟩ := h
  unfold chn at p
  refine run1 s (fun bx v F1 H1 e1 g1 r1 => ?_) (fun c e => ?_) (fun e => ?_)
  · rw [e1, Res.ok_bind] at p
    have s1 := s.grow g1
    refine run1 s1 (fun by_ w F2 H2 e2 g2 r2 => ?_) (fun c e => ?_) (fun e => ?_)
    · rw [e2, Res.ok_bind] at p
      have s2 := s1.grow g2
      refine hg F2 H2 v w _ _ _ s2.sm (r1.mono g2) r2 ?_
      have p2 := p.later (g1.trans g2)
      cases e3 : f (rd bx) (rd by_) with
      | ok z =>
        rw [e3, Res.ok_bind] at p2
        intro zv F3 H3 g3 r3
        split at p2
        · cases r3
          refine ⟨true, rfl, ?_⟩
          rw [if_pos rfl]
          have s3 := s2.grow g3
          refine run1 s3 (fun bw u F4 H4 e4 g4 r4 => ?_) (fun c e => ?_) (fun e => ?_)
          · rw [e4, Res.ok_bind] at p2
            exact hg' F4 H4 w u _ _ Q (s3.sm.grow g4) ((r2.mono g3).mono g4) r4 (p2.later (g3.trans g4))
          · rw [e, Res.exc_bind] at p2
            exact fun F' H' gr => p2 F' H' (g3.trans gr)
          · rw [e] at p2
            exact p2
        · cases r3
          refine ⟨false, rfl, ?_⟩
          rw [if_neg Bool.false_ne_true]
          exact (p2.later g3).bl (s2.sm.grow g3)
        · exact p2.elim
      | exc c =>
        rw [e3, Res.exc_bind] at p2
        exact p2
      | bad =>
        rw [e3] at p2
        exact p2
    · rw [e, Res.exc_bind] at p
      exact fun F' H' gr => p F' H' (g1.trans gr)
    · rw [e] at p
      exact p
  · rw [e] at p
    exact p
  · rw [e] at p
    exact p
theorem mark2 {op op' : CmpOp} {b c : Expr} (hm : nset c = true) : lastMarks [op, op'] [b, c] = false := by
  show behindInMarks op' c = false
  exact nset_mark hm
theorem fe_chain {op op' : CmpOp} {r r' : R2} {f f' : B → B → Res B} (ho : OpR X (compareOp op) r) (hg : OpG g r f) (ho' : OpR X (compareOp op') r') (hg' : OpG g r' f') (ha : PE X a (tF g fa)) (hb : PE X b (tF g fb)) (hc : PE X c (tF g fc)) (hm : nset c = true) :
    PE X (.Compare a [op, op'] [b, c] pos) (tF g (chn f f' fa fb fc)) := PE.imp (pe_chain ho ho' ha hb hc (mark2 hm)) fun _ _ _ h => chn_run hg hg' h
theorem ft_chain {op op' : CmpOp} {r r' : R2} {f f' : B → B → Res B} (ho : OpR X (compareOp op) r) (hg : OpG g r f) (ho' : OpR X (compareOp op') r') (hg' : OpG g r' f') (ha : PE X a (tF g fa)) (hb : PE X b (tF g fb)) (hc : PE X c (tF g fc)) (hm : nset c = true) :
    PT X (.Compare a [op, op'] [b, c] pos) (tFT g fun ρ => (chn f f' fa fb fc ρ).bind tstB) := PT.imp (pt_chain ho ho' ha hb hc (mark2 hm)) fun _ _ _ h => chn_run hg hg' (tst_run h)
/-- a test, then what is done with its answer -/
theorem runT {t : Env → Res Bool} {σ : L2.St} {F H : Hp} {ρ : Env} {Q : Bool → Hp → Prop} (s : St g F H σ ρ) (hok : ∀ k F1 H1, t ρ = .ok k → Grow F H F1 H1 → Q k H1) (hexc : ∀ c, t ρ = .exc c → ∀ F' H', Grow F H F' H' → g.E c H') (hbad : t ρ ≠ .bad) : tFT g t σ H Q := by
  refine ⟨F, ρ, s, ?_⟩
  cases e : t ρ with
  | ok k => exact fun F1 H1 g1 => hok k F1 H1 e g1
  | exc c => exact hexc c e
  | bad => exact hbad e
def notT (t : Env → Res Bool) : Env → Res Bool := fun ρ => (t ρ).bind fun k => .ok !k
def andT (t u : Env → Res Bool) : Env → Res Bool := fun ρ => (t ρ).bind fun k => if k = true then u ρ else .ok false
def orT (t u : Env → Res Bool) : Env → Res Bool := fun ρ => (t ρ).bind fun k => if k = true then .ok true else u ρ
theorem ft_not {t : Env → Res Bool} (ha : PT X a (tFT g t)) : PT X (.UnaryOp .Not a pos) (tFT g (notT t)) := by
  refine PT.imp (pt_not ha) fun σ H Q ⟨F, ρ, s, p⟩ => ?_
  unfold notT at p
  refine runT s (fun k F1 H1 e g1 => ?_) (fun c e => ?_) (fun e => ?_)
  · rw [e, Res.ok_bind] at p
    exact p F1 H1 g1
  · rw [e] at p
    exact p
  · rw [e] at p
    exact p
theorem ft_and {t u : Env → Res Bool} {rest : List Expr} (ha : PT X a (tFT g t)) (hb : PW X (.BoolOp .And (b :: rest) pos) (tFT g u)) : PW X (.BoolOp .And (a :: b :: rest) pos) (tFT g (andT t u)) := by
  have h := pw_and ha hb
  refine ⟨fun wh pins s σ H Q I hw => h.run wh pins s σ H Q I ?_⟩
  obtain ⟨F, ρ, st, p⟩ := hw
  unfold andT at p
  refine runT st (fun k F1 H1 e g1 => ?_) (fun c e => ?_) (fun e => ?_)
  · rw [e, Res.ok_bind] at p
    cases k with
    | true =>
      rw [if_pos rfl] at p ⊢
      exact ⟨F1, ρ, st.grow g1, p.later g1⟩
    | false =>
      rw [if_neg Bool.false_ne_true] at p ⊢
      exact p F1 H1 g1
  · rw [e] at p
    exact p
  · rw [e] at p
    exact p
theorem ft_or {t u : Env → Res Bool} {rest : List Expr} (ha : PT X a (tFT g t)) (hb : PW X (.BoolOp .Or (b :: rest) pos) (tFT g u)) : PW X (.BoolOp .Or (a :: b :: rest) pos) (tFT g (orT t u)) := by
  have h := pw_or ha hb
  refine ⟨fun wh pins s σ H Q I hw => h.run wh pins s σ H Q I ?_⟩
  obtain ⟨F, ρ, st, p⟩ := hw
  unfold orT at p
  refine runT st (fun k F1 H1 e g1 => ?_) (fun c e => ?_) (fun e => ?_)
  · rw [e, Res.ok_bind] at p
    cases k with
    | true =>
      rw [if_pos rfl] at p ⊢
      exact p F1 H1 g1
    | false =>
      rw [if_neg Bool.false_ne_true] at p ⊢
      exact ⟨F1, ρ, st.grow g1, p.later g1⟩
  · rw [e] at p
    exact p
  · rw [e] at p
    exact p
def iteV (t : Env → Res Bool) (fa fb : Env → Res B) : Env → Res B := fun ρ => (t ρ).bind fun k => if k = true then fa ρ else fb ρ
theorem fe_ite {t : Env → Res Bool} (hc : PT X c (tFT g t)) (ha : PE X a (tF g fa)) (hb : PE X b (tF g fb)) : PE X (.IfExp c a b pos) (tF g (iteV t fa fb)) := by
  refine PE.imp (pe_ifExp hc ha hb) fun σ H Q ⟨F, ρ, s, p⟩ => ?_
  unfold iteV at p
  refine runT s (fun k F1 H1 e g1 => ?_) (fun c e => ?_) (fun e => ?_)
  · rw [e, Res.ok_bind] at p
    cases k with
    | true =>
      rw [if_pos rfl] at p ⊢
      exact ⟨F1, ρ, s.grow g1, p.later g1⟩
    | false =>
      rw [if_neg Bool.false_ne_true] at p ⊢
      exact ⟨F1, ρ, s.grow g1, p.later g1⟩
  · rw [e] at p
    exact p
  · rw [e] at p
    exact p
/-! ### isinstance of a built-in class -/
inductive Ty where
  | int | bool | str | tuple | list | dict
  deriving DecidableEq
def Ty.nm : Ty → String
  | .int => "int"
  | .bool => "bool"
  | .str => "str"
  | .tuple => "tuple"
  | .list => "list"
  | .dict => "dict"
def tyD : D → Option Ty
  | .non => none
  | .bl _ => some .bool
  | .int _ => some .int
  | .str _ => some .str
  | .tup _ => some .tuple
  | .ctup _ => some .tuple
  | .lst _ => some .list
  | .dk _ => some .dict
  | .dt _ => some .dict
  | .fn _ => none
def isTy (t : Ty) (d : D) : Bool := match tyD d with
  | some u => decide (u = t) || (decide (u = .bool) && decide (t = .int))
  | none => false
def isFn : D → Bool
  | .fn _ => true
  | _ => false
def isiB (t : Ty) (b : B) : Res B := if isFn (datOf b) = true then .bad else .ok (.dat (.bl (isTy t (datOf b))))
def tyN (o : Option Ty) : String := match o with
  | none => "NoneType"
  | some t => t.nm
theorem kit_all : ∀ (u : Option Ty) (t : Ty), kitB (tyN u) t.nm = some (match u with | some u => decide (u = t) || (decide (u = .bool) && decide (t = .int)) | none => false) := by
  intro u t
  cases u with
  | none => cases t <;> decide +kernel
  | some u => cases u <;> cases t <;> decide +kernel
theorem m_ty {K : PySem.W.Frag} {fa : Nat → Option Addr} {F H : Hp} {p : Addr} {o : HO} {m : M} (h : H p = some o) (r : RpM K fa F o m) : TyX K H (.ref p) (.type (tyN (tyD (frzM m)))) := by
  cases r with
  | l r => exact .base (.lst h)
  | k _ _ => exact .base (.dK h)
  | t _ _ => exact .base (.dT h)
theorem sqL_ty {K : PySem.W.Frag} {H : Hp} {p : Addr} {xs : List V} (h : SqL K H p xs) : TyX K H (.ref p) (.type "list") := by
  rcases h with (h | ⟨o, h⟩) | ⟨o, its, n, hk, hc, _⟩
  · exact .base (.lst h)
  · exact .base (.frz h)
  · exact .kList hk hc
theorem rr_ty {F H : Hp} {v : V} {b : B} (s : Sm g F H) (r : RR g F H v b) (hf : isFn (datOf b) = false) : TyX g.K H v (.type (tyN (tyD (datOf b)))) := by
  cases b with
  | dat d =>
    cases r with
    | non => exact .base .non
    | bl b => exact .base (.bl b)
    | int i => exact .base (.int i)
    | str x => exact .base (.str x)
    | tup h _ => exact .base (.tup (s.fh _ _ h))
    | ctup h _ =>
      rcases h with (h | ⟨o, h⟩) | ⟨o, its, n, hk, hc, _⟩
      · cases h
      · cases h
      · exact .kTuple hk hc
    | lst h _ => exact .base (.lst (s.fh _ _ h))
    | dk h _ _ => exact .base (.dK (s.fh _ _ h))
    | dt h _ _ => exact .base (.dT (s.fh _ _ h))
    | fn _ => cases hf
  | own m => exact r.elim
  | vw m =>
    obtain ⟨p, o, rfl, h, q⟩ := r
    exact m_ty h q
  | bor m =>
    obtain ⟨p, o, rfl, h, q⟩ := r
    exact m_ty (s.gh _ _ h) q
  | scr ns =>
    obtain ⟨p, rfl, h⟩ := r
    exact sqL_ty (s.gh.seq h)
theorem fe_isi {t : Ty} {x : Str} {p p2 : Pos} (hK : g.K = X.K) (hg : Gl X "isinstance") (hm : X.mg "isinstance" = none) (hx : x = Str.ofString t.nm) (hg2 : Gl X x) (hm2 : X.mg x = none) (hb : bootBuiltins x = some (.type t.nm)) (hn : nst a = true) (ha : PE X a (tF g fa)) :
    PE X (.Call (.Name "isinstance" p) [a, .Name x p2] [] pos) (tF g (one1 (isiB t) fa)) := by
  have h2 : PA X [a, .Name x p2] (tCons (tF g fa) (tCons (tC (.ty t.nm)) tNil)) := pa_cons ha (pa_cons (pe_bltn (v := .ty t.nm) hg2 hm2 hb rfl (by rw [hx]; cases t <;> decide) (by rw [hx]; cases t <;> decide)) pa_nil) (star_cons hn)
  refine PE.imp (pe_callB call_isi hg hm PyProof.Rows.boot_isinstance h2 (by decide) (by decide) (star_cons hn) (by rfl)) fun σ H Q ⟨F, ρ, s, q⟩ => ?_
  unfold one1 at q
  show tF g fa σ H _
  refine run1 s (fun bx v F1 H1 e1 g1 r1 => ?_) (fun c e => ?_) (fun e => ?_)
  · rw [e1, Res.ok_bind] at q
    unfold isiB at q
    by_cases hf : isFn (datOf (rd bx)) = true
    · rw [if_pos hf] at q
      exact q.elim
    · rw [if_neg hf] at q
      have s1 := (s.grow g1).sm
      refine ⟨v, _, _, _, _, rfl, ClsV.ty _, ?_, kit_ty (kit_all (tyD (datOf (rd bx))) t), ?_⟩
      · rw [← hK]
        exact rr_ty s1 r1 (by simpa using hf)
      · exact (q.later g1).bl s1
  · rw [e] at q
    exact q
  · rw [e] at q
    exact q
/-! ### slices -/
def PostO (g : G) (F H : Hp) (r : Res (Option Int)) (Q : Option Int → Hp → Prop) : Prop := match r with
  | .ok b => ∀ F' H', Grow F H F' H' → Q b H'
  | .exc c => ∀ F' H', Grow F H F' H' → g.E c H'
  | .bad => False
def tFO (g : G) (f : Env → Res (Option Int)) : TO := fun σ H Q => ∃ F ρ, St g F H σ ρ ∧ PostO g F H (f ρ) Q
theorem PO.imp {e : Option Expr} {t t' : TO} (h : PO X e t) (i : ∀ σ H Q, t' σ H Q → t σ H Q) : PO X e t' := ⟨fun pins s σ H Q I w => h.run pins s σ H Q I (i σ H Q w)⟩
def partB (b : B) : Res (Option Int) := match b with
  | .dat (.int i) => .ok (some i)
  | _ => .bad
theorem fo_none : PO X none (tFO g fun _ => .ok none) := PO.imp po_none fun _ _ _ ⟨F, _, s, p⟩ => p F _ (Grow.refl s.sub)
theorem fo_some (ha : PE X a (tF g fa)) : PO X (some a) (tFO g fun ρ => (fa ρ).bind fun x => partB x) := by
  refine PO.imp (po_some ha) fun σ H Q ⟨F, ρ, s, p⟩ => ?_
  refine ⟨F, ρ, s, ?_⟩
  dsimp only at p
  cases e : fa ρ with
  | ok b =>
    rw [e, Res.ok_bind] at p
    intro v F' H' g1 r1
    unfold partB at p
    split at p
    · cases r1
      exact ⟨_, rfl, p F' H' g1⟩
    · exact p.elim
  | exc c =>
    rw [e] at p
    exact p
  | bad =>
    rw [e] at p
    exact p
def cutL {α : Type} (xs : List α) (lo hi : Option Int) : List α := (xs.drop (HT.sIx xs.length 0 lo)).take (HT.sIx xs.length xs.length hi - HT.sIx xs.length 0 lo)
def isTup? : B → Option (Bool × List D)
  | .dat (.tup xs) => some (false, xs)
  | .dat (.ctup xs) => some (true, xs)
  | _ => none
def sliceB (b : B) (lo hi : Option Int) : Res B := match b with
  | .dat (.str x) => if x.length ≤ sizeLine then .ok (.dat (.str (cutS x lo hi))) else .bad
  | .dat (.tup xs) => .ok (.dat (.tup (cutL xs lo hi)))
  | .dat (.ctup xs) => if HT.sIx xs.length 0 lo = 0 ∧ HT.sIx xs.length xs.length hi = xs.length then .ok (.dat (.ctup xs)) else .ok (.dat (.tup (cutL xs lo hi)))
  | b => match seqI b with
    | some ds => .ok (.own (.l (cutL ds lo hi)))
    | none => .bad
theorem cut_rp {K : PySem.W.Frag} {fa : Nat → Option Addr} {F : Hp} {xs : List V} {ds : List D} (r : RpAll K fa F xs ds) (lo hi : Option Int) : RpAll K fa F (cutV xs lo hi) (cutL ds lo hi) := by
  unfold cutV cutL
  rw [r.len]
  exact (r.drop _).take _
def rSlF (K : PySem.W.Frag) : V → Option Int → Option Int → Hp → VK → Prop := fun x lo hi H Q => rSlS x lo hi H Q ∨ rSlA K x lo hi H Q ∨ rSlL K x lo hi H Q
theorem sl_F : SlR X (rSlF X.K) := SlR.or sl_str (SlR.or sl_tupA sl_list)
theorem cut_whole {α : Type} {xs : List α} {lo hi : Option Int} (h : HT.sIx xs.length 0 lo = 0 ∧ HT.sIx xs.length xs.length hi = xs.length) : cutL xs lo hi = xs := by
  unfold cutL
  rw [h.1, h.2, List.drop_zero, Nat.sub_zero, List.take_length]
theorem g_slice {F H : Hp} {v : V} {b : B} {lo hi : Option Int} {Q : VK} (s : Sm g F H) (r : RR g F H v b) (p : Post g F H (sliceB b lo hi) Q) : rSlF g.K v lo hi H Q := by
  unfold sliceB at p
  split at p
  · split at p
    · cases r
      exact .inl ⟨_, rfl, by assumption, p.str s⟩
    · exact p.elim
  · cases r with
    | tup h1 h2 =>
      refine .inr (.inl ⟨_, _, rfl, SqT.of (s.fh _ _ h1), fun hw => ?_, fun _ => p.newT s (cut_rp h2 lo hi)⟩)
      rw [h2.len] at hw
      rw [cut_whole hw] at p
      exact p.dat s (.tup h1 h2)
  · cases r with
    | ctup h1 h2 =>
      refine .inr (.inl ⟨_, _, rfl, sqT_none h1, fun hw => ?_, fun hw => ?_⟩)
      · rw [h2.len] at hw
        rw [if_pos hw] at p
        exact p.dat s (.ctup h1 h2)
      · rw [h2.len] at hw
        rw [if_neg hw] at p
        exact p.newT s (cut_rp h2 lo hi)
  · rename_i n1 n2 n3
    split at p
    · rename_i ds hs
      obtain ⟨a, xs, rfl, h1, h2⟩ := seqI_list s r hs n2 n3
      exact .inr (.inr ⟨a, xs, rfl, h1, p.newL s (cut_rp h2 lo hi)⟩)
    · exact p.elim
def slcV (fa : Env → Res B) (fl fh : Env → Res (Option Int)) : Env → Res B := fun ρ => (fa ρ).bind fun x => (fl ρ).bind fun l => (fh ρ).bind fun h => sliceB (rd x) l h
theorem fe_slice {lo hi : Option Expr} {fl fh : Env → Res (Option Int)} {p2 : Pos} (hK : g.K = X.K) (ha : PE X a (tF g fa)) (hl : PO X lo (tFO g fl)) (hh : PO X hi (tFO g fh)) : PE X (.Subscript a (.Slice lo hi none p2) pos) (tF g (slcV fa fl fh)) := by
  refine PE.imp (pe_slice sl_F ha hl hh) fun σ H Q ⟨F, ρ, s, p⟩ => ?_
  unfold slcV at p
  show tF g fa σ H _
  refine run1 s (fun bx v F1 H1 e1 g1 r1 => ?_) (fun c e => ?_) (fun e => ?_)
  · rw [e1, Res.ok_bind] at p
    have s1 := s.grow g1
    refine ⟨F1, ρ, s1, ?_⟩
    cases e2 : fl ρ with
    | ok l =>
      rw [e2, Res.ok_bind] at p
      intro F2 H2 g2
      refine ⟨F2, ρ, s1.grow g2, ?_⟩
      cases e3 : fh ρ with
      | ok h =>
        rw [e3, Res.ok_bind] at p
        intro F3 H3 g3
        rw [← hK]
        exact g_slice (((s1.grow g2).grow g3).sm) ((r1.mono g2).mono g3) (p.later ((g1.trans g2).trans g3))
      | exc c =>
        rw [e3, Res.exc_bind] at p
        exact fun F' H' gr => p F' H' ((g1.trans g2).trans gr)
      | bad =>
        rw [e3] at p
        exact p
    | exc c =>
      rw [e2, Res.exc_bind] at p
      exact fun F' H' gr => p F' H' (g1.trans gr)
    | bad =>
      rw [e2] at p
      exact p
  · rw [e] at p
    exact p
  · rw [e] at p
    exact p
/-! ### calls of the text's own defs -/
structure En where
  name : Str
  n : Nat
  F : List B → Res B
/-- what a def sees of an argument -/
def toArg : B → B
  | .vw m => .bor m
  | b => b
def gOf (K : PySem.W.Frag) (fa : Nat → Option Addr) (cls : Nat → Value) (F H : Hp) (E : XK) : G := ⟨K, fa, F, H, fun c H' => E (cls c) none H'⟩
def spF (K : PySem.W.Frag) (fa : Nat → Option Addr) (cls : Nat → Value) (n : Nat) (Fk : List B → Res B) : Sp := fun vs H Q E =>
  vs.length = n ∧ ∃ F bs, Same F H ∧ Paired (RR (gOf K fa cls F H E) F H) vs bs ∧ Post (gOf K fa cls F H E) F H (Fk bs) Q
structure TabOk (X : Cx) (fa : Nat → Option Addr) (cls : Nat → Value) (lv : Nat) (tab : List En) : Prop where
  at_ : ∀ (k : Nat) (en : En), tab[k]? = some en → ∃ f fd ps, X.mg en.name = some (.ref f) ∧ fa k = some f ∧ PySem.W.keepIn X.K (.ref f) = true ∧ Binds X.K fd ps [] ∧ FnOk X.prog X.w X.K X.mg X.base (L2.CX X.prog X.w) lv f fd ps (spF X.K fa cls en.n en.F)
/-- an error of a callee is let out as the wish says -/
def Pz (X : Cx) (g : G) (cls : Nat → Value) : Prop := ∃ E' : XK, Passes (L2.CX X.prog X.w) X E' ∧ ∀ c H', g.E c H' → E' (cls c) none H'
theorem arg_ok {cls : Nat → Value} {F H : Hp} {E : XK} (s : Sm g F H) : ∀ {vs : List V} {bs : List B}, Paired (RR g F H) vs bs → Paired (RR (gOf g.K g.fa cls F H E) F H) vs (bs.map toArg)
  | _, _, .nil => .nil
  | v :: vs, b :: bs, .cons r rs => by
    refine .cons ?_ (arg_ok s rs)
    cases b with
    | dat d => exact r
    | own m => exact r.elim
    | vw m => exact r
    | bor m =>
      obtain ⟨p, o, e, h, q⟩ := r
      exact ⟨p, o, e, s.gh _ _ h, q⟩
    | scr ns =>
      obtain ⟨p, e, h⟩ := r
      exact ⟨p, e, s.gh.seq h⟩
/-- what comes back from a def, for its caller -/
theorem back_post {cls : Nat → Value} {F H : Hp} {E : XK} {r : Res B} {Q : VK} (hE : ∀ c H', g.E c H' → E (cls c) none H') (hb : ∀ b, r = .ok b → (∀ m, b ≠ .bor m) ∧ ∀ ns, b ≠ .scr ns) (h : Post g F H r Q) : Post (gOf g.K g.fa cls F H E) F H r Q := by
  cases r with
  | ok b =>
    intro v F' H' g1 r1
    refine h v F' H' g1 ?_
    cases b with
    | dat d => exact r1
    | own m => exact r1
    | vw m => exact r1
    | bor m => exact absurd rfl ((hb _ rfl).1 m)
    | scr ns => exact absurd rfl ((hb _ rfl).2 ns)
  | exc c => exact fun F' H' g1 => hE c H' (h F' H' g1)
  | bad => exact h
/-- what a def hands back must not be borrowed -/
def retB (b : B) : Res B := match b with
  | .bor _ => .bad
  | .scr _ => .bad
  | .vw _ => .bad
  | b => .ok b
def callV (en : En) (bs : List B) : Res B := (en.F (bs.map toArg)).bind retB
theorem call_run {X : Cx} {cls : Nat → Value} {en : En} {E : XK} (hK : g.K = X.K) (hE : ∀ c H', g.E c H' → E (cls c) none H') (F H : Hp) (vs : List V) (bs : List B) (Q : VK) (hn : bs.length = en.n) (s : Sm g F H) (r : Paired (RR g F H) vs bs) (p : Post g F H (callV en bs) Q) : spF X.K g.fa cls en.n en.F vs H Q E := by
  refine ⟨by rw [Paired.length r]; exact hn, F, bs.map toArg, s.fh, by rw [← hK]; exact arg_ok s r, ?_⟩
  rw [← hK]
  unfold callV at p
  cases e : en.F (bs.map toArg) with
  | ok b =>
    rw [e, Res.ok_bind] at p
    refine back_post hE (fun b' e' => ?_) ?_
    · cases e'
      constructor
      · rintro m rfl
        exact p.elim
      · rintro ns rfl
        exact p.elim
    · cases b with
      | dat d => exact p
      | own m => exact p
      | vw m => exact p.elim
      | bor m => exact p.elim
      | scr ns => exact p.elim
  | exc c =>
    rw [e, Res.exc_bind] at p
    exact fun F' H' g1 => hE c H' (p F' H' g1)
  | bad =>
    rw [e] at p
    exact p
/-- the number of arguments -/
def lenA (n : Nat) (bs : List B) : Res (List B) := if bs.length = n then .ok bs else .bad
theorem fe_call {lv : Nat} {tab : List En} {cls : Nat → Value} {k : Nat} {en : En} {x : Str} {p : Pos} {e : Expr} {es : List Expr} {fs : Env → Res (List B)} (T : TabOk X g.fa cls lv tab) (hr : Room lv X.A) (hp : Pz X g cls) (hk : tab[k]? = some en) (hx : x = en.name) (hK : g.K = X.K) (hg : Gl X x)
    (ha : PA X (e :: es) (tFA g fs)) (hdb : (x == ("__debug__" : Str)) = false) (hst : (e :: es).all nst = true) : PE X (.Call (.Name x p) (e :: es) [] pos) (tF g fun ρ => (fs ρ).bind fun bs => (lenA en.n bs).bind (callV en)) := by
  obtain ⟨f, fd, ps, hm, _, hkp, hb, F⟩ := T.at_ k en hk
  obtain ⟨E', hpass, hE⟩ := hp
  rw [List.all_cons, Bool.and_eq_true] at hst
  subst hx
  refine PE.imp (pe_call F hr hg hm hkp hb .nil hpass ha hdb (star_cons hst.1) (star_none hst.2)) fun σ H Q h => ?_
  refine runA (r := fun vs H1 Q => spF X.K g.fa cls en.n en.F (vs ++ []) H1 Q E') (fun F H vs bs Q s r p => ?_) h
  rw [List.append_nil]
  unfold lenA at p
  split at p
  · rename_i hn
    exact call_run hK hE F H vs bs Q hn s r p
  · exact p.elim
end
end Fn
namespace Fn
open PySem PySem.Spec PyProof.Rows L2
/-! ### what is walked -/
structure ItOk (g : G) (P : Hp → Hp → Prop) (J : It) (ds : List D) : Prop where
  go : ∀ i F H, P F H → i < ds.length → J.go i H
  stop : ∀ i F H, P F H → ds.length ≤ i → J.stop i H
  yld : ∀ i F H x H' d, P F H → ds[i]? = some d → J.yld i H x H' → ∃ F', Grow F H F' H' ∧ Rp g.K g.fa F' x d
/-- what is sure of the heaps behind the turns: within a comprehension (lk) all stands; else what is locked, and what stood at the def's entry -/
def PP (g : G) (lk : Bool) (F1 H1 F H : Hp) : Prop := Same F1 F ∧ Same F H ∧ Same g.G0 H ∧ (lk = true → Same H1 H)
def PostI (g : G) (lk : Bool) (F H : Hp) (r : Res (List D)) (R : It → Hp → Prop) : Prop := match r with
  | .ok ds => ∀ F1 H1 J, Grow F H F1 H1 → ItOk g (PP g lk F1 H1) J ds → R J H1
  | .exc c => ∀ F' H', Grow F H F' H' → g.E c H'
  | .bad => False
def tFI (g : G) (lk : Bool) (f : Env → Res (List D)) : TI := fun σ H R => ∃ F ρ, St g F H σ ρ ∧ PostI g lk F H (f ρ) R
theorem PI.imp {X : Cx} {tg e : Expr} {t t' : TI} (h : PI X tg e t) (i : ∀ σ H R, t' σ H R → t σ H R) : PI X tg e t' := ⟨fun pins s σ H R I w => h.run pins s σ H R I (i σ H R w)⟩
theorem PI.or {X : Cx} {tg e : Expr} {t u : TI} (h : PI X tg e t) (h' : PI X tg e u) : PI X tg e (fun σ H R => t σ H R ∨ u σ H R) :=
  ⟨fun pins s σ H R I w => w.elim (h.run pins s σ H R I) (h'.run pins s σ H R I)⟩
theorem PG.or {X : Cx} {tg : Expr} {t u : TG} (h : PG X tg t) (h' : PG X tg u) : PG X tg (fun v σ H Q => t v σ H Q ∨ u v σ H Q) :=
  ⟨fun pins s σ H v w Q I r q => q.elim (h.run pins s σ H v w Q I r) (h'.run pins s σ H v w Q I r)⟩
def itemsB (lk : Bool) (b : B) : Res (List D) := match b with
  | .dat (.str x) => .ok (x.cps.toList.map fun c => .str ⟨#[c]⟩)
  | .vw (.l ds) => if lk = true then .ok ds else .bad
  | b => match seqI b with
    | some ds => .ok ds
    | none => .bad
section
variable {X : Cx} {g : G} {a b : Expr} {pos : Pos} {fa fb : Env → Res B} {lk : Bool}
theorem list_it {F1 H1 : Hp} {p : Addr} {xs : List V} {ds : List D} (h : ∀ F H, PP g lk F1 H1 F H → SqL g.K H p xs) (r : RpAll g.K g.fa F1 xs ds) : ItOk g (PP g lk F1 H1) (Itl g.K p) ds where
  go := fun i F H q hi => ⟨xs, xs[i]'(by rw [r.len]; exact hi), h F H q, by simp⟩
  stop := fun i F H q hi => ⟨xs, h F H q, by rw [r.len]; exact hi⟩
  yld := fun i F H x H' d q hd hy => by
    obtain ⟨e, hy⟩ := hy
    subst e
    obtain ⟨v, h1, h2⟩ := r.get hd
    have e2 := hy xs (h F H' q)
    rw [h1] at e2
    cases e2
    exact ⟨F, Grow.refl q.2.1, h2.mono q.1⟩
theorem tup_it {F1 H1 : Hp} {p : Addr} {xs : List V} {ds : List D} (h : ∀ F H, PP g lk F1 H1 F H → SqT g.K H p xs) (r : RpAll g.K g.fa F1 xs ds) : ItOk g (PP g lk F1 H1) (Itt g.K p) ds where
  go := fun i F H q hi => ⟨xs, xs[i]'(by rw [r.len]; exact hi), h F H q, by simp⟩
  stop := fun i F H q hi => ⟨xs, h F H q, by rw [r.len]; exact hi⟩
  yld := fun i F H x H' d q hd hy => by
    obtain ⟨e, hy⟩ := hy
    subst e
    obtain ⟨v, h1, h2⟩ := r.get hd
    have e2 := hy xs (h F H' q)
    rw [h1] at e2
    cases e2
    exact ⟨F, Grow.refl q.2.1, h2.mono q.1⟩
theorem str_it {F1 H1 : Hp} {z : Str} : ItOk g (PP g lk F1 H1) (Its z) (z.cps.toList.map fun c => .str ⟨#[c]⟩) where
  go := fun i F H q hi => by
    rw [List.length_map, Array.length_toList] at hi
    exact hi
  stop := fun i F H q hi => by
    rw [List.length_map, Array.length_toList] at hi
    exact hi
  yld := fun i F H x H' d q hd hy => by
    obtain ⟨e, c, hc, hx⟩ := hy
    subst e hx
    rw [List.getElem?_map, Array.getElem?_toList, hc] at hd
    cases hd
    exact ⟨F, Grow.refl q.2.1, .str _⟩
theorem range_it {F1 H1 : Hp} {lo : Int} {n : Nat} : ItOk g (PP g lk F1 H1) (Itr lo n) ((List.range n).map fun (i : Nat) => D.int (lo + (i : Int))) where
  go := fun i F H q hi => by
    rw [List.length_map, List.length_range] at hi
    exact hi
  stop := fun i F H q hi => by
    rw [List.length_map, List.length_range] at hi
    exact hi
  yld := fun i F H x H' d q hd hy => by
    obtain ⟨e, hx⟩ := hy
    subst e hx
    rw [List.getElem?_map] at hd
    by_cases hi : i < n
    · rw [List.getElem?_range hi] at hd
      cases hd
      exact ⟨F, Grow.refl q.2.1, .int _⟩
    · rw [List.getElem?_eq_none (by simpa using hi)] at hd
      cases hd
theorem items_ok {F H F1 H1 : Hp} {v : V} {b : B} {ds : List D} {R : It → Hp → Prop} (s : Sm g F1 H1) (g1 : Grow F H F1 H1) (r : RR g F1 H1 v b) (h : itemsB lk b = .ok ds) (k : ∀ J, ItOk g (PP g lk F1 H1) J ds → R J H1) :
    (∃ a, v = .ref a ∧ (∃ xs, SqL g.K H1 a xs) ∧ R (Itl g.K a) H1) ∨ (∃ a, v = .ref a ∧ (∃ xs, SqT g.K H1 a xs) ∧ R (Itt g.K a) H1) ∨ ∃ z, v = .str z ∧ R (Its z) H1 := by
  have L : ∀ {p : Addr} {xs : List V}, (∀ F H, PP g lk F1 H1 F H → SqL g.K H p xs) → SqL g.K H1 p xs → RpAll g.K g.fa F1 xs ds → v = .ref p → (∃ a, v = .ref a ∧ (∃ xs, SqL g.K H1 a xs) ∧ R (Itl g.K a) H1) ∨ (∃ a, v = .ref a ∧ (∃ xs, SqT g.K H1 a xs) ∧ R (Itt g.K a) H1) ∨ ∃ z, v = .str z ∧ R (Its z) H1 :=
    fun {p xs} h1 h2 h3 e => .inl ⟨p, e, ⟨xs, h2⟩, k _ (list_it h1 h3)⟩
  have T : ∀ {p : Addr} {xs : List V}, (∀ F H, PP g lk F1 H1 F H → SqT g.K H p xs) → SqT g.K H1 p xs → RpAll g.K g.fa F1 xs ds → v = .ref p → (∃ a, v = .ref a ∧ (∃ xs, SqL g.K H1 a xs) ∧ R (Itl g.K a) H1) ∨ (∃ a, v = .ref a ∧ (∃ xs, SqT g.K H1 a xs) ∧ R (Itt g.K a) H1) ∨ ∃ z, v = .str z ∧ R (Its z) H1 :=
    fun {p xs} h1 h2 h3 e => .inr (.inl ⟨p, e, ⟨xs, h2⟩, k _ (tup_it h1 h3)⟩)
  unfold itemsB at h
  split at h
  · cases h
    cases r
    exact .inr (.inr ⟨_, rfl, k _ str_it⟩)
  · split at h
    · rename_i hl
      cases h
      obtain ⟨p, o, rfl, h1, h2⟩ := r
      cases h2 with
      | l h2 => exact L (fun F H q => SqL.of (q.2.2.2 hl _ _ h1)) (SqL.of h1) h2 rfl
    · cases h
  · rename_i n1 n2
    split at h
    · rename_i ds' hs
      cases h
      unfold seqI at hs
      split at hs
      · cases hs
        cases r with
        | tup h1 h2 => exact T (fun F H q => SqT.of (q.2.1 _ _ (q.1 _ _ h1))) (SqT.of (s.fh _ _ h1)) h2 rfl
      · cases hs
        cases r with
        | ctup h1 h2 => exact T (fun F H q => sqT_none h1) (sqT_none h1) h2 rfl
      · cases hs
        cases r with
        | lst h1 h2 => exact L (fun F H q => SqL.of (q.2.1 _ _ (q.1 _ _ h1))) (SqL.of (s.fh _ _ h1)) h2 rfl
      · rename_i xs
        exact absurd rfl (n2 xs)
      · cases hs
        obtain ⟨p, o, rfl, h1, h2⟩ := r
        cases h2 with
        | l h2 => exact L (fun F H q => SqL.of (q.2.2.1 _ _ h1)) (SqL.of (s.gh _ _ h1)) h2 rfl
      · cases hs
        obtain ⟨p, rfl, h1⟩ := r
        exact L (fun F H q => q.2.2.1.seq h1) (s.gh.seq h1) (RpAll.of_ints _) rfl
      · cases hs
    · cases h
theorem pi_any {tg : Expr} {tl : TE} (hl : PE X a tl) : PI X tg a fun σ H R => tl σ H fun x H1 => (∃ a, x = .ref a ∧ (∃ xs, SqL X.K H1 a xs) ∧ R (Itl X.K a) H1) ∨ (∃ a, x = .ref a ∧ (∃ xs, SqT X.K H1 a xs) ∧ R (Itt X.K a) H1) ∨ ∃ z, x = .str z ∧ R (Its z) H1 := by
  refine ⟨fun pins s σ H R I h => ?_⟩
  refine thn (hl.run pins s σ H _ I h) fun v s1 ⟨x, H1, I1, r1, q1⟩ => ?_
  rcases q1 with ⟨a, e, ⟨xs, hq⟩, q⟩ | ⟨a, e, ⟨xs, hq⟩, q⟩ | ⟨z, e, q⟩
  · subst e
    cases r1
    obtain ⟨its, rv, p, hz⟩ := I1.list hq
    refine wpAny_pyIter_list p.isList ?_
    refine ⟨s1.heap.objs.size, [s1.heap.objs.size], _, _, H1, rfl, I1.kept (t' := s1.toks) fun b o e => Heap.get?_push_of_some _ e, turn_list a _, ⟨_, Heap.get?_push_size _ rfl, rfl, rfl⟩, fun b hb => ?_, q⟩
    have e : b = s1.heap.objs.size := by simpa using hb
    subst e
    exact I1.fpOk (Nat.le_refl _) (I1.hok.fresh (Nat.le_refl _))
  · subst e
    cases r1
    obtain ⟨its, rv, p, hz⟩ := I1.tuple hq
    refine wpAny_pyIter_tuple (show s1.heap.IsTuple a its.toArray from p) ?_
    refine ⟨s1.heap.objs.size, [s1.heap.objs.size], _, _, H1, rfl, I1.kept (t' := s1.toks) fun b o e => Heap.get?_push_of_some _ e, turn_tuple a _, ⟨_, Heap.get?_push_size _ rfl, rfl, rfl⟩, fun b hb => ?_, q⟩
    have e : b = s1.heap.objs.size := by simpa using hb
    subst e
    exact I1.fpOk (Nat.le_refl _) (I1.hok.fresh (Nat.le_refl _))
  · subst e
    obtain ⟨t, rfl⟩ := r1
    cases ha : z.cps.all (· < 128)
    · exact wpAny_pyIter_wide ha (pi_one (tk := s1.toks) I1 _ (turn_str _ z t "str_iterator" (.inr rfl)) ⟨_, Heap.get?_push_size _ rfl, rfl, rfl⟩ q)
    · exact wpAny_pyIter_ascii ha (pi_one (tk := s1.toks) I1 _ (turn_str _ z t "str_ascii_iterator" (.inl rfl)) ⟨_, Heap.get?_push_size _ rfl, rfl, rfl⟩ q)
theorem fi_seq {tg : Expr} (hK : g.K = X.K) (ha : PE X a (tF g fa)) : PI X tg a (tFI g lk fun ρ => (fa ρ).bind fun x => itemsB lk (rd x)) := by
  refine PI.imp (pi_any ha) fun σ H R ⟨F, ρ, s, p⟩ => ?_
  dsimp only at p
  rw [← hK]
  refine run1 s (fun bx v F1 H1 e1 g1 r1 => ?_) (fun c e => ?_) (fun e => ?_)
  · rw [e1, Res.ok_bind] at p
    have s1 := s.grow g1
    cases e2 : itemsB lk (rd bx) with
    | ok ds =>
      rw [e2] at p
      exact items_ok s1.sm g1 r1 e2 fun J hJ => p F1 H1 J g1 hJ
    | exc c =>
      exfalso
      unfold itemsB at e2
      repeat (split at e2 <;> try cases e2)
    | bad =>
      rw [e2] at p
      exact p.elim
  · rw [e] at p
    exact p
  · rw [e] at p
    exact p
def rng (lo hi : Int) : List D := (List.range (hi - lo).toNat).map fun (i : Nat) => D.int (lo + (i : Int))
def rngA (bs : List B) : Res (List D) := match bs with
  | [.dat (.int j)] => if -(2 ^ 62) ≤ j ∧ j < 2 ^ 62 then .ok (rng 0 j) else .bad
  | [.dat (.int i), .dat (.int j)] => if -(2 ^ 62) ≤ i ∧ i < 2 ^ 62 ∧ -(2 ^ 62) ≤ j ∧ j < 2 ^ 62 then .ok (rng i j) else .bad
  | _ => .bad
theorem fi_range1 {tg : Expr} {p pos : Pos} {fs : Env → Res (List B)} (hg : Gl X "range") (hm : X.mg "range" = none) (hn : nst a = true) (ha : PA X [a] (tFA g fs)) (h1 : ∀ ρ bs, fs ρ = .ok bs → bs.length = 1) : PI X tg (.Call (.Name "range" p) [a] [] pos) (tFI g lk fun ρ => (fs ρ).bind rngA) := by
  refine PI.imp (pi_range1 hg hm ha (star_cons hn)) fun σ H R ⟨F, ρ, s, q⟩ => ?_
  refine ⟨F, ρ, s, ?_⟩
  dsimp only at q
  cases e : fs ρ with
  | ok bs =>
    rw [e, Res.ok_bind] at q
    intro vs F1 H1 g1 r1
    have hl := h1 ρ bs e
    match bs, hl, r1, q with
    | [b], _, r1, q =>
      obtain ⟨v, rfl, rv⟩ := paired1 r1
      unfold rngA at q
      split at q
      · rename_i j eb
        cases eb
        split at q
        · rename_i hj
          cases rv
          refine ⟨j, rfl, hj.1, hj.2, q F1 H1 _ g1 ?_⟩
          have z := range_it (g := g) (lk := lk) (F1 := F1) (H1 := H1) (lo := 0) (n := j.toNat)
          unfold rng
          rw [Int.sub_zero]
          exact z
        · exact q.elim
      · rename_i eb
        cases eb
      · exact q.elim
  | exc c =>
    rw [e, Res.exc_bind] at q
    exact q
  | bad =>
    rw [e] at q
    exact q
theorem fi_range2 {tg : Expr} {p pos : Pos} {fs : Env → Res (List B)} (hg : Gl X "range") (hm : X.mg "range" = none) (hn : nst a = true) (hn2 : nst b = true) (ha : PA X [a, b] (tFA g fs)) (h1 : ∀ ρ bs, fs ρ = .ok bs → bs.length = 2) : PI X tg (.Call (.Name "range" p) [a, b] [] pos) (tFI g lk fun ρ => (fs ρ).bind rngA) := by
  refine PI.imp (pi_range2 hg hm ha (by rw [star_cons hn, star_cons hn2]; rfl) (star_cons hn2)) fun σ H R ⟨F, ρ, s, q⟩ => ?_
  refine ⟨F, ρ, s, ?_⟩
  dsimp only at q
  cases e : fs ρ with
  | ok bs =>
    rw [e, Res.ok_bind] at q
    intro vs F1 H1 g1 r1
    have hl := h1 ρ bs e
    match bs, hl, r1, q with
    | [b, b'], _, r1, q =>
      obtain ⟨v, w, rfl, rv, rw'⟩ := paired2 r1
      unfold rngA at q
      split at q
      · rename_i eb
        cases eb
      · rename_i i j eb
        cases eb
        split at q
        · rename_i hj
          cases rv
          cases rw'
          exact ⟨i, j, rfl, hj, q F1 H1 _ g1 range_it⟩
        · exact q.elim
      · exact q.elim
  | exc c =>
    rw [e, Res.exc_bind] at q
    exact q
  | bad =>
    rw [e] at q
    exact q
/-! ### targets -/
inductive Tg where
  | one (i : Nat)
  | many (is : List Nat)
def putMany : List Nat → List D → Env → Env
  | i :: is, d :: ds, ρ => putMany is ds (ρ.set i (some (.dat d)))
  | _, _, ρ => ρ
def bindT (t : Tg) (d : D) (ρ : Env) : Option Env := match t with
  | .one i => some (ρ.set i (some (.dat d)))
  | .many is => match d with
    | .tup ds => if ds.length = is.length then some (putMany is ds ρ) else none
    | .ctup ds => if ds.length = is.length then some (putMany is ds ρ) else none
    | .lst ds => if ds.length = is.length then some (putMany is ds ρ) else none
    | _ => none
/-- a target: what it does with data in hand -/
def tFG (g : G) (t : Tg) : TG := fun v σ H Q => ∃ F ρ d ρ', St g F H σ ρ ∧ Rp g.K g.fa F v d ∧ bindT t d ρ = some ρ' ∧ ∀ σ', St g F H σ' ρ' → (∀ i, (∀ j, t = .one j → i ≠ j) → (∀ is, t = .many is → i ∉ is) → σ'[i]? = σ[i]?) → Q σ' H
theorem PG.imp {tg : Expr} {t t' : TG} (h : PG X tg t) (i : ∀ v σ H Q, t' v σ H Q → t v σ H Q) : PG X tg t' := ⟨fun pins s σ H v u Q I r w => h.run pins s σ H v u Q I r (i v σ H Q w)⟩
theorem fg_one {i : Nat} {x : Str} (hN : X.N.Nodup) (hi : X.N[i]? = some x) (hx : Loc X.env.scope x) (hf : X.fn x = true ∨ X.env.scope.names.lookup x = some .local) : PG X (.Name x pos) (tFG g (.one i)) :=
  PG.imp (pg_name hN hi hx hf) fun v σ H Q ⟨F, ρ, d, ρ', s, r, hb, q⟩ => by
    unfold bindT at hb
    cases hb
    exact q _ (s.put (b := .dat d) (Grow.refl s.sub) r i (by intro m z; cases z)) fun j hj _ => List.getElem?_set_ne (fun z => hj i rfl z.symm)
def gPut : List Nat → TGs
  | [] => gNil
  | i :: is => gCons (gName i) (gPut is)
theorem put_run {F H : Hp} {Q : L2.St → Hp → Prop} : ∀ {is : List Nat} {ds : List D} {vs : List V} {σ : L2.St} {ρ : Env}, ds.length = is.length → RpAll g.K g.fa F vs ds → St g F H σ ρ → (∀ σ', St g F H σ' (putMany is ds ρ) → (∀ i, i ∉ is → σ'[i]? = σ[i]?) → Q σ' H) → gPut is vs σ H Q
  | [], [], _, σ, ρ, _, .nil, s, q => ⟨rfl, q σ s fun _ _ => rfl⟩
  | i :: is, d :: ds, _, σ, ρ, h, .cons r rs, s, q => by
    refine ⟨_, _, rfl, put_run (by simpa using h) rs (s.put (b := .dat d) (Grow.refl s.sub) r i (by intro m z; cases z)) fun σ' s' k => q σ' s' fun j hj => ?_⟩
    rw [List.mem_cons, not_or] at hj
    rw [k j hj.2, List.getElem?_set_ne (fun z => hj.1 z.symm)]
  | [], _ :: _, _, _, _, h, _, _, _ => by simp at h
  | _ :: _, [], _, _, _, h, _, _, _ => by simp at h
theorem fg_many {is : List Nat} {es : List Expr} {k : Nat} (hc : X.calm = true) (hK : g.K = X.K) (h : PGs X es (gPut is)) (hn : (assignEach es X.env).length = is.length) (hst : (assignEach es X.env).findIdx? (·.1) = none) : PG X (.Tuple es k pos) (tFG g (.many is)) := by
  refine PG.imp (PG.or (pg_tup hc h hn hst) (pg_lst hc h hn hst)) fun v σ H Q ⟨F, ρ, d, ρ', s, r, hb, q⟩ => ?_
  rw [← hK]
  unfold bindT at hb
  dsimp only at hb
  split at hb
  · split at hb
    · rename_i hl
      cases hb
      cases r with
      | tup h1 h2 => exact .inl ⟨_, _, rfl, SqT.of (s.sub _ _ h1), by rw [h2.len]; exact hl, put_run hl h2 s fun σ' s' k => q σ' s' fun i _ hi => k i (hi is rfl)⟩
    · cases hb
  · split at hb
    · rename_i hl
      cases hb
      cases r with
      | ctup h1 h2 => exact .inl ⟨_, _, rfl, sqT_none h1, by rw [h2.len]; exact hl, put_run hl h2 s fun σ' s' k => q σ' s' fun i _ hi => k i (hi is rfl)⟩
    · cases hb
  · split at hb
    · rename_i hl
      cases hb
      cases r with
      | lst h1 h2 => exact .inr ⟨_, _, rfl, SqL.of (s.sub _ _ h1), by rw [h2.len]; exact hl, put_run hl h2 s fun σ' s' k => q σ' s' fun i _ hi => k i (hi is rfl)⟩
    · cases hb
  · cases hb
end
end Fn
namespace Fn
open PySem PySem.Spec PyProof.Rows L2
/-! ### comprehensions -/
def wipeE (ρ : Env) : List Nat → Env
  | [] => ρ
  | v :: vs => (wipeE ρ vs).set v none
def datOnly (b : B) : Res (Option D) := match b with
  | .dat d => .ok (some d)
  | _ => .bad
/-- one item: what it gives, if it is taken -/
def stepC (t : Tg) (c : Env → Res Bool) (fe : Env → Res B) (ρ : Env) (d : D) : Res (Option D) := match bindT t d ρ with
  | none => .bad
  | some ρ1 => match c ρ1 with
    | .ok true => (match fe ρ1 with
      | .ok b => datOnly (rd b)
      | _ => .bad)
    | .ok false => .ok none
    | _ => .bad
def mapC (f : D → Res (Option D)) : List D → Res (List D)
  | [] => .ok []
  | d :: ds => (f d).bind fun o => (mapC f ds).bind fun xs => .ok (o.toList ++ xs)
def compV (t : Tg) (it : Env → Res (List D)) (c : Env → Res Bool) (fe : Env → Res B) (vs : List Nat) : Env → Res B := fun ρ => (it ρ).bind fun ds =>
  if ds.length ≤ sizeLine then (mapC (stepC t c fe (wipeE ρ vs)) ds).bind fun out => .ok (.own (.l out)) else .bad
section
variable {X : Cx} {g : G}
theorem St.wipe {F H : Hp} {σ : L2.St} {ρ : Env} (s : St g F H σ ρ) : ∀ vs : List Nat, St g F H (L2.wipe σ vs) (wipeE ρ vs)
  | [] => s
  | v :: vs => (St.wipe s vs).drop v
/-- within a comprehension no error is let out -/
def G.mute (g : G) : G := { g with E := fun _ _ => False }
theorem St.mute {F H : Hp} {σ : L2.St} {ρ : Env} (s : St g F H σ ρ) : St g.mute F H σ ρ := ⟨s.gr, s.len, fun i b h => let ⟨v, h1, h2⟩ := s.at_ i b h; ⟨v, h1, by cases b <;> exact h2⟩, s.apart⟩
theorem wipe_in {σ : L2.St} {i : Nat} : ∀ {vs : List Nat}, i ∈ vs → (L2.wipe σ vs)[i]? = if i < σ.length then some none else none
  | v :: vs, h => by
    unfold L2.wipe
    by_cases e : v = i
    · subst e
      by_cases hl : v < σ.length
      · rw [if_pos hl, List.getElem?_set_self (by rw [L2.wipe_length]; exact hl)]
      · rw [if_neg hl, List.getElem?_eq_none (by rw [List.length_set, L2.wipe_length]; omega)]
    · rw [List.getElem?_set_ne e]
      exact wipe_in ((List.mem_cons.mp h).resolve_left fun z => e z.symm)
theorem wipe_again {σ σ2 : L2.St} {vs : List Nat} (hl : σ2.length = σ.length) (h : ∀ i, i ∉ vs → σ2[i]? = (L2.wipe σ vs)[i]?) : L2.wipe σ2 vs = L2.wipe σ vs := by
  apply List.ext_getElem?
  intro i
  by_cases hi : i ∈ vs
  · rw [wipe_in hi, wipe_in hi, hl]
  · rw [L2.wipe_out hi, h i hi]
def Tg.slots : Tg → List Nat
  | .one i => [i]
  | .many is => is
theorem putMany_len : ∀ (is : List Nat) (es : List D) (ρ : Env), (putMany is es ρ).length = ρ.length
  | [], _, _ => rfl
  | _ :: _, [], _ => rfl
  | a :: is, b :: es, ρ => by
    show (putMany is es (ρ.set a (some (.dat b)))).length = _
    rw [putMany_len is es, List.length_set]
theorem bindT_len {t : Tg} {d : D} {ρ ρ1 : Env} (hb : bindT t d ρ = some ρ1) : ρ1.length = ρ.length := by
  unfold bindT at hb
  split at hb
  · cases hb
    rw [List.length_set]
  · split at hb <;> first | (split at hb <;> first | (cases hb; exact putMany_len _ _ _) | cases hb) | cases hb
theorem fe_comp {t : Tg} {it : Env → Res (List D)} {c : Env → Res Bool} {fe : Env → Res B} {elt tg iter : Expr} {ifs : List Expr} {scope : Scope} {own : List (Str × Nat)} {pos : Pos} (hc : X.calm = true) (hN : X.N.Nodup) (hi : PI X tg iter (tFI g true it)) (ok : BlkOk X.N X.env.scope scope own)
    (hsl : ∀ i ∈ t.slots, i ∈ own.map (·.2))
    (hg : ∀ (s : Shared) (H : Hp) (C : Addr) (cl : List (Str × Addr)) (fp : List Addr), PG (X.blk s H scope (compEnvC scope cl C X.env) fp) tg (tFG g.mute t)) (ht : ∀ (s : Shared) (H : Hp) (C : Addr) (cl : List (Str × Addr)) (fp : List Addr), PTs (X.blk s H scope (compEnvC scope cl C X.env) fp) ifs (tFT g.mute c))
    (he : ∀ (s : Shared) (H : Hp) (C : Addr) (cl : List (Str × Addr)) (fp : List Addr), PE (X.blk s H scope (compEnvC scope cl C X.env) fp) elt (tF g.mute fe)) (hs : ∀ x, foldedSetIterable iter X.env x = pure x)
    {σ : L2.St} {H : Hp} {Q : VK} (h : tF g (compV t it c fe (own.map (·.2))) σ H Q) : tLc (tFI g true it) (tFG g.mute t) (tFT g.mute c) (tF g.mute fe) (own.map (·.2)) σ H Q := by
  obtain ⟨F, ρ, s, p⟩ := h
  unfold compV at p
  refine ⟨F, ρ, s, ?_⟩
  cases e : it ρ with
  | exc k =>
    rw [e, Res.exc_bind] at p
    exact p
  | bad =>
    rw [e] at p
    exact p
  | ok ds =>
    rw [e, Res.ok_bind] at p
    split at p
    · rename_i hz
      cases em : mapC (stepC t c fe (wipeE ρ (own.map (·.2)))) ds with
      | exc k =>
        exfalso
        have no : ∀ (ds : List D) (k : Nat), mapC (stepC t c fe (wipeE ρ (own.map (·.2)))) ds ≠ .exc k := by
          intro ds
          induction ds with
          | nil => intro k z; cases z
          | cons d ds ih =>
            intro k z
            unfold mapC at z
            cases e1 : stepC t c fe (wipeE ρ (own.map (·.2))) d with
            | ok o =>
              rw [e1, Res.ok_bind] at z
              cases e2 : mapC (stepC t c fe (wipeE ρ (own.map (·.2)))) ds with
              | ok xs => rw [e2] at z; cases z
              | exc k' => exact ih k' e2
              | bad => rw [e2] at z; cases z
            | exc k' =>
              unfold stepC at e1
              split at e1
              · cases e1
              · split at e1
                · split at e1
                  · unfold datOnly at e1
                    split at e1 <;> cases e1
                  · cases e1
                · cases e1
                · cases e1
            | bad => rw [e1] at z; cases z
        exact no ds k em
      | bad =>
        rw [em] at p
        exact p.elim
      | ok out =>
        rw [em, Res.ok_bind] at p
        intro F1 H1 J g1 hJ D hD
        have s1 : St g.mute F1 H1 (L2.wipe σ (own.map (·.2))) (wipeE ρ (own.map (·.2))) := ((s.grow g1).wipe _).mute
        have s1' := s.grow g1
        refine ⟨fun i m H => m = ds.length - i ∧ i ≤ ds.length ∧ ∃ F xs acc rest, Grow F1 H1 F H ∧ H D = some (.lst xs) ∧ F D = none ∧ RpAll g.K g.fa F xs acc ∧ acc.length ≤ i ∧ mapC (stepC t c fe (wipeE ρ (own.map (·.2)))) (ds.drop i) = .ok rest ∧ out = acc ++ rest,
          ⟨ds.length, by simp, Nat.zero_le _, F1, [], [], out, Grow.newH s1'.sub hD, upd_same, s1'.sub.free hD, .nil, Nat.le_refl _, by simpa using em, rfl⟩, ?_⟩
        rintro i m H2 ⟨rfl, hi2, F2, xs, acc, rest, g2, hx, hfx, hr, hal, hm, ho⟩
        have pp : PP g true F1 H1 F2 H2 := ⟨g2.fh, g2.sub, s1'.gr.hh.trans g2.hh, fun _ => g2.hh⟩
        by_cases hlt : i < ds.length
        · refine .inr ⟨hJ.go i F2 H2 pp hlt, fun H' => ∃ F xs acc rest, Grow F1 H1 F H' ∧ H' D = some (.lst xs) ∧ F D = none ∧ RpAll g.K g.fa F xs acc ∧ acc.length ≤ i + 1 ∧ mapC (stepC t c fe (wipeE ρ (own.map (·.2)))) (ds.drop (i + 1)) = .ok rest ∧ out = acc ++ rest,
            fun H' hn => ⟨ds.length - (i + 1), by omega, rfl, hlt, hn⟩, fun x H' hy => ?_⟩
          have hd : ds[i]? = some ds[i] := List.getElem?_eq_getElem hlt
          obtain ⟨F3, g3, r3⟩ := hJ.yld i F2 H2 x H' ds[i] pp hd hy
          have edrop : ds.drop i = ds[i] :: ds.drop (i + 1) := List.drop_eq_getElem_cons hlt
          rw [edrop] at hm
          unfold mapC at hm
          cases e1 : stepC t c fe (wipeE ρ (own.map (·.2))) ds[i] with
          | exc k => rw [e1] at hm; cases hm
          | bad => rw [e1] at hm; cases hm
          | ok o =>
            rw [e1, Res.ok_bind] at hm
            cases e2 : mapC (stepC t c fe (wipeE ρ (own.map (·.2)))) (ds.drop (i + 1)) with
            | exc k => rw [e2] at hm; cases hm
            | bad => rw [e2] at hm; cases hm
            | ok rest' =>
              rw [e2, Res.ok_bind] at hm
              have erest : rest = o.toList ++ rest' := by cases hm; rfl
              subst erest
              have g13 : Grow F1 H1 F3 H' := g2.trans g3
              have s3 := s1.grow g13
              have hx3 : H' D = some (.lst xs) := g3.hh _ _ hx
              have hf3 : F3 D = none := g3.new D _ hx (by intro _ z; cases z) hfx
              unfold stepC at e1
              split at e1
              · cases e1
              · rename_i ρ1 hb
                refine ⟨F3, wipeE ρ (own.map (·.2)), ds[i], ρ1, s3, r3, hb, fun σ2 s4 kp => ?_⟩
                refine ⟨wipe_again (by
                  have l1 := s4.len
                  have l2 := s3.len
                  have l3 : ρ1.length = (wipeE ρ (own.map (·.2))).length := by
                    exact bindT_len hb
                  rw [l1, l3, ← l2, L2.wipe_length]) fun j hj => kp j (fun i' ei z => hj (by
                    subst z
                    exact hsl j (by rw [ei]; exact List.mem_singleton.mpr rfl))) fun is ei z => hj (hsl j (by rw [ei]; exact z)), ?_⟩
                refine ⟨F3, ρ1, s4, ?_⟩
                split at e1
                · rename_i hc1
                  rw [hc1]
                  intro F5 H5 g5
                  rw [if_pos rfl]
                  have s5 := s4.grow g5
                  split at e1
                  · rename_i b hfe
                    refine run1 s5 (fun bx v F6 H6 e6 g6 r6 => ?_) (fun c' e6 => by rw [hfe] at e6; cases e6) (by rw [hfe]; intro z; cases z)
                    rw [hfe] at e6
                    cases e6
                    unfold datOnly at e1
                    split at e1
                    · rename_i d' hd'
                      cases e1
                      rw [hd'] at r6
                      have g36 : Grow F3 H' F6 H6 := g5.trans g6
                      have hx6 : H6 D = some (.lst xs) := g36.hh _ _ hx3
                      have hf6 : F6 D = none := g36.new D _ hx3 (by intro _ z; cases z) hf3
                      refine ⟨xs, hx6, by rw [hr.len]; omega, F6, xs ++ [v], acc ++ [d'], rest', ⟨(g13.trans g36).fh, fun b u q => ?_, fun b u q => ?_, (g13.trans g36).new⟩, upd_same, hf6, (hr.mono (g3.fh.trans g36.fh)).app (.cons r6 .nil), by rw [List.length_append]; simpa using hal, rfl, by rw [ho, List.append_assoc]; rfl⟩
                      · rw [upd_ne (ne_of_none q hD)]
                        exact (g13.trans g36).hh _ _ q
                      · rw [upd_ne (ne_of_none q hf6)]
                        exact (g13.trans g36).sub _ _ q
                    · cases e1
                  · cases e1
                · rename_i hc1
                  rw [hc1]
                  intro F5 H5 g5
                  rw [if_neg Bool.false_ne_true]
                  cases e1
                  have hx5 : H5 D = some (.lst xs) := g5.hh _ _ hx3
                  have hf5 : F5 D = none := g5.new D _ hx3 (by intro _ z; cases z) hf3
                  exact ⟨F5, xs, acc, rest', g13.trans g5, hx5, hf5, hr.mono (g3.fh.trans g5.fh), by omega, rfl, ho⟩
                · cases e1
        · have e : i = ds.length := by omega
          subst e
          refine .inl ⟨hJ.stop _ F2 H2 pp (Nat.le_refl _), ?_⟩
          rw [List.drop_length] at hm
          cases hm
          rw [List.append_nil] at ho
          subst ho
          exact p _ F2 H2 (g1.trans g2) ⟨D, .lst xs, rfl, g1.hh.free hD, hx, hfx, .l hr⟩
    · exact p.elim
theorem fe_lc {t : Tg} {it : Env → Res (List D)} {c : Env → Res Bool} {fe : Env → Res B} {elt tg iter : Expr} {ifs : List Expr} {scope : Scope} {own : List (Str × Nat)} {pos : Pos} (hc : X.calm = true) (hN : X.N.Nodup) (hi : PI X tg iter (tFI g true it)) (ok : BlkOk X.N X.env.scope scope own)
    (hsl : ∀ i ∈ t.slots, i ∈ own.map (·.2))
    (hg : ∀ (s : Shared) (H : Hp) (C : Addr) (cl : List (Str × Addr)) (fp : List Addr), PG (X.blk s H scope (compEnvC scope cl C X.env) fp) tg (tFG g.mute t)) (ht : ∀ (s : Shared) (H : Hp) (C : Addr) (cl : List (Str × Addr)) (fp : List Addr), PTs (X.blk s H scope (compEnvC scope cl C X.env) fp) ifs (tFT g.mute c))
    (he : ∀ (s : Shared) (H : Hp) (C : Addr) (cl : List (Str × Addr)) (fp : List Addr), PE (X.blk s H scope (compEnvC scope cl C X.env) fp) elt (tF g.mute fe)) (hs : ∀ x, foldedSetIterable iter X.env x = pure x) : PE X (.ListComp elt [⟨tg, iter, ifs, 0⟩] scope pos) (tF g (compV t it c fe (own.map (·.2)))) :=
  PE.imp (pe_lc hc hN hi ok hg ht he hs) fun _ _ _ h => fe_comp (pos := pos) hc hN hi ok hsl hg ht he hs h
end
end Fn
namespace Fn
open PySem PySem.Spec PyProof.Rows L2
/-! ### statements -/
inductive Out where
  | nx (ρ : Env) | rt (b : B) | bk (ρ : Env) | ct (ρ : Env) | exc (c : Nat) | bad
def PostS (g : G) (E : Ends) (r : Out) : Prop := match r with
  | .nx ρ' => ∀ σ' F' H', St g F' H' σ' ρ' → E.nx σ' H'
  | .bk ρ' => ∀ σ' F' H', St g F' H' σ' ρ' → E.bk σ' H'
  | .ct ρ' => ∀ σ' F' H', St g F' H' σ' ρ' → E.ct σ' H'
  | .rt b => ∀ v F' H', Grow g.F0 g.G0 F' H' → RB g g.F0 g.G0 F' H' v b → E.rt v H'
  | .exc c => ∀ F' H', Grow g.F0 g.G0 F' H' → g.E c H'
  | .bad => False
def tFS (g : G) (f : Env → Out) : TS := fun E σ H => ∃ F ρ, St g F H σ ρ ∧ PostS g E (f ρ)
theorem PS.imp {X : Cx} {st : Stmt} {t t' : TS} (h : PS X st t) (i : ∀ E σ H, t' E σ H → t E σ H) : PS X st t' := ⟨fun pins s σ H E I w => h.run pins s σ H E I (i E σ H w)⟩
theorem PSs.imp {X : Cx} {st : List Stmt} {t t' : TS} (h : PSs X st t) (i : ∀ E σ H, t' E σ H → t E σ H) : PSs X st t' := ⟨fun pins s σ H E I w => h.run pins s σ H E I (i E σ H w)⟩
def seqS (f h : Env → Out) : Env → Out := fun ρ => match f ρ with
  | .nx ρ' => h ρ'
  | o => o
section
variable {X : Cx} {g : G} {a b c : Expr} {pos : Pos} {fa fb fc : Env → Res B} {st : Stmt} {rest : List Stmt} {f h : Env → Out}
theorem fs_nil : PSs X [] (tFS g fun ρ => .nx ρ) := PSs.imp pss_nil fun E σ H ⟨F, ρ, s, p⟩ => p σ F H s
theorem fs_cons (h1 : PS X st (tFS g f)) (h2 : PSs X rest (tFS g h)) : PSs X (st :: rest) (tFS g (seqS f h)) := by
  refine PSs.imp (pss_cons h1 h2) fun E σ H ⟨F, ρ, s, p⟩ => ⟨F, ρ, s, ?_⟩
  unfold seqS at p
  cases e : f ρ with
  | nx ρ' =>
    rw [e] at p
    exact fun σ' F' H' s' => ⟨F', ρ', s', p⟩
  | rt b => rw [e] at p; exact p
  | bk ρ' => rw [e] at p; exact p
  | ct ρ' => rw [e] at p; exact p
  | exc k => rw [e] at p; exact p
  | bad => rw [e] at p; exact p
theorem fs_one (h1 : PS X st (tFS g f)) : PSs X [st] (tFS g f) := PSs.imp (pss_one h1) fun _ _ _ h => h
/-- an expression, then what is done with its value (as it came) -/
def thenS (fa : Env → Res B) (k : B → Env → Out) : Env → Out := fun ρ => match fa ρ with
  | .ok b => k b ρ
  | .exc c => .exc c
  | .bad => .bad
theorem then_run {k : B → Env → Out} {E : Ends} {σ : L2.St} {H : Hp} {Q : VK} (h : tFS g (thenS fa k) E σ H)
    (hk : ∀ F ρ b v F1 H1, St g F H σ ρ → Grow F H F1 H1 → RB g F H F1 H1 v b → PostS g E (k b ρ) → Q v H1) : tF g fa σ H Q := by
  obtain ⟨F, ρ, s, p⟩ := h
  refine ⟨F, ρ, s, ?_⟩
  unfold thenS at p
  cases e : fa ρ with
  | ok b =>
    rw [e] at p
    exact fun v F1 H1 g1 r1 => hk F ρ b v F1 H1 s g1 r1 p
  | exc c =>
    rw [e] at p
    exact fun F' H' g1 => p F' H' (s.gr.trans g1)
  | bad =>
    rw [e] at p
    exact p
/-- what a name may take: no look at another name's own object -/
def okV : B → Bool
  | .vw _ => false
  | _ => true
theorem okV_ne {b : B} (h : okV b = true) : ∀ m, b ≠ .vw m := by
  rintro m rfl
  cases h
def setV (i : Nat) (b : B) (ρ : Env) : Out := if okV b = true then .nx (ρ.set i (some b)) else .bad
theorem fs_asg {i : Nat} {x : Str} {e : Expr} {pos' : Pos} (hN : X.N.Nodup) (hi : X.N[i]? = some x) (hx : Loc X.env.scope x) (he : PE X e (tF g fa)) (hs : swapsWith e (some (.Name x pos')) pos.line X.env = pure false) (hf : X.fn x = true ∨ X.env.scope.names.lookup x = some .local) :
    PS X (.Assign [.Name x pos'] e pos) (tFS g (thenS fa (setV i))) := by
  refine PS.imp (ps_set hN hi hx he hs hf) fun E σ H h => ?_
  refine then_run (k := setV i) (E := E) (Q := fun v H1 => E.nx (σ.set i (some v)) H1) h fun F ρ b v F1 H1 s g1 r1 p => ?_
  unfold setV at p
  split at p
  · rename_i nb
    exact p _ F1 H1 (s.put g1 r1 i (okV_ne nb))
  · exact p.elim
theorem fs_asgLc {t : Tg} {it : Env → Res (List D)} {cnd : Env → Res Bool} {fe : Env → Res B} {i : Nat} {y : Str} {py : Pos} {elt tg iter : Expr} {ifs : List Expr} {scope : Scope} {own : List (Str × Nat)} {pos spos : Pos} (hc : X.calm = true) (hN : X.N.Nodup) (hy : X.N[i]? = some y) (hyl : X.env.scope.names.lookup y = some .local)
    (hsw : swapsWith (.ListComp elt [⟨tg, iter, ifs, 0⟩] scope pos) (some (.Name y py)) spos.line X.env = pure true) (hi : PI X tg iter (tFI g true it)) (ok : BlkOk X.N X.env.scope scope own)
    (hsl : ∀ i ∈ t.slots, i ∈ own.map (·.2))
    (hg : ∀ (s : Shared) (H : Hp) (C : Addr) (cl : List (Str × Addr)) (fp : List Addr), PG (X.blk s H scope (compEnvC scope cl C X.env) fp) tg (tFG g.mute t)) (ht : ∀ (s : Shared) (H : Hp) (C : Addr) (cl : List (Str × Addr)) (fp : List Addr), PTs (X.blk s H scope (compEnvC scope cl C X.env) fp) ifs (tFT g.mute cnd))
    (he : ∀ (s : Shared) (H : Hp) (C : Addr) (cl : List (Str × Addr)) (fp : List Addr), PE (X.blk s H scope (compEnvC scope cl C X.env) fp) elt (tF g.mute fe)) (hs : ∀ x, foldedSetIterable iter X.env x = pure x) :
    PS X (.Assign [.Name y py] (.ListComp elt [⟨tg, iter, ifs, 0⟩] scope pos) spos) (tFS g (thenS (compV t it cnd fe (own.map (·.2))) (setV i))) := by
  refine PS.imp (ps_setLc hc hN hy hyl hsw hi ok hg ht he hs) fun E σ H h => ?_
  refine fe_comp (pos := pos) (Q := fun v H1 => E.nx (σ.set i (some v)) H1) hc hN hi ok hsl hg ht he hs ?_
  refine then_run (k := setV i) (E := E) (Q := fun v H1 => E.nx (σ.set i (some v)) H1) h fun F ρ b v F1 H1 s g1 r1 p => ?_
  unfold setV at p
  split at p
  · rename_i nb
    exact p _ F1 H1 (s.put g1 r1 i (okV_ne nb))
  · exact p.elim
/-- a, b = (something that is data) -/
def bindV (t : Tg) (b : B) (ρ : Env) : Out := match rd b with
  | .dat d => (match bindT t d ρ with | some ρ' => .nx ρ' | none => .bad)
  | _ => .bad
theorem fs_asgT {t : Tg} {tg e : Expr} (he : PE X e (tF g fa)) (hg : PG X tg (tFG g t)) (hs : swapsWithSole [tg] e pos.line X.env = pure false) (hw : swappedStores [tg] e X.env = pure none) (h1 : (assignEach [tg] X.env).map (·.2) = [assign tg X.env]) :
    PS X (.Assign [tg] e pos) (tFS g (thenS fa (bindV t))) := by
  refine PS.imp (ps_asg he hg hs hw h1) fun E σ H h => ?_
  refine then_run (k := bindV t) (E := E) (Q := fun v H1 => tFG g t v σ H1 E.nx) h fun F ρ b v F1 H1 s g1 r1 p => ?_
  unfold bindV at p
  obtain ⟨F2, g2, r2⟩ := r1.rd g1
  split at p
  · rename_i d hd
    split at p
    · rename_i ρ' hb
      rw [hd] at r2
      exact ⟨F2, ρ, d, ρ', s.grow g2, r2, hb, fun σ' s' _ => p σ' F2 H1 s'⟩
    · exact p.elim
  · exact p.elim
/-- a, b = x, y stored one by one -/
def par2 (i j : Nat) (fa fb : Env → Res B) : Env → Out := fun ρ => match fa ρ with
  | .ok x => (match fb ρ with
    | .ok y => if (okV x && okV y) = true then .nx ((ρ.set i (some x)).set j (some y)) else .bad
    | .exc c => .exc c
    | .bad => .bad)
  | .exc c => .exc c
  | .bad => .bad
theorem RB.over {F H F1 H1 F2 H2 : Hp} {v : V} {b : B} (r : RB g F H F1 H1 v b) (e : Grow F1 H1 F2 H2) : RB g F H F2 H2 v b := by
  cases b with
  | dat d => exact Rp.mono e.fh r
  | own m =>
    obtain ⟨p, o, rfl, h, ho, f, q⟩ := r
    exact ⟨p, o, rfl, h, e.hh _ _ ho, e.new p o ho q.notTup f, q.mono e.fh⟩
  | vw m =>
    obtain ⟨p, o, rfl, h, q⟩ := r
    exact ⟨p, o, rfl, e.hh _ _ h, q.mono e.fh⟩
  | bor m =>
    obtain ⟨p, o, rfl, h, q⟩ := r
    exact ⟨p, o, rfl, h, q.mono e.fh⟩
  | scr ns => exact r
theorem fs_par2 {i j : Nat} {x y : Str} {px py pt : Pos} {kt k2 pt2} (hc : X.calm = true) (hN : X.N.Nodup) (hi : X.N[i]? = some x) (hj : X.N[j]? = some y) (hij : i ≠ j)
    (hx : X.env.scope.names.lookup x = some .local) (hy : X.env.scope.names.lookup y = some .local) (hna : nst a = true) (hnb : nst b = true) (ha : PE X a (tF g fa)) (hb : PE X b (tF g fb))
    (hw : swappedStores [.Tuple [.Name x px, .Name y py] kt pt] (.Tuple [a, b] k2 pt2) X.env = pure (some [x, y])) (hs : swapsWithSole [.Tuple [.Name x px, .Name y py] kt pt] (.Tuple [a, b] k2 pt2) pos.line X.env = pure false) :
    PS X (.Assign [.Tuple [.Name x px, .Name y py] kt pt] (.Tuple [a, b] k2 pt2) pos) (tFS g (par2 i j fa fb)) := by
  refine PS.imp (ps_par hc hN hi hj hij hx hy (pa_cons ha (pa_cons hb pa_nil (star_cons hnb)) (star_cons hna)) hw hs) fun E σ H ⟨F, ρ, s, p⟩ => ?_
  unfold par2 at p
  show tF g fa σ H _
  refine ⟨F, ρ, s, ?_⟩
  cases e1 : fa ρ with
  | exc c => rw [e1] at p; exact fun F' H' g1 => p F' H' (s.gr.trans g1)
  | bad => rw [e1] at p; exact p
  | ok x =>
    rw [e1] at p
    intro v F1 H1 g1 r1
    have s1 := s.grow g1
    refine ⟨F1, ρ, s1, ?_⟩
    dsimp only at p
    cases e2 : fb ρ with
    | exc c => rw [e2] at p; exact fun F' H' g2 => p F' H' (s1.gr.trans g2)
    | bad => rw [e2] at p; exact p
    | ok y =>
      rw [e2] at p
      intro w F2 H2 g2 r2
      refine ⟨v, w, rfl, ?_⟩
      dsimp only at p
      split at p
      · rename_i ok
        rw [Bool.and_eq_true] at ok
        exact p _ F2 H2 ((s.put g1 r1 i (okV_ne ok.1)).put g2 r2 j (okV_ne ok.2))
      · exact p.elim
/-- a change of an owned object at a name -/
def ownAt (ρ : Env) (i : Nat) : Option M := match ρ[i]? with
  | some (some (.own m)) => some m
  | _ => none
theorem ownAt_ok {ρ : Env} {i : Nat} {m : M} (h : ownAt ρ i = some m) : ρ[i]? = some (some (.own m)) := by
  unfold ownAt at h
  split at h
  · cases h
    assumption
  · cases h
def appV (i : Nat) (fa : Env → Res B) : Env → Out := fun ρ => match ownAt ρ i with
  | some (.l ds) => (match fa ρ with
    | .ok b => (match rd b with
      | .dat d => if ds.length < sizeLine then .nx (ρ.set i (some (.own (.l (ds ++ [d]))))) else .bad
      | _ => .bad)
    | .exc c => .exc c
    | .bad => .bad)
  | _ => .bad
theorem fs_append {i : Nat} {x : Str} {e : Expr} {p1 p2 p3 p4 : Pos} (hi : X.N[i]? = some x) (hv : Vis X.env.scope x) (hd : (x == ("__debug__" : Str)) = false) (hcd : (x == ("__classdict__" : Str)) = false) (hn : nst e = true) (hl : (p2.endLine == p3.line) = true) (he : PE X e (tF g fa)) :
    PS X (.Expr (.Call (.Attribute (.Name x p1) "append" p2) [e] [] p3) p4) (tFS g (appV i fa)) := by
  refine PS.imp (ps_expr (pe_bm PySem.F.plainAttrs_list PySem.F.slot_list_append PySem.F.type_list_append mt_append (pe_var hi hv hd hcd) (pa_cons he pa_nil (star_cons hn)) (by rfl) (by cases e <;> first | rfl | cases hn) hl (star_cons hn) (by rfl))) fun E σ H h => ?_
  show tVar i σ H fun v H1 => tyV X.K "list" v H1 ∧ tF g fa σ H1 fun w H2 => rAppend v [w] H2 fun _ H1 => E.nx σ H1
  obtain ⟨F, ρ, s, p⟩ := h
  unfold appV at p
  split at p
  · rename_i ds ho
    obtain ⟨q, o, a1, a2, a3, a4, a5⟩ := s.own_none (ownAt_ok ho)
    cases a5 with
    | l rl =>
      refine ⟨_, a1, Or.inl ⟨rfl, _, SqL.of a2⟩, ?_⟩
      refine run1 s (fun b v F1 H1 e2 g1 r1 => ?_) (fun c e => ?_) (fun e => ?_)
      · rw [e2] at p
        dsimp only at p
        split at p
        · rename_i d hd
          rw [hd] at r1
          split at p
          · rename_i hz
            refine ⟨q, _, v, rfl, rfl, g1.hh _ _ a2, by rw [rl.len]; exact hz, ?_⟩
            exact p σ F1 _ ((s.grow g1).change (ownAt_ok ho) a1 (.l ((rl.mono g1.fh).app (.cons r1 .nil))))
          · exact p.elim
        · exact p.elim
      · rw [e] at p
        exact fun F' H' g1 => p F' H' (s.gr.trans g1)
      · rw [e] at p
        exact p
  · exact p.elim
/-! ### name[index] = value -/
theorem PS.or {t u : TS} (h : PS X st t) (h' : PS X st u) : PS X st (fun E σ H => t E σ H ∨ u E σ H) := ⟨fun pins s σ H E I w => w.elim (h.run pins s σ H E I) (h'.run pins s σ H E I)⟩
def storeM (m : M) (k : B) (d : D) : Option M := match m with
  | .k kvs => (match keyD (datOf k) with
    | some q => if kvs.length < sizeLine then some (.k (putD kvs q d)) else none
    | none => none)
  | .t kvs => (match tkey k with
    | some q => if kvs.length < sizeLine then some (.t (putD kvs q d)) else none
    | none => none)
  | .l xs => (match k with
    | .dat (.int j) => (match ixN xs.length j with
      | some n => some (.l (xs.set n d))
      | none => none)
    | _ => none)
def putS (i : Nat) (fk fv : Env → Res B) : Env → Out := fun ρ => match fv ρ with
  | .ok b => (match rd b, ownAt ρ i, fk ρ with
    | .dat d, some m, .ok k => (match storeM m (rd k) d with
      | some m' => .nx (ρ.set i (some (.own m')))
      | none => .bad)
    | .dat _, some _, .exc c => .exc c
    | _, _, _ => .bad)
  | .exc c => .exc c
  | .bad => .bad
theorem fs_store {i : Nat} {x : Str} {k v : Expr} {fk fv : Env → Res B} {p1 p2 : Pos} (hu : X.A.units + 1 < cLine) (hi : X.N[i]? = some x) (hv : Vis X.env.scope x) (hd : (x == ("__debug__" : Str)) = false) (hcd : (x == ("__classdict__" : Str)) = false) (hns : nsl k = true)
    (hk : PE X k (tF g fk)) (hval : PE X v (tF g fv)) (hs : swapsWith v (some (.Subscript (.Name x p1) k p2)) pos.line X.env = pure false) :
    PS X (.Assign [.Subscript (.Name x p1) k p2] v pos) (tFS g (putS i fk fv)) := by
  refine PS.imp (PS.or (ps_dput hu (pe_var hi hv hd hcd) hk hval hs) (ps_asg hval (pg_sub (pos := p2) (pe_var hi hv hd hcd) hk set_list (by intro v; cases k <;> first | rfl | cases hns)) (by cases v <;> first | rfl | exact hs) (by cases v <;> rfl) (by rfl))) fun E σ H h => ?_
  show (tF g fv σ H fun v H1 => tVar i σ H1 fun x H2 => tF g fk σ H2 fun y H3 => ∃ a H4, x = .ref a ∧ DPut H3 a y v H4 ∧ E.nx σ H4) ∨
    tF g fv σ H fun v H1 => tVar i σ H1 fun o H2 => tF g fk σ H2 fun j H3 => rSetL o j v H3 fun H4 => E.nx σ H4
  obtain ⟨F, ρ, s, p⟩ := h
  unfold putS at p
  -- the three shapes
  have run : ∀ {R : V → V → V → Hp → Prop}, (∀ b m, fv ρ = .ok b → ownAt ρ i = some m → ∀ (F3 H3 : Hp) (q : Addr) (o : HO) (w y : V) (k : B) (d : D) (m' : M), rd b = .dat d → fk ρ = .ok k → storeM m (rd k) d = some m' → St g F3 H3 σ ρ → Rp g.K g.fa F3 w d → RR g F3 H3 y (rd k) → σ[i]? = some (some (.ref q)) → H3 q = some o → RpM g.K g.fa F3 o m → PostS g E (.nx (ρ.set i (some (.own m')))) → R (.ref q) y w H3) →
      tF g fv σ H fun v H1 => tVar i σ H1 fun o H2 => tF g fk σ H2 fun j H3 => R o j v H3 := by
    intro R hR
    refine run1 s (fun b v F1 H1 e1 g1 r1 => ?_) (fun c e => ?_) (fun e => ?_)
    · rw [e1] at p
      dsimp only at p
      have s1 := s.grow g1
      cases hd : rd b with
      | dat d =>
        rw [hd] at p r1
        cases ho : ownAt ρ i with
        | none => rw [ho] at p; exact p.elim
        | some m =>
          rw [ho] at p
          obtain ⟨q, o, a1, a2, a3, a4, a5⟩ := s1.own_none (ownAt_ok ho)
          refine ⟨_, a1, ?_⟩
          refine run1 s1 (fun k y F2 H2 e2 g2 r2 => ?_) (fun c e => ?_) (fun e => ?_)
          · rw [e2] at p
            dsimp only at p
            split at p
            · rename_i m' hm
              exact hR b m e1 ho F2 H2 q o v y k d m' hd e2 hm (s1.grow g2) (Rp.mono g2.fh r1) r2 a1 (g2.hh _ _ a2) (a5.mono g2.fh) p
            · exact p.elim
          · rw [e] at p
            exact fun F' H' g2 => p F' H' (s1.gr.trans g2)
          · rw [e] at p
            exact p
      | own _ => rw [hd] at p; exact p.elim
      | vw _ => rw [hd] at p; exact p.elim
      | bor _ => rw [hd] at p; exact p.elim
      | scr _ => rw [hd] at p; exact p.elim
    · rw [e] at p
      exact fun F' H' g1 => p F' H' (s.gr.trans g1)
    · rw [e] at p
      exact p
  cases ho : ownAt ρ i with
  | none =>
    refine .inl (run (R := fun o y w H3 => ∃ a H4, o = .ref a ∧ DPut H3 a y w H4 ∧ E.nx σ H4) fun b m e1 e2 => ?_)
    rw [ho] at e2
    cases e2
  | some m0 =>
    cases m0 with
    | k kvs =>
      refine .inl (run (R := fun o y w H3 => ∃ a H4, o = .ref a ∧ DPut H3 a y w H4 ∧ E.nx σ H4) fun b m e1 e2 F3 H3 q o w y k d m' hd ek hm s3 rw_ ry hq hH ro post => ?_)
      rw [ho] at e2
      cases e2
      unfold storeM at hm
      dsimp only at hm
      split at hm
      · rename_i kk hkk
        split at hm
        · rename_i hz
          cases hm
          cases ro with
          | k q1 q2 =>
            have hy := rr_key ry hkk
            subst hy
            refine ⟨q, _, rfl, DPut.k hH ?_, post σ F3 _ (s3.change (ownAt_ok ho) hq (.k (put_keys q1 kk w d) (put_rel q1 q2 rw_)))⟩
            have := congrArg List.length q1
            rw [List.length_map, List.length_map] at this
            omega
        · cases hm
      · cases hm
    | t kvs =>
      refine .inl (run (R := fun o y w H3 => ∃ a H4, o = .ref a ∧ DPut H3 a y w H4 ∧ E.nx σ H4) fun b m e1 e2 F3 H3 q o w y k d m' hd ek hm s3 rw_ ry hq hH ro post => ?_)
      rw [ho] at e2
      cases e2
      unfold storeM at hm
      dsimp only at hm
      split at hm
      · rename_i kk hkk
        split at hm
        · rename_i hz
          cases hm
          cases ro with
          | t q1 q2 =>
            obtain ⟨b2, rfl, hb2⟩ := tkey_ok s3.sm ry hkk
            refine ⟨q, _, rfl, DPut.t hH hb2 ?_, post σ F3 _ (s3.change (ownAt_ok ho) hq (.t (put_keys q1 kk w d) (put_rel q1 q2 rw_)))⟩
            have := congrArg List.length q1
            rw [List.length_map, List.length_map] at this
            omega
        · cases hm
      · cases hm
    | l xs =>
      refine .inr (run (R := fun o y w H3 => rSetL o y w H3 fun H4 => E.nx σ H4) fun b m e1 e2 F3 H3 q o w y k d m' hd ek hm s3 rw_ ry hq hH ro post => ?_)
      rw [ho] at e2
      cases e2
      unfold storeM at hm
      dsimp only at hm
      split at hm
      · rename_i j hj
        rw [hj] at ry
        split at hm
        · rename_i n hn
          cases hm
          cases ro with
          | l q1 =>
            cases ry
            exact ⟨q, _, _, n, rfl, rfl, hH, by rw [q1.len]; exact hn, post σ F3 _ (s3.change (ownAt_ok ho) hq (.l (q1.set n rw_)))⟩
        · cases hm
      · cases hm
/-! ### if, for, while, return -/
def iteS (t : Env → Res Bool) (f h : Env → Out) : Env → Out := fun ρ => match t ρ with
  | .ok k => if k = true then f ρ else h ρ
  | .exc c => .exc c
  | .bad => .bad
theorem fs_if {t : Env → Res Bool} {p q : List Stmt} (hc : PT X c (tFT g t)) (ha : PSs X p (tFS g f)) (hb : PSs X q (tFS g h)) : PS X (.If c p q pos) (tFS g (iteS t f h)) := by
  refine PS.imp (ps_if hc ha hb) fun E σ H ⟨F, ρ, s, w⟩ => ?_
  unfold iteS at w
  refine runT s (fun k F1 H1 e1 g1 => ?_) (fun c e => ?_) (fun e => ?_)
  · rw [e1] at w
    dsimp only at w
    split
    · rename_i hk
      rw [if_pos hk] at w
      exact ⟨F1, ρ, s.grow g1, w⟩
    · rename_i hk
      rw [if_neg hk] at w
      exact ⟨F1, ρ, s.grow g1, w⟩
  · rw [e] at w
    exact fun F' H' g1 => w F' H' (s.gr.trans g1)
  · rw [e] at w
    exact w
theorem fs_never : PS X st (tFS g fun _ => .bad) := PS.imp ps_never fun _ _ _ ⟨_, _, _, p⟩ => p
theorem fs_pass : PS X (.Pass pos) (tFS g fun ρ => .nx ρ) := PS.imp ps_pass fun E σ H ⟨F, ρ, s, p⟩ => p σ F H s
theorem fs_break : PS X (.Break pos) (tFS g fun ρ => .bk ρ) := PS.imp ps_break fun E σ H ⟨F, ρ, s, p⟩ => p σ F H s
theorem fs_cont : PS X (.Continue pos) (tFS g fun ρ => .ct ρ) := PS.imp ps_continue fun E σ H ⟨F, ρ, s, p⟩ => p σ F H s
def okRet : B → Bool
  | .dat _ => true
  | .own _ => true
  | _ => false
def retV (b : B) (_ : Env) : Out := if okRet b = true then .rt b else .bad
theorem fs_ret {e : Expr} (he : PE X e (tF g fa)) : PS X (.Return (some e) pos) (tFS g (thenS fa retV)) := by
  refine PS.imp (ps_ret he) fun E σ H h => then_run (k := retV) h fun F ρ b v F1 H1 s g1 r1 p => ?_
  unfold retV at p
  split at p
  · exact p v F1 H1 (s.gr.trans g1) (r1.later s.gr)
  · exact p.elim
/-- return name -/
def retN (i : Nat) (ρ : Env) : Out := match ρ[i]? with
  | some (some (.dat d)) => .rt (.dat d)
  | some (some (.own m)) => .rt (.own m)
  | _ => .bad
theorem fs_retN {i : Nat} {x : Str} {p1 : Pos} (hi : X.N[i]? = some x) (hv : Vis X.env.scope x) (hd : (x == ("__debug__" : Str)) = false) (hcd : (x == ("__classdict__" : Str)) = false) : PS X (.Return (some (.Name x p1)) pos) (tFS g (retN i)) := by
  refine PS.imp (ps_ret (pe_var hi hv hd hcd)) fun E σ H ⟨F, ρ, s, p⟩ => ?_
  unfold retN at p
  split at p
  · rename_i d e
    obtain ⟨v, h1, h2⟩ := s.at_ i _ e
    exact ⟨v, h1, p v F H s.gr h2⟩
  · rename_i m e
    obtain ⟨q, o, a1, a2, a3, a4, a5⟩ := s.own_none e
    exact ⟨_, a1, p _ F H s.gr ⟨q, o, rfl, a4, a2, a3, a5⟩⟩
  · exact p.elim
theorem fs_retNone : PS X (.Return none pos) (tFS g fun _ => .rt (.dat .non)) := PS.imp ps_retN fun E σ H ⟨F, ρ, s, p⟩ => p .non F H s.gr .non
/-- an owned object is locked: no code -/
def lockE (i : Nat) (ρ : Env) : Env := match ownAt ρ i with
  | some m => ρ.set i (some (.dat (frzM m)))
  | none => ρ
theorem fs_lock {sts : List Stmt} (i : Nat) (h1 : PSs X sts (tFS g f)) : PSs X sts (tFS g fun ρ => f (lockE i ρ)) := by
  refine PSs.imp h1 fun E σ H ⟨F, ρ, s, p⟩ => ?_
  dsimp only at p
  unfold lockE at p
  split at p
  · rename_i m e
    obtain ⟨F', _, _, s'⟩ := s.lock (ownAt_ok e)
    exact ⟨F', _, s', p⟩
  · exact ⟨F, ρ, s, p⟩
/-! ### while -/
def whileN (t : Env → Res Bool) (body : Env → Out) : Nat → Env → Out
  | 0, _ => .bad
  | n + 1, ρ => match t ρ with
    | .ok false => .nx ρ
    | .ok true => (match body ρ with
      | .nx ρ2 => whileN t body n ρ2
      | .ct ρ2 => whileN t body n ρ2
      | .bk ρ2 => .nx ρ2
      | .rt b => .rt b
      | .exc c => .exc c
      | .bad => .bad)
    | .exc c => .exc c
    | .bad => .bad
/-- a loop's turns, bounded by what the proof says -/
def whileS (m : Env → Nat) (t : Env → Res Bool) (body : Env → Out) : Env → Out := fun ρ => whileN t body (m ρ) ρ
theorem fs_while {t : Env → Res Bool} {body : List Stmt} (m : Env → Nat) (hp : PassesOwn (model X.prog X.w) X.A X.env X.xe) (hc : PT X c (tFT g t)) (hb : PSs X body (tFS g f)) : PS X (.While c body [] pos) (tFS g (whileS m t f)) := by
  refine PS.imp (ps_while hp hc hb) fun E σ H ⟨F, ρ, s, p⟩ => ?_
  refine ⟨fun n σ H => ∃ F ρ, St g F H σ ρ ∧ PostS g E (whileN t f n ρ), ⟨m ρ, F, ρ, s, p⟩, ?_⟩
  rintro n σ H ⟨F, ρ, s, p⟩
  cases n with
  | zero => exact p.elim
  | succ n =>
    unfold whileN at p
    refine runT s (fun k F1 H1 e1 g1 => ?_) (fun c e => ?_) (fun e => ?_)
    · rw [e1] at p
      cases k with
      | false => exact p σ F1 H1 (s.grow g1)
      | true =>
        dsimp only at p
        refine ⟨fun σ2 H2 => ∃ F2 ρ2, St g F2 H2 σ2 ρ2 ∧ PostS g E (whileN t f n ρ2), fun σ2 H2 h => ⟨n, Nat.lt_succ_self n, h⟩, F1, ρ, s.grow g1, ?_⟩
        cases eb : f ρ with
        | nx ρ2 => rw [eb] at p; exact fun σ4 F4 H4 s4 => ⟨F4, ρ2, s4, p⟩
        | ct ρ2 => rw [eb] at p; exact fun σ4 F4 H4 s4 => ⟨F4, ρ2, s4, p⟩
        | bk ρ2 => rw [eb] at p; exact p
        | rt b => rw [eb] at p; exact p
        | exc c => rw [eb] at p; exact p
        | bad => rw [eb] at p; exact p
    · rw [e] at p
      exact fun F' H' g1 => p F' H' (s.gr.trans g1)
    · rw [e] at p
      exact p
/-! ### for -/
def loopF (t : Tg) (body : Env → Out) : List D → Env → Out
  | [], ρ => .nx ρ
  | d :: ds, ρ => match bindT t d ρ with
    | none => .bad
    | some ρ1 => match body ρ1 with
      | .nx ρ2 => loopF t body ds ρ2
      | .ct ρ2 => loopF t body ds ρ2
      | .bk ρ2 => .nx ρ2
      | .rt b => .rt b
      | .exc c => .exc c
      | .bad => .bad
def forV (t : Tg) (it : Env → Res (List D)) (body : Env → Out) : Env → Out := fun ρ => match it ρ with
  | .ok ds => loopF t body ds ρ
  | .exc c => .exc c
  | .bad => .bad
/-- another floor: what is locked by now -/
abbrev G.fl (g : G) (F0 : Hp) : G := { g with F0 := F0 }
theorem Grow.up {F H F1 H1 F2 H2 : Hp} (a : Grow F H F1 H1) (b : Grow F1 H F2 H2) : Grow F H F2 H2 := ⟨a.fh.trans b.fh, b.hh, b.sub, fun c o h n e => b.new c o h n (a.new c o h n e)⟩
theorem Grow.down {F H F1 F2 H2 : Hp} (a : Grow F H F2 H2) (e : Same F F1) (e' : Same F1 F2) : Grow F1 H F2 H2 := ⟨e', a.hh, a.sub, fun c o h n z => a.new c o h n (e.free z)⟩
theorem St.up {F1 H1 F H : Hp} {σ : L2.St} {ρ : Env} (a : Grow g.F0 g.G0 F1 H1) (s : St (g.fl F1) F H σ ρ) : St g F H σ ρ := ⟨a.up s.gr, s.len, fun i b h => let ⟨v, h1, h2⟩ := s.at_ i b h; ⟨v, h1, by cases b <;> exact h2⟩, s.apart⟩
theorem St.down {F1 F H : Hp} {σ : L2.St} {ρ : Env} (s : St g F H σ ρ) (e : Same g.F0 F1) (e' : Same F1 F) : St (g.fl F1) F H σ ρ := ⟨s.gr.down e e', s.len, fun i b h => let ⟨v, h1, h2⟩ := s.at_ i b h; ⟨v, h1, by cases b <;> exact h2⟩, s.apart⟩
theorem fs_for {t : Tg} {tg iter : Expr} {it : Env → Res (List D)} {body : List Stmt} (hp : PassesOwn (model X.prog X.w) X.A X.env X.xe) (hc : X.calm = true) (hi : PI X tg iter (tFI g false it)) (hg : PG X tg (tFG g t)) (hb : ∀ F0, PSs X body (tFS (g.fl F0) f))
    (hs : ∀ x, foldedSetIterable iter X.env x = pure x) : PS X (.For tg iter body [] pos) (tFS g (forV t it f)) := by
  have hb' : PSs X body (fun E σ H => ∃ F0, tFS (g.fl F0) f E σ H) := ⟨fun pins s σ H E I ⟨F0, w⟩ => (hb F0).run pins s σ H E I w⟩
  refine PS.imp (ps_for hp hc hi hg hb' hs) fun E σ H ⟨F, ρ, s, p⟩ => ⟨F, ρ, s, ?_⟩
  unfold forV at p
  cases e : it ρ with
  | exc c =>
    rw [e] at p
    exact fun F' H' g1 => p F' H' (s.gr.trans g1)
  | bad =>
    rw [e] at p
    exact p
  | ok ds =>
    rw [e] at p
    intro F1 H1 J g1 ok
    refine ⟨fun i m σ' H' => m = ds.length - i ∧ i ≤ ds.length ∧ ∃ F' ρ', St g F' H' σ' ρ' ∧ PP g false F1 H1 F' H' ∧ PostS g E (loopF t f (ds.drop i) ρ'), ⟨_, rfl, Nat.zero_le _, F1, ρ, s.grow g1, ⟨Same.refl _, g1.sub, (s.gr.trans g1).hh, (fun z => by cases z)⟩, p⟩, ?_⟩
    rintro i m σ' H' ⟨rfl, hle, F', ρ', s', pp, q⟩
    by_cases hlt : i < ds.length
    · refine .inr ⟨ok.go i F' H' pp hlt, fun σ2 H2 => ∃ F2 ρ2, St g F2 H2 σ2 ρ2 ∧ PP g false F1 H1 F2 H2 ∧ PostS g E (loopF t f (ds.drop (i + 1)) ρ2), fun σ2 H2 ⟨F2, ρ2, s2, p2, q2⟩ => ⟨_, ?_, rfl, hlt, F2, ρ2, s2, p2, q2⟩, fun x H2 hy => ?_⟩
      · omega
      · have hd : ds[i]? = some ds[i] := List.getElem?_eq_getElem hlt
        obtain ⟨F2, g2, r2⟩ := ok.yld i F' H' x H2 _ pp hd hy
        have s2 := s'.grow g2
        rw [List.drop_eq_getElem_cons hlt] at q
        unfold loopF at q
        split at q
        · exact q.elim
        · rename_i ρ1 hb1
          have e01 : Same g.F0 F1 := s.gr.fh.trans g1.fh
          have a1 : Grow g.F0 g.G0 F1 H1 := s.gr.trans g1
          refine ⟨F2, ρ', _, ρ1, s2, r2, hb1, fun σ3 s3 _ => ⟨F1, F2, ρ1, s3.down e01 (pp.1.trans g2.fh), ?_⟩⟩
          cases eb : f ρ1 with
          | nx ρ2 =>
            rw [eb] at q
            exact fun σ4 F4 H4 s4 => ⟨F4, ρ2, s4.up a1, ⟨s4.gr.fh, s4.sub, s4.gr.hh, fun z => by cases z⟩, q⟩
          | ct ρ2 =>
            rw [eb] at q
            exact fun σ4 F4 H4 s4 => ⟨F4, ρ2, s4.up a1, ⟨s4.gr.fh, s4.sub, s4.gr.hh, fun z => by cases z⟩, q⟩
          | bk ρ2 =>
            rw [eb] at q
            exact fun σ4 F4 H4 s4 => q σ4 F4 H4 (s4.up a1)
          | rt b =>
            rw [eb] at q
            exact fun v F4 H4 g4 r4 => q v F4 H4 (a1.up g4) (by cases b <;> exact r4)
          | exc c =>
            rw [eb] at q
            exact fun F4 H4 g4 => q F4 H4 (a1.up g4)
          | bad =>
            rw [eb] at q
            exact q
    · have he : i = ds.length := by omega
      subst he
      rw [List.drop_length] at q
      exact .inl ⟨ok.stop _ F' H' pp (Nat.le_refl _), q _ _ _ s'⟩
end
end Fn
namespace Fn
open PySem PySem.Spec PyProof.Rows L2
/-! ### what a body's context gives -/
structure CT (X : Cx) (g : G) (cls : Nat → Value) (k : Nat) (tab : List En) (N : List Str) (sc : Scope) (bt : List Str) : Prop where
  hK : g.K = X.K
  calm : X.calm = true
  hN : X.N = N
  nd : N.Nodup
  hS : X.env.scope = sc
  room : Room k X.A
  tab : TabOk X g.fa cls k tab
  pz : Pz X g cls
  bi : ∀ x ∈ bt, X.mg x = none
def nmOk (x : Str) : Bool := !(x == ("__debug__" : Str)) && !(x == ("__classdict__" : Str)) && !(x == ("__name__" : Str))
def visC (sc : Scope) (x : Str) : Bool := match sc.names.lookup x with
  | some .local => true
  | some .cell => true
  | some .free => true
  | _ => false
def vOk (N : List Str) (sc : Scope) (i : Nat) (x : Str) : Bool := decide (N[i]? = some x) && visC sc x && nmOk x
def lOk (N : List Str) (sc : Scope) (i : Nat) (x : Str) : Bool := decide (N[i]? = some x) && decide (sc.names.lookup x = some .local)
def gOk (sc : Scope) (bt : List Str) (x : Str) : Bool := decide (sc.names.lookup x = some .globalImplicit) && decide (x ∈ bt)
def dOk (sc : Scope) (x : Str) : Bool := decide (sc.names.lookup x = some .globalImplicit) && nmOk x
theorem nmOk_ok {x : Str} (h : nmOk x = true) : (x == ("__debug__" : Str)) = false ∧ (x == ("__classdict__" : Str)) = false ∧ (x == ("__name__" : Str)) = false := by
  unfold nmOk at h
  simp only [Bool.and_eq_true, Bool.not_eq_true'] at h
  exact ⟨h.1.1, h.1.2, h.2⟩
theorem visC_ok {sc : Scope} {x : Str} (h : visC sc x = true) : Vis sc x := by
  unfold visC at h
  split at h
  · rename_i e; exact .inl e
  · rename_i e; exact .inr (.inl e)
  · rename_i e; exact .inr (.inr e)
  · cases h
section
variable {X : Cx} {g : G} {cls : Nat → Value} {k : Nat} {tab : List En} {N : List Str} {sc : Scope} {bt : List Str} {a b c : Expr} {pos : Pos} {fa fb fc : Env → Res B}
theorem CT.fl (C : CT X g cls k tab N sc bt) (F0 : Hp) : CT X (g.fl F0) cls k tab N sc bt := ⟨C.hK, C.calm, C.hN, C.nd, C.hS, C.room, C.tab, C.pz, C.bi⟩
theorem CT.hu (C : CT X g cls k tab N sc bt) : X.A.units + 200 < cLine := by have := C.room.un; omega
theorem CT.gl (C : CT X g cls k tab N sc bt) {x : Str} (h : sc.names.lookup x = some .globalImplicit) : Gl X x := by
  show X.env.scope.names.lookup x = _
  rw [C.hS]
  exact h
theorem CT.bl (C : CT X g cls k tab N sc bt) {x : Str} (h : gOk sc bt x = true) : Gl X x ∧ X.mg x = none := by
  unfold gOk at h
  rw [Bool.and_eq_true, decide_eq_true_eq, decide_eq_true_eq] at h
  exact ⟨C.gl h.1, C.bi x h.2⟩
theorem CT.vo (C : CT X g cls k tab N sc bt) {i : Nat} {x : Str} (h : vOk N sc i x = true) : X.N[i]? = some x ∧ Vis X.env.scope x ∧ (x == ("__debug__" : Str)) = false ∧ (x == ("__classdict__" : Str)) = false := by
  unfold vOk at h
  simp only [Bool.and_eq_true, decide_eq_true_eq] at h
  obtain ⟨⟨h1, h2⟩, h3⟩ := h
  exact ⟨by rw [C.hN]; exact h1, by rw [C.hS]; exact visC_ok h2, (nmOk_ok h3).1, (nmOk_ok h3).2.1⟩
theorem CT.lo (C : CT X g cls k tab N sc bt) {i : Nat} {x : Str} (h : lOk N sc i x = true) : X.N[i]? = some x ∧ X.env.scope.names.lookup x = some .local := by
  unfold lOk at h
  simp only [Bool.and_eq_true, decide_eq_true_eq] at h
  exact ⟨by rw [C.hN]; exact h.1, by rw [C.hS]; exact h.2⟩
theorem CT.nd' (C : CT X g cls k tab N sc bt) : X.N.Nodup := by rw [C.hN]; exact C.nd
theorem CT.var (C : CT X g cls k tab N sc bt) (i : Nat) {x : Str} (h : vOk N sc i x = true) : PE X (.Name x pos) (tF g (varB i)) := by
  obtain ⟨h1, h2, h3, h4⟩ := C.vo h
  exact PE.imp (pe_var h1 h2 h3 h4) fun _ _ _ q => var_run q
theorem fe_int {i : Int} {j} : PE X (.Constant (.int i) j pos) (tF g fun _ => .ok (.dat (.int i))) := PE.imp pe_int fun _ _ _ q => con_run (fun _ => .int i) q
theorem fe_bl {i : Bool} {j} : PE X (.Constant (.bool i) j pos) (tF g fun _ => .ok (.dat (.bl i))) := PE.imp pe_bl fun _ _ _ q => con_run (fun _ => .bl i) q
theorem fe_str {i : Str} {j} : PE X (.Constant (.str i) j pos) (tF g fun _ => .ok (.dat (.str i))) := PE.imp pe_str fun _ _ _ q => con_run (fun _ => .str i) q
theorem fe_non {j} : PE X (.Constant .none j pos) (tF g fun _ => .ok (.dat .non)) := PE.imp pe_non fun _ _ _ q => con_run (fun _ => .non) q
/-! operators -/
theorem CT.add (C : CT X g cls k tab N sc bt) (ha : PE X a (tF g fa)) (hb : PE X b (tF g fb)) : PE X (.BinOp a .Add b pos) (tF g (bin2 addB fa fb)) := fe_bin op_addF (g_add C.hK) ha hb
theorem CT.sub (C : CT X g cls k tab N sc bt) (ha : PE X a (tF g fa)) (hb : PE X b (tF g fb)) : PE X (.BinOp a .Sub b pos) (tF g (bin2 subB fa fb)) := fe_bin op_sub g_sub ha hb
theorem CT.mul (C : CT X g cls k tab N sc bt) (ha : PE X a (tF g fa)) (hb : PE X b (tF g fb)) : PE X (.BinOp a .Mult b pos) (tF g (bin2 mulB fa fb)) := fe_bin op_mulF g_mul ha hb
theorem CT.div (C : CT X g cls k tab N sc bt) (ha : PE X a (tF g fa)) (hb : PE X b (tF g fb)) : PE X (.BinOp a .FloorDiv b pos) (tF g (bin2 divB fa fb)) := fe_bin op_fdivG g_div ha hb
theorem CT.mod (C : CT X g cls k tab N sc bt) (ha : PE X a (tF g fa)) (hb : PE X b (tF g fb)) : PE X (.BinOp a .Mod b pos) (tF g (bin2 modB fa fb)) := fe_bin op_modG g_mod ha hb
theorem CT.shl (C : CT X g cls k tab N sc bt) (ha : PE X a (tF g fa)) (hb : PE X b (tF g fb)) : PE X (.BinOp a .LShift b pos) (tF g (bin2 shlB fa fb)) := fe_bin op_shl g_shl ha hb
theorem CT.shr (C : CT X g cls k tab N sc bt) (ha : PE X a (tF g fa)) (hb : PE X b (tF g fb)) : PE X (.BinOp a .RShift b pos) (tF g (bin2 shrB fa fb)) := fe_bin op_shr g_shr ha hb
theorem CT.band (C : CT X g cls k tab N sc bt) (ha : PE X a (tF g fa)) (hb : PE X b (tF g fb)) : PE X (.BinOp a .BitAnd b pos) (tF g (bin2 andB fa fb)) := fe_bin op_and g_and ha hb
theorem CT.pow (C : CT X g cls k tab N sc bt) (ha : PE X a (tF g fa)) (hb : PE X b (tF g fb)) : PE X (.BinOp a .Pow b pos) (tF g (bin2 powB fa fb)) := fe_bin op_pow g_pow ha hb
/-- a compare, as a pair of rule and reading -/
structure CmpW (X : Cx) (g : G) (op : CmpOp) (f : B → B → Res B) : Prop where
  ex : ∃ r, OpR X (compareOp op) r ∧ OpG g r f
theorem CT.hu64 (C : CT X g cls k tab N sc bt) : X.A.units + 64 < cLine := by have := C.hu; omega
theorem CT.hu100 (C : CT X g cls k tab N sc bt) : X.A.units + 100 < cLine := by have := C.hu; omega
theorem CT.hu1 (C : CT X g cls k tab N sc bt) : X.A.units + 1 < cLine := by have := C.hu; omega
def leF : B → B → Res B := cmpI fun i j => decide (i ≤ j)
def gtF : B → B → Res B := cmpI fun i j => decide (j < i)
def geF : B → B → Res B := cmpI fun i j => decide (j ≤ i)
theorem CT.eq (C : CT X g cls k tab N sc bt) : CmpW X g .Eq eqB := ⟨_, op_eqD C.hu64, g_eq C.hK⟩
theorem CT.ne (C : CT X g cls k tab N sc bt) : CmpW X g .NotEq neB := ⟨_, op_neD C.hu64, g_ne C.hK⟩
theorem CT.lt (C : CT X g cls k tab N sc bt) : CmpW X g .Lt ltB := ⟨_, op_ltF C.hu64, g_lt C.hK⟩
theorem CT.le (C : CT X g cls k tab N sc bt) : CmpW X g .LtE leF := ⟨_, op_le, g_cmpI⟩
theorem CT.gt (C : CT X g cls k tab N sc bt) : CmpW X g .Gt gtF := ⟨_, op_gt, g_cmpI⟩
theorem CT.ge (C : CT X g cls k tab N sc bt) : CmpW X g .GtE geF := ⟨_, op_ge, g_cmpI⟩
theorem CT.is (C : CT X g cls k tab N sc bt) : CmpW X g .Is (isB false) := ⟨_, op_isF, g_is⟩
theorem CT.isn (C : CT X g cls k tab N sc bt) : CmpW X g .IsNot (isB true) := ⟨_, op_isNotF, g_isNot⟩
theorem CT.inn (C : CT X g cls k tab N sc bt) : CmpW X g .In (inB false) := ⟨_, op_inF C.hu100, g_in C.hK⟩
theorem CT.nin (C : CT X g cls k tab N sc bt) : CmpW X g .NotIn (inB true) := ⟨_, op_notInF C.hu100, g_in C.hK⟩
theorem cmpE {op : CmpOp} {f : B → B → Res B} (w : CmpW X g op f) (ha : PE X a (tF g fa)) (hb : PE X b (tF g fb)) (hm : nset b = true) : PE X (.Compare a [op] [b] pos) (tF g (bin2 f fa fb)) := by
  obtain ⟨r, h1, h2⟩ := w.ex
  exact fe_cmp h1 h2 ha hb (nset_mark hm)
theorem cmpT {op : CmpOp} {f : B → B → Res B} (w : CmpW X g op f) (ha : PE X a (tF g fa)) (hb : PE X b (tF g fb)) (hm : nset b = true) : PT X (.Compare a [op] [b] pos) (tFT g fun ρ => (bin2 f fa fb ρ).bind tstB) := by
  obtain ⟨r, h1, h2⟩ := w.ex
  exact ft_cmp h1 h2 ha hb (nset_mark hm)
theorem chainE {op op' : CmpOp} {f f' : B → B → Res B} (w : CmpW X g op f) (w' : CmpW X g op' f') (ha : PE X a (tF g fa)) (hb : PE X b (tF g fb)) (hc : PE X c (tF g fc)) (hm : nset c = true) : PE X (.Compare a [op, op'] [b, c] pos) (tF g (chn f f' fa fb fc)) := by
  obtain ⟨r, h1, h2⟩ := w.ex
  obtain ⟨r', h1', h2'⟩ := w'.ex
  exact fe_chain h1 h2 h1' h2' ha hb hc hm
theorem chainT {op op' : CmpOp} {f f' : B → B → Res B} (w : CmpW X g op f) (w' : CmpW X g op' f') (ha : PE X a (tF g fa)) (hb : PE X b (tF g fb)) (hc : PE X c (tF g fc)) (hm : nset c = true) : PT X (.Compare a [op, op'] [b, c] pos) (tFT g fun ρ => (chn f f' fa fb fc ρ).bind tstB) := by
  obtain ⟨r, h1, h2⟩ := w.ex
  obtain ⟨r', h1', h2'⟩ := w'.ex
  exact ft_chain h1 h2 h1' h2' ha hb hc hm
theorem CT.val (C : CT X g cls k tab N sc bt) (ha : PE X a (tF g fa)) (hp : plainT a = true) : PT X a (tFT g (testV fa)) := ft_val C.hK hp ha
theorem CT.idx (C : CT X g cls k tab N sc bt) (ha : PE X a (tF g fa)) (hb : PE X b (tF g fb)) (hp : nsl b = true) : PE X (.Subscript a b pos) (tF g (bin2 idxB fa fb)) := fe_idx C.hu100 C.hK (nsl_ix hp) ha hb
theorem CT.slc (C : CT X g cls k tab N sc bt) {lo hi : Option Expr} {fl fh : Env → Res (Option Int)} {p2 : Pos} (ha : PE X a (tF g fa)) (hl : PO X lo (tFO g fl)) (hh : PO X hi (tFO g fh)) : PE X (.Subscript a (.Slice lo hi none p2) pos) (tF g (slcV fa fl fh)) := fe_slice C.hK ha hl hh
/-! builtins -/
variable {x : Str} {p : Pos} {e : Expr} {es : List Expr} {fs : Env → Res (List B)}
/-- a builtin, with what it reads as -/
structure BiW (X : Cx) (g : G) (x : Str) (f : List B → Res B) : Prop where
  ex : (∃ id r, CallR X (.builtin id) r ∧ bootBuiltins x = some (.builtin id) ∧ CallG g r f) ∨ ∃ T r, CallR X (.type T) r ∧ bootBuiltins x = some (.type T) ∧ CallG g r f
theorem CT.len (C : CT X g cls k tab N sc bt) : BiW X g "len" lenB := ⟨.inl ⟨_, _, c_len, PySem.boot_len, g_len C.hK⟩⟩
theorem CT.call (C : CT X g cls k tab N sc bt) {f : List B → Res B} (w : BiW X g x f) (ha : PA X (e :: es) (tFA g fs)) (hg : gOk sc bt x = true) (hn : nmOk x = true) (hst : (e :: es).all nst = true) : PE X (.Call (.Name x p) (e :: es) [] pos) (tF g fun ρ => (fs ρ).bind f) := by
  obtain ⟨h1, h2⟩ := C.bl hg
  obtain ⟨n1, _, n2⟩ := nmOk_ok hn
  have n3 : x ≠ "__name__" := fun z => by rw [z] at n2; revert n2; decide
  rcases w.ex with ⟨id, r, c1, c2, c3⟩ | ⟨T, r, c1, c2, c3⟩
  · exact fe_callB c1 h1 h2 c2 c3 ha n3 n1 hst
  · exact fe_callTy c1 h1 h2 c2 c3 ha n3 n1 hst
theorem CT.own (C : CT X g cls k tab N sc bt) (j : Nat) {en : En} (ha : PA X (e :: es) (tFA g fs)) (hk : tab[j]? = some en) (hx : x = en.name) (hg : dOk sc x = true) (hst : (e :: es).all nst = true) : PE X (.Call (.Name x p) (e :: es) [] pos) (tF g fun ρ => (fs ρ).bind fun bs => (lenA en.n bs).bind (callV en)) := by
  unfold dOk at hg
  rw [Bool.and_eq_true, decide_eq_true_eq] at hg
  exact fe_call C.tab C.room C.pz hk hx C.hK (C.gl hg.1) ha (nmOk_ok hg.2).1 hst
theorem CT.isi (C : CT X g cls k tab N sc bt) (t : Ty) {p2 : Pos} (ha : PE X a (tF g fa)) (hx : x = Str.ofString t.nm) (h1 : gOk sc bt "isinstance" = true) (h2 : gOk sc bt x = true) (hb : bootBuiltins x = some (.type t.nm)) (hn : nst a = true) :
    PE X (.Call (.Name "isinstance" p) [a, .Name x p2] [] pos) (tF g (one1 (isiB t) fa)) := fe_isi C.hK (C.bl h1).1 (C.bl h1).2 hx (C.bl h2).1 (C.bl h2).2 hb hn ha
/-! comprehensions -/
theorem iter_plain {iter : Expr} (h : nset iter = true) (env : PySem.Env) : ∀ x, foldedSetIterable iter env x = pure x := by
  intro x
  cases iter <;> first | rfl | cases h
theorem pass0L {X : Cx} : Passes (L2.CX X.prog X.w) X (fun _ _ _ => False) := L2.passL
theorem CT.blk (C : CT X g cls k tab N sc bt) {scope : Scope} (s : Shared) (H : Hp) (A : Addr) (cl : List (Str × Addr)) (fp : List Addr) : CT (X.blk s H scope (compEnvC scope cl A X.env) fp) g.mute cls k tab N (relS scope sc) bt :=
  ⟨C.hK, C.calm, C.hN, C.nd, by rw [← C.hS]; rfl, C.room, ⟨fun j en h => C.tab.at_ j en h⟩, ⟨_, pass0L, fun _ _ h => h⟩, C.bi⟩
structure Inn (X : Cx) (g : G) (tg : Expr) (ifs : List Expr) (elt : Expr) (t : Tg) (c : Env → Res Bool) (fe : Env → Res B) : Prop where
  tg : PG X tg (tFG g t)
  ifs : PTs X ifs (tFT g c)
  elt : PE X elt (tF g fe)
def lcOk (N : List Str) (sc scope : Scope) (own : List (Str × Nat)) (t : Tg) (iter : Expr) : Bool := blkC N sc scope own && (t.slots.all fun i => decide (i ∈ own.map (·.2))) && nset iter
theorem CT.lc (C : CT X g cls k tab N sc bt) {t : Tg} {it : Env → Res (List D)} {c : Env → Res Bool} {fe : Env → Res B} {elt tg iter : Expr} {ifs : List Expr} {scope : Scope} (own : List (Str × Nat)) (hi : PI X tg iter (tFI g true it))
    (inn : ∀ {X' : Cx} {g' : G}, CT X' g' cls k tab N (relS scope sc) bt → Inn X' g' tg ifs elt t c fe) (ok : lcOk N sc scope own t iter = true) : PE X (.ListComp elt [⟨tg, iter, ifs, 0⟩] scope pos) (tF g (compV t it c fe (own.map (·.2)))) := by
  unfold lcOk at ok
  simp only [Bool.and_eq_true, List.all_eq_true, decide_eq_true_eq] at ok
  obtain ⟨⟨h1, h2⟩, h3⟩ := ok
  exact fe_lc C.calm C.nd' hi (by rw [C.hN, C.hS]; exact blkOk_by h1) h2 (fun s H A cl fp => (inn (C.blk s H A cl fp)).tg) (fun s H A cl fp => (inn (C.blk s H A cl fp)).ifs) (fun s H A cl fp => (inn (C.blk s H A cl fp)).elt) (iter_plain h3 _)
theorem ifs0 : PTs X [] (tFT g fun _ => .ok true) := ⟨fun pins s σ H Q I ⟨F, ρ, st, q⟩ => pts_nil.run pins s σ H Q I (q F H (Grow.refl st.sub))⟩
theorem ifs1 {t : Env → Res Bool} (h : PT X a (tFT g t)) : PTs X [a] (tFT g t) := pts_one h
theorem CT.g1 (C : CT X g cls k tab N sc bt) (i : Nat) (h : lOk N sc i x = true) : PG X (.Name x pos) (tFG g (.one i)) := fg_one C.nd' (C.lo h).1 (.inl (C.lo h).2) (.inr (C.lo h).2)
def namesOf : List Expr → Option (List Str)
  | [] => some []
  | .Name x _ :: r => (namesOf r).map (x :: ·)
  | _ => none
theorem CT.gs (C : CT X g cls k tab N sc bt) : ∀ (is : List Nat) (es : List Expr) (xs : List Str), namesOf es = some xs → xs.length = is.length → ((is.zip xs).all fun p => lOk N sc p.1 p.2) = true →
    PGs X es (gPut is) ∧ (assignEach es X.env).length = is.length ∧ (assignEach es X.env).findIdx? (·.1) = none
  | [], [], [], _, _, _ => ⟨pgs_nil, rfl, rfl⟩
  | i :: is, .Name x p :: es, xs, h, hl, ha => by
    unfold namesOf at h
    cases e : namesOf es with
    | none => rw [e] at h; cases h
    | some ys =>
      rw [e] at h
      cases h
      simp only [List.zip_cons_cons, List.all_cons, Bool.and_eq_true] at ha
      obtain ⟨q1, q2, q3⟩ := C.gs is es ys e (by simpa using hl) ha.2
      refine ⟨pgs_cons (pg_name C.nd' (C.lo ha.1).1 (.inl (C.lo ha.1).2) (.inr (C.lo ha.1).2)) q1, ?_, ?_⟩
      · show (_ :: assignEach es X.env).length = _
        rw [List.length_cons, q2, List.length_cons]
      · show List.findIdx? _ ((false, _) :: assignEach es X.env) = none
        rw [List.findIdx?_cons, q3]
        rfl
  | [], .Name _ _ :: _, xs, h, hl, _ => by
    unfold namesOf at h
    cases e : namesOf _ with
    | none => rw [e] at h; cases h
    | some ys => rw [e] at h; cases h; cases hl
  | _ :: _, [], xs, h, hl, _ => by cases h; cases hl
def gsOk (N : List Str) (sc : Scope) (is : List Nat) (es : List Expr) : Bool := match namesOf es with
  | some xs => decide (xs.length = is.length) && (is.zip xs).all fun p => lOk N sc p.1 p.2
  | none => false
theorem CT.gm (C : CT X g cls k tab N sc bt) (is : List Nat) {n : Nat} (h : gsOk N sc is es = true) : PG X (.Tuple es n pos) (tFG g (.many is)) := by
  unfold gsOk at h
  split at h
  · rename_i xs e
    rw [Bool.and_eq_true, decide_eq_true_eq] at h
    obtain ⟨h1, h2, h3⟩ := C.gs is es xs e h.1 h.2
    exact fg_many C.calm C.hK h1 h2 h3
  · cases h
theorem CT.it (C : CT X g cls k tab N sc bt) {lk : Bool} {tg : Expr} (ha : PE X a (tF g fa)) : PI X tg a (tFI g lk fun ρ => (fa ρ).bind fun x => itemsB lk (rd x)) := fi_seq C.hK ha
theorem CT.rg1 (C : CT X g cls k tab N sc bt) {lk : Bool} {tg : Expr} (ha : PE X a (tF g fa)) (hg : gOk sc bt "range" = true) (hn : nst a = true) : PI X tg (.Call (.Name "range" p) [a] [] pos) (tFI g lk fun ρ => (consA fa (fun _ => .ok []) ρ).bind rngA) := by
  refine fi_range1 (C.bl hg).1 (C.bl hg).2 hn (fa_cons hn ha fa_nil) fun ρ bs h => ?_
  unfold consA at h
  cases e : fa ρ with
  | ok b => rw [e] at h; cases h; rfl
  | exc c => rw [e] at h; cases h
  | bad => rw [e] at h; cases h
theorem CT.rg2 (C : CT X g cls k tab N sc bt) {lk : Bool} {tg : Expr} (ha : PE X a (tF g fa)) (hb : PE X b (tF g fb)) (hg : gOk sc bt "range" = true) (hn : nst a = true) (hn2 : nst b = true) : PI X tg (.Call (.Name "range" p) [a, b] [] pos) (tFI g lk fun ρ => (consA fa (consA fb fun _ => .ok []) ρ).bind rngA) := by
  refine fi_range2 (C.bl hg).1 (C.bl hg).2 hn hn2 (fa_cons hn ha (fa_cons hn2 hb fa_nil)) fun ρ bs h => ?_
  unfold consA at h
  cases e : fa ρ with
  | ok b =>
    rw [e] at h
    cases e2 : fb ρ with
    | ok b2 => rw [Res.ok_bind, e2] at h; cases h; rfl
    | exc c => rw [Res.ok_bind, e2] at h; cases h
    | bad => rw [Res.ok_bind, e2] at h; cases h
  | exc c => rw [e] at h; cases h
  | bad => rw [e] at h; cases h
end
end Fn
namespace Fn
open PySem PySem.Spec PyProof.Rows L2
theorem boot_abs : bootBuiltins "abs" = some (.builtin "abs") := by decide +kernel
theorem boot_any : bootBuiltins "any" = some (.builtin "any") := by decide +kernel
theorem boot_all : bootBuiltins "all" = some (.builtin "all") := by decide +kernel
theorem boot_min : bootBuiltins "min" = some (.builtin "min") := by decide +kernel
theorem boot_max : bootBuiltins "max" = some (.builtin "max") := by decide +kernel
theorem boot_sum : bootBuiltins "sum" = some (.builtin "sum") := by decide +kernel
theorem boot_sorted : bootBuiltins "sorted" = some (.builtin "sorted") := by decide +kernel
theorem boot_int : bootBuiltins "int" = some (.type "int") := by decide +kernel
theorem boot_str : bootBuiltins "str" = some (.type "str") := by decide +kernel
theorem boot_tuple : bootBuiltins "tuple" = some (.type "tuple") := by decide +kernel
theorem boot_list : bootBuiltins "list" = some (.type "list") := by decide +kernel
theorem boot_dict : bootBuiltins "dict" = some (.type "dict") := by decide +kernel
theorem boot_bool : bootBuiltins "bool" = some (.type "bool") := by decide +kernel
section
variable {X : Cx} {g : G} {cls : Nat → Value} {k : Nat} {tab : List En} {N : List Str} {sc : Scope} {bt : List Str} {a b c : Expr} {pos : Pos} {fa fb fc : Env → Res B} {f h : Env → Out} {x : Str} {e : Expr} {st : Stmt} {rest body : List Stmt}
theorem CT.abs (C : CT X g cls k tab N sc bt) : BiW X g "abs" absF := ⟨.inl ⟨_, _, call_abs, boot_abs, g_abs⟩⟩
theorem CT.min (C : CT X g cls k tab N sc bt) : BiW X g "min" minF := ⟨.inl ⟨_, _, c_min C.calm, boot_min, g_min C.hK⟩⟩
theorem CT.max (C : CT X g cls k tab N sc bt) : BiW X g "max" maxF := ⟨.inl ⟨_, _, c_max C.calm, boot_max, g_max C.hK⟩⟩
theorem CT.sum (C : CT X g cls k tab N sc bt) : BiW X g "sum" sumF := ⟨.inl ⟨_, _, cr_sum C.calm, boot_sum, g_sum C.hK⟩⟩
theorem CT.any (C : CT X g cls k tab N sc bt) : BiW X g "any" anyF := ⟨.inl ⟨_, _, cr_any C.calm, boot_any, g_any C.hK⟩⟩
theorem CT.all (C : CT X g cls k tab N sc bt) : BiW X g "all" allF := ⟨.inl ⟨_, _, cr_all C.calm, boot_all, g_all C.hK⟩⟩
theorem CT.int (C : CT X g cls k tab N sc bt) : BiW X g "int" intF := ⟨.inr ⟨_, _, call_int1, boot_int, g_int⟩⟩
theorem CT.str (C : CT X g cls k tab N sc bt) : BiW X g "str" strF := ⟨.inr ⟨_, _, call_str_int, boot_str, g_str⟩⟩
theorem CT.tup (C : CT X g cls k tab N sc bt) : BiW X g "tuple" tupF := ⟨.inr ⟨_, _, call_tuple_of, boot_tuple, g_tupF C.hK⟩⟩
theorem CT.lst (C : CT X g cls k tab N sc bt) : BiW X g "list" lstF := ⟨.inr ⟨_, _, call_list_of, boot_list, g_lstF C.hK⟩⟩
theorem CT.sort (C : CT X g cls k tab N sc bt) : BiW X g "sorted" sortF := ⟨.inl ⟨_, _, c_sort C.calm C.hu, boot_sorted, g_sort C.hK⟩⟩
end
/-! ### statements -/
structure CS (X : Cx) (g : G) (cls : Nat → Value) (k : Nat) (tab : List En) (N : List Str) (sc : Scope) (bt : List Str) : Prop where
  ct : CT X g cls k tab N sc bt
  po : PassesOwn (model X.prog X.w) X.A X.env X.xe
  fn : ∀ x, X.fn x = true
def nlc : Expr → Bool
  | .ListComp .. => false
  | .SetComp .. => false
  | .DictComp .. => false
  | _ => true
theorem sw_no {e : Expr} {t : Option Expr} {l : Nat} {env : PySem.Env} (h : nlc e = true) : swapsWith e t l env = pure false := by
  cases e <;> first | rfl | cases h
theorem sw_sub {e : Expr} {o i : Expr} {p : Pos} {l : Nat} {env : PySem.Env} : swapsWith e (some (.Subscript o i p)) l env = pure false := by
  cases e <;> rfl
def swC (sc scope : Scope) (t : Str) (l1 l2 : Nat) : Bool :=
  ((if sc.kind.isAnnotationScope then ScopeKind.function else sc.kind) == .function && sc.names.lookup t == some .local && l1 == l2) && !(scope.names.any fun (n, k) => n == t && (k == .local || k == .cell))
theorem sw_lc {elt : Expr} {gs : List Comprehension} {scope : Scope} {pos : Pos} {t : Str} {p : Pos} {l : Nat} {env : PySem.Env} {sc : Scope} (h : env.scope = sc) : swapsWith (.ListComp elt gs scope pos) (some (.Name t p)) l env = pure (swC sc scope t p.line pos.line) := by
  subst h
  rfl
def aOk (N : List Str) (sc : Scope) (i : Nat) (x : Str) : Bool := decide (N[i]? = some x) && (match sc.names.lookup x with
  | some .local => true
  | some .cell => true
  | _ => false)
section
variable {X : Cx} {g : G} {cls : Nat → Value} {k : Nat} {tab : List En} {N : List Str} {sc : Scope} {bt : List Str} {a b c : Expr} {pos : Pos} {fa fb fc : Env → Res B} {f h : Env → Out} {x y : Str} {e : Expr} {st : Stmt} {rest body : List Stmt} {i j : Nat} {t : Tg}
theorem CS.fl (C : CS X g cls k tab N sc bt) (F0 : Hp) : CS X (g.fl F0) cls k tab N sc bt := ⟨C.ct.fl F0, C.po, C.fn⟩
theorem CS.ao (C : CS X g cls k tab N sc bt) {i : Nat} {x : Str} (h : aOk N sc i x = true) : X.N[i]? = some x ∧ Loc X.env.scope x := by
  unfold aOk at h
  rw [Bool.and_eq_true, decide_eq_true_eq] at h
  refine ⟨by rw [C.ct.hN]; exact h.1, ?_⟩
  rw [C.ct.hS]
  have h2 := h.2
  split at h2
  · rename_i e; exact .inl e
  · rename_i e; exact .inr e
  · cases h2
theorem CS.asg (C : CS X g cls k tab N sc bt) (i : Nat) {p : Pos} (he : PE X e (tF g fa)) (h : aOk N sc i x = true) (hl : nlc e = true) : PS X (.Assign [.Name x p] e pos) (tFS g (thenS fa (setV i))) :=
  fs_asg C.ct.nd' (C.ao h).1 (C.ao h).2 he (sw_no hl) (.inl (C.fn x))
theorem CS.asgLc (C : CS X g cls k tab N sc bt) (i : Nat) {it : Env → Res (List D)} {c : Env → Res Bool} {fe : Env → Res B} {elt tg iter : Expr} {ifs : List Expr} {scope : Scope} {p spos : Pos} (own : List (Str × Nat)) (hi : PI X tg iter (tFI g true it))
    (inn : ∀ {X' : Cx} {g' : G}, CT X' g' cls k tab N (relS scope sc) bt → Inn X' g' tg ifs elt t c fe) (ok : lcOk N sc scope own t iter = true) (h : aOk N sc i x = true) : PS X (.Assign [.Name x p] (.ListComp elt [⟨tg, iter, ifs, 0⟩] scope pos) spos) (tFS g (thenS (compV t it c fe (own.map (·.2))) (setV i))) := by
  cases hs : swC sc scope x p.line pos.line with
  | false => exact fs_asg C.ct.nd' (C.ao h).1 (C.ao h).2 (C.ct.lc own hi inn ok) (by rw [sw_lc C.ct.hS, hs]) (.inl (C.fn x))
  | true =>
    have hl : X.env.scope.names.lookup x = some .local := by
      unfold swC at hs
      simp only [Bool.and_eq_true, beq_iff_eq] at hs
      rw [C.ct.hS]
      exact hs.1.1.2
    unfold lcOk at ok
    simp only [Bool.and_eq_true, List.all_eq_true, decide_eq_true_eq] at ok
    obtain ⟨⟨h1, h2⟩, h3⟩ := ok
    exact fs_asgLc C.ct.calm C.ct.nd' (C.ao h).1 hl (by rw [sw_lc C.ct.hS, hs]) hi (by rw [C.ct.hN, C.ct.hS]; exact blkOk_by h1) h2 (fun s H A cl fp => (inn (C.ct.blk s H A cl fp)).tg) (fun s H A cl fp => (inn (C.ct.blk s H A cl fp)).ifs) (fun s H A cl fp => (inn (C.ct.blk s H A cl fp)).elt) (iter_plain h3 _)
theorem CS.g1 (C : CS X g cls k tab N sc bt) (i : Nat) (h : aOk N sc i x = true) : PG X (.Name x pos) (tFG g (.one i)) := fg_one C.ct.nd' (C.ao h).1 (C.ao h).2 (.inl (C.fn x))
theorem CS.gs (C : CS X g cls k tab N sc bt) : ∀ (is : List Nat) (es : List Expr) (xs : List Str), namesOf es = some xs → xs.length = is.length → ((is.zip xs).all fun p => aOk N sc p.1 p.2) = true →
    PGs X es (gPut is) ∧ (assignEach es X.env).length = is.length ∧ (assignEach es X.env).findIdx? (·.1) = none
  | [], [], [], _, _, _ => ⟨pgs_nil, rfl, rfl⟩
  | i :: is, .Name x p :: es, xs, h, hl, ha => by
    unfold namesOf at h
    cases e : namesOf es with
    | none => rw [e] at h; cases h
    | some ys =>
      rw [e] at h
      cases h
      simp only [List.zip_cons_cons, List.all_cons, Bool.and_eq_true] at ha
      obtain ⟨q1, q2, q3⟩ := C.gs is es ys e (by simpa using hl) ha.2
      refine ⟨pgs_cons (pg_name C.ct.nd' (C.ao ha.1).1 (C.ao ha.1).2 (.inl (C.fn _))) q1, ?_, ?_⟩
      · show (_ :: assignEach es X.env).length = _
        rw [List.length_cons, q2, List.length_cons]
      · show List.findIdx? _ ((false, _) :: assignEach es X.env) = none
        rw [List.findIdx?_cons, q3]
        rfl
  | [], .Name _ _ :: _, xs, h, hl, _ => by
    unfold namesOf at h
    cases e : namesOf _ with
    | none => rw [e] at h; cases h
    | some ys => rw [e] at h; cases h; cases hl
  | _ :: _, [], xs, h, hl, _ => by cases h; cases hl
def gsOkS (N : List Str) (sc : Scope) (is : List Nat) (es : List Expr) : Bool := match namesOf es with
  | some xs => decide (xs.length = is.length) && (is.zip xs).all fun p => aOk N sc p.1 p.2
  | none => false
theorem CS.gm (C : CS X g cls k tab N sc bt) (is : List Nat) {es : List Expr} {n : Nat} (h : gsOkS N sc is es = true) : PG X (.Tuple es n pos) (tFG g (.many is)) := by
  unfold gsOkS at h
  split at h
  · rename_i xs e
    rw [Bool.and_eq_true, decide_eq_true_eq] at h
    obtain ⟨h1, h2, h3⟩ := C.gs is es xs e h.1 h.2
    exact fg_many C.ct.calm C.ct.hK h1 h2 h3
  · cases h
/-- not a display of a tuple -/
def ntu : Expr → Bool
  | .Tuple .. => false
  | _ => true
theorem CS.asgT (C : CS X g cls k tab N sc bt) {es : List Expr} {n : Nat} {p : Pos} (he : PE X e (tF g fa)) (hg : PG X (.Tuple es n p) (tFG g t)) (hl : nlc e = true) (ht : ntu e = true) : PS X (.Assign [.Tuple es n p] e pos) (tFS g (thenS fa (bindV t))) :=
  fs_asgT he hg (by cases e <;> first | rfl | cases hl) (by cases e <;> first | rfl | cases ht) rfl
def parC (sc : Scope) (x y : Str) (l1 l2 : Nat) (a b : Expr) : Bool :=
  ((if sc.kind.isAnnotationScope then ScopeKind.function else sc.kind) == .function) && (nst a && nst b) && (sc.names.lookup x == some .local && sc.names.lookup y == some .local) && (l2 == l1) && ([x, y].eraseDups.length == 2) && !([a, b].all (foldedForSure 8)) && !([a, b].all (constantsAlone 8))
theorem sw_par {x y : Str} {px py pt pt2 : Pos} {kt k2 : Nat} {env : PySem.Env} {sc : Scope} (h : env.scope = sc) (hc : parC sc x y px.line py.line a b = true) : swappedStores [.Tuple [.Name x px, .Name y py] kt pt] (.Tuple [a, b] k2 pt2) env = pure (some [x, y]) := by
  subst h
  unfold parC at hc
  simp only [Bool.and_eq_true, Bool.not_eq_true'] at hc
  obtain ⟨⟨⟨⟨⟨⟨c1, c2, c3⟩, c4, c5⟩, c6⟩, c7⟩, c8⟩, c9⟩ := hc
  have nsa : ∀ {e : Expr}, nst e = true → (match e with | .Starred .. => true | _ => false) = false := fun {e} h => by cases e <;> first | rfl | cases h
  have e1 : (env.blockKind != .function) = false := by
    show (!(env.blockKind == .function)) = false
    rw [show (env.blockKind == .function) = true from c1]
    rfl
  unfold swappedStores
  have q1 : (env.kindOf x == some .local) = true := c4
  have q2 : (env.kindOf y == some .local) = true := c5
  have q3 : (px.line == px.line) = true := by simp
  simp only [e1, List.length_cons, List.length_nil, List.any_cons, List.any_nil, nsa c2, nsa c3, List.filterMap_cons, List.filterMap_nil, List.head?_cons, Option.map_some, Option.getD_some, Expr.pos, q1, q2, q3, c6, c8, c9]
  simp at c7 ⊢
  refine (if_neg ?_).trans (if_pos c7)
  intro h
  rcases h with h | h
  · cases a <;> first | (cases h; done) | (cases c2; done)
  · cases b <;> first | (cases h; done) | (cases c3; done)
theorem CS.par2 (C : CS X g cls k tab N sc bt) (i j : Nat) {px py pt pt2 : Pos} {kt k2 : Nat} (ha : PE X a (tF g fa)) (hb : PE X b (tF g fb)) (h1 : lOk N sc i x = true) (h2 : lOk N sc j y = true) (hij : i ≠ j) (hc : parC sc x y px.line py.line a b = true) :
    PS X (.Assign [.Tuple [.Name x px, .Name y py] kt pt] (.Tuple [a, b] k2 pt2) pos) (tFS g (Fn.par2 i j fa fb)) := by
  have hc' := hc
  unfold parC at hc'
  simp only [Bool.and_eq_true] at hc'
  exact fs_par2 C.ct.calm C.ct.nd' (C.ct.lo h1).1 (C.ct.lo h2).1 hij (C.ct.lo h1).2 (C.ct.lo h2).2 hc'.1.1.1.1.1.2.1 hc'.1.1.1.1.1.2.2 ha hb (sw_par C.ct.hS hc) rfl
theorem CS.app (C : CS X g cls k tab N sc bt) (i : Nat) {p1 p2 p3 p4 : Pos} (he : PE X e (tF g fa)) (h : vOk N sc i x = true) (hn : (nst e && (p2.endLine == p3.line)) = true) : PS X (.Expr (.Call (.Attribute (.Name x p1) "append" p2) [e] [] p3) p4) (tFS g (appV i fa)) := by
  obtain ⟨h1, h2, h3, h4⟩ := C.ct.vo h
  rw [Bool.and_eq_true] at hn
  exact fs_append h1 h2 h3 h4 hn.1 hn.2 he
theorem CS.sto (C : CS X g cls k tab N sc bt) (i : Nat) {fk fv : Env → Res B} {p1 p2 : Pos} (hk : PE X a (tF g fk)) (hv : PE X b (tF g fv)) (h : vOk N sc i x = true) (hn : nsl a = true) : PS X (.Assign [.Subscript (.Name x p1) a p2] b pos) (tFS g (putS i fk fv)) := by
  obtain ⟨h1, h2, h3, h4⟩ := C.ct.vo h
  exact fs_store C.ct.hu1 h1 h2 h3 h4 hn hk hv sw_sub
theorem CS.fo (C : CS X g cls k tab N sc bt) {tg iter : Expr} {it : Env → Res (List D)} (hi : PI X tg iter (tFI g false it)) (hg : PG X tg (tFG g t)) (hb : ∀ g', CS X g' cls k tab N sc bt → PSs X body (tFS g' f)) (hs : nset iter = true) : PS X (.For tg iter body [] pos) (tFS g (forV t it f)) :=
  fs_for C.po C.ct.calm hi hg (fun F0 => hb _ (C.fl F0)) (iter_plain hs _)
theorem CS.wh (C : CS X g cls k tab N sc bt) (m : Env → Nat) {t : Env → Res Bool} (hc : PT X c (tFT g t)) (hb : PSs X body (tFS g f)) : PS X (.While c body [] pos) (tFS g (whileS m t f)) := fs_while m C.po hc hb
theorem CS.rn (C : CS X g cls k tab N sc bt) (i : Nat) {p1 : Pos} (h : vOk N sc i x = true) : PS X (.Return (some (.Name x p1)) pos) (tFS g (retN i)) := by
  obtain ⟨h1, h2, h3, h4⟩ := C.ct.vo h
  exact fs_retN h1 h2 h3 h4
end
/-! ### defs -/
def outR (o : Out) : Res B := match o with
  | .nx _ => .ok (.dat .non)
  | .rt b => .ok b
  | .exc c => .exc c
  | _ => .bad
def okArg : B → Bool
  | .own _ => false
  | .vw _ => false
  | _ => true
def envS (n : Nat) (bs : List B) : Env := bs.map some ++ List.replicate (n - bs.length) none
def defF (n : Nat) (body : Env → Out) (bs : List B) : Res B := if bs.all okArg = true then outR (body (envS n bs)) else .bad
theorem paired_get {α β : Type} {R : α → β → Prop} : ∀ {vs : List α} {bs : List β} {i : Nat} {b : β}, Paired R vs bs → bs[i]? = some b → ∃ v, vs[i]? = some v ∧ R v b
  | _, _, 0, _, .cons r _, h => by cases h; exact ⟨_, rfl, r⟩
  | _, _, i + 1, _, .cons _ rs, h => paired_get (i := i) rs h
theorem no_own {n : Nat} {bs : List B} {i : Nat} {m : M} (ok : bs.all okArg = true) (h : (envS n bs)[i]? = some (some (.own m))) : False := by
  unfold envS at h
  by_cases hi : i < bs.length
  · rw [List.getElem?_append_left (by simpa using hi), List.getElem?_map] at h
    cases hb : bs[i]? with
    | none => rw [hb] at h; cases h
    | some b' =>
      rw [hb] at h
      cases h
      have := List.all_eq_true.mp ok _ (List.mem_of_getElem? hb)
      cases this
  · rw [List.getElem?_append_right (by simpa using hi), List.getElem?_replicate] at h
    split at h <;> cases h
theorem start_st {K : PySem.W.Frag} {fa : Nat → Option Addr} {cls : Nat → Value} {F H : Hp} {E : XK} {N : List Str} {vs : List V} {bs : List B} (s : Same F H) (r : Paired (RR (gOf K fa cls F H E) F H) vs bs) (ok : bs.all okArg = true) :
    St (gOf K fa cls F H E) F H (L2.start N vs) (envS N.length bs) := by
  have hl := r.length
  refine ⟨Grow.refl s, by unfold L2.start envS; simp [hl], fun i b h => ?_, fun i j m m' hij h1 h2 => ?_⟩
  · unfold envS at h
    by_cases hi : i < bs.length
    · rw [List.getElem?_append_left (by simpa using hi), List.getElem?_map] at h
      cases hb : bs[i]? with
      | none => rw [hb] at h; cases h
      | some b' =>
        rw [hb] at h
        cases h
        obtain ⟨v, hv, rv⟩ := paired_get r hb
        refine ⟨v, by unfold L2.start; rw [List.getElem?_append_left (by rw [List.length_map, hl]; exact hi), List.getElem?_map, hv]; rfl, ?_⟩
        have ob := List.all_eq_true.mp ok b (List.mem_of_getElem? hb)
        cases b with
        | dat d => exact rv
        | own m => cases ob
        | vw m => cases ob
        | bor m => exact rv
        | scr ns => exact rv
    · rw [List.getElem?_append_right (by simpa using hi), List.getElem?_replicate] at h
      split at h <;> cases h
  · have := no_own ok h1
    exact this.elim
/-- THE RULE for a def: its body's reading -/
theorem def_ok {P : Program} {w : World} {K : PySem.W.Frag} {mg : Str → Option Value} {base : Heap} {fa : Nat → Option Addr} {cls : Nat → Value} {q : Str} {st : Stmt} {f : Addr} {fd : FuncData} {N ps : List Str} {k n : Nat} {body : Env → Out} {tab : List En} {bt : List Str} (Fu : Fun K q q st f fd)
    (S : FnScope N ps (defScope st)) (hn : ps.length = n) (hbi : ∀ x ∈ bt, mg x = none) (T : ∀ X : Cx, X.prog = P → X.w = w → X.K = K → X.mg = mg → X.base = base → TabOk X fa cls k tab)
    (hb : ∀ (X : Cx) (g : G), g.fa = fa → CS X g cls k tab N (defScope st) bt → PSs X (defBody st) (tFS g body)) : FnOk P w K mg base (L2.CX P w) (k + 1) f fd ps (spF K fa cls n (defF N.length body)) := by
  refine Fu.okX S (fun vs H Q E h => h.1.trans hn.symm) fun cdv A outer s H vs Q E hr ⟨h1, F, bs, h2, h3, h4⟩ => ?_
  let X := cxOf (L2.CX P w) P w K mg base N q (defScope st) f cdv A outer s H E
  have tk : Takes X (fun cls d _ H => E cls d H) := takes_of (X := X) rfl rfl rfl rfl
  have C : CS X (gOf K fa cls F H E) cls k tab N (defScope st) bt :=
    ⟨⟨rfl, rfl, rfl, S.nd, rfl, hr, T X rfl rfl rfl rfl rfl, ⟨E, passes_call tk (fun _ _ _ _ h => h), fun _ _ h => h⟩, hbi⟩, passes_of (X := X) (E₁ := fun e' s'' => L2.CX P w outer H s E e' s'') rfl, fun _ => rfl⟩
  refine ⟨_, hb X _ rfl C, F, envS N.length bs, ?_, ?_⟩
  · unfold defF at h4
    split at h4
    · rename_i ok
      exact start_st h2 h3 ok
    · exact h4.elim
  · unfold defF at h4
    split at h4
    · rename_i ok
      cases e : body (envS N.length bs) with
      | nx ρ =>
        rw [e] at h4
        exact fun σ' F' H' s' => h4 .non F' H' s'.gr .non
      | rt b =>
        rw [e] at h4
        exact fun v F' H' g1 r1 => h4 v F' H' g1 r1
      | bk ρ => rw [e] at h4; exact h4.elim
      | ct ρ => rw [e] at h4; exact h4.elim
      | exc c =>
        rw [e] at h4
        exact fun F' H' g1 => h4 F' H' g1
      | bad => rw [e] at h4; exact h4.elim
    · exact h4.elim
end Fn
namespace Fn
open PySem PySem.Spec PyProof.Rows L2
/-! ### short names of readings -/
def nilA : Env → Res (List B) := fun _ => .ok []
def litI (i : Int) : Env → Res B := fun _ => .ok (.dat (.int i))
def litS (x : Str) : Env → Res B := fun _ => .ok (.dat (.str x))
def litB (b : Bool) : Env → Res B := fun _ => .ok (.dat (.bl b))
def litN : Env → Res B := fun _ => .ok (.dat .non)
def newK : Env → Res B := fun _ => .ok (.own (.k []))
def newT : Env → Res B := fun _ => .ok (.own (.t []))
def callF (f : List B → Res B) (fs : Env → Res (List B)) : Env → Res B := fun ρ => (fs ρ).bind f
def ownF (en : En) (fs : Env → Res (List B)) : Env → Res B := fun ρ => (fs ρ).bind fun bs => (lenA en.n bs).bind (callV en)
def tstF (f : Env → Res B) : Env → Res Bool := fun ρ => (f ρ).bind tstB
def yesF : Env → Res Bool := fun _ => .ok true
def itF (lk : Bool) (f : Env → Res B) : Env → Res (List D) := fun ρ => (f ρ).bind fun x => itemsB lk (rd x)
def rgF (fs : Env → Res (List B)) : Env → Res (List D) := fun ρ => (fs ρ).bind rngA
def noP : Env → Res (Option Int) := fun _ => .ok none
def atP (f : Env → Res B) : Env → Res (Option Int) := fun ρ => (f ρ).bind fun x => partB x
def nxS : Env → Out := fun ρ => .nx ρ
def bkS : Env → Out := fun ρ => .bk ρ
def ctS : Env → Out := fun ρ => .ct ρ
def badS : Env → Out := fun _ => .bad
def rtN : Env → Out := fun _ => .rt (.dat .non)
def lockS (i : Nat) (f : Env → Out) : Env → Out := fun ρ => f (lockE i ρ)
/-! ### while, its turns found by the end -/
theorem whileN_mono {t : Env → Res Bool} {body : Env → Out} : ∀ (n m : Nat) (ρ : Env), whileN t body n ρ ≠ .bad → n ≤ m → whileN t body m ρ = whileN t body n ρ
  | 0, _, _, h, _ => absurd rfl h
  | n + 1, 0, _, _, h => absurd h (Nat.not_succ_le_zero n)
  | n + 1, m + 1, ρ, h, hm => by
    unfold whileN at h ⊢
    cases e : t ρ with
    | ok k =>
      rw [e] at h
      cases k with
      | false => rfl
      | true =>
        dsimp only at h ⊢
        cases e2 : body ρ with
        | nx ρ2 => rw [e2] at h; exact whileN_mono n m ρ2 h (Nat.le_of_succ_le_succ hm)
        | ct ρ2 => rw [e2] at h; exact whileN_mono n m ρ2 h (Nat.le_of_succ_le_succ hm)
        | bk ρ2 => rfl
        | rt b => rfl
        | exc c => rfl
        | bad => rfl
    | exc c => rfl
    | bad => rfl
open Classical in
noncomputable def mW (t : Env → Res Bool) (body : Env → Out) (ρ : Env) : Nat := if h : ∃ n, whileN t body n ρ ≠ .bad then Classical.choose h else 0
noncomputable def whileC (t : Env → Res Bool) (body : Env → Out) : Env → Out := whileS (mW t body) t body
theorem whileC_eq {t : Env → Res Bool} {body : Env → Out} {ρ : Env} {n : Nat} (h : whileN t body n ρ ≠ .bad) : whileC t body ρ = whileN t body n ρ := by
  have ex : ∃ n, whileN t body n ρ ≠ .bad := ⟨n, h⟩
  unfold whileC whileS mW
  rw [dif_pos ex]
  have hc := Classical.choose_spec ex
  rcases Nat.le_total n (Classical.choose ex) with q | q
  · exact whileN_mono _ _ ρ h q
  · exact (whileN_mono _ _ ρ hc q).symm
theorem whileC_stop {t : Env → Res Bool} {body : Env → Out} {ρ : Env} (h : t ρ = .ok false) : whileC t body ρ = .nx ρ := by
  have e : whileN t body 1 ρ = .nx ρ := by unfold whileN; rw [h]
  rw [whileC_eq (n := 1) (by rw [e]; intro z; cases z), e]
theorem whileC_nx {t : Env → Res Bool} {body : Env → Out} {ρ ρ2 : Env} (h : t ρ = .ok true) (hb : body ρ = .nx ρ2) : whileC t body ρ = whileC t body ρ2 := by
  by_cases ex : ∃ n, whileN t body n ρ2 ≠ .bad
  · obtain ⟨n, hn⟩ := ex
    have e : whileN t body (n + 1) ρ = whileN t body n ρ2 := by
      rw [whileN, h]
      dsimp only
      rw [hb]
    rw [whileC_eq hn, whileC_eq (n := n + 1) (by rw [e]; exact hn), e]
  · have no : ¬ ∃ n, whileN t body n ρ ≠ .bad := by
      rintro ⟨n, hn⟩
      cases n with
      | zero => exact hn rfl
      | succ n =>
        rw [whileN, h] at hn
        dsimp only at hn
        rw [hb] at hn
        exact ex ⟨n, hn⟩
    unfold whileC whileS mW
    rw [dif_neg ex, dif_neg no]
    rfl
section
variable {X : Cx} {g : G} {cls : Nat → Value} {k : Nat} {tab : List En} {N : List Str} {sc : Scope} {bt : List Str} {c : Expr} {pos : Pos} {f : Env → Out} {body : List Stmt}
theorem CS.wc (C : CS X g cls k tab N sc bt) {t : Env → Res Bool} (hc : PT X c (tFT g t)) (hb : PSs X body (tFS g f)) : PS X (.While c body [] pos) (tFS g (whileC t f)) := C.wh _ hc hb
end
/-! ### the table of the text's defs -/
structure TabW (P : Program) (w : World) (K : PySem.W.Frag) (mg : Str → Option Value) (base : Heap) (fa : Nat → Option Addr) (cls : Nat → Value) (lv : Nat) (tab : List En) : Prop where
  at_ : ∀ (k : Nat) (en : En), tab[k]? = some en → ∃ f fd ps, mg en.name = some (.ref f) ∧ fa k = some f ∧ PySem.W.keepIn K (.ref f) = true ∧ Binds K fd ps [] ∧ FnOk P w K mg base (L2.CX P w) lv f fd ps (spF K fa cls en.n en.F)
section
variable {P : Program} {w : World} {K : PySem.W.Frag} {mg : Str → Option Value} {base : Heap} {fa : Nat → Option Addr} {cls : Nat → Value} {lv : Nat} {tab : List En}
theorem TabW.nil : TabW P w K mg base fa cls 0 [] := ⟨fun k en h => by cases h⟩
theorem TabW.snoc (T : TabW P w K mg base fa cls lv tab) {en : En} {f : Addr} {fd : FuncData} {ps : List Str} (F : FnOk P w K mg base (L2.CX P w) (lv + 1) f fd ps (spF K fa cls en.n en.F)) (hm : mg en.name = some (.ref f)) (hfa : fa tab.length = some f) (hk : PySem.W.keepIn K (.ref f) = true) (hb : Binds K fd ps []) :
    TabW P w K mg base fa cls (lv + 1) (tab ++ [en]) := ⟨fun k en' h => by
  by_cases hl : k < tab.length
  · rw [List.getElem?_append_left hl] at h
    obtain ⟨f', fd', ps', a1, a2, a3, a4, a5⟩ := T.at_ k en' h
    exact ⟨f', fd', ps', a1, a2, a3, a4, a5.mono (Nat.le_succ lv)⟩
  · rw [List.getElem?_append_right (Nat.le_of_not_lt hl)] at h
    have e : k = tab.length := by
      by_cases z : k - tab.length = 0
      · omega
      · obtain ⟨m, hm2⟩ := Nat.exists_eq_succ_of_ne_zero z
        rw [hm2] at h
        cases h
    subst e
    rw [Nat.sub_self] at h
    cases h
    exact ⟨f, fd, ps, hm, hfa, hk, hb, F⟩⟩
theorem TabW.use (T : TabW P w K mg base fa cls lv tab) : ∀ X : Cx, X.prog = P → X.w = w → X.K = K → X.mg = mg → X.base = base → TabOk X fa cls lv tab := fun X h1 h2 h3 h4 h5 => by
  subst h1 h2 h3 h4 h5
  exact ⟨T.at_⟩
/-- one def more -/
theorem TabW.more (T : TabW P w K mg base fa cls lv tab) {en : En} {q : Str} {st : Stmt} {f : Addr} {fd : FuncData} {N ps : List Str} {body : Env → Out} {bt : List Str} (Fu : Fun K q q st f fd) (S : FnScope N ps (defScope st)) (hbi : ∀ x ∈ bt, mg x = none)
    (he : en = ⟨q, ps.length, defF N.length body⟩) (hb : ∀ (X : Cx) (g : G), CS X g cls lv tab N (defScope st) bt → PSs X (defBody st) (tFS g body)) (hm : mg q = some (.ref f)) (hfa : fa tab.length = some f) (hbd : Binds K fd ps []) : TabW P w K mg base fa cls (lv + 1) (tab ++ [en]) := by
  subst he
  refine T.snoc (en := ⟨q, ps.length, defF N.length body⟩) ?_ hm hfa Fu.kp hbd
  exact def_ok Fu S rfl hbi T.use fun X g _ C => hb X g C
end
/-! ### law -/
def spLaw (K : PySem.W.Frag) : Sp := fun vs H Q _ => ∃ (a : Addr) (ns : List Int), vs = [.ref a] ∧ SqL K H a (ns.map V.int) ∧ ns.length ≤ 63 ∧ ∀ H', Q (.bl true) H'
theorem spLaw_of {K : PySem.W.Frag} {fa : Nat → Option Addr} {cls : Nat → Value} {L : List B → Res B} (h : ∀ ns : List Int, ns.length ≤ 63 → L [.scr ns] = .ok (.dat (.bl true))) : ∀ vs H Q E, spLaw K vs H Q E → spF K fa cls 1 L vs H Q E := by
  rintro vs H Q E ⟨a, ns, rfl, hS, hl, q⟩
  refine ⟨rfl, fun _ => none, [.scr ns], (fun _ _ z => by cases z), .cons ⟨a, rfl, hS⟩ .nil, ?_⟩
  rw [h ns hl]
  intro v F' H' g1 r1
  cases r1
  exact q H'
theorem no_exc {P : Program} {w : World} (H : Hp) (s : Shared) (e : Value) (s' : Shared) (z : L2.CX P w [] H s (fun _ _ _ => False) e s') : False := by
  obtain ⟨_, _, _, _, _, _, _, _, _, _, _, _, z⟩ := z
  exact z.elim
theorem walk {l : PySem.W.OpenLaw} {q : Program} {loose : List Str} {XP : (Str → Option Value) → Heap → Prop} {YP : World → Heap → Prop} {d : DefRec} {K : Params → PySem.W.Frag} {x : Str} (n : Nat) (hr : Room n callerA) (hn : l.most = some 63) (hdf : d.params.defaults = [])
    (hY : ∀ (w : World) (h : Heap), YP w h → (K w.params).In h)
    (F : ∀ (w : World) (mg : Str → Option Value) (fa : Addr) (h : Heap), (K w.params).In h → h.Ns mainGlobals mg → mg d.name = some (.ref fa) →
      ∃ fd : FuncData, (∀ (s : Shared) (u : Value), BindsTo s fd ⟨[u], []⟩ [(x, u)]) ∧ ∀ base : Heap, (K w.params).In base → base.Ns mainGlobals mg → FnOk l.prog w (K w.params) mg base (L2.CX l.prog w) n fa fd [x] (spLaw (K w.params))) :
    PySem.W.WalkO q loose XP YP l.row.toRowW d [] (fun f vs => PySem.call f vs) :=
  L2.walk_of (n := 63) (k := n) (x := x) (CX := fun w => L2.CX l.prog w) (sp := fun w => spLaw (K w.params)) hn (by decide) hdf hr hY F (fun _ _ a ns hl _ hS => ⟨a, ns, rfl, hS, hl, fun _ => rfl⟩) fun _ H s e s' z => no_exc H s e s' z
end Fn
namespace Fn
open PySem PySem.Spec PyProof.Rows L2
/-! ### what the readings' operators answer -/
theorem sz0 : (0 ≤ sizeLine) = True := eq_true (by decide)
theorem sz1 : (1 ≤ sizeLine) = True := eq_true (by decide)
theorem sz2 : (2 ≤ sizeLine) = True := eq_true (by decide)
theorem sz3 : (3 ≤ sizeLine) = True := eq_true (by decide)
theorem sz4 : (4 ≤ sizeLine) = True := eq_true (by decide)
theorem sz5 : (5 ≤ sizeLine) = True := eq_true (by decide)
theorem sz6 : (6 ≤ sizeLine) = True := eq_true (by decide)
abbrev Sm64 (i : Int) : Prop := i.natAbs < 2 ^ 64
theorem log2_lt {n : Nat} (h : n < 2 ^ 64) : n.log2 < 64 := by
  by_cases z : n = 0
  · subst z; decide
  · exact (Nat.log2_lt z).mpr h
theorem mul_ok {i j : Int} (hi : Sm64 i) (hj : Sm64 j) : mulB (.dat (.int i)) (.dat (.int j)) = .ok (.dat (.int (i * j))) := by
  unfold mulB
  dsimp only
  rw [if_pos (by have := log2_lt hi; have := log2_lt hj; omega)]
theorem mod_ok {i j : Int} (h : j ≠ 0) : modB (.dat (.int i)) (.dat (.int j)) = .ok (.dat (.int (i.fmod j))) := by
  unfold modB int2
  dsimp only
  rw [if_pos (decide_eq_true h)]
theorem mod_pos {i j : Int} (h : 0 < j) : modB (.dat (.int i)) (.dat (.int j)) = .ok (.dat (.int (i % j))) := by
  rw [mod_ok (by omega), Int.fmod_eq_emod_of_nonneg _ (by omega)]
theorem div_pos {i j : Int} (h : 0 < j) (hj : Sm64 j) : divB (.dat (.int i)) (.dat (.int j)) = .ok (.dat (.int (i / j))) := by
  unfold divB int2
  dsimp only
  rw [if_pos (by rw [Bool.and_eq_true, decide_eq_true_eq, decide_eq_true_eq]; exact ⟨by omega, by have := log2_lt hj; omega⟩), Int.fdiv_eq_ediv_of_nonneg _ (by omega)]
theorem add_ii {i j : Int} : addB (.dat (.int i)) (.dat (.int j)) = .ok (.dat (.int (i + j))) := rfl
theorem sub_ii {i j : Int} : subB (.dat (.int i)) (.dat (.int j)) = .ok (.dat (.int (i - j))) := rfl
theorem and_ii {i j : Int} : andB (.dat (.int i)) (.dat (.int j)) = .ok (.dat (.int (Builtin.bitAnd i j))) := rfl
theorem shr_ok {i j : Int} (h : 0 ≤ j) : shrB (.dat (.int i)) (.dat (.int j)) = .ok (.dat (.int (i / 2 ^ j.toNat))) := by
  unfold shrB int2
  dsimp only
  rw [if_pos (decide_eq_true h)]
theorem shl_ok {i j : Int} (h : 0 ≤ j) (h2 : j ≤ 1000000) (hi : Sm64 i) : shlB (.dat (.int i)) (.dat (.int j)) = .ok (.dat (.int (i * 2 ^ j.toNat))) := by
  unfold shlB int2
  dsimp only
  rw [if_pos (by rw [Bool.and_eq_true, Bool.and_eq_true, decide_eq_true_eq, decide_eq_true_eq, decide_eq_true_eq]; exact ⟨⟨h, h2⟩, hi⟩)]
theorem pow_ok {i j : Int} (h : 0 ≤ j) (h2 : j ≤ 1000000) (hi : Sm64 i) : powB (.dat (.int i)) (.dat (.int j)) = .ok (.dat (.int (i ^ j.toNat))) := by
  unfold powB int2
  dsimp only
  rw [if_pos (by rw [Bool.and_eq_true, Bool.and_eq_true, decide_eq_true_eq, decide_eq_true_eq, decide_eq_true_eq]; exact ⟨⟨h, h2⟩, hi⟩)]
theorem lt_ii {i j : Int} : ltB (.dat (.int i)) (.dat (.int j)) = .ok (.dat (.bl (decide (i < j)))) := rfl
theorem gt_ii {i j : Int} : gtF (.dat (.int i)) (.dat (.int j)) = .ok (.dat (.bl (decide (j < i)))) := rfl
theorem le_ii {i j : Int} : leF (.dat (.int i)) (.dat (.int j)) = .ok (.dat (.bl (decide (i ≤ j)))) := rfl
theorem ge_ii {i j : Int} : geF (.dat (.int i)) (.dat (.int j)) = .ok (.dat (.bl (decide (j ≤ i)))) := rfl
theorem beq_dec {i j : Int} : (i == j) = decide (i = j) := rfl
theorem eq_ii {i j : Int} : eqB (.dat (.int i)) (.dat (.int j)) = .ok (.dat (.bl (decide (i = j)))) := by
  show Res.ok (B.dat (D.bl (PyData.eqv (.int i) (.int j)))) = _
  simp [PyData.eqv, Bool.beq_eq_decide_eq]
theorem ne_ii {i j : Int} : neB (.dat (.int i)) (.dat (.int j)) = .ok (.dat (.bl (!decide (i = j)))) := by
  show Res.ok (B.dat (D.bl (!PyData.eqv (.int i) (.int j)))) = _
  simp [PyData.eqv, Bool.beq_eq_decide_eq]
theorem abs_nat {n : Nat} : absF [.dat (.int (n : Int))] = .ok (.dat (.int (n : Int))) := by
  show Res.ok (B.dat (D.int (if (n : Int) < 0 then _ else _))) = _
  rw [if_neg (by omega)]
theorem abs_i {i : Int} : absF [.dat (.int i)] = .ok (.dat (.int (i.natAbs : Int))) := by
  show Res.ok (B.dat (D.int (if i < 0 then _ else _))) = _
  split <;> (congr; omega)
theorem min_ii {i j : Int} : minF [.dat (.int i), .dat (.int j)] = .ok (.dat (.int (min i j))) := by
  show Res.ok (B.dat (D.int (if j < i then j else i))) = _
  rw [Int.min_def]
  split <;> split <;> first | rfl | (congr; omega)
theorem max_ii {i j : Int} : maxF [.dat (.int i), .dat (.int j)] = .ok (.dat (.int (max i j))) := by
  show Res.ok (B.dat (D.int (if j > i then j else i))) = _
  rw [Int.max_def]
  split <;> split <;> first | rfl | (congr; omega)
theorem int_bl {b : Bool} : intF [.dat (.bl b)] = .ok (.dat (.int (if b = true then 1 else 0))) := rfl
theorem len_tup {ds : List D} : lenB [.dat (.tup ds)] = .ok (.dat (.int ds.length)) := rfl
theorem len_lst {ds : List D} : lenB [.dat (.lst ds)] = .ok (.dat (.int ds.length)) := rfl
theorem len_vw {ds : List D} : lenB [.vw (.l ds)] = .ok (.dat (.int ds.length)) := rfl
theorem len_scr {ns : List Int} : lenB [.scr ns] = .ok (.dat (.int ns.length)) := by
  show Res.ok (B.dat (D.int ((ns.map D.int).length : Int))) = _
  rw [List.length_map]
theorem idx_tup {ds : List D} {k : Int} {d : D} (h : atI ds k = some d) : idxB (.dat (.tup ds)) (.dat (.int k)) = .ok (.dat d) := by
  show (match atI ds k with | some d => (.ok (.dat d) : Res B) | none => .bad) = _
  rw [h]
theorem idx_lst {ds : List D} {k : Int} {d : D} (h : atI ds k = some d) : idxB (.dat (.lst ds)) (.dat (.int k)) = .ok (.dat d) := by
  show (match atI ds k with | some d => (.ok (.dat d) : Res B) | none => .bad) = _
  rw [h]
theorem idx_vw {ds : List D} {k : Int} {d : D} (h : atI ds k = some d) : idxB (.vw (.l ds)) (.dat (.int k)) = .ok (.dat d) := by
  show (match atI ds k with | some d => (.ok (.dat d) : Res B) | none => .bad) = _
  rw [h]
theorem idx_bor {ds : List D} {k : Int} {d : D} (h : atI ds k = some d) : idxB (.bor (.l ds)) (.dat (.int k)) = .ok (.dat d) := by
  show (match atI ds k with | some d => (.ok (.dat d) : Res B) | none => .bad) = _
  rw [h]
theorem atI_map {α β : Type} (f : α → β) {xs : List α} {k : Int} {d : α} (h : atI xs k = some d) : atI (xs.map f) k = some (f d) := by
  unfold atI at h ⊢
  rw [List.length_map]
  cases e : ixN xs.length k with
  | none => rw [e] at h; cases h
  | some j =>
    rw [e] at h
    show (xs.map f)[j]? = _
    rw [List.getElem?_map, show xs[j]? = some d from h]
    rfl
theorem idx_scr {ns : List Int} {k d : Int} (h : atI ns k = some d) : idxB (.scr ns) (.dat (.int k)) = .ok (.dat (.int d)) := by
  show (match atI (ns.map D.int) k with | some d => (.ok (.dat d) : Res B) | none => .bad) = _
  rw [atI_map D.int h]
theorem atI_lt {α : Type} {xs : List α} {k : Int} (h0 : 0 ≤ k) (h : k < xs.length) : atI xs k = some (xs[k.toNat]'(by omega)) := by
  have e : k = ((k.toNat : Nat) : Int) := by omega
  have q : xs[k.toNat]? = some (xs[k.toNat]'(by omega)) := List.getElem?_eq_getElem (by omega)
  have := atI_nat q
  rw [← e] at this
  exact this
theorem def_rt {n : Nat} {body : Env → Out} {bs : List B} {r : Res B} (h1 : bs.all okArg = true) (h : outR (body (envS n bs)) = r) : defF n body bs = r := by
  unfold defF
  rw [if_pos h1, h]
/-- a def's answer at a call -/
theorem own_ok {en : En} {fs : Env → Res (List B)} {ρ : Env} {bs : List B} {r : B} (h1 : fs ρ = .ok bs) (h2 : bs.length = en.n) (h3 : en.F (bs.map toArg) = .ok r) (h4 : retB r = .ok r) : ownF en fs ρ = .ok r := by
  unfold ownF callV lenA
  rw [h1, Res.ok_bind, if_pos h2, Res.ok_bind, h3, Res.ok_bind, h4]
theorem le_sz {n : Nat} (h : n ≤ 1000) : n ≤ sizeLine := Nat.le_of_lt (small1000 h)
theorem lst_ok {bs : List B} {ds : List D} (h : dats bs = some ds) (hl : ds.length ≤ 1000) : lstB bs = .ok (.own (.l ds)) := by
  unfold lstB
  rw [h]
  exact if_pos (le_sz hl)
theorem tup_ok {bs : List B} {ds : List D} (h : dats bs = some ds) (hl : ds.length ≤ 1000) : tupB bs = .ok (.dat (.tup ds)) := by
  unfold tupB
  rw [h]
  exact if_pos (le_sz hl)
theorem lstB0 : lstB [] = .ok (.own (.l [])) := lst_ok rfl (by show 0 ≤ 1000; decide)
theorem tupB0 : tupB [] = .ok (.dat (.tup [])) := tup_ok rfl (by show 0 ≤ 1000; decide)
theorem lstB1 {d0 : D} : lstB [.dat d0] = .ok (.own (.l [d0])) := lst_ok rfl (by show 1 ≤ 1000; decide)
theorem tupB1 {d0 : D} : tupB [.dat d0] = .ok (.dat (.tup [d0])) := tup_ok rfl (by show 1 ≤ 1000; decide)
theorem lstB2 {d0 d1 : D} : lstB [.dat d0, .dat d1] = .ok (.own (.l [d0, d1])) := lst_ok rfl (by show 2 ≤ 1000; decide)
theorem tupB2 {d0 d1 : D} : tupB [.dat d0, .dat d1] = .ok (.dat (.tup [d0, d1])) := tup_ok rfl (by show 2 ≤ 1000; decide)
theorem lstB3 {d0 d1 d2 : D} : lstB [.dat d0, .dat d1, .dat d2] = .ok (.own (.l [d0, d1, d2])) := lst_ok rfl (by show 3 ≤ 1000; decide)
theorem tupB3 {d0 d1 d2 : D} : tupB [.dat d0, .dat d1, .dat d2] = .ok (.dat (.tup [d0, d1, d2])) := tup_ok rfl (by show 3 ≤ 1000; decide)
theorem lstB4 {d0 d1 d2 d3 : D} : lstB [.dat d0, .dat d1, .dat d2, .dat d3] = .ok (.own (.l [d0, d1, d2, d3])) := lst_ok rfl (by show 4 ≤ 1000; decide)
theorem tupB4 {d0 d1 d2 d3 : D} : tupB [.dat d0, .dat d1, .dat d2, .dat d3] = .ok (.dat (.tup [d0, d1, d2, d3])) := tup_ok rfl (by show 4 ≤ 1000; decide)
theorem lstB5 {d0 d1 d2 d3 d4 : D} : lstB [.dat d0, .dat d1, .dat d2, .dat d3, .dat d4] = .ok (.own (.l [d0, d1, d2, d3, d4])) := lst_ok rfl (by show 5 ≤ 1000; decide)
theorem tupB5 {d0 d1 d2 d3 d4 : D} : tupB [.dat d0, .dat d1, .dat d2, .dat d3, .dat d4] = .ok (.dat (.tup [d0, d1, d2, d3, d4])) := tup_ok rfl (by show 5 ≤ 1000; decide)
theorem lstB6 {d0 d1 d2 d3 d4 d5 : D} : lstB [.dat d0, .dat d1, .dat d2, .dat d3, .dat d4, .dat d5] = .ok (.own (.l [d0, d1, d2, d3, d4, d5])) := lst_ok rfl (by show 6 ≤ 1000; decide)
theorem tupB6 {d0 d1 d2 d3 d4 d5 : D} : tupB [.dat d0, .dat d1, .dat d2, .dat d3, .dat d4, .dat d5] = .ok (.dat (.tup [d0, d1, d2, d3, d4, d5])) := tup_ok rfl (by show 6 ≤ 1000; decide)
theorem seq_nx {f h : Env → Out} {ρ ρ' : Env} (e : f ρ = .nx ρ') : seqS f h ρ = h ρ' := by
  unfold seqS
  rw [e]
theorem seq_rt {f h : Env → Out} {ρ : Env} {b : B} (e : f ρ = .rt b) : seqS f h ρ = .rt b := by
  unfold seqS
  rw [e]
theorem for_ok {t : Tg} {it : Env → Res (List D)} {body : Env → Out} {ρ : Env} {ds : List D} (h : it ρ = .ok ds) : forV t it body ρ = loopF t body ds ρ := by
  unfold forV
  rw [h]
theorem rg_ok {fs : Env → Res (List B)} {ρ : Env} {bs : List B} {ds : List D} (h1 : fs ρ = .ok bs) (h2 : rngA bs = .ok ds) : rgF fs ρ = .ok ds := by
  unfold rgF
  rw [h1, Res.ok_bind, h2]
theorem call_ok {f : List B → Res B} {fs : Env → Res (List B)} {ρ : Env} {bs : List B} {b : Res B} (h1 : fs ρ = .ok bs) (h2 : f bs = b) : callF f fs ρ = b := by
  unfold callF
  rw [h1, Res.ok_bind, h2]
theorem it_ok {lk : Bool} {f : Env → Res B} {ρ : Env} {b : B} {ds : List D} (h1 : f ρ = .ok b) (h2 : itemsB lk (rd b) = .ok ds) : itF lk f ρ = .ok ds := by
  unfold itF
  rw [h1, Res.ok_bind, h2]
theorem set_ok {fa : Env → Res B} {i : Nat} {b : B} {ρ : Env} (h : fa ρ = .ok b) (hv : okV b = true) : thenS fa (setV i) ρ = .nx (ρ.set i (some b)) := by
  unfold thenS setV
  rw [h]
  exact if_pos hv
theorem ret_ok {fa : Env → Res B} {b : B} {ρ : Env} (h : fa ρ = .ok b) (hv : okRet b = true) : thenS fa retV ρ = .rt b := by
  unfold thenS retV
  rw [h]
  exact if_pos hv
theorem bind_ok {fa : Env → Res B} {b : B} {t : Tg} {ρ ρ' : Env} {d : D} (h : fa ρ = .ok b) (hr : rd b = .dat d) (hb : bindT t d ρ = some ρ') : thenS fa (bindV t) ρ = .nx ρ' := by
  unfold thenS bindV
  rw [h]
  dsimp only
  rw [hr]
  dsimp only
  rw [hb]
theorem bin_ok {f : B → B → Res B} {fa fb : Env → Res B} {x y : B} {r : Res B} {ρ : Env} (h1 : fa ρ = .ok x) (h2 : fb ρ = .ok y) (h3 : f (rd x) (rd y) = r) : bin2 f fa fb ρ = r := by
  unfold bin2
  rw [h1, Res.ok_bind, h2, Res.ok_bind, h3]
theorem cons_ok {fa : Env → Res B} {fs : Env → Res (List B)} {x : B} {xs : List B} {ρ : Env} (h1 : fa ρ = .ok x) (h2 : fs ρ = .ok xs) : consA fa fs ρ = .ok (rd x :: xs) := by
  unfold consA
  rw [h1, Res.ok_bind, h2, Res.ok_bind]
theorem nil_ok {ρ : Env} : nilA ρ = .ok [] := rfl
theorem one_ok {f : B → Res B} {fa : Env → Res B} {x : B} {r : Res B} {ρ : Env} (h1 : fa ρ = .ok x) (h2 : f (rd x) = r) : one1 f fa ρ = r := by
  unfold one1
  rw [h1, Res.ok_bind, h2]
theorem tst_ok {f : Env → Res B} {k : Bool} {ρ : Env} (h : f ρ = .ok (.dat (.bl k))) : tstF f ρ = .ok k := by
  unfold tstF
  rw [h]
  rfl
theorem tv_ok {f : Env → Res B} {b : B} {k : Bool} {ρ : Env} (h : f ρ = .ok b) (ht : truB (rd b) = .ok k) : testV f ρ = .ok k := by
  unfold testV
  rw [h, Res.ok_bind, ht]
theorem not_ok {t : Env → Res Bool} {k : Bool} {ρ : Env} (h : t ρ = .ok k) : notT t ρ = .ok !k := by
  unfold notT
  rw [h]
  rfl
theorem and_ok {t u : Env → Res Bool} {k j : Bool} {ρ : Env} (h : t ρ = .ok k) (h2 : k = true → u ρ = .ok j) : andT t u ρ = .ok (k && j) := by
  unfold andT
  rw [h, Res.ok_bind]
  cases k with
  | true => exact h2 rfl
  | false => rfl
theorem or_ok {t u : Env → Res Bool} {k j : Bool} {ρ : Env} (h : t ρ = .ok k) (h2 : k = false → u ρ = .ok j) : orT t u ρ = .ok (k || j) := by
  unfold orT
  rw [h, Res.ok_bind]
  cases k with
  | true => rfl
  | false => exact h2 rfl
theorem if_t {t : Env → Res Bool} {f h : Env → Out} {ρ : Env} (e : t ρ = .ok true) : iteS t f h ρ = f ρ := by
  unfold iteS
  rw [e]
  rfl
theorem if_f {t : Env → Res Bool} {f h : Env → Out} {ρ : Env} (e : t ρ = .ok false) : iteS t f h ρ = h ρ := by
  unfold iteS
  rw [e]
  rfl
theorem app_ok {i : Nat} {fa : Env → Res B} {ds : List D} {b : B} {d : D} {ρ : Env} (h1 : ownAt ρ i = some (.l ds)) (h2 : fa ρ = .ok b) (h3 : rd b = .dat d) (h4 : ds.length < sizeLine) : appV i fa ρ = .nx (ρ.set i (some (.own (.l (ds ++ [d]))))) := by
  unfold appV
  rw [h1]
  dsimp only
  rw [h2]
  dsimp only
  rw [h3]
  exact if_pos h4
theorem put_ok {i : Nat} {fk fv : Env → Res B} {ρ : Env} {b kb : B} {d : D} {m m' : M} (hv : fv ρ = .ok b) (hb : rd b = .dat d) (ho : ownAt ρ i = some m) (hk : fk ρ = .ok kb) (hm : storeM m (rd kb) d = some m') : putS i fk fv ρ = .nx (ρ.set i (some (.own m'))) := by
  unfold putS
  rw [hv]
  dsimp only
  rw [hb, ho, hk]
  dsimp only
  rw [hm]
/-! ### loops -/
theorem loop_nx {t : Tg} {body : Env → Out} (I : Nat → Env → Prop) {ds : List D} : ∀ (n : Nat) {ρ : Env}, n ≤ ds.length → I n ρ →
    (∀ i d ρ, ds[i]? = some d → I i ρ → ∃ ρ1 ρ2, bindT t d ρ = some ρ1 ∧ (body ρ1 = .nx ρ2 ∨ body ρ1 = .ct ρ2) ∧ I (i + 1) ρ2) → ∃ ρ', loopF t body (ds.drop n) ρ = .nx ρ' ∧ I ds.length ρ' := by
  intro n
  generalize hk : ds.length - n = k
  induction k generalizing n with
  | zero =>
    intro ρ hn h st
    have e : n = ds.length := by omega
    subst e
    rw [List.drop_length]
    exact ⟨ρ, rfl, h⟩
  | succ k ih =>
    intro ρ hn h st
    have hlt : n < ds.length := by omega
    obtain ⟨ρ1, ρ2, h1, h2, h3⟩ := st n ds[n] ρ (List.getElem?_eq_getElem hlt) h
    obtain ⟨ρ', h4, h5⟩ := ih (n + 1) (by omega) hlt h3 st
    refine ⟨ρ', ?_, h5⟩
    rw [List.drop_eq_getElem_cons hlt]
    unfold loopF
    rw [h1]
    dsimp only
    rcases h2 with h2 | h2 <;> (rw [h2]; exact h4)
theorem loop_all {t : Tg} {body : Env → Out} (I : Nat → Env → Prop) {ds : List D} {ρ : Env} (h : I 0 ρ) (st : ∀ i d ρ, ds[i]? = some d → I i ρ → ∃ ρ1 ρ2, bindT t d ρ = some ρ1 ∧ (body ρ1 = .nx ρ2 ∨ body ρ1 = .ct ρ2) ∧ I (i + 1) ρ2) :
    ∃ ρ', loopF t body ds ρ = .nx ρ' ∧ I ds.length ρ' := loop_nx I 0 (Nat.zero_le _) h st
theorem rng_get {lo hi : Int} {i : Nat} {d : D} (h : (rng lo hi)[i]? = some d) : d = .int (lo + (i : Int)) ∧ i < (hi - lo).toNat := by
  unfold rng at h
  rw [List.getElem?_map] at h
  cases e : (List.range (hi - lo).toNat)[i]? with
  | none => rw [e] at h; cases h
  | some j =>
    rw [e] at h
    obtain ⟨h1, h2⟩ := List.getElem?_eq_some_iff.mp e
    rw [List.getElem_range] at h2
    subst h2
    cases h
    exact ⟨rfl, by simpa using h1⟩
theorem rng_1 {n : Int} (h1 : -2 ^ 62 ≤ n) (h2 : n < 2 ^ 62) : rngA [.dat (.int n)] = .ok (rng 0 n) := by
  unfold rngA
  dsimp only
  rw [if_pos ⟨h1, h2⟩]
theorem rng_nat {n : Nat} (h : n < 2 ^ 62) : rngA [.dat (.int (n : Int))] = .ok (rng 0 (n : Int)) := rng_1 (by omega) (by omega)
theorem rng_len {lo hi : Int} : (rng lo hi).length = (hi - lo).toNat := by unfold rng; simp
theorem slc_lst {ds : List D} {lo hi : Option Int} : sliceB (.dat (.lst ds)) lo hi = .ok (.own (.l (cutL ds lo hi))) := by
  unfold sliceB
  rfl
theorem cut_tail {α : Type} (x : α) (xs : List α) : cutL (x :: xs) (some 1) none = xs := by
  have e : HT.sIx (x :: xs).length 0 (some 1) = 1 := by
    have := HT.sIx_nat (x :: xs).length 0 1
    rw [List.length_cons] at this ⊢
    rw [Nat.min_eq_left (by omega)] at this
    exact this
  unfold cutL
  rw [e, HT.sIx_none, List.drop_one, List.tail_cons, List.take_of_length_le (by rw [List.length_cons]; omega)]
/-! ### comprehensions -/
theorem mapC_ok {f : D → Res (Option D)} (o : D → Option D) : ∀ {ds : List D}, (∀ d ∈ ds, f d = .ok (o d)) → mapC f ds = .ok (ds.filterMap o)
  | [], _ => rfl
  | d :: ds, h => by
    unfold mapC
    rw [h d List.mem_cons_self, Res.ok_bind, mapC_ok o (fun e he => h e (List.mem_cons_of_mem _ he)), Res.ok_bind, List.filterMap_cons]
    cases o d <;> rfl
theorem comp_ok {t : Tg} {it : Env → Res (List D)} {c : Env → Res Bool} {fe : Env → Res B} {vs : List Nat} {ρ : Env} {ds : List D} (o : D → Option D) (h1 : it ρ = .ok ds) (hl : ds.length ≤ sizeLine) (h2 : ∀ d ∈ ds, stepC t c fe (wipeE ρ vs) d = .ok (o d)) :
    compV t it c fe vs ρ = .ok (.own (.l (ds.filterMap o))) := by
  unfold compV
  rw [h1, Res.ok_bind, if_pos hl, mapC_ok o h2, Res.ok_bind]
theorem step_yes {t : Tg} {c : Env → Res Bool} {fe : Env → Res B} {ρ ρ1 : Env} {d r : D} {b : B} (h1 : bindT t d ρ = some ρ1) (h2 : c ρ1 = .ok true) (h3 : fe ρ1 = .ok b) (h4 : rd b = .dat r) : stepC t c fe ρ d = .ok (some r) := by
  unfold stepC
  rw [h1]
  dsimp only
  rw [h2]
  dsimp only
  rw [h3]
  dsimp only
  rw [h4]
  rfl
theorem step_no {t : Tg} {c : Env → Res Bool} {fe : Env → Res B} {ρ ρ1 : Env} {d : D} (h1 : bindT t d ρ = some ρ1) (h2 : c ρ1 = .ok false) : stepC t c fe ρ d = .ok none := by
  unfold stepC
  rw [h1]
  dsimp only
  rw [h2]
/-! ### texts as data -/
abbrev txs (xs : List Str) : List D := xs.map D.str
abbrev Lays (xs : List Str) : Prop := ∀ x ∈ xs, PyData.strOk x = true
theorem lay_strs : ∀ {xs : List Str}, Lays xs → PyData.canLayAll0 (toPys (txs xs)) = true ∧ PyData.depthAll (toPys (txs xs)) = 0
  | [], _ => ⟨rfl, rfl⟩
  | x :: xs, h => by
    obtain ⟨h1, h2⟩ := lay_strs (xs := xs) fun y hy => h y (List.mem_cons_of_mem _ hy)
    show (PyData.canLay0 (.str x) && PyData.canLayAll0 (toPys (txs xs))) = true ∧ Nat.max (PyData.depth (.str x)) (PyData.depthAll (toPys (txs xs))) = 0
    rw [h1, h2]
    simp only [PyData.canLay0, PyData.depth, h x List.mem_cons_self]
    exact ⟨rfl, rfl⟩
theorem shaped_str {x : Str} (h : PyData.strOk x = true) : SeqAt.shaped (toPy (.str x)) = true := by
  show (PyData.canLay0 (.str x) && decide (PyData.depth (.str x) ≤ 64)) = true
  simp only [PyData.canLay0, PyData.depth, h]
  rfl
theorem shaped_strs {xs : List Str} (h : Lays xs) : SeqAt.shaped (.tuple (toPys (txs xs))) = true ∧ SeqAt.shaped (.list (toPys (txs xs))) = true := by
  obtain ⟨h1, h2⟩ := lay_strs h
  constructor
  · show (PyData.canLay0 (.tuple _) && decide (PyData.depth (.tuple _) ≤ 64)) = true
    simp only [PyData.canLay0, PyData.depth, h1, h2]
    rfl
  · show (PyData.canLay0 (.list _) && decide (PyData.depth (.list _) ≤ 64)) = true
    simp only [PyData.canLay0, PyData.depth, h1, h2]
    rfl
theorem eqv_strs : ∀ {xs ys : List Str}, PyData.eqvAll (toPys (txs xs)) (toPys (txs ys)) = decide (xs = ys)
  | [], [] => by simp [toPys, PyData.eqvAll]
  | [], _ :: _ => by simp [toPys, PyData.eqvAll]
  | _ :: _, [] => by simp [toPys, PyData.eqvAll]
  | x :: xs, y :: ys => by
    show (PyData.eqv (.str x) (.str y) && PyData.eqvAll (toPys (txs xs)) (toPys (txs ys))) = _
    rw [eqv_strs]
    simp [PyData.eqv, Bool.beq_eq_decide_eq]
/-- a text among texts -/
theorem in_strs {x : Str} {xs : List Str} (hx : PyData.strOk x = true) (h : Lays xs) : inB false (.dat (.str x)) (.dat (.tup (txs xs))) = .ok (.dat (.bl (decide (x ∈ xs)))) := by
  show ((inSeq (.str x) (txs xs) true).bind fun k => (.ok (.dat (.bl (k != false))) : Res B)) = _
  unfold inSeq
  rw [if_pos (by rw [Bool.and_eq_true]; exact ⟨shaped_str hx, (shaped_strs h).2⟩), Res.ok_bind]
  congr 3
  rw [Bool.bne_false]
  induction xs with
  | nil => rfl
  | cons y ys ih =>
    show (PyData.eqv (.str y) (.str x) || (txs ys).any _) = _
    rw [ih fun z hz => h z (List.mem_cons_of_mem _ hz)]
    simp only [PyData.eqv, List.mem_cons]
    by_cases e : y = x
    · subst e; simp
    · have e' : ¬ x = y := fun z => e z.symm
      simp [e, e']
/-! ### the order of data -/
theorem leD_law : PySem.W.TotalLe leD := PySem.W.sortLe_total (PyProof.Rows.listOrd PyProof.Rows.itemOrd) false fun b : D => PySem.W.keyToks (toPy b)
theorem leD_iff {a b : D} : leD a b = true ↔ PyProof.Rows.lexLt PyProof.Rows.itemOrd (PySem.W.keyToks (toPy b)) (PySem.W.keyToks (toPy a)) = false := by
  show (!PyProof.Rows.lexLt PyProof.Rows.itemOrd _ _) = true ↔ _
  rw [Bool.not_eq_true']
theorem leD_anti {a b : D} (h1 : leD a b = true) (h2 : leD b a = true) : PySem.W.keyToks (toPy a) = PySem.W.keyToks (toPy b) :=
  PyProof.Rows.lex_total _ _ (leD_iff.mp h2) (leD_iff.mp h1)
theorem sortD_pair (ds : List D) : (ds.mergeSort leD).Pairwise fun a b => leD a b = true :=
  List.pairwise_mergeSort leD_law.trans (fun a b => by rw [Bool.or_eq_true]; exact leD_law.total a b) ds
theorem leD_str {x y : Str} (h1 : leD (.str x) (.str y) = true) (h2 : leD (.str y) (.str x) = true) : x = y := by
  have e := leD_anti h1 h2
  simp only [toPy, PySem.W.keyToks, List.cons.injEq, Sum.inr.injEq, and_true] at e
  exact PySem.W.str_of_cps e
/-- texts that are the same, sorted, are the same list -/
theorem txs_sorted {xs ys : List Str} (h1 : (txs xs).Pairwise fun a b => leD a b = true) (h2 : (txs ys).Pairwise fun a b => leD a b = true) (hp : xs.Perm ys) : xs = ys := by
  have e : txs xs = txs ys := List.Perm.eq_of_pairwise (le := fun a b => leD a b = true) (fun a b ha hb l1 l2 => by
    obtain ⟨x, _, rfl⟩ := List.mem_map.mp ha
    obtain ⟨y, _, rfl⟩ := List.mem_map.mp hb
    rw [leD_str l1 l2]) h1 h2 (hp.map _)
  exact List.map_inj_right (fun a b h => by cases h; rfl) |>.mp e
theorem txs_of : ∀ {ds : List D}, (∀ d ∈ ds, ∃ x, d = .str x) → ∃ xs, ds = txs xs
  | [], _ => ⟨[], rfl⟩
  | d :: ds, h => by
    obtain ⟨x, rfl⟩ := h d List.mem_cons_self
    obtain ⟨xs, rfl⟩ := txs_of fun e he => h e (List.mem_cons_of_mem _ he)
    exact ⟨x :: xs, rfl⟩
def unS : D → Str
  | .str x => x
  | _ => Str.empty
theorem unS_txs (xs : List Str) : (txs xs).map unS = xs := by
  rw [List.map_map]
  exact List.map_id' xs
theorem txs_perm {xs ys : List Str} (h : (txs xs).Perm (txs ys)) : xs.Perm ys := by
  have := h.map unS
  rw [unS_txs, unS_txs] at this
  exact this
theorem alike_txs : ∀ (xs ys : List Str), PySem.W.alikeAll (toPys (txs xs)) (toPys (txs ys)) = true
  | [], _ => by simp [toPys, PySem.W.alikeAll]
  | _ :: _, [] => by simp [toPys, PySem.W.alikeAll]
  | x :: xs, y :: ys => by
    show (PySem.W.alike (.str x) (.str y) && PySem.W.alikeAll (toPys (txs xs)) (toPys (txs ys))) = true
    rw [alike_txs]
    simp [PySem.W.alike]
theorem sortOk_txs {xs : List Str} (h : Lays xs) : sortOk (txs xs) = true := by
  unfold sortOk
  rw [toPys_map]
  simp only [Bool.and_eq_true, Bool.or_eq_true, List.all_eq_true, List.mem_map]
  refine ⟨?_, ?_, .inr ?_⟩
  · rintro _ ⟨_, ⟨x, hx, rfl⟩, rfl⟩
    exact shaped_str (h x hx)
  · rintro _ ⟨_, ⟨x, hx, rfl⟩, rfl⟩ _ ⟨_, ⟨y, hy, rfl⟩, rfl⟩
    simp [toPy, PySem.W.alike]
  · rintro _ ⟨_, ⟨x, hx, rfl⟩, rfl⟩
    rfl
end Fn
namespace K43
open PySem L2 Fn
def top (i : Nat) : Stmt := PySem.Challenge.pw_cutstairs_k43_densest_parts.main.body.getD i (.Pass ⟨0, 0, 0, 0⟩)
def bt : List Str := ["abs", "any", "bool", "int", "isinstance", "len", "max", "min", "range", "sorted", "tuple"]
noncomputable def T0 : List En := []
/-! ### _law_names -/
abbrev S0 : Stmt := top 15
def N0 : List Str := ["_law_xs", "_law_many", "_law_letters", "_law_found", "_law_k", "_law_name", "_law_middle"]
noncomputable def B0_1 : Fn.Env → Out := (seqS (thenS (bin2 mulB (bin2 idxB (varB 2) (bin2 modB (bin2 addB (bin2 idxB (varB 0) (litI 0)) (bin2 mulB (litI 7) (varB 4))) (litI 26))) (bin2 addB (litI 1) (bin2 modB (bin2 addB (bin2 idxB (varB 0) (litI 2)) (bin2 mulB (litI 3) (varB 4))) (bin2 idxB (callF lstB (consA (litI 1) (consA (litI 5) nilA))) (bin2 modB (bin2 idxB (varB 0) (litI 3)) (litI 2)))))) (setV 5)) (seqS (iteS (tstF (bin2 eqB (bin2 modB (bin2 idxB (varB 0) (litI 1)) (litI 4)) (litI 1))) (thenS (bin2 addB (bin2 idxB (litS "abcdefgh") (varB 4)) (bin2 mulB (bin2 idxB (varB 2) (bin2 modB (bin2 idxB (varB 0) (litI 2)) (litI 26))) (bin2 modB (bin2 idxB (varB 0) (litI 3)) (litI 8)))) (setV 5)) nxS) (seqS (iteS (tstF (bin2 eqB (bin2 modB (bin2 idxB (varB 0) (litI 1)) (litI 4)) (litI 2))) (thenS (bin2 mulB (bin2 idxB (varB 2) (bin2 modB (bin2 idxB (varB 0) (litI 2)) (litI 26))) (bin2 addB (litI 1) (varB 4))) (setV 5)) nxS) (seqS (iteS (tstF (bin2 eqB (bin2 modB (bin2 idxB (varB 0) (litI 1)) (litI 4)) (litI 3))) (seqS (thenS (bin2 idxB (varB 2) (bin2 modB (bin2 addB (bin2 idxB (varB 0) (litI 3)) (bin2 mulB (litI 5) (varB 4))) (litI 26))) (setV 6)) (thenS (bin2 addB (bin2 addB (bin2 idxB (varB 2) (bin2 modB (bin2 idxB (varB 0) (litI 2)) (litI 26))) (varB 6)) (bin2 idxB (varB 2) (bin2 modB (bin2 idxB (varB 0) (litI 0)) (litI 26)))) (setV 5))) nxS) (appV 3 (varB 5))))))
noncomputable def B0 : Fn.Env → Out := (seqS (thenS (litS "abcdefghijklmnopqrstuvwxyz") (setV 2)) (seqS (thenS (callF lstB nilA) (setV 3)) (seqS (forV (.one 4) (rgF (consA (varB 1) nilA)) B0_1) (thenS (callF sortF (consA (varB 3) nilA)) retV))))
noncomputable def E0 : En := ⟨"_law_names", 2, defF 7 B0⟩
noncomputable def T1 : List En := T0 ++ [E0]
theorem sc0 : FnScope N0 ["_law_xs", "_law_many"] (defScope S0) := ⟨rfl, rfl, rfl, by decide +kernel, rfl, by decide +kernel, by decide +kernel⟩
theorem ok0 {X : Cx} {g : G} {cls : Nat → Value} (C : CS X g cls 0 T0 N0 (defScope S0) bt) : PSs X (defBody S0) (tFS g B0) :=
  (fs_cons (C.asg 2 fe_str (by decide +kernel) rfl) (fs_cons (C.asg 3 (fe_lst fa_nil) (by decide +kernel) rfl) (fs_cons (C.fo (C.ct.rg1 (C.ct.var 1 (by decide +kernel)) (by decide +kernel) rfl) (C.g1 4 (by decide +kernel)) (fun _ C => (fs_cons (C.asg 5 (C.ct.mul (C.ct.idx (C.ct.var 2 (by decide +kernel)) (C.ct.mod (C.ct.add (C.ct.idx (C.ct.var 0 (by decide +kernel)) fe_int rfl) (C.ct.mul fe_int (C.ct.var 4 (by decide +kernel)))) fe_int) rfl) (C.ct.add fe_int (C.ct.mod (C.ct.add (C.ct.idx (C.ct.var 0 (by decide +kernel)) fe_int rfl) (C.ct.mul fe_int (C.ct.var 4 (by decide +kernel)))) (C.ct.idx (fe_lst (fa_cons rfl fe_int (fa_cons rfl fe_int fa_nil))) (C.ct.mod (C.ct.idx (C.ct.var 0 (by decide +kernel)) fe_int rfl) fe_int) rfl)))) (by decide +kernel) rfl) (fs_cons (fs_if (cmpT C.ct.eq (C.ct.mod (C.ct.idx (C.ct.var 0 (by decide +kernel)) fe_int rfl) fe_int) fe_int rfl) (fs_one (C.asg 5 (C.ct.add (C.ct.idx fe_str (C.ct.var 4 (by decide +kernel)) rfl) (C.ct.mul (C.ct.idx (C.ct.var 2 (by decide +kernel)) (C.ct.mod (C.ct.idx (C.ct.var 0 (by decide +kernel)) fe_int rfl) fe_int) rfl) (C.ct.mod (C.ct.idx (C.ct.var 0 (by decide +kernel)) fe_int rfl) fe_int))) (by decide +kernel) rfl)) fs_nil) (fs_cons (fs_if (cmpT C.ct.eq (C.ct.mod (C.ct.idx (C.ct.var 0 (by decide +kernel)) fe_int rfl) fe_int) fe_int rfl) (fs_one (C.asg 5 (C.ct.mul (C.ct.idx (C.ct.var 2 (by decide +kernel)) (C.ct.mod (C.ct.idx (C.ct.var 0 (by decide +kernel)) fe_int rfl) fe_int) rfl) (C.ct.add fe_int (C.ct.var 4 (by decide +kernel)))) (by decide +kernel) rfl)) fs_nil) (fs_cons (fs_if (cmpT C.ct.eq (C.ct.mod (C.ct.idx (C.ct.var 0 (by decide +kernel)) fe_int rfl) fe_int) fe_int rfl) (fs_cons (C.asg 6 (C.ct.idx (C.ct.var 2 (by decide +kernel)) (C.ct.mod (C.ct.add (C.ct.idx (C.ct.var 0 (by decide +kernel)) fe_int rfl) (C.ct.mul fe_int (C.ct.var 4 (by decide +kernel)))) fe_int) rfl) (by decide +kernel) rfl) (fs_one (C.asg 5 (C.ct.add (C.ct.add (C.ct.idx (C.ct.var 2 (by decide +kernel)) (C.ct.mod (C.ct.idx (C.ct.var 0 (by decide +kernel)) fe_int rfl) fe_int) rfl) (C.ct.var 6 (by decide +kernel))) (C.ct.idx (C.ct.var 2 (by decide +kernel)) (C.ct.mod (C.ct.idx (C.ct.var 0 (by decide +kernel)) fe_int rfl) fe_int) rfl)) (by decide +kernel) rfl))) fs_nil) (fs_one (C.app 3 (C.ct.var 5 (by decide +kernel)) (by decide +kernel) rfl))))))) rfl) (fs_one (fs_ret (C.ct.call C.ct.sort (fa_cons rfl (C.ct.var 3 (by decide +kernel)) fa_nil) (by decide +kernel) (by decide +kernel) rfl))))))
/-! ### _law_graph -/
abbrev S1 : Stmt := top 18
def N1 : List Str := ["_law_xs", "_law_most", "_law_many", "_law_names_here", "_law_pairs", "_law_k", "_law_one", "_law_other"]
noncomputable def B1_1 : Fn.Env → Out := (seqS (par2 6 7 (bin2 modB (bin2 idxB (varB 0) (bin2 addB (litI 6) (varB 5))) (varB 2)) (bin2 modB (bin2 divB (bin2 idxB (varB 0) (bin2 addB (litI 6) (varB 5))) (litI 8)) (varB 2))) (iteS (tstF (bin2 neB (varB 6) (varB 7))) (putS 4 (callF tupB (consA (bin2 idxB (varB 3) (callF minF (consA (varB 6) (consA (varB 7) nilA)))) (consA (bin2 idxB (varB 3) (callF maxF (consA (varB 6) (consA (varB 7) nilA)))) nilA))) (litB true)) nxS))
noncomputable def B1 : Fn.Env → Out := (seqS (thenS (bin2 addB (litI 1) (bin2 modB (bin2 idxB (varB 0) (litI 0)) (varB 1))) (setV 2)) (seqS (thenS (ownF E0 (consA (slcV (varB 0) (atP (litI 1)) noP) (consA (varB 2) nilA))) (setV 3)) (seqS (thenS newT (setV 4)) (seqS (forV (.one 5) (rgF (consA (bin2 modB (bin2 idxB (varB 0) (litI 5)) (litI 13)) nilA)) B1_1) (thenS (callF tupB (consA (callF tupF (consA (varB 3) nilA)) (consA (callF tupF (consA (callF sortF (consA (varB 4) nilA)) nilA)) nilA))) retV)))))
noncomputable def E1 : En := ⟨"_law_graph", 2, defF 8 B1⟩
noncomputable def T2 : List En := T1 ++ [E1]
theorem sc1 : FnScope N1 ["_law_xs", "_law_most"] (defScope S1) := ⟨rfl, rfl, rfl, by decide +kernel, rfl, by decide +kernel, by decide +kernel⟩
theorem ok1 {X : Cx} {g : G} {cls : Nat → Value} (C : CS X g cls 1 T1 N1 (defScope S1) bt) : PSs X (defBody S1) (tFS g B1) :=
  (fs_cons (C.asg 2 (C.ct.add fe_int (C.ct.mod (C.ct.idx (C.ct.var 0 (by decide +kernel)) fe_int rfl) (C.ct.var 1 (by decide +kernel)))) (by decide +kernel) rfl) (fs_cons (C.asg 3 (C.ct.own 0 (fa_cons rfl (C.ct.slc (C.ct.var 0 (by decide +kernel)) (fo_some fe_int) fo_none) (fa_cons rfl (C.ct.var 2 (by decide +kernel)) fa_nil)) rfl rfl (by decide +kernel) rfl) (by decide +kernel) rfl) (fs_cons (C.asg 4 fe_dicT (by decide +kernel) rfl) (fs_cons (C.fo (C.ct.rg1 (C.ct.mod (C.ct.idx (C.ct.var 0 (by decide +kernel)) fe_int rfl) fe_int) (by decide +kernel) rfl) (C.g1 5 (by decide +kernel)) (fun _ C => (fs_cons (C.par2 6 7 (C.ct.mod (C.ct.idx (C.ct.var 0 (by decide +kernel)) (C.ct.add fe_int (C.ct.var 5 (by decide +kernel))) rfl) (C.ct.var 2 (by decide +kernel))) (C.ct.mod (C.ct.div (C.ct.idx (C.ct.var 0 (by decide +kernel)) (C.ct.add fe_int (C.ct.var 5 (by decide +kernel))) rfl) fe_int) (C.ct.var 2 (by decide +kernel))) (by decide +kernel) (by decide +kernel) (by decide) (by decide +kernel)) (fs_one (fs_if (cmpT C.ct.ne (C.ct.var 6 (by decide +kernel)) (C.ct.var 7 (by decide +kernel)) rfl) (fs_one (C.sto 4 (fe_tup (fa_cons rfl (C.ct.idx (C.ct.var 3 (by decide +kernel)) (C.ct.call C.ct.min (fa_cons rfl (C.ct.var 6 (by decide +kernel)) (fa_cons rfl (C.ct.var 7 (by decide +kernel)) fa_nil)) (by decide +kernel) (by decide +kernel) rfl) rfl) (fa_cons rfl (C.ct.idx (C.ct.var 3 (by decide +kernel)) (C.ct.call C.ct.max (fa_cons rfl (C.ct.var 6 (by decide +kernel)) (fa_cons rfl (C.ct.var 7 (by decide +kernel)) fa_nil)) (by decide +kernel) (by decide +kernel) rfl) rfl) fa_nil))) fe_bl (by decide +kernel) rfl)) fs_nil)))) rfl) (fs_one (fs_ret (fe_tup (fa_cons rfl (C.ct.call C.ct.tup (fa_cons rfl (C.ct.var 3 (by decide +kernel)) fa_nil) (by decide +kernel) (by decide +kernel) rfl) (fa_cons rfl (C.ct.call C.ct.tup (fa_cons rfl (C.ct.call C.ct.sort (fa_cons rfl (C.ct.var 4 (by decide +kernel)) fa_nil) (by decide +kernel) (by decide +kernel) rfl) fa_nil) (by decide +kernel) (by decide +kernel) rfl) fa_nil)))))))))
/-! ### _law_parts -/
abbrev S2 : Stmt := top 19
def N2 : List Str := ["_law_graph_here", "_law_found", "_law_mask", "_law_k"]
noncomputable def B2_1 : Fn.Env → Out := (appV 1 (callF tupF (consA (compV (.one 3) (rgF (consA (callF lenB (consA (bin2 idxB (varB 0) (litI 0)) nilA)) nilA)) (tstF (bin2 eqB (bin2 andB (bin2 shrB (varB 2) (varB 3)) (litI 1)) (litI 1))) (bin2 idxB (bin2 idxB (varB 0) (litI 0)) (varB 3)) [3]) nilA)))
noncomputable def B2 : Fn.Env → Out := (seqS (thenS (callF lstB nilA) (setV 1)) (seqS (forV (.one 2) (rgF (consA (litI 1) (consA (bin2 shlB (litI 1) (callF lenB (consA (bin2 idxB (varB 0) (litI 0)) nilA))) nilA))) B2_1) (retN 1)))
noncomputable def E2 : En := ⟨"_law_parts", 1, defF 4 B2⟩
noncomputable def T3 : List En := T2 ++ [E2]
theorem sc2 : FnScope N2 ["_law_graph_here"] (defScope S2) := ⟨rfl, rfl, rfl, by decide +kernel, rfl, by decide +kernel, by decide +kernel⟩
theorem ok2 {X : Cx} {g : G} {cls : Nat → Value} (C : CS X g cls 2 T2 N2 (defScope S2) bt) : PSs X (defBody S2) (tFS g B2) :=
  (fs_cons (C.asg 1 (fe_lst fa_nil) (by decide +kernel) rfl) (fs_cons (C.fo (C.ct.rg2 fe_int (C.ct.shl fe_int (C.ct.call C.ct.len (fa_cons rfl (C.ct.idx (C.ct.var 0 (by decide +kernel)) fe_int rfl) fa_nil) (by decide +kernel) (by decide +kernel) rfl)) (by decide +kernel) rfl rfl) (C.g1 2 (by decide +kernel)) (fun _ C => (fs_one (C.app 1 (C.ct.call C.ct.tup (fa_cons rfl (C.ct.lc [("_law_k", 3)] (C.ct.rg1 (C.ct.call C.ct.len (fa_cons rfl (C.ct.idx (C.ct.var 0 (by decide +kernel)) fe_int rfl) fa_nil) (by decide +kernel) (by decide +kernel) rfl) (by decide +kernel) rfl) (fun C1 => ⟨(C1.g1 3 (by decide +kernel)), (ifs1 (cmpT C1.eq (C1.band (C1.shr (C1.var 2 (by decide +kernel)) (C1.var 3 (by decide +kernel))) fe_int) fe_int rfl)), (C1.idx (C1.idx (C1.var 0 (by decide +kernel)) fe_int rfl) (C1.var 3 (by decide +kernel)) rfl)⟩) (by decide +kernel)) fa_nil) (by decide +kernel) (by decide +kernel) rfl) (by decide +kernel) rfl))) rfl) (fs_one (C.rn 1 (by decide +kernel)))))
/-! ### parts_of -/
abbrev S3 : Stmt := top 9
def N3 : List Str := ["graph", "found", "name", "pairs", "part", "pair"]
noncomputable def B3_1 : Fn.Env → Out := (thenS (bin2 addB (varB 1) (compV (.one 4) (itF true (varB 1)) yesF (bin2 addB (varB 4) (callF tupB (consA (varB 2) nilA))) [4])) (setV 1))
noncomputable def B3 : Fn.Env → Out := (seqS (thenS (callF lstB (consA (callF tupB nilA) nilA)) (setV 1)) (seqS (forV (.one 2) (itF false (bin2 idxB (varB 0) (litI 0))) B3_1) (seqS (thenS (callF sortF (consA (compV (.one 4) (itF true (varB 1)) (tstF (bin2 neB (varB 4) (callF tupB nilA))) (callF tupB (consA (callF lenB (consA (varB 4) nilA)) (consA (varB 4) nilA))) [4]) nilA)) (setV 3)) (thenS (compV (.one 5) (itF true (varB 3)) yesF (bin2 idxB (varB 5) (litI 1)) [5]) retV))))
noncomputable def E3 : En := ⟨"parts_of", 1, defF 6 B3⟩
noncomputable def T4 : List En := T3 ++ [E3]
theorem sc3 : FnScope N3 ["graph"] (defScope S3) := ⟨rfl, rfl, rfl, by decide +kernel, rfl, by decide +kernel, by decide +kernel⟩
theorem ok3 {X : Cx} {g : G} {cls : Nat → Value} (C : CS X g cls 3 T3 N3 (defScope S3) bt) : PSs X (defBody S3) (tFS g B3) :=
  (fs_cons (C.asg 1 (fe_lst (fa_cons rfl (fe_tup fa_nil) fa_nil)) (by decide +kernel) rfl) (fs_cons (C.fo (C.ct.it (C.ct.idx (C.ct.var 0 (by decide +kernel)) fe_int rfl)) (C.g1 2 (by decide +kernel)) (fun _ C => (fs_one (C.asg 1 (C.ct.add (C.ct.var 1 (by decide +kernel)) (C.ct.lc [("part", 4)] (C.ct.it (C.ct.var 1 (by decide +kernel))) (fun C1 => ⟨(C1.g1 4 (by decide +kernel)), ifs0, (C1.add (C1.var 4 (by decide +kernel)) (fe_tup (fa_cons rfl (C1.var 2 (by decide +kernel)) fa_nil)))⟩) (by decide +kernel))) (by decide +kernel) rfl))) rfl) (fs_cons (C.asg 3 (C.ct.call C.ct.sort (fa_cons rfl (C.ct.lc [("part", 4)] (C.ct.it (C.ct.var 1 (by decide +kernel))) (fun C2 => ⟨(C2.g1 4 (by decide +kernel)), (ifs1 (cmpT C2.ne (C2.var 4 (by decide +kernel)) (fe_tup fa_nil) rfl)), (fe_tup (fa_cons rfl (C2.call C2.len (fa_cons rfl (C2.var 4 (by decide +kernel)) fa_nil) (by decide +kernel) (by decide +kernel) rfl) (fa_cons rfl (C2.var 4 (by decide +kernel)) fa_nil)))⟩) (by decide +kernel)) fa_nil) (by decide +kernel) (by decide +kernel) rfl) (by decide +kernel) rfl) (fs_one (fs_ret (C.ct.lc [("pair", 5)] (C.ct.it (C.ct.var 3 (by decide +kernel))) (fun C3 => ⟨(C3.g1 5 (by decide +kernel)), ifs0, (C3.idx (C3.var 5 (by decide +kernel)) fe_int rfl)⟩) (by decide +kernel)))))))
/-! ### shared_part -/
abbrev S4 : Stmt := top 4
def N4 : List Str := ["one", "other", "high", "low"]
noncomputable def B4_1 : Fn.Env → Res Bool := (tstF (bin2 gtF (varB 3) (litI 0)))
noncomputable def B4_2 : Fn.Env → Out := (par2 2 3 (varB 3) (bin2 modB (varB 2) (varB 3)))
noncomputable def B4 : Fn.Env → Out := (seqS (par2 2 3 (callF absF (consA (varB 0) nilA)) (callF absF (consA (varB 1) nilA))) (seqS (whileC B4_1 B4_2) (retN 2)))
noncomputable def E4 : En := ⟨"shared_part", 2, defF 4 B4⟩
noncomputable def T5 : List En := T4 ++ [E4]
theorem sc4 : FnScope N4 ["one", "other"] (defScope S4) := ⟨rfl, rfl, rfl, by decide +kernel, rfl, by decide +kernel, by decide +kernel⟩
theorem ok4 {X : Cx} {g : G} {cls : Nat → Value} (C : CS X g cls 4 T4 N4 (defScope S4) bt) : PSs X (defBody S4) (tFS g B4) :=
  (fs_cons (C.par2 2 3 (C.ct.call C.ct.abs (fa_cons rfl (C.ct.var 0 (by decide +kernel)) fa_nil) (by decide +kernel) (by decide +kernel) rfl) (C.ct.call C.ct.abs (fa_cons rfl (C.ct.var 1 (by decide +kernel)) fa_nil) (by decide +kernel) (by decide +kernel) rfl) (by decide +kernel) (by decide +kernel) (by decide) (by decide +kernel)) (fs_cons (C.wc (cmpT C.ct.gt (C.ct.var 3 (by decide +kernel)) fe_int rfl) (fs_one (C.par2 2 3 (C.ct.var 3 (by decide +kernel)) (C.ct.mod (C.ct.var 2 (by decide +kernel)) (C.ct.var 3 (by decide +kernel))) (by decide +kernel) (by decide +kernel) (by decide) (by decide +kernel)))) (fs_one (C.rn 2 (by decide +kernel)))))
/-! ### fraction -/
abbrev S5 : Stmt := top 5
def N5 : List Str := ["top", "bottom", "part"]
noncomputable def B5 : Fn.Env → Out := (seqS (iteS (tstF (bin2 eqB (varB 1) (litI 0))) badS nxS) (seqS (thenS (ownF E4 (consA (varB 0) (consA (varB 1) nilA))) (setV 2)) (seqS (iteS (tstF (bin2 ltB (varB 1) (litI 0))) (thenS (bin2 subB (litI 0) (varB 2)) (setV 2)) nxS) (thenS (callF tupB (consA (bin2 divB (varB 0) (varB 2)) (consA (bin2 divB (varB 1) (varB 2)) nilA))) retV))))
noncomputable def E5 : En := ⟨"fraction", 2, defF 3 B5⟩
noncomputable def T6 : List En := T5 ++ [E5]
theorem sc5 : FnScope N5 ["top", "bottom"] (defScope S5) := ⟨rfl, rfl, rfl, by decide +kernel, rfl, by decide +kernel, by decide +kernel⟩
theorem ok5 {X : Cx} {g : G} {cls : Nat → Value} (C : CS X g cls 5 T5 N5 (defScope S5) bt) : PSs X (defBody S5) (tFS g B5) :=
  (fs_cons (fs_if (cmpT C.ct.eq (C.ct.var 1 (by decide +kernel)) fe_int rfl) (fs_one fs_never) fs_nil) (fs_cons (C.asg 2 (C.ct.own 4 (fa_cons rfl (C.ct.var 0 (by decide +kernel)) (fa_cons rfl (C.ct.var 1 (by decide +kernel)) fa_nil)) rfl rfl (by decide +kernel) rfl) (by decide +kernel) rfl) (fs_cons (fs_if (cmpT C.ct.lt (C.ct.var 1 (by decide +kernel)) fe_int rfl) (fs_one (C.asg 2 (C.ct.sub fe_int (C.ct.var 2 (by decide +kernel))) (by decide +kernel) rfl)) fs_nil) (fs_one (fs_ret (fe_tup (fa_cons rfl (C.ct.div (C.ct.var 0 (by decide +kernel)) (C.ct.var 2 (by decide +kernel))) (fa_cons rfl (C.ct.div (C.ct.var 1 (by decide +kernel)) (C.ct.var 2 (by decide +kernel))) fa_nil))))))))
/-! ### within -/
abbrev S6 : Stmt := top 8
def N6 : List Str := ["graph", "part", "pair"]
noncomputable def B6 : Fn.Env → Out := (thenS (callF lenB (consA (compV (.one 2) (itF true (bin2 idxB (varB 0) (litI 1))) (andT (tstF (bin2 (inB false) (bin2 idxB (varB 2) (litI 0)) (varB 1))) (tstF (bin2 (inB false) (bin2 idxB (varB 2) (litI 1)) (varB 1)))) (varB 2) [2]) nilA)) retV)
noncomputable def E6 : En := ⟨"within", 2, defF 3 B6⟩
noncomputable def T7 : List En := T6 ++ [E6]
theorem sc6 : FnScope N6 ["graph", "part"] (defScope S6) := ⟨rfl, rfl, rfl, by decide +kernel, rfl, by decide +kernel, by decide +kernel⟩
theorem ok6 {X : Cx} {g : G} {cls : Nat → Value} (C : CS X g cls 6 T6 N6 (defScope S6) bt) : PSs X (defBody S6) (tFS g B6) :=
  (fs_one (fs_ret (C.ct.call C.ct.len (fa_cons rfl (C.ct.lc [("pair", 2)] (C.ct.it (C.ct.idx (C.ct.var 0 (by decide +kernel)) fe_int rfl)) (fun C1 => ⟨(C1.g1 2 (by decide +kernel)), (ifs1 (ft_and (cmpT C1.inn (C1.idx (C1.var 2 (by decide +kernel)) fe_int rfl) (C1.var 1 (by decide +kernel)) rfl) (pw_and1 (cmpT C1.inn (C1.idx (C1.var 2 (by decide +kernel)) fe_int rfl) (C1.var 1 (by decide +kernel)) rfl))).pt), (C1.var 2 (by decide +kernel))⟩) (by decide +kernel)) fa_nil) (by decide +kernel) (by decide +kernel) rfl)))
/-! ### below -/
abbrev S7 : Stmt := top 6
def N7 : List Str := ["a", "b"]
noncomputable def B7 : Fn.Env → Out := (thenS (bin2 ltB (bin2 mulB (bin2 idxB (varB 0) (litI 0)) (bin2 idxB (varB 1) (litI 1))) (bin2 mulB (bin2 idxB (varB 1) (litI 0)) (bin2 idxB (varB 0) (litI 1)))) retV)
noncomputable def E7 : En := ⟨"below", 2, defF 2 B7⟩
noncomputable def T8 : List En := T7 ++ [E7]
theorem sc7 : FnScope N7 ["a", "b"] (defScope S7) := ⟨rfl, rfl, rfl, by decide +kernel, rfl, by decide +kernel, by decide +kernel⟩
theorem ok7 {X : Cx} {g : G} {cls : Nat → Value} (C : CS X g cls 7 T7 N7 (defScope S7) bt) : PSs X (defBody S7) (tFS g B7) :=
  (fs_one (fs_ret (cmpE C.ct.lt (C.ct.mul (C.ct.idx (C.ct.var 0 (by decide +kernel)) fe_int rfl) (C.ct.idx (C.ct.var 1 (by decide +kernel)) fe_int rfl)) (C.ct.mul (C.ct.idx (C.ct.var 1 (by decide +kernel)) fe_int rfl) (C.ct.idx (C.ct.var 0 (by decide +kernel)) fe_int rfl)) rfl)))
/-! ### densest -/
abbrev S8 : Stmt := top 11
def N8 : List Str := ["graph", "best", "part", "worth"]
noncomputable def B8_1 : Fn.Env → Out := (seqS (thenS (ownF E5 (consA (ownF E6 (consA (varB 0) (consA (varB 2) nilA))) (consA (callF lenB (consA (varB 2) nilA)) nilA))) (setV 3)) (iteS (orT (tstF (bin2 (isB false) (varB 1) litN)) (notT (testV (ownF E7 (consA (varB 3) (consA (bin2 idxB (varB 1) (litI 0)) nilA)))))) (thenS (callF tupB (consA (varB 3) (consA (varB 2) nilA))) (setV 1)) nxS))
noncomputable def B8 : Fn.Env → Out := (seqS (thenS litN (setV 1)) (seqS (forV (.one 2) (itF false (ownF E3 (consA (varB 0) nilA))) B8_1) (retN 1)))
noncomputable def E8 : En := ⟨"densest", 1, defF 4 B8⟩
noncomputable def T9 : List En := T8 ++ [E8]
theorem sc8 : FnScope N8 ["graph"] (defScope S8) := ⟨rfl, rfl, rfl, by decide +kernel, rfl, by decide +kernel, by decide +kernel⟩
theorem ok8 {X : Cx} {g : G} {cls : Nat → Value} (C : CS X g cls 8 T8 N8 (defScope S8) bt) : PSs X (defBody S8) (tFS g B8) :=
  (fs_cons (C.asg 1 fe_non (by decide +kernel) rfl) (fs_cons (C.fo (C.ct.it (C.ct.own 3 (fa_cons rfl (C.ct.var 0 (by decide +kernel)) fa_nil) rfl rfl (by decide +kernel) rfl)) (C.g1 2 (by decide +kernel)) (fun _ C => (fs_cons (C.asg 3 (C.ct.own 5 (fa_cons rfl (C.ct.own 6 (fa_cons rfl (C.ct.var 0 (by decide +kernel)) (fa_cons rfl (C.ct.var 2 (by decide +kernel)) fa_nil)) rfl rfl (by decide +kernel) rfl) (fa_cons rfl (C.ct.call C.ct.len (fa_cons rfl (C.ct.var 2 (by decide +kernel)) fa_nil) (by decide +kernel) (by decide +kernel) rfl) fa_nil)) rfl rfl (by decide +kernel) rfl) (by decide +kernel) rfl) (fs_one (fs_if (ft_or (cmpT C.ct.is (C.ct.var 1 (by decide +kernel)) fe_non rfl) (pw_or1 (ft_not (C.ct.val (C.ct.own 7 (fa_cons rfl (C.ct.var 3 (by decide +kernel)) (fa_cons rfl (C.ct.idx (C.ct.var 1 (by decide +kernel)) fe_int rfl) fa_nil)) rfl rfl (by decide +kernel) rfl) rfl)))).pt (fs_one (C.asg 1 (fe_tup (fa_cons rfl (C.ct.var 3 (by decide +kernel)) (fa_cons rfl (C.ct.var 2 (by decide +kernel)) fa_nil))) (by decide +kernel) rfl)) fs_nil)))) rfl) (fs_one (C.rn 1 (by decide +kernel)))))
/-! ### _law_numbers -/
abbrev S9 : Stmt := top 14
def N9 : List Str := ["_law_cell_here", "_law_many", "_law_found", "_law_state", "_law_digits", "_law_k"]
noncomputable def B9_1 : Fn.Env → Out := (seqS (thenS (bin2 modB (bin2 addB (bin2 addB (bin2 mulB (varB 3) (bin2 addB (bin2 modB (varB 3) (litI 65521)) (litI 40487))) (bin2 mulB (litI 7) (varB 5))) (litI 5)) (litI 1999999973)) (setV 3)) (seqS (appV 2 (bin2 idxB (callF lstB (consA (varB 3) (consA (bin2 modB (varB 4) (litI 1000000)) nilA))) (callF intF (consA (bin2 gtF (varB 4) (litI 0)) nilA)))) (thenS (bin2 divB (varB 4) (litI 1000000)) (setV 4))))
noncomputable def B9 : Fn.Env → Out := (seqS (thenS (callF lstB nilA) (setV 2)) (seqS (thenS (bin2 modB (bin2 mulB (bin2 addB (bin2 modB (varB 0) (litI 1999999973)) (litI 31)) (litI 765432101)) (litI 1999999973)) (setV 3)) (seqS (thenS (litI 0) (setV 4)) (seqS (iteS (orT (tstF (bin2 ltB (varB 0) (litI 0))) (tstF (bin2 geF (varB 0) (bin2 powB (litI 10) (litI 18))))) (thenS (callF absF (consA (varB 0) nilA)) (setV 4)) nxS) (seqS (forV (.one 5) (rgF (consA (varB 1) nilA)) B9_1) (retN 2))))))
noncomputable def E9 : En := ⟨"_law_numbers", 2, defF 6 B9⟩
noncomputable def T10 : List En := T9 ++ [E9]
theorem sc9 : FnScope N9 ["_law_cell_here", "_law_many"] (defScope S9) := ⟨rfl, rfl, rfl, by decide +kernel, rfl, by decide +kernel, by decide +kernel⟩
theorem ok9 {X : Cx} {g : G} {cls : Nat → Value} (C : CS X g cls 9 T9 N9 (defScope S9) bt) : PSs X (defBody S9) (tFS g B9) :=
  (fs_cons (C.asg 2 (fe_lst fa_nil) (by decide +kernel) rfl) (fs_cons (C.asg 3 (C.ct.mod (C.ct.mul (C.ct.add (C.ct.mod (C.ct.var 0 (by decide +kernel)) fe_int) fe_int) fe_int) fe_int) (by decide +kernel) rfl) (fs_cons (C.asg 4 fe_int (by decide +kernel) rfl) (fs_cons (fs_if (ft_or (cmpT C.ct.lt (C.ct.var 0 (by decide +kernel)) fe_int rfl) (pw_or1 (cmpT C.ct.ge (C.ct.var 0 (by decide +kernel)) (C.ct.pow fe_int fe_int) rfl))).pt (fs_one (C.asg 4 (C.ct.call C.ct.abs (fa_cons rfl (C.ct.var 0 (by decide +kernel)) fa_nil) (by decide +kernel) (by decide +kernel) rfl) (by decide +kernel) rfl)) fs_nil) (fs_cons (C.fo (C.ct.rg1 (C.ct.var 1 (by decide +kernel)) (by decide +kernel) rfl) (C.g1 5 (by decide +kernel)) (fun _ C => (fs_cons (C.asg 3 (C.ct.mod (C.ct.add (C.ct.add (C.ct.mul (C.ct.var 3 (by decide +kernel)) (C.ct.add (C.ct.mod (C.ct.var 3 (by decide +kernel)) fe_int) fe_int)) (C.ct.mul fe_int (C.ct.var 5 (by decide +kernel)))) fe_int) fe_int) (by decide +kernel) rfl) (fs_cons (C.app 2 (C.ct.idx (fe_lst (fa_cons rfl (C.ct.var 3 (by decide +kernel)) (fa_cons rfl (C.ct.mod (C.ct.var 4 (by decide +kernel)) fe_int) fa_nil))) (C.ct.call C.ct.int (fa_cons rfl (cmpE C.ct.gt (C.ct.var 4 (by decide +kernel)) fe_int rfl) fa_nil) (by decide +kernel) (by decide +kernel) rfl) rfl) (by decide +kernel) rfl) (fs_one (C.asg 4 (C.ct.div (C.ct.var 4 (by decide +kernel)) fe_int) (by decide +kernel) rfl))))) rfl) (fs_one (C.rn 2 (by decide +kernel))))))))
/-! ### _law_low -/
abbrev S10 : Stmt := top 16
def N10 : List Str := ["_law_top", "_law_bottom", "_law_high", "_law_low_here"]
noncomputable def B10_1 : Fn.Env → Res Bool := (tstF (bin2 gtF (varB 3) (litI 0)))
noncomputable def B10_2 : Fn.Env → Out := (par2 2 3 (varB 3) (bin2 modB (varB 2) (varB 3)))
noncomputable def B10 : Fn.Env → Out := (seqS (par2 2 3 (callF absF (consA (varB 0) nilA)) (callF absF (consA (varB 1) nilA))) (seqS (whileC B10_1 B10_2) (seqS (iteS (tstF (bin2 ltB (varB 1) (litI 0))) (thenS (bin2 subB (litI 0) (varB 2)) (setV 2)) nxS) (thenS (callF tupB (consA (bin2 divB (varB 0) (varB 2)) (consA (bin2 divB (varB 1) (varB 2)) nilA))) retV))))
noncomputable def E10 : En := ⟨"_law_low", 2, defF 4 B10⟩
noncomputable def T11 : List En := T10 ++ [E10]
theorem sc10 : FnScope N10 ["_law_top", "_law_bottom"] (defScope S10) := ⟨rfl, rfl, rfl, by decide +kernel, rfl, by decide +kernel, by decide +kernel⟩
theorem ok10 {X : Cx} {g : G} {cls : Nat → Value} (C : CS X g cls 10 T10 N10 (defScope S10) bt) : PSs X (defBody S10) (tFS g B10) :=
  (fs_cons (C.par2 2 3 (C.ct.call C.ct.abs (fa_cons rfl (C.ct.var 0 (by decide +kernel)) fa_nil) (by decide +kernel) (by decide +kernel) rfl) (C.ct.call C.ct.abs (fa_cons rfl (C.ct.var 1 (by decide +kernel)) fa_nil) (by decide +kernel) (by decide +kernel) rfl) (by decide +kernel) (by decide +kernel) (by decide) (by decide +kernel)) (fs_cons (C.wc (cmpT C.ct.gt (C.ct.var 3 (by decide +kernel)) fe_int rfl) (fs_one (C.par2 2 3 (C.ct.var 3 (by decide +kernel)) (C.ct.mod (C.ct.var 2 (by decide +kernel)) (C.ct.var 3 (by decide +kernel))) (by decide +kernel) (by decide +kernel) (by decide) (by decide +kernel)))) (fs_cons (fs_if (cmpT C.ct.lt (C.ct.var 1 (by decide +kernel)) fe_int rfl) (fs_one (C.asg 2 (C.ct.sub fe_int (C.ct.var 2 (by decide +kernel))) (by decide +kernel) rfl)) fs_nil) (fs_one (fs_ret (fe_tup (fa_cons rfl (C.ct.div (C.ct.var 0 (by decide +kernel)) (C.ct.var 2 (by decide +kernel))) (fa_cons rfl (C.ct.div (C.ct.var 1 (by decide +kernel)) (C.ct.var 2 (by decide +kernel))) fa_nil))))))))
/-! ### _law_cell -/
abbrev S11 : Stmt := top 13
def N11 : List Str := ["_law_script", "_law_k", "_law_state", "_law_cell_here"]
noncomputable def B11_1 : Fn.Env → Out := (thenS (bin2 modB (bin2 addB (bin2 mulB (varB 2) (litI 69621)) (varB 3)) (litI 2147483647)) (setV 2))
noncomputable def B11 : Fn.Env → Out := (seqS (iteS (tstF (bin2 ltB (varB 1) (callF lenB (consA (varB 0) nilA)))) (thenS (bin2 idxB (varB 0) (varB 1)) retV) nxS) (seqS (thenS (bin2 modB (bin2 mulB (litI 48271) (bin2 addB (bin2 addB (bin2 mulB (varB 1) (varB 1)) (bin2 mulB (litI 7) (varB 1))) (litI 11))) (litI 2147483647)) (setV 2)) (seqS (forV (.one 3) (itF false (slcV (varB 0) noP (atP (litI 3)))) B11_1) (retN 2))))
noncomputable def E11 : En := ⟨"_law_cell", 2, defF 4 B11⟩
noncomputable def T12 : List En := T11 ++ [E11]
theorem sc11 : FnScope N11 ["_law_script", "_law_k"] (defScope S11) := ⟨rfl, rfl, rfl, by decide +kernel, rfl, by decide +kernel, by decide +kernel⟩
theorem ok11 {X : Cx} {g : G} {cls : Nat → Value} (C : CS X g cls 11 T11 N11 (defScope S11) bt) : PSs X (defBody S11) (tFS g B11) :=
  (fs_cons (fs_if (cmpT C.ct.lt (C.ct.var 1 (by decide +kernel)) (C.ct.call C.ct.len (fa_cons rfl (C.ct.var 0 (by decide +kernel)) fa_nil) (by decide +kernel) (by decide +kernel) rfl) rfl) (fs_one (fs_ret (C.ct.idx (C.ct.var 0 (by decide +kernel)) (C.ct.var 1 (by decide +kernel)) rfl))) fs_nil) (fs_cons (C.asg 2 (C.ct.mod (C.ct.mul fe_int (C.ct.add (C.ct.add (C.ct.mul (C.ct.var 1 (by decide +kernel)) (C.ct.var 1 (by decide +kernel))) (C.ct.mul fe_int (C.ct.var 1 (by decide +kernel)))) fe_int)) fe_int) (by decide +kernel) rfl) (fs_cons (C.fo (C.ct.it (C.ct.slc (C.ct.var 0 (by decide +kernel)) fo_none (fo_some fe_int))) (C.g1 3 (by decide +kernel)) (fun _ C => (fs_one (C.asg 2 (C.ct.mod (C.ct.add (C.ct.mul (C.ct.var 2 (by decide +kernel)) fe_int) (C.ct.var 3 (by decide +kernel))) fe_int) (by decide +kernel) rfl))) rfl) (fs_one (C.rn 2 (by decide +kernel))))))
/-! ### _law_within -/
abbrev S12 : Stmt := top 20
def N12 : List Str := ["_law_graph_here", "_law_part", "_law_pair"]
noncomputable def B12 : Fn.Env → Out := (thenS (callF lenB (consA (compV (.one 2) (itF true (bin2 idxB (varB 0) (litI 1))) (andT (tstF (bin2 (inB false) (bin2 idxB (varB 2) (litI 0)) (varB 1))) (tstF (bin2 (inB false) (bin2 idxB (varB 2) (litI 1)) (varB 1)))) (varB 2) [2]) nilA)) retV)
noncomputable def E12 : En := ⟨"_law_within", 2, defF 3 B12⟩
noncomputable def T13 : List En := T12 ++ [E12]
theorem sc12 : FnScope N12 ["_law_graph_here", "_law_part"] (defScope S12) := ⟨rfl, rfl, rfl, by decide +kernel, rfl, by decide +kernel, by decide +kernel⟩
theorem ok12 {X : Cx} {g : G} {cls : Nat → Value} (C : CS X g cls 12 T12 N12 (defScope S12) bt) : PSs X (defBody S12) (tFS g B12) :=
  (fs_one (fs_ret (C.ct.call C.ct.len (fa_cons rfl (C.ct.lc [("_law_pair", 2)] (C.ct.it (C.ct.idx (C.ct.var 0 (by decide +kernel)) fe_int rfl)) (fun C1 => ⟨(C1.g1 2 (by decide +kernel)), (ifs1 (ft_and (cmpT C1.inn (C1.idx (C1.var 2 (by decide +kernel)) fe_int rfl) (C1.var 1 (by decide +kernel)) rfl) (pw_and1 (cmpT C1.inn (C1.idx (C1.var 2 (by decide +kernel)) fe_int rfl) (C1.var 1 (by decide +kernel)) rfl))).pt), (C1.var 2 (by decide +kernel))⟩) (by decide +kernel)) fa_nil) (by decide +kernel) (by decide +kernel) rfl)))
/-! ### _law_is_less -/
abbrev S13 : Stmt := top 17
def N13 : List Str := ["_law_one", "_law_other"]
noncomputable def B13 : Fn.Env → Out := (thenS (bin2 ltB (bin2 mulB (bin2 idxB (varB 0) (litI 0)) (bin2 idxB (varB 1) (litI 1))) (bin2 mulB (bin2 idxB (varB 1) (litI 0)) (bin2 idxB (varB 0) (litI 1)))) retV)
noncomputable def E13 : En := ⟨"_law_is_less", 2, defF 2 B13⟩
noncomputable def T14 : List En := T13 ++ [E13]
theorem sc13 : FnScope N13 ["_law_one", "_law_other"] (defScope S13) := ⟨rfl, rfl, rfl, by decide +kernel, rfl, by decide +kernel, by decide +kernel⟩
theorem ok13 {X : Cx} {g : G} {cls : Nat → Value} (C : CS X g cls 13 T13 N13 (defScope S13) bt) : PSs X (defBody S13) (tFS g B13) :=
  (fs_one (fs_ret (cmpE C.ct.lt (C.ct.mul (C.ct.idx (C.ct.var 0 (by decide +kernel)) fe_int rfl) (C.ct.idx (C.ct.var 1 (by decide +kernel)) fe_int rfl)) (C.ct.mul (C.ct.idx (C.ct.var 1 (by decide +kernel)) fe_int rfl) (C.ct.idx (C.ct.var 0 (by decide +kernel)) fe_int rfl)) rfl)))
/-! ### law -/
abbrev S14 : Stmt := top 21
def N14 : List Str := ["_law_script", "_law_k", "_law_graph_here", "_law_best", "_law_every", "_law_part", "_law_worth", "_law_name", "_law_found", "_law_number"]
noncomputable def B14_1 : Fn.Env → Out := (putS 4 (varB 7) (litB true))
noncomputable def B14_2 : Fn.Env → Out := (seqS (thenS (ownF E10 (consA (ownF E12 (consA (varB 2) (consA (varB 5) nilA))) (consA (callF lenB (consA (varB 5) nilA)) nilA))) (setV 6)) (seqS (iteS (orT (tstF (bin2 (isB false) (varB 3) litN)) (testV (ownF E13 (consA (varB 3) (consA (varB 6) nilA))))) (seqS (thenS (varB 6) (setV 3)) (thenS newK (setV 4))) nxS) (iteS (tstF (bin2 eqB (varB 6) (varB 3))) (forV (.one 7) (itF false (varB 5)) B14_1) nxS)))
noncomputable def B14_3 : Fn.Env → Out := (seqS (thenS (ownF E1 (consA (ownF E9 (consA (ownF E11 (consA (varB 0) (consA (varB 1) nilA))) (consA (litI 20) nilA))) (consA (litI 7) nilA))) (setV 2)) (seqS (thenS litN (setV 3)) (seqS (thenS newK (setV 4)) (seqS (forV (.one 5) (itF false (ownF E2 (consA (varB 2) nilA))) B14_2) (seqS (thenS (ownF E8 (consA (varB 2) nilA)) (setV 8)) (seqS (iteS (orT (notT (testV (one1 (isiB .tuple) (varB 8)))) (orT (tstF (bin2 neB (varB 8) (callF tupB (consA (varB 3) (consA (callF tupF (consA (callF sortF (consA (varB 4) nilA)) nilA)) nilA))))) (notT (testV (one1 (isiB .tuple) (bin2 idxB (varB 8) (litI 1))))))) (thenS (litB false) retV) nxS) (iteS (testV (callF anyF (consA (compV (.one 9) (itF true (bin2 idxB (varB 8) (litI 0))) yesF (one1 (isiB .bool) (varB 9)) [9]) nilA))) (thenS (litB false) retV) nxS)))))))
noncomputable def B14 : Fn.Env → Out := (seqS (forV (.one 1) (rgF (consA (callF maxF (consA (litI 3) (consA (callF minF (consA (callF lenB (consA (varB 0) nilA)) (consA (litI 6) nilA))) nilA))) nilA)) B14_3) (thenS (litB true) retV))
noncomputable def E14 : En := ⟨"law", 1, defF 10 B14⟩
noncomputable def T15 : List En := T14 ++ [E14]
theorem sc14 : FnScope N14 ["_law_script"] (defScope S14) := ⟨rfl, rfl, rfl, by decide +kernel, rfl, by decide +kernel, by decide +kernel⟩
theorem ok14 {X : Cx} {g : G} {cls : Nat → Value} (C : CS X g cls 14 T14 N14 (defScope S14) bt) : PSs X (defBody S14) (tFS g B14) :=
  (fs_cons (C.fo (C.ct.rg1 (C.ct.call C.ct.max (fa_cons rfl fe_int (fa_cons rfl (C.ct.call C.ct.min (fa_cons rfl (C.ct.call C.ct.len (fa_cons rfl (C.ct.var 0 (by decide +kernel)) fa_nil) (by decide +kernel) (by decide +kernel) rfl) (fa_cons rfl fe_int fa_nil)) (by decide +kernel) (by decide +kernel) rfl) fa_nil)) (by decide +kernel) (by decide +kernel) rfl) (by decide +kernel) rfl) (C.g1 1 (by decide +kernel)) (fun _ C => (fs_cons (C.asg 2 (C.ct.own 1 (fa_cons rfl (C.ct.own 9 (fa_cons rfl (C.ct.own 11 (fa_cons rfl (C.ct.var 0 (by decide +kernel)) (fa_cons rfl (C.ct.var 1 (by decide +kernel)) fa_nil)) rfl rfl (by decide +kernel) rfl) (fa_cons rfl fe_int fa_nil)) rfl rfl (by decide +kernel) rfl) (fa_cons rfl fe_int fa_nil)) rfl rfl (by decide +kernel) rfl) (by decide +kernel) rfl) (fs_cons (C.asg 3 fe_non (by decide +kernel) rfl) (fs_cons (C.asg 4 fe_dicK (by decide +kernel) rfl) (fs_cons (C.fo (C.ct.it (C.ct.own 2 (fa_cons rfl (C.ct.var 2 (by decide +kernel)) fa_nil) rfl rfl (by decide +kernel) rfl)) (C.g1 5 (by decide +kernel)) (fun _ C => (fs_cons (C.asg 6 (C.ct.own 10 (fa_cons rfl (C.ct.own 12 (fa_cons rfl (C.ct.var 2 (by decide +kernel)) (fa_cons rfl (C.ct.var 5 (by decide +kernel)) fa_nil)) rfl rfl (by decide +kernel) rfl) (fa_cons rfl (C.ct.call C.ct.len (fa_cons rfl (C.ct.var 5 (by decide +kernel)) fa_nil) (by decide +kernel) (by decide +kernel) rfl) fa_nil)) rfl rfl (by decide +kernel) rfl) (by decide +kernel) rfl) (fs_cons (fs_if (ft_or (cmpT C.ct.is (C.ct.var 3 (by decide +kernel)) fe_non rfl) (pw_or1 (C.ct.val (C.ct.own 13 (fa_cons rfl (C.ct.var 3 (by decide +kernel)) (fa_cons rfl (C.ct.var 6 (by decide +kernel)) fa_nil)) rfl rfl (by decide +kernel) rfl) rfl))).pt (fs_cons (C.asg 3 (C.ct.var 6 (by decide +kernel)) (by decide +kernel) rfl) (fs_one (C.asg 4 fe_dicK (by decide +kernel) rfl))) fs_nil) (fs_one (fs_if (cmpT C.ct.eq (C.ct.var 6 (by decide +kernel)) (C.ct.var 3 (by decide +kernel)) rfl) (fs_one (C.fo (C.ct.it (C.ct.var 5 (by decide +kernel))) (C.g1 7 (by decide +kernel)) (fun _ C => (fs_one (C.sto 4 (C.ct.var 7 (by decide +kernel)) fe_bl (by decide +kernel) rfl))) rfl)) fs_nil))))) rfl) (fs_cons (C.asg 8 (C.ct.own 8 (fa_cons rfl (C.ct.var 2 (by decide +kernel)) fa_nil) rfl rfl (by decide +kernel) rfl) (by decide +kernel) rfl) (fs_cons (fs_if (ft_or (ft_not (C.ct.val (C.ct.isi .tuple (C.ct.var 8 (by decide +kernel)) rfl (by decide +kernel) (by decide +kernel) boot_tuple rfl) rfl)) (ft_or (cmpT C.ct.ne (C.ct.var 8 (by decide +kernel)) (fe_tup (fa_cons rfl (C.ct.var 3 (by decide +kernel)) (fa_cons rfl (C.ct.call C.ct.tup (fa_cons rfl (C.ct.call C.ct.sort (fa_cons rfl (C.ct.var 4 (by decide +kernel)) fa_nil) (by decide +kernel) (by decide +kernel) rfl) fa_nil) (by decide +kernel) (by decide +kernel) rfl) fa_nil))) rfl) (pw_or1 (ft_not (C.ct.val (C.ct.isi .tuple (C.ct.idx (C.ct.var 8 (by decide +kernel)) fe_int rfl) rfl (by decide +kernel) (by decide +kernel) boot_tuple rfl) rfl))))).pt (fs_one (fs_ret fe_bl)) fs_nil) (fs_one (fs_if (C.ct.val (C.ct.call C.ct.any (fa_cons rfl (C.ct.lc [("_law_number", 9)] (C.ct.it (C.ct.idx (C.ct.var 8 (by decide +kernel)) fe_int rfl)) (fun C1 => ⟨(C1.g1 9 (by decide +kernel)), ifs0, (C1.isi .bool (C1.var 9 (by decide +kernel)) rfl (by decide +kernel) (by decide +kernel) boot_bool rfl)⟩) (by decide +kernel)) fa_nil) (by decide +kernel) (by decide +kernel) rfl) rfl) (fs_one (fs_ret fe_bl)) fs_nil))))))))) rfl) (fs_one (fs_ret fe_bl)))
end K43
namespace K43
open PySem L2 Fn
abbrev nms (xs : List Int) : List D := xs.map D.int
theorem cell_ok (ns : List Int) (k : Nat) (hk : k < 64) : ∃ c : Int, E11.F [.scr ns, .dat (.int (k : Int))] = .ok (.dat (.int c)) := by
  rw [show E11.F = defF 4 B11 from rfl]
  by_cases hl : (k : Int) < (ns.length : Int)
  · refine ⟨ns[k]'(by omega), ?_⟩
    rw [def_rt (by rfl) rfl]
    show outR (B11 [some _, some _, none, none]) = _
    have e := idx_scr (ns := ns) (atI_nat (List.getElem?_eq_getElem (show k < ns.length by omega)))
    simp only [B11, seqS, thenS, bin2, consA, nilA, callF, ownF, tstF, litI, litS, litB, litN, newK, newT, itF, noP, atP, nxS, bkS, ctS, badS, rtN, lockS, one1, testV, notT, andT, orT, iteV, iteS, forV, Res.ok_bind, varB, rd, setV, okV, retV, okRet, retN, bindV, par2, List.getElem?_cons_zero, List.getElem?_cons_succ, List.set_cons_zero, List.set_cons_succ, outR, callV, lenA, toArg, List.map_cons, List.map_nil, retB, List.length_cons, List.length_nil, tstB, truB, Bool.and_self, reduceIte, reduceCtorEq, Bool.false_eq_true, Nat.reduceAdd, Nat.reduceEqDiff, Bool.true_eq_false, Bool.not_true, Bool.not_false, if_true, if_false, lstB0, tupB0, lstB1, tupB1, lstB2, tupB2, lstB3, tupB3, lstB4, tupB4, lstB5, tupB5, lstB6, tupB6, len_scr, lt_ii, decide_eq_true hl, e]
  · have e1 : ∀ s : Int, Sm64 s → ∃ s2 : Int, ∃ r, loopF (.one 3) B11_1 (cutL (nms ns) none (some 3)) [some (.scr ns), some (.dat (.int (k : Int))), some (.dat (.int s)), none] = .nx [some (.scr ns), some (.dat (.int (k : Int))), some (.dat (.int s2)), r] := by
      intro s hs
      obtain ⟨ρ', h1, s2, r, rfl, _⟩ := loop_all (t := .one 3) (body := B11_1) (ds := cutL (nms ns) none (some 3)) (fun _ ρ => ∃ (s2 : Int) (r : Option B), ρ = [some (.scr ns), some (.dat (.int (k : Int))), some (.dat (.int s2)), r] ∧ Sm64 s2) ⟨s, none, rfl, hs⟩ (by
        rintro i d ρ hd ⟨s2, r, rfl, h2⟩
        have hmem : d ∈ nms ns := by
          have := List.mem_of_getElem? hd
          unfold cutL at this
          exact List.mem_of_mem_drop (List.mem_of_mem_take this)
        obtain ⟨z, _, rfl⟩ := List.mem_map.mp hmem
        refine ⟨_, _, rfl, .inl ?_, (s2 * 69621 + z) % 2147483647, some (.dat (.int z)), rfl, ?_⟩
        · show B11_1 [some _, some _, some _, some _] = _
          simp only [B11_1, seqS, thenS, bin2, consA, nilA, callF, ownF, tstF, litI, litS, litB, litN, newK, newT, itF, noP, atP, nxS, bkS, ctS, badS, rtN, lockS, one1, testV, notT, andT, orT, iteV, iteS, forV, Res.ok_bind, varB, rd, setV, okV, retV, okRet, retN, bindV, par2, List.getElem?_cons_zero, List.getElem?_cons_succ, List.set_cons_zero, List.set_cons_succ, outR, callV, lenA, toArg, List.map_cons, List.map_nil, retB, List.length_cons, List.length_nil, tstB, truB, Bool.and_self, reduceIte, reduceCtorEq, Bool.false_eq_true, Nat.reduceAdd, Nat.reduceEqDiff, Bool.true_eq_false, Bool.not_true, Bool.not_false, if_true, if_false, lstB0, tupB0, lstB1, tupB1, lstB2, tupB2, lstB3, tupB3, lstB4, tupB4, lstB5, tupB5, lstB6, tupB6, mul_ok h2 (show Sm64 69621 by decide), add_ii, mod_pos (show (0 : Int) < 2147483647 by decide)]
        · show Int.natAbs _ < _
          omega)
      exact ⟨s2, r, h1⟩
    obtain ⟨s2, r, h2⟩ := e1 (48271 * ((k : Int) * k + 7 * k + 11) % 2147483647) (by show Int.natAbs _ < _; omega)
    refine ⟨s2, ?_⟩
    rw [def_rt (by rfl) rfl]
    show outR (B11 [some _, some _, none, none]) = _
    have kk : (k : Int) * k < 4096 ∧ 0 ≤ (k : Int) * k := by
      have : k * k ≤ 63 * 63 := Nat.mul_le_mul (by omega) (by omega)
      constructor
      · exact_mod_cast (by omega : k * k < 4096)
      · exact_mod_cast Nat.zero_le _
    have sl : sliceB (.scr ns) none (some 3) = .ok (.own (.l (cutL (nms ns) none (some 3)))) := by rfl
    simp only [B11, seqS, thenS, bin2, consA, nilA, callF, ownF, tstF, litI, litS, litB, litN, newK, newT, itF, noP, atP, nxS, bkS, ctS, badS, rtN, lockS, one1, testV, notT, andT, orT, iteV, iteS, forV, Res.ok_bind, varB, rd, setV, okV, retV, okRet, retN, bindV, par2, List.getElem?_cons_zero, List.getElem?_cons_succ, List.set_cons_zero, List.set_cons_succ, outR, callV, lenA, toArg, List.map_cons, List.map_nil, retB, List.length_cons, List.length_nil, tstB, truB, Bool.and_self, reduceIte, reduceCtorEq, Bool.false_eq_true, Nat.reduceAdd, Nat.reduceEqDiff, Bool.true_eq_false, Bool.not_true, Bool.not_false, if_true, if_false, lstB0, tupB0, lstB1, tupB1, lstB2, tupB2, lstB3, tupB3, lstB4, tupB4, lstB5, tupB5, lstB6, tupB6, len_scr, lt_ii, decide_eq_false hl, mul_ok (show Sm64 (k : Int) by show Int.natAbs _ < _; omega) (show Sm64 (k : Int) by show Int.natAbs _ < _; omega), mul_ok (show Sm64 7 by decide) (show Sm64 (k : Int) by show Int.natAbs _ < _; omega), add_ii,
      mul_ok (show Sm64 48271 by decide) (show Sm64 ((k : Int) * k + 7 * k + 11) by show Int.natAbs _ < _; omega), mod_pos (show (0 : Int) < 2147483647 by decide), slcV, partB, sl, frzM, itemsB, seqI, h2]
theorem num_step (c n : Int) (xs : List Int) (s2 d2 i : Int) (hx : xs.length < 1000) (q3 : 0 ≤ s2) (q4 : s2 < 1999999973) (i0 : 0 ≤ i) (i1 : i < 100) : B9_1 [some (.dat (.int c)), some (.dat (.int n)), some (.own (.l (nms xs))), some (.dat (.int s2)), some (.dat (.int d2)), some (.dat (.int i))] =
    .nx [some (.dat (.int c)), some (.dat (.int n)), some (.own (.l (nms (xs ++ [if 0 < d2 then d2 % 1000000 else (s2 * (s2 % 65521 + 40487) + 7 * i + 5) % 1999999973])))), some (.dat (.int ((s2 * (s2 % 65521 + 40487) + 7 * i + 5) % 1999999973))), some (.dat (.int (d2 / 1000000))), some (.dat (.int i))] := by
  have x1 : ∀ a b : Int, idxB (.dat (.lst [.int a, .int b])) (.dat (.int (if decide (0 < d2) = true then 1 else 0))) = .ok (.dat (.int (if 0 < d2 then b else a))) := by
    intro a b
    by_cases z : 0 < d2
    · rw [if_pos (decide_eq_true z), if_pos z]; rfl
    · rw [if_neg (by rw [decide_eq_false z]; decide), if_neg z]; rfl
  have m1 := mul_ok (show Sm64 s2 by show Int.natAbs _ < _; omega) (show Sm64 (s2 % 65521 + 40487) by show Int.natAbs _ < _; omega)
  have m2 := mul_ok (show Sm64 7 by decide) (show Sm64 i by show Int.natAbs _ < _; omega)
  have hz : (nms xs).length < sizeLine := by rw [List.length_map]; exact small1000 (by omega)
  have p1 : ∀ z : Int, modB (.dat (.int z)) (.dat (.int 65521)) = .ok (.dat (.int (z % 65521))) := fun z => mod_pos (by decide)
  have p2 : ∀ z : Int, modB (.dat (.int z)) (.dat (.int 1999999973)) = .ok (.dat (.int (z % 1999999973))) := fun z => mod_pos (by decide)
  have p3 : ∀ z : Int, modB (.dat (.int z)) (.dat (.int 1000000)) = .ok (.dat (.int (z % 1000000))) := fun z => mod_pos (by decide)
  have p4 : ∀ z : Int, divB (.dat (.int z)) (.dat (.int 1000000)) = .ok (.dat (.int (z / 1000000))) := fun z => div_pos (by decide) (by decide)
  simp only [B9_1, seqS, thenS, bin2, consA, nilA, callF, ownF, tstF, litI, litS, litB, litN, newK, newT, itF, noP, atP, nxS, bkS, ctS, badS, rtN, lockS, one1, testV, notT, andT, orT, iteV, iteS, forV, Res.ok_bind, varB, rd, setV, okV, retV, okRet, retN, bindV, par2, List.getElem?_cons_zero, List.getElem?_cons_succ, List.set_cons_zero, List.set_cons_succ, outR, callV, lenA, toArg, List.map_cons, List.map_nil, retB, List.length_cons, List.length_nil, tstB, truB, Bool.and_self, reduceIte, reduceCtorEq, Bool.false_eq_true, Nat.reduceAdd, Nat.reduceEqDiff, Bool.true_eq_false, Bool.not_true, Bool.not_false, if_true, if_false, lstB0, tupB0, lstB1, tupB1, lstB2, tupB2, lstB3, tupB3, lstB4, tupB4, lstB5, tupB5, lstB6, tupB6, m1, m2, p1, p2, p3, p4, add_ii, gt_ii, int_bl, frzM, x1, appV, ownAt, if_pos hz, List.map_append]
theorem num_loop (c : Int) (n : Nat) (hn : n < 100) (s d : Int) (h1 : 0 ≤ s) (h2 : s < 1999999973) : ∃ (xs : List Int) (s2 d2 r : Option B), xs.length = n ∧ loopF (.one 5) B9_1 (rng 0 n) [some (.dat (.int c)), some (.dat (.int (n : Int))), some (.own (.l [])), some (.dat (.int s)), some (.dat (.int d)), none] =
      .nx [some (.dat (.int c)), some (.dat (.int (n : Int))), some (.own (.l (nms xs))), s2, d2, r] := by
  have el : (rng 0 n).length = n := by rw [rng_len]; omega
  obtain ⟨ρ', q1, xs, s2, d2, r, rfl, q2, _⟩ := loop_all (t := .one 5) (body := B9_1) (ds := rng 0 n) (fun i ρ => ∃ (xs : List Int) (s2 d2 : Int) (r : Option B), ρ = [some (.dat (.int c)), some (.dat (.int (n : Int))), some (.own (.l (nms xs))), some (.dat (.int s2)), some (.dat (.int d2)), r] ∧ xs.length = i ∧ 0 ≤ s2 ∧ s2 < 1999999973)
    (ρ := [some (.dat (.int c)), some (.dat (.int (n : Int))), some (.own (.l [])), some (.dat (.int s)), some (.dat (.int d)), none]) ⟨[], s, d, none, rfl, rfl, h1, h2⟩ (by
    rintro i e ρ hd ⟨xs, s2, d2, r, rfl, q2, q3, q4⟩
    obtain ⟨rfl, hi⟩ := rng_get hd
    exact ⟨_, _, rfl, .inl (num_step c n xs s2 d2 (0 + (i : Int)) (by omega) q3 q4 (by omega) (by omega)), _, _, _, _, rfl, by rw [List.length_append, q2]; rfl, by omega, by omega⟩)
  exact ⟨xs, _, _, r, by rw [q2, el], q1⟩
theorem num_a (c n : Int) : thenS (bin2 modB (bin2 mulB (bin2 addB (bin2 modB (varB 0) (litI 1999999973)) (litI 31)) (litI 765432101)) (litI 1999999973)) (setV 3) [some (.dat (.int c)), some (.dat (.int n)), some (.own (.l [])), none, none, none] =
   .nx [some (.dat (.int c)), some (.dat (.int n)), some (.own (.l [])), some (.dat (.int ((c % 1999999973 + 31) * 765432101 % 1999999973))), none, none] := by
  have p2 : ∀ z : Int, modB (.dat (.int z)) (.dat (.int 1999999973)) = .ok (.dat (.int (z % 1999999973))) := fun z => mod_pos (by decide)
  have m1 := mul_ok (show Sm64 (c % 1999999973 + 31) by show Int.natAbs _ < _; omega) (show Sm64 765432101 by decide)
  simp only [seqS, thenS, bin2, consA, nilA, callF, ownF, tstF, litI, litS, litB, litN, newK, newT, itF, noP, atP, nxS, bkS, ctS, badS, rtN, lockS, one1, testV, notT, andT, orT, iteV, iteS, forV, Res.ok_bind, varB, rd, setV, okV, retV, okRet, retN, bindV, par2, List.getElem?_cons_zero, List.getElem?_cons_succ, List.set_cons_zero, List.set_cons_succ, outR, callV, lenA, toArg, List.map_cons, List.map_nil, retB, List.length_cons, List.length_nil, tstB, truB, Bool.and_self, reduceIte, reduceCtorEq, Bool.false_eq_true, Nat.reduceAdd, Nat.reduceEqDiff, Bool.true_eq_false, Bool.not_true, Bool.not_false, if_true, if_false, lstB0, tupB0, lstB1, tupB1, lstB2, tupB2, lstB3, tupB3, lstB4, tupB4, lstB5, tupB5, lstB6, tupB6, p2, add_ii, m1]
theorem num_b (c n x : Int) : ∃ d : Int, iteS (orT (tstF (bin2 ltB (varB 0) (litI 0))) (tstF (bin2 geF (varB 0) (bin2 powB (litI 10) (litI 18))))) (thenS (callF absF (consA (varB 0) nilA)) (setV 4)) nxS [some (.dat (.int c)), some (.dat (.int n)), some (.own (.l [])), some (.dat (.int x)), some (.dat (.int 0)), none] =
   .nx [some (.dat (.int c)), some (.dat (.int n)), some (.own (.l [])), some (.dat (.int x)), some (.dat (.int d)), none] := by
  obtain ⟨big, pw⟩ : ∃ big : Int, powB (.dat (.int 10)) (.dat (.int 18)) = .ok (.dat (.int big)) := ⟨_, pow_ok (by omega) (by omega) (by decide)⟩
  cases h1 : decide (c < 0) with
  | true => exact ⟨(c.natAbs : Int), by simp only [seqS, thenS, bin2, consA, nilA, callF, ownF, tstF, litI, litS, litB, litN, newK, newT, itF, noP, atP, nxS, bkS, ctS, badS, rtN, lockS, one1, testV, notT, andT, orT, iteV, iteS, forV, Res.ok_bind, varB, rd, setV, okV, retV, okRet, retN, bindV, par2, List.getElem?_cons_zero, List.getElem?_cons_succ, List.set_cons_zero, List.set_cons_succ, outR, callV, lenA, toArg, List.map_cons, List.map_nil, retB, List.length_cons, List.length_nil, tstB, truB, Bool.and_self, reduceIte, reduceCtorEq, Bool.false_eq_true, Nat.reduceAdd, Nat.reduceEqDiff, Bool.true_eq_false, Bool.not_true, Bool.not_false, if_true, if_false, lstB0, tupB0, lstB1, tupB1, lstB2, tupB2, lstB3, tupB3, lstB4, tupB4, lstB5, tupB5, lstB6, tupB6, lt_ii, h1, abs_i]⟩
  | false =>
    cases h3 : decide (big ≤ c) with
    | true => exact ⟨(c.natAbs : Int), by simp only [seqS, thenS, bin2, consA, nilA, callF, ownF, tstF, litI, litS, litB, litN, newK, newT, itF, noP, atP, nxS, bkS, ctS, badS, rtN, lockS, one1, testV, notT, andT, orT, iteV, iteS, forV, Res.ok_bind, varB, rd, setV, okV, retV, okRet, retN, bindV, par2, List.getElem?_cons_zero, List.getElem?_cons_succ, List.set_cons_zero, List.set_cons_succ, outR, callV, lenA, toArg, List.map_cons, List.map_nil, retB, List.length_cons, List.length_nil, tstB, truB, Bool.and_self, reduceIte, reduceCtorEq, Bool.false_eq_true, Nat.reduceAdd, Nat.reduceEqDiff, Bool.true_eq_false, Bool.not_true, Bool.not_false, if_true, if_false, lstB0, tupB0, lstB1, tupB1, lstB2, tupB2, lstB3, tupB3, lstB4, tupB4, lstB5, tupB5, lstB6, tupB6, lt_ii, h1, pw, ge_ii, h3, abs_i]⟩
    | false => exact ⟨0, by simp only [seqS, thenS, bin2, consA, nilA, callF, ownF, tstF, litI, litS, litB, litN, newK, newT, itF, noP, atP, nxS, bkS, ctS, badS, rtN, lockS, one1, testV, notT, andT, orT, iteV, iteS, forV, Res.ok_bind, varB, rd, setV, okV, retV, okRet, retN, bindV, par2, List.getElem?_cons_zero, List.getElem?_cons_succ, List.set_cons_zero, List.set_cons_succ, outR, callV, lenA, toArg, List.map_cons, List.map_nil, retB, List.length_cons, List.length_nil, tstB, truB, Bool.and_self, reduceIte, reduceCtorEq, Bool.false_eq_true, Nat.reduceAdd, Nat.reduceEqDiff, Bool.true_eq_false, Bool.not_true, Bool.not_false, if_true, if_false, lstB0, tupB0, lstB1, tupB1, lstB2, tupB2, lstB3, tupB3, lstB4, tupB4, lstB5, tupB5, lstB6, tupB6, lt_ii, h1, pw, ge_ii, h3]⟩
theorem numbers_ok (c : Int) (n : Nat) (hn : n < 100) : ∃ xs : List Int, xs.length = n ∧ E9.F [.dat (.int c), .dat (.int (n : Int))] = .ok (.own (.l (nms xs))) := by
  rw [show E9.F = defF 6 B9 from rfl]
  obtain ⟨d, hd⟩ := num_b c n ((c % 1999999973 + 31) * 765432101 % 1999999973)
  obtain ⟨xs, s2, d2, r, hx, h2⟩ := num_loop c n hn ((c % 1999999973 + 31) * 765432101 % 1999999973) d (by omega) (by omega)
  refine ⟨xs, hx, def_rt (by rfl) ?_⟩
  show outR (B9 [some _, some _, none, none, none, none]) = _
  unfold B9
  have q1 := num_a c n
  generalize (c % 1999999973 + 31) * 765432101 % 1999999973 = z at *
  refine (congrArg outR (seq_nx (ρ' := [some (.dat (.int c)), some (.dat (.int (n : Int))), some (.own (.l [])), none, none, none]) (by simp only [seqS, thenS, bin2, consA, nilA, callF, ownF, tstF, litI, litS, litB, litN, newK, newT, itF, noP, atP, nxS, bkS, ctS, badS, rtN, lockS, one1, testV, notT, andT, orT, iteV, iteS, forV, Res.ok_bind, varB, rd, setV, okV, retV, okRet, retN, bindV, par2, List.getElem?_cons_zero, List.getElem?_cons_succ, List.set_cons_zero, List.set_cons_succ, outR, callV, lenA, toArg, List.map_cons, List.map_nil, retB, List.length_cons, List.length_nil, tstB, truB, Bool.and_self, reduceIte, reduceCtorEq, Bool.false_eq_true, Nat.reduceAdd, Nat.reduceEqDiff, Bool.true_eq_false, Bool.not_true, Bool.not_false, if_true, if_false, lstB0, tupB0, lstB1, tupB1, lstB2, tupB2, lstB3, tupB3, lstB4, tupB4, lstB5, tupB5, lstB6, tupB6]))).trans ?_
  refine (congrArg outR (seq_nx q1)).trans ?_
  refine (congrArg outR (seq_nx (ρ' := [some (.dat (.int c)), some (.dat (.int (n : Int))), some (.own (.l [])), some (.dat (.int z)), some (.dat (.int 0)), none]) (by simp only [seqS, thenS, bin2, consA, nilA, callF, ownF, tstF, litI, litS, litB, litN, newK, newT, itF, noP, atP, nxS, bkS, ctS, badS, rtN, lockS, one1, testV, notT, andT, orT, iteV, iteS, forV, Res.ok_bind, varB, rd, setV, okV, retV, okRet, retN, bindV, par2, List.getElem?_cons_zero, List.getElem?_cons_succ, List.set_cons_zero, List.set_cons_succ, outR, callV, lenA, toArg, List.map_cons, List.map_nil, retB, List.length_cons, List.length_nil, tstB, truB, Bool.and_self, reduceIte, reduceCtorEq, Bool.false_eq_true, Nat.reduceAdd, Nat.reduceEqDiff, Bool.true_eq_false, Bool.not_true, Bool.not_false, if_true, if_false, lstB0, tupB0, lstB1, tupB1, lstB2, tupB2, lstB3, tupB3, lstB4, tupB4, lstB5, tupB5, lstB6, tupB6]))).trans ?_
  refine (congrArg outR (seq_nx hd)).trans ?_
  have e3 : rgF (consA (varB 1) nilA) [some (.dat (.int c)), some (.dat (.int (n : Int))), some (.own (.l [])), some (.dat (.int z)), some (.dat (.int d)), none] = .ok (rng 0 n) :=
    rg_ok (by simp only [seqS, thenS, bin2, consA, nilA, callF, ownF, tstF, litI, litS, litB, litN, newK, newT, itF, noP, atP, nxS, bkS, ctS, badS, rtN, lockS, one1, testV, notT, andT, orT, iteV, iteS, forV, Res.ok_bind, varB, rd, setV, okV, retV, okRet, retN, bindV, par2, List.getElem?_cons_zero, List.getElem?_cons_succ, List.set_cons_zero, List.set_cons_succ, outR, callV, lenA, toArg, List.map_cons, List.map_nil, retB, List.length_cons, List.length_nil, tstB, truB, Bool.and_self, reduceIte, reduceCtorEq, Bool.false_eq_true, Nat.reduceAdd, Nat.reduceEqDiff, Bool.true_eq_false, Bool.not_true, Bool.not_false, if_true, if_false, lstB0, tupB0, lstB1, tupB1, lstB2, tupB2, lstB3, tupB3, lstB4, tupB4, lstB5, tupB5, lstB6, tupB6]) (rng_nat (by omega))
  refine (congrArg outR (seq_nx ((for_ok e3).trans h2))).trans ?_
  simp only [seqS, thenS, bin2, consA, nilA, callF, ownF, tstF, litI, litS, litB, litN, newK, newT, itF, noP, atP, nxS, bkS, ctS, badS, rtN, lockS, one1, testV, notT, andT, orT, iteV, iteS, forV, Res.ok_bind, varB, rd, setV, okV, retV, okRet, retN, bindV, par2, List.getElem?_cons_zero, List.getElem?_cons_succ, List.set_cons_zero, List.set_cons_succ, outR, callV, lenA, toArg, List.map_cons, List.map_nil, retB, List.length_cons, List.length_nil, tstB, truB, Bool.and_self, reduceIte, reduceCtorEq, Bool.false_eq_true, Nat.reduceAdd, Nat.reduceEqDiff, Bool.true_eq_false, Bool.not_true, Bool.not_false, if_true, if_false, lstB0, tupB0, lstB1, tupB1, lstB2, tupB2, lstB3, tupB3, lstB4, tupB4, lstB5, tupB5, lstB6, tupB6]
end K43
namespace K43
open PySem L2 Fn
/-- a text by its signs -/
abbrev sC (l : List Nat) : Str := ⟨l.toArray⟩
theorem sC_inj {a b : List Nat} (h : sC a = sC b) : a = b := by
  injection h with h
  simpa using h
theorem idx_str {x : Str} {k : Int} {c : Nat} (h : atI x.cps.toList k = some c) (hl : x.length ≤ 1000) : idxB (.dat (.str x)) (.dat (.int k)) = .ok (.dat (.str (sC [c]))) := by
  show (match atI x.cps.toList k with | some c => (if x.length ≤ sizeLine then (.ok (.dat (.str ⟨#[c]⟩)) : Res B) else .bad) | none => .bad) = _
  rw [h]
  exact if_pos (le_sz hl)
theorem idxL {ds : List D} {n : Nat} {d : D} (k : Int) (hk : k = (n : Int)) (h : ds[n]? = some d) : idxB (.dat (.lst ds)) (.dat (.int k)) = .ok (.dat d) := by
  subst hk
  exact idx_lst (atI_nat h)
theorem rep_ok {c : Nat} {m : Int} (h1 : 0 ≤ m) (h2 : m ≤ 1000) : mulB (.dat (.str (sC [c]))) (.dat (.int m)) = .ok (.dat (.str (sC (List.replicate m.toNat c)))) := by
  show (if -1000 ≤ m ∧ m ≤ 1000 ∧ (sC [c]).length ≤ 1000 then (.ok (.dat (.str (repS (sC [c]) m))) : Res B) else .bad) = _
  rw [if_pos ⟨by omega, h2, by show 1 ≤ 1000; decide⟩]
  unfold repS
  congr 4
  simp
theorem cat_ok {a b : List Nat} (h : a.length + b.length ≤ 1000) : addB (.dat (.str (sC a))) (.dat (.str (sC b))) = .ok (.dat (.str (sC (a ++ b)))) := by
  show (if (sC a).length + (sC b).length ≤ sizeLine then (.ok (.dat (.str (sC a ++ sC b))) : Res B) else .bad) = _
  rw [if_pos (le_sz (by show a.toArray.size + b.toArray.size ≤ 1000; simpa using h))]
  congr 3
  show (⟨a.toArray ++ b.toArray⟩ : Str) = _
  simp
def abc : Str := "abcdefghijklmnopqrstuvwxyz"
theorem abc_cps : abc.cps.toList = (List.range 26).map (97 + ·) := by decide +kernel
theorem letter {j : Int} (h0 : 0 ≤ j) (h1 : j < 26) : idxB (.dat (.str abc)) (.dat (.int j)) = .ok (.dat (.str (sC [97 + j.toNat]))) := by
  refine idx_str ?_ (by decide +kernel)
  rw [abc_cps]
  have e : j = ((j.toNat : Nat) : Int) := by omega
  have q : ((List.range 26).map (97 + ·))[j.toNat]? = some (97 + j.toNat) := by
    rw [List.getElem?_map, List.getElem?_range (by omega)]
    rfl
  have := atI_nat q
  rw [← e] at this
  exact this
def abc8 : Str := "abcdefgh"
theorem abc8_cps : abc8.cps.toList = (List.range 8).map (97 + ·) := by decide +kernel
theorem letter8 {k : Nat} (h1 : k < 8) : idxB (.dat (.str abc8)) (.dat (.int (k : Int))) = .ok (.dat (.str (sC [97 + k]))) := by
  refine idx_str ?_ (by decide +kernel)
  rw [abc8_cps]
  exact atI_nat (by rw [List.getElem?_map, List.getElem?_range (by omega)]; rfl)
def nmC (x0 x1 x2 x3 : Int) (k : Nat) : List Nat :=
  if x1 % 4 = 1 then (97 + k) :: List.replicate (x3 % 8).toNat (97 + (x2 % 26).toNat)
  else if x1 % 4 = 2 then List.replicate (1 + k) (97 + (x2 % 26).toNat)
  else if x1 % 4 = 3 then [97 + (x2 % 26).toNat, 97 + ((x3 + 5 * (k : Int)) % 26).toNat, 97 + (x0 % 26).toNat]
  else List.replicate (1 + (x2 + 3 * (k : Int)) % (if x3 % 2 = 0 then 1 else 5)).toNat (97 + ((x0 + 7 * (k : Int)) % 26).toNat)
theorem repl_head {n m a b : Nat} (h : List.replicate n a = List.replicate m b) (hn : 0 < n) : a = b := by
  cases n with
  | zero => omega
  | succ n =>
    cases m with
    | zero => simp at h
    | succ m =>
      rw [List.replicate_succ, List.replicate_succ] at h
      injection h
theorem nmC_inj {x0 x1 x2 x3 : Int} {k j : Nat} (hk : k < 8) (hj : j < 8) (h : nmC x0 x1 x2 x3 k = nmC x0 x1 x2 x3 j) : k = j := by
  unfold nmC at h
  split at h
  · injection h with h _
    omega
  · split at h
    · have := congrArg List.length h
      rw [List.length_replicate, List.length_replicate] at this
      omega
    · split at h
      · injection h with _ h
        injection h with h _
        omega
      · have := repl_head h (by split <;> omega)
        omega
theorem nmC_lay (x0 x1 x2 x3 : Int) {k : Nat} (hk : k < 8) : PyData.strOk (sC (nmC x0 x1 x2 x3 k)) = true := by
  have all : ∀ c ∈ nmC x0 x1 x2 x3 k, c < 0x110000 := by
    intro c hc
    unfold nmC at hc
    split at hc
    · rcases List.mem_cons.mp hc with rfl | hc
      · omega
      · have := List.eq_of_mem_replicate hc
        omega
    · split at hc
      · have := List.eq_of_mem_replicate hc
        omega
      · split at hc
        · simp only [List.mem_cons, List.not_mem_nil, or_false] at hc
          rcases hc with rfl | rfl | rfl <;> omega
        · have := List.eq_of_mem_replicate hc
          omega
  show (nmC x0 x1 x2 x3 k).toArray.all (fun c => decide (c < 0x110000)) = true
  rw [List.all_toArray, List.all_eq_true]
  exact fun c hc => decide_eq_true (all c hc)
theorem name_step (x0 x1 x2 x3 n : Int) (r : List D) (found : List D) (hf : found.length < 1000) (k : Nat) (hk : k < 8) (r5 r6 : Option B) : ∃ q5 q6, B0_1 [some (.dat (.lst (.int x0 :: .int x1 :: .int x2 :: .int x3 :: r))), some (.dat (.int n)), some (.dat (.str abc)), some (.own (.l found)), some (.dat (.int (k : Int))), r5, r6] =
    .nx [some (.dat (.lst (.int x0 :: .int x1 :: .int x2 :: .int x3 :: r))), some (.dat (.int n)), some (.dat (.str abc)), some (.own (.l (found ++ [.str (sC (nmC x0 x1 x2 x3 k))]))), some (.dat (.int (k : Int))), q5, q6] := by
  have i0 : idxB (.dat (.lst (.int x0 :: .int x1 :: .int x2 :: .int x3 :: r))) (.dat (.int 0)) = .ok (.dat (.int x0)) := idxL (n := 0) _ rfl rfl
  have i1 : idxB (.dat (.lst (.int x0 :: .int x1 :: .int x2 :: .int x3 :: r))) (.dat (.int 1)) = .ok (.dat (.int x1)) := idxL (n := 1) _ rfl rfl
  have i2 : idxB (.dat (.lst (.int x0 :: .int x1 :: .int x2 :: .int x3 :: r))) (.dat (.int 2)) = .ok (.dat (.int x2)) := idxL (n := 2) _ rfl rfl
  have i3 : idxB (.dat (.lst (.int x0 :: .int x1 :: .int x2 :: .int x3 :: r))) (.dat (.int 3)) = .ok (.dat (.int x3)) := idxL (n := 3) _ rfl rfl
  have m26 : ∀ z : Int, modB (.dat (.int z)) (.dat (.int 26)) = .ok (.dat (.int (z % 26))) := fun z => mod_pos (by decide)
  have m2 : ∀ z : Int, modB (.dat (.int z)) (.dat (.int 2)) = .ok (.dat (.int (z % 2))) := fun z => mod_pos (by decide)
  have m4 : ∀ z : Int, modB (.dat (.int z)) (.dat (.int 4)) = .ok (.dat (.int (z % 4))) := fun z => mod_pos (by decide)
  have m8 : ∀ z : Int, modB (.dat (.int z)) (.dat (.int 8)) = .ok (.dat (.int (z % 8))) := fun z => mod_pos (by decide)
  have mm : ∀ z w : Int, modB (.dat (.int z)) (.dat (.int (if w % 2 = 0 then 1 else 5))) = .ok (.dat (.int (z % (if w % 2 = 0 then 1 else 5)))) := fun z w => mod_pos (by split <;> omega)
  have l5 : ∀ w : Int, idxB (.dat (.lst [.int 1, .int 5])) (.dat (.int (w % 2))) = .ok (.dat (.int (if w % 2 = 0 then 1 else 5))) := by
    intro w
    by_cases z : w % 2 = 0
    · rw [z, if_pos rfl]; exact idxL (n := 0) _ rfl rfl
    · rw [show w % 2 = 1 by omega, if_neg (by decide)]; exact idxL (n := 1) _ rfl rfl
  have k7 := mul_ok (show Sm64 7 by decide) (show Sm64 (k : Int) by show Int.natAbs _ < _; omega)
  have k3 := mul_ok (show Sm64 3 by decide) (show Sm64 (k : Int) by show Int.natAbs _ < _; omega)
  have k5 := mul_ok (show Sm64 5 by decide) (show Sm64 (k : Int) by show Int.natAbs _ < _; omega)
  have lt : ∀ z : Int, idxB (.dat (.str abc)) (.dat (.int (z % 26))) = .ok (.dat (.str (sC [97 + (z % 26).toNat]))) := fun z => letter (by omega) (by omega)
  have r0 : mulB (.dat (.str (sC [97 + ((x0 + 7 * (k : Int)) % 26).toNat]))) (.dat (.int (1 + (x2 + 3 * (k : Int)) % (if x3 % 2 = 0 then 1 else 5)))) = .ok (.dat (.str (sC (List.replicate (1 + (x2 + 3 * (k : Int)) % (if x3 % 2 = 0 then 1 else 5)).toNat (97 + ((x0 + 7 * (k : Int)) % 26).toNat))))) := rep_ok (by split <;> omega) (by split <;> omega)
  have r1 : mulB (.dat (.str (sC [97 + (x2 % 26).toNat]))) (.dat (.int (x3 % 8))) = .ok (.dat (.str (sC (List.replicate (x3 % 8).toNat (97 + (x2 % 26).toNat))))) := rep_ok (by omega) (by omega)
  have r2 : mulB (.dat (.str (sC [97 + (x2 % 26).toNat]))) (.dat (.int (1 + (k : Int)))) = .ok (.dat (.str (sC (List.replicate (1 + (k : Int)).toNat (97 + (x2 % 26).toNat))))) := rep_ok (by omega) (by omega)
  have c1 := cat_ok (a := [97 + k]) (b := List.replicate (x3 % 8).toNat (97 + (x2 % 26).toNat)) (by rw [List.length_replicate]; show 1 + _ ≤ 1000; omega)
  have c3 : ∀ a b c : Nat, addB (.dat (.str (sC [a]))) (.dat (.str (sC [b]))) = .ok (.dat (.str (sC [a, b]))) := fun a b c => cat_ok (by show 2 ≤ 1000; decide)
  have c4 : ∀ a b c : Nat, addB (.dat (.str (sC [a, b]))) (.dat (.str (sC [c]))) = .ok (.dat (.str (sC [a, b, c]))) := fun a b c => cat_ok (by show 3 ≤ 1000; decide)
  have hz : found.length < sizeLine := small1000 (by omega)
  have l8 : idxB (.dat (.str "abcdefgh")) (.dat (.int (k : Int))) = .ok (.dat (.str (sC [97 + k]))) := letter8 hk
  unfold nmC
  by_cases h1 : x1 % 4 = 1
  · have d1 : decide (x1 % 4 = 1) = true := decide_eq_true h1
    have d2 : decide (x1 % 4 = 2) = false := decide_eq_false (by omega)
    have d3 : decide (x1 % 4 = 3) = false := decide_eq_false (by omega)
    rw [if_pos h1]
    exact ⟨_, _, by simp only [B0_1, seqS, thenS, bin2, consA, nilA, callF, ownF, tstF, litI, litS, litB, litN, newK, newT, itF, noP, atP, nxS, bkS, ctS, badS, rtN, lockS, one1, testV, notT, andT, orT, iteV, iteS, forV, Res.ok_bind, varB, rd, setV, okV, retV, okRet, retN, bindV, par2, List.getElem?_cons_zero, List.getElem?_cons_succ, List.set_cons_zero, List.set_cons_succ, outR, callV, lenA, toArg, List.map_cons, List.map_nil, retB, List.length_cons, List.length_nil, tstB, truB, Bool.and_self, reduceIte, reduceCtorEq, Bool.false_eq_true, Nat.reduceAdd, Nat.reduceEqDiff, Bool.true_eq_false, Bool.not_true, Bool.not_false, if_true, if_false, lstB0, tupB0, lstB1, tupB1, lstB2, tupB2, lstB3, tupB3, lstB4, tupB4, lstB5, tupB5, lstB6, tupB6, i0, i1, i2, i3, m26, m2, m4, m8, l5, mm, k7, k3, k5, add_ii, lt, r0, eq_ii, d1, d2, d3, r1, l8, c1, appV, ownAt, if_pos hz, frzM]; rfl⟩
  · rw [if_neg h1]
    have d1 : decide (x1 % 4 = 1) = false := decide_eq_false h1
    by_cases h2 : x1 % 4 = 2
    · have d2 : decide (x1 % 4 = 2) = true := decide_eq_true h2
      have d3 : decide (x1 % 4 = 3) = false := decide_eq_false (by omega)
      rw [if_pos h2]
      have ek : (1 + (k : Int)).toNat = 1 + k := by omega
      rw [ek] at r2
      exact ⟨_, _, by simp only [B0_1, seqS, thenS, bin2, consA, nilA, callF, ownF, tstF, litI, litS, litB, litN, newK, newT, itF, noP, atP, nxS, bkS, ctS, badS, rtN, lockS, one1, testV, notT, andT, orT, iteV, iteS, forV, Res.ok_bind, varB, rd, setV, okV, retV, okRet, retN, bindV, par2, List.getElem?_cons_zero, List.getElem?_cons_succ, List.set_cons_zero, List.set_cons_succ, outR, callV, lenA, toArg, List.map_cons, List.map_nil, retB, List.length_cons, List.length_nil, tstB, truB, Bool.and_self, reduceIte, reduceCtorEq, Bool.false_eq_true, Nat.reduceAdd, Nat.reduceEqDiff, Bool.true_eq_false, Bool.not_true, Bool.not_false, if_true, if_false, lstB0, tupB0, lstB1, tupB1, lstB2, tupB2, lstB3, tupB3, lstB4, tupB4, lstB5, tupB5, lstB6, tupB6, i0, i1, i2, i3, m26, m2, m4, m8, l5, mm, k7, k3, k5, add_ii, lt, r0, eq_ii, d1, d2, d3, r2, appV, ownAt, if_pos hz, frzM]; rfl⟩
    · rw [if_neg h2]
      have d2 : decide (x1 % 4 = 2) = false := decide_eq_false h2
      by_cases h3 : x1 % 4 = 3
      · have d3 : decide (x1 % 4 = 3) = true := decide_eq_true h3
        rw [if_pos h3]
        have c3' := fun a b => c3 a b 0
        exact ⟨_, _, by simp only [B0_1, seqS, thenS, bin2, consA, nilA, callF, ownF, tstF, litI, litS, litB, litN, newK, newT, itF, noP, atP, nxS, bkS, ctS, badS, rtN, lockS, one1, testV, notT, andT, orT, iteV, iteS, forV, Res.ok_bind, varB, rd, setV, okV, retV, okRet, retN, bindV, par2, List.getElem?_cons_zero, List.getElem?_cons_succ, List.set_cons_zero, List.set_cons_succ, outR, callV, lenA, toArg, List.map_cons, List.map_nil, retB, List.length_cons, List.length_nil, tstB, truB, Bool.and_self, reduceIte, reduceCtorEq, Bool.false_eq_true, Nat.reduceAdd, Nat.reduceEqDiff, Bool.true_eq_false, Bool.not_true, Bool.not_false, if_true, if_false, lstB0, tupB0, lstB1, tupB1, lstB2, tupB2, lstB3, tupB3, lstB4, tupB4, lstB5, tupB5, lstB6, tupB6, i0, i1, i2, i3, m26, m2, m4, m8, l5, mm, k7, k3, k5, add_ii, lt, r0, eq_ii, d1, d2, d3, c3', c4, appV, ownAt, if_pos hz, frzM]; rfl⟩
      · have d3 : decide (x1 % 4 = 3) = false := decide_eq_false h3
        rw [if_neg h3]
        exact ⟨_, _, by simp only [B0_1, seqS, thenS, bin2, consA, nilA, callF, ownF, tstF, litI, litS, litB, litN, newK, newT, itF, noP, atP, nxS, bkS, ctS, badS, rtN, lockS, one1, testV, notT, andT, orT, iteV, iteS, forV, Res.ok_bind, varB, rd, setV, okV, retV, okRet, retN, bindV, par2, List.getElem?_cons_zero, List.getElem?_cons_succ, List.set_cons_zero, List.set_cons_succ, outR, callV, lenA, toArg, List.map_cons, List.map_nil, retB, List.length_cons, List.length_nil, tstB, truB, Bool.and_self, reduceIte, reduceCtorEq, Bool.false_eq_true, Nat.reduceAdd, Nat.reduceEqDiff, Bool.true_eq_false, Bool.not_true, Bool.not_false, if_true, if_false, lstB0, tupB0, lstB1, tupB1, lstB2, tupB2, lstB3, tupB3, lstB4, tupB4, lstB5, tupB5, lstB6, tupB6, i0, i1, i2, i3, m26, m2, m4, m8, l5, mm, k7, k3, k5, add_ii, lt, r0, eq_ii, d1, d2, d3, appV, ownAt, if_pos hz, frzM]; rfl⟩
/-- the names: n texts, sorted, no two alike -/
structure Nms (ns : List Str) (n : Nat) : Prop where
  len : ns.length = n
  lay : Lays ns
  nd : ns.Nodup
  srt : (txs ns).Pairwise fun a b => leD a b = true
theorem names_ok (x0 x1 x2 x3 : Int) (r : List Int) (n : Nat) (hn : n ≤ 8) : ∃ ns : List Str, Nms ns n ∧ E0.F [.dat (.lst (nms (x0 :: x1 :: x2 :: x3 :: r))), .dat (.int (n : Int))] = .ok (.own (.l (txs ns))) := by
  rw [show E0.F = defF 7 B0 from rfl]
  have el : (rng 0 n).length = n := by rw [rng_len]; omega
  obtain ⟨ρ', q1, r4, r5, r6, rfl⟩ := loop_all (t := .one 4) (body := B0_1) (ds := rng 0 n) (fun i ρ => ∃ (r4 r5 r6 : Option B), ρ = [some (.dat (.lst (.int x0 :: .int x1 :: .int x2 :: .int x3 :: nms r))), some (.dat (.int (n : Int))), some (.dat (.str abc)), some (.own (.l ((List.range i).map fun k => D.str (sC (nmC x0 x1 x2 x3 k))))), r4, r5, r6])
    (ρ := [some (.dat (.lst (.int x0 :: .int x1 :: .int x2 :: .int x3 :: nms r))), some (.dat (.int (n : Int))), some (.dat (.str abc)), some (.own (.l [])), none, none, none]) ⟨none, none, none, rfl⟩ (by
    rintro i e ρ hd ⟨r4, r5, r6, rfl⟩
    obtain ⟨rfl, hi⟩ := rng_get hd
    obtain ⟨q5, q6, hs⟩ := name_step x0 x1 x2 x3 n (nms r) ((List.range i).map fun k => D.str (sC (nmC x0 x1 x2 x3 k))) (by simp; omega) i (by omega) r5 r6
    refine ⟨[some (.dat (.lst (.int x0 :: .int x1 :: .int x2 :: .int x3 :: nms r))), some (.dat (.int (n : Int))), some (.dat (.str abc)), some (.own (.l ((List.range i).map fun k => D.str (sC (nmC x0 x1 x2 x3 k))))), some (.dat (.int (i : Int))), r5, r6], _, ?_, .inl hs, some (.dat (.int (i : Int))), q5, q6, ?_⟩
    · show some _ = some _
      rw [Int.zero_add]
      rfl
    · rw [List.range_succ, List.map_append]
      rfl)
  rw [el] at q1
  let ns0 : List Str := (List.range n).map fun k => sC (nmC x0 x1 x2 x3 k)
  have e0 : ((List.range n).map fun k => D.str (sC (nmC x0 x1 x2 x3 k))) = txs ns0 := by simp [ns0, txs]
  have lay0 : Lays ns0 := by
    intro x hx
    obtain ⟨k, hk, rfl⟩ := List.mem_map.mp hx
    exact nmC_lay _ _ _ _ (by have := List.mem_range.mp hk; omega)
  have nd0 : ns0.Nodup := by
    refine List.pairwise_map.mpr (List.Pairwise.imp_of_mem (fun {a b} ha hb hne h => ?_) (List.nodup_range (n := n)))
    have := List.mem_range.mp ha
    have := List.mem_range.mp hb
    exact hne (nmC_inj (by omega) (by omega) (sC_inj h))
  have pm := List.mergeSort_perm (txs ns0) leD
  obtain ⟨ns, hns, hp⟩ : ∃ ns : List Str, (txs ns0).mergeSort leD = txs ns ∧ ns.Perm ns0 := by
    have all : ∀ d ∈ (txs ns0).mergeSort leD, ∃ x, d = .str x := fun d hd => by
      obtain ⟨x, _, rfl⟩ := List.mem_map.mp (List.mem_mergeSort.mp hd)
      exact ⟨x, rfl⟩
    obtain ⟨ns, hns⟩ := txs_of all
    exact ⟨ns, hns, txs_perm (by rw [← hns]; exact pm)⟩
  refine ⟨ns, ⟨?_, fun x hx => lay0 x (hp.mem_iff.mp hx), hp.nodup_iff.mpr nd0, by rw [← hns]; exact sortD_pair _⟩, def_rt (by rfl) ?_⟩
  · rw [hp.length_eq]; simp [ns0]
  · show outR (B0 [some _, some _, none, none, none, none, none]) = _
    unfold B0
    refine (congrArg outR (seq_nx (ρ' := [some (.dat (.lst (nms (x0 :: x1 :: x2 :: x3 :: r)))), some (.dat (.int (n : Int))), some (.dat (.str abc)), none, none, none, none]) (by simp only [seqS, thenS, bin2, consA, nilA, callF, ownF, tstF, litI, litS, litB, litN, newK, newT, itF, noP, atP, nxS, bkS, ctS, badS, rtN, lockS, one1, testV, notT, andT, orT, iteV, iteS, forV, Res.ok_bind, varB, rd, setV, okV, retV, okRet, retN, bindV, par2, List.getElem?_cons_zero, List.getElem?_cons_succ, List.set_cons_zero, List.set_cons_succ, outR, callV, lenA, toArg, List.map_cons, List.map_nil, retB, List.length_cons, List.length_nil, tstB, truB, Bool.and_self, reduceIte, reduceCtorEq, Bool.false_eq_true, Nat.reduceAdd, Nat.reduceEqDiff, Bool.true_eq_false, Bool.not_true, Bool.not_false, if_true, if_false, lstB0, tupB0, lstB1, tupB1, lstB2, tupB2, lstB3, tupB3, lstB4, tupB4, lstB5, tupB5, lstB6, tupB6]; rfl))).trans ?_
    refine (congrArg outR (seq_nx (ρ' := [some (.dat (.lst (nms (x0 :: x1 :: x2 :: x3 :: r)))), some (.dat (.int (n : Int))), some (.dat (.str abc)), some (.own (.l [])), none, none, none]) (by simp only [seqS, thenS, bin2, consA, nilA, callF, ownF, tstF, litI, litS, litB, litN, newK, newT, itF, noP, atP, nxS, bkS, ctS, badS, rtN, lockS, one1, testV, notT, andT, orT, iteV, iteS, forV, Res.ok_bind, varB, rd, setV, okV, retV, okRet, retN, bindV, par2, List.getElem?_cons_zero, List.getElem?_cons_succ, List.set_cons_zero, List.set_cons_succ, outR, callV, lenA, toArg, List.map_cons, List.map_nil, retB, List.length_cons, List.length_nil, tstB, truB, Bool.and_self, reduceIte, reduceCtorEq, Bool.false_eq_true, Nat.reduceAdd, Nat.reduceEqDiff, Bool.true_eq_false, Bool.not_true, Bool.not_false, if_true, if_false, lstB0, tupB0, lstB1, tupB1, lstB2, tupB2, lstB3, tupB3, lstB4, tupB4, lstB5, tupB5, lstB6, tupB6]))).trans ?_
    refine (congrArg outR (seq_nx ((for_ok (rg_ok (bs := [.dat (.int (n : Int))]) (by simp only [seqS, thenS, bin2, consA, nilA, callF, ownF, tstF, litI, litS, litB, litN, newK, newT, itF, noP, atP, nxS, bkS, ctS, badS, rtN, lockS, one1, testV, notT, andT, orT, iteV, iteS, forV, Res.ok_bind, varB, rd, setV, okV, retV, okRet, retN, bindV, par2, List.getElem?_cons_zero, List.getElem?_cons_succ, List.set_cons_zero, List.set_cons_succ, outR, callV, lenA, toArg, List.map_cons, List.map_nil, retB, List.length_cons, List.length_nil, tstB, truB, Bool.and_self, reduceIte, reduceCtorEq, Bool.false_eq_true, Nat.reduceAdd, Nat.reduceEqDiff, Bool.true_eq_false, Bool.not_true, Bool.not_false, if_true, if_false, lstB0, tupB0, lstB1, tupB1, lstB2, tupB2, lstB3, tupB3, lstB4, tupB4, lstB5, tupB5, lstB6, tupB6]) (rng_nat (by omega)))).trans q1))).trans ?_
    have so : sortF [.vw (.l (txs ns0))] = .ok (.own (.l (txs ns))) := by
      show (if sortOk (txs ns0) = true then (.ok (.own (.l ((txs ns0).mergeSort leD))) : Res B) else .bad) = _
      rw [if_pos (sortOk_txs lay0), hns]
    rw [e0]
    simp only [seqS, thenS, bin2, consA, nilA, callF, ownF, tstF, litI, litS, litB, litN, newK, newT, itF, noP, atP, nxS, bkS, ctS, badS, rtN, lockS, one1, testV, notT, andT, orT, iteV, iteS, forV, Res.ok_bind, varB, rd, setV, okV, retV, okRet, retN, bindV, par2, List.getElem?_cons_zero, List.getElem?_cons_succ, List.set_cons_zero, List.set_cons_succ, outR, callV, lenA, toArg, List.map_cons, List.map_nil, retB, List.length_cons, List.length_nil, tstB, truB, Bool.and_self, reduceIte, reduceCtorEq, Bool.false_eq_true, Nat.reduceAdd, Nat.reduceEqDiff, Bool.true_eq_false, Bool.not_true, Bool.not_false, if_true, if_false, lstB0, tupB0, lstB1, tupB1, lstB2, tupB2, lstB3, tupB3, lstB4, tupB4, lstB5, tupB5, lstB6, tupB6, so]
end K43
namespace K43
open PySem L2 Fn
abbrev pK (p : Str × Str) : List Key := [Sum.inr p.1, Sum.inr p.2]
abbrev pD (p : Str × Str) : D := .tup [.str p.1, .str p.2]
abbrev pKv (p : Str × Str) : List Key × D := (pK p, .bl true)
theorem put_pair (ps : List (Str × Str)) (p : Str × Str) : putD (ps.map pKv) (pK p) (.bl true) = (if p ∈ ps then ps else ps ++ [p]).map pKv := by
  have inj : ∀ q : Str × Str, (pK q = pK p) ↔ q = p := by
    intro q
    constructor
    · intro h
      simp only [pK, List.cons.injEq, Sum.inr.injEq, and_true] at h
      exact Prod.ext h.1 h.2
    · rintro rfl; rfl
  unfold putD
  have e1 : ((ps.map pKv).any fun kv => decide (kv.1 = pK p)) = decide (p ∈ ps) := by
    rw [List.any_map]
    induction ps with
    | nil => rfl
    | cons q qs ih =>
      rw [List.any_cons, ih]
      simp only [Function.comp, inj, List.mem_cons]
      by_cases h : q = p
      · subst h; simp
      · have h' : ¬ p = q := fun z => h z.symm
        simp [h, h']
  rw [e1]
  by_cases h : p ∈ ps
  · rw [if_pos (decide_eq_true h), if_pos h]
    rw [List.map_map]
    refine List.map_congr_left fun q _ => ?_
    show (if pK q = pK p then (pK q, D.bl true) else pKv q) = pKv q
    split <;> rfl
  · rw [if_neg (by rw [decide_eq_false h]; decide), if_neg h, List.map_append]
    rfl
structure Prs (ns : List Str) (ps : List (Str × Str)) : Prop where
  l : ∀ p ∈ ps, p.1 ∈ ns
  r : ∀ p ∈ ps, p.2 ∈ ns
theorem graph_step (xs : List D) (b1 : B) (ns : List Str) (n : Nat) (h : Nms ns n) (hn : 0 < n) (hn8 : n ≤ 8) (ps : List (Str × Str)) (hp : Prs ns ps) (hl : ps.length < 900) (i : Nat) (z : Int) (hz : xs[6 + i]? = some (.int z)) (r6 r7 : Option B) :
    ∃ ps' q6 q7, Prs ns ps' ∧ ps'.length ≤ ps.length + 1 ∧ B1_1 [some (.dat (.lst xs)), some b1, some (.dat (.int (n : Int))), some (.own (.l (txs ns))), some (.own (.t (ps.map pKv))), some (.dat (.int (i : Int))), r6, r7] =
      .nx [some (.dat (.lst xs)), some b1, some (.dat (.int (n : Int))), some (.own (.l (txs ns))), some (.own (.t (ps'.map pKv))), some (.dat (.int (i : Int))), q6, q7] := by
  have ix : idxB (.dat (.lst xs)) (.dat (.int (6 + (i : Int)))) = .ok (.dat (.int z)) := idxL (n := 6 + i) _ (by omega) hz
  have mn : ∀ z : Int, modB (.dat (.int z)) (.dat (.int (n : Int))) = .ok (.dat (.int (z % (n : Int)))) := fun z => mod_pos (by omega)
  have d8 : ∀ z : Int, divB (.dat (.int z)) (.dat (.int 8)) = .ok (.dat (.int (z / 8))) := fun z => div_pos (by decide) (by decide)
  have s1 : par2 6 7 (bin2 modB (bin2 idxB (varB 0) (bin2 addB (litI 6) (varB 5))) (varB 2)) (bin2 modB (bin2 divB (bin2 idxB (varB 0) (bin2 addB (litI 6) (varB 5))) (litI 8)) (varB 2))
     [some (.dat (.lst xs)), some b1, some (.dat (.int (n : Int))), some (.own (.l (txs ns))), some (.own (.t (ps.map pKv))), some (.dat (.int (i : Int))), r6, r7] =
     .nx [some (.dat (.lst xs)), some b1, some (.dat (.int (n : Int))), some (.own (.l (txs ns))), some (.own (.t (ps.map pKv))), some (.dat (.int (i : Int))), some (.dat (.int (z % n))), some (.dat (.int (z / 8 % n)))] := by
    simp only [seqS, thenS, bin2, consA, nilA, callF, ownF, tstF, litI, litS, litB, litN, newK, newT, itF, noP, atP, nxS, bkS, ctS, badS, rtN, lockS, one1, testV, notT, andT, orT, iteV, iteS, forV, Res.ok_bind, varB, rd, setV, okV, retV, okRet, retN, bindV, par2, List.getElem?_cons_zero, List.getElem?_cons_succ, List.set_cons_zero, List.set_cons_succ, outR, callV, lenA, toArg, List.map_cons, List.map_nil, retB, List.length_cons, List.length_nil, tstB, truB, Bool.and_self, reduceIte, reduceCtorEq, Bool.false_eq_true, Nat.reduceAdd, Nat.reduceEqDiff, Bool.true_eq_false, Bool.not_true, Bool.not_false, if_true, if_false, lstB0, tupB0, lstB1, tupB1, lstB2, tupB2, lstB3, tupB3, lstB4, tupB4, lstB5, tupB5, lstB6, tupB6, ix, mn, d8, add_ii]
  by_cases e : z % (n : Int) = z / 8 % (n : Int)
  · refine ⟨ps, some (.dat (.int (z % n))), some (.dat (.int (z / 8 % n))), hp, by omega, ?_⟩
    unfold B1_1
    refine (seq_nx s1).trans ?_
    simp only [seqS, thenS, bin2, consA, nilA, callF, ownF, tstF, litI, litS, litB, litN, newK, newT, itF, noP, atP, nxS, bkS, ctS, badS, rtN, lockS, one1, testV, notT, andT, orT, iteV, iteS, forV, Res.ok_bind, varB, rd, setV, okV, retV, okRet, retN, bindV, par2, List.getElem?_cons_zero, List.getElem?_cons_succ, List.set_cons_zero, List.set_cons_succ, outR, callV, lenA, toArg, List.map_cons, List.map_nil, retB, List.length_cons, List.length_nil, tstB, truB, Bool.and_self, reduceIte, reduceCtorEq, Bool.false_eq_true, Nat.reduceAdd, Nat.reduceEqDiff, Bool.true_eq_false, Bool.not_true, Bool.not_false, if_true, if_false, lstB0, tupB0, lstB1, tupB1, lstB2, tupB2, lstB3, tupB3, lstB4, tupB4, lstB5, tupB5, lstB6, tupB6, ne_ii, decide_eq_true e]
  · have b : ∀ w : Int, 0 ≤ w → w < n → ∃ s, s ∈ ns ∧ idxB (.vw (.l (txs ns))) (.dat (.int w)) = .ok (.dat (.str s)) := by
      intro w h0 h1
      have hw : w < (ns.length : Int) := by rw [h.len]; exact h1
      refine ⟨ns[w.toNat]'(by omega), List.getElem_mem _, idx_vw ?_⟩
      exact atI_map D.str (atI_lt h0 hw)
    have em : ∀ w : Int, 0 ≤ w % (n : Int) ∧ w % (n : Int) < n := fun w => ⟨Int.emod_nonneg _ (by omega), Int.emod_lt_of_pos _ (by omega)⟩
    have em1 := em z
    have em2 := em (z / 8)
    obtain ⟨s, hs, e1⟩ := b (min (z % n) (z / 8 % n)) (by omega) (by omega)
    obtain ⟨t, ht, e2⟩ := b (max (z % n) (z / 8 % n)) (by omega) (by omega)
    refine ⟨if (s, t) ∈ ps then ps else ps ++ [(s, t)], some (.dat (.int (z % n))), some (.dat (.int (z / 8 % n))), ?_, ?_, ?_⟩
    · constructor
      · intro p hp2
        split at hp2
        · exact hp.l p hp2
        · rcases List.mem_append.mp hp2 with q | q
          · exact hp.l p q
          · rw [List.mem_singleton.mp q]; exact hs
      · intro p hp2
        split at hp2
        · exact hp.r p hp2
        · rcases List.mem_append.mp hp2 with q | q
          · exact hp.r p q
          · rw [List.mem_singleton.mp q]; exact ht
    · split
      · omega
      · rw [List.length_append]; exact Nat.le_refl _
    · unfold B1_1
      refine (seq_nx s1).trans ?_
      have pp := put_ok (i := 4) (fk := callF tupB (consA (bin2 idxB (varB 3) (callF minF (consA (varB 6) (consA (varB 7) nilA)))) (consA (bin2 idxB (varB 3) (callF maxF (consA (varB 6) (consA (varB 7) nilA)))) nilA))) (fv := litB true)
        (ρ := [some (.dat (.lst xs)), some b1, some (.dat (.int (n : Int))), some (.own (.l (txs ns))), some (.own (.t (ps.map pKv))), some (.dat (.int (i : Int))), some (.dat (.int (z % n))), some (.dat (.int (z / 8 % n)))]) (b := .dat (.bl true)) (kb := .dat (.tup [.str s, .str t])) (m := .t (ps.map pKv)) (m' := .t ((if (s, t) ∈ ps then ps else ps ++ [(s, t)]).map pKv)) rfl rfl rfl
        (by simp only [seqS, thenS, bin2, consA, nilA, callF, ownF, tstF, litI, litS, litB, litN, newK, newT, itF, noP, atP, nxS, bkS, ctS, badS, rtN, lockS, one1, testV, notT, andT, orT, iteV, iteS, forV, Res.ok_bind, varB, rd, setV, okV, retV, okRet, retN, bindV, par2, List.getElem?_cons_zero, List.getElem?_cons_succ, List.set_cons_zero, List.set_cons_succ, outR, callV, lenA, toArg, List.map_cons, List.map_nil, retB, List.length_cons, List.length_nil, tstB, truB, Bool.and_self, reduceIte, reduceCtorEq, Bool.false_eq_true, Nat.reduceAdd, Nat.reduceEqDiff, Bool.true_eq_false, Bool.not_true, Bool.not_false, if_true, if_false, lstB0, tupB0, lstB1, tupB1, lstB2, tupB2, lstB3, tupB3, lstB4, tupB4, lstB5, tupB5, lstB6, tupB6, min_ii, max_ii, e1, e2]) (by
          show (if (ps.map pKv).length < sizeLine then some (M.t (putD (ps.map pKv) (pK (s, t)) (.bl true))) else none) = _
          rw [if_pos (small1000 (by rw [List.length_map]; omega)), put_pair])
      have ne : tstF (bin2 neB (varB 6) (varB 7)) [some (.dat (.lst xs)), some b1, some (.dat (.int (n : Int))), some (.own (.l (txs ns))), some (.own (.t (ps.map pKv))), some (.dat (.int (i : Int))), some (.dat (.int (z % n))), some (.dat (.int (z / 8 % n)))] = .ok true := by
        simp only [seqS, thenS, bin2, consA, nilA, callF, ownF, tstF, litI, litS, litB, litN, newK, newT, itF, noP, atP, nxS, bkS, ctS, badS, rtN, lockS, one1, testV, notT, andT, orT, iteV, iteS, forV, Res.ok_bind, varB, rd, setV, okV, retV, okRet, retN, bindV, par2, List.getElem?_cons_zero, List.getElem?_cons_succ, List.set_cons_zero, List.set_cons_succ, outR, callV, lenA, toArg, List.map_cons, List.map_nil, retB, List.length_cons, List.length_nil, tstB, truB, Bool.and_self, reduceIte, reduceCtorEq, Bool.false_eq_true, Nat.reduceAdd, Nat.reduceEqDiff, Bool.true_eq_false, Bool.not_true, Bool.not_false, if_true, if_false, lstB0, tupB0, lstB1, tupB1, lstB2, tupB2, lstB3, tupB3, lstB4, tupB4, lstB5, tupB5, lstB6, tupB6, ne_ii, decide_eq_false e]
      unfold iteS
      rw [ne]
      exact pp
theorem sort_pairs {ns : List Str} {n : Nat} (h : Nms ns n) (ps : List (Str × Str)) (hp : Prs ns ps) : ∃ qs : List (Str × Str), qs.Perm ps ∧ sortF [.vw (.t (ps.map pKv))] = .ok (.own (.l (qs.map pD))) := by
  have e0 : ((ps.map pKv).map fun kv => kD kv.1) = ps.map pD := by
    rw [List.map_map]
    rfl
  have so : sortOk (ps.map pD) = true := by
    unfold sortOk
    rw [toPys_map]
    simp only [Bool.and_eq_true, Bool.or_eq_true, List.all_eq_true, List.mem_map]
    refine ⟨?_, ?_, .inl ?_⟩
    · rintro _ ⟨_, ⟨p, hq, rfl⟩, rfl⟩
      exact (shaped_strs (xs := [p.1, p.2]) (fun x hx => by
        simp only [List.mem_cons, List.not_mem_nil, or_false] at hx
        rcases hx with rfl | rfl
        · exact h.lay _ (hp.l p hq)
        · exact h.lay _ (hp.r p hq))).1
    · rintro _ ⟨_, ⟨p, _, rfl⟩, rfl⟩ _ ⟨_, ⟨q, _, rfl⟩, rfl⟩
      have := alike_txs [p.1, p.2] [q.1, q.2]
      simpa [pD, toPy, PySem.W.alike] using this
    · rintro _ ⟨_, ⟨p, _, rfl⟩, rfl⟩
      rfl
  have pm := List.mergeSort_perm (ps.map pD) leD
  let un : D → Str × Str := fun d => match d with
    | .tup [.str a, .str b] => (a, b)
    | _ => (Str.empty, Str.empty)
  have unD : ∀ p : Str × Str, un (pD p) = p := fun p => rfl
  refine ⟨((ps.map pD).mergeSort leD).map un, ?_, ?_⟩
  · have := pm.map un
    rw [List.map_map, show (un ∘ pD) = id from funext unD, List.map_id] at this
    exact this
  · show (if sortOk ((ps.map pKv).map fun kv => kD kv.1) = true then (.ok (.own (.l (((ps.map pKv).map fun kv => kD kv.1).mergeSort leD))) : Res B) else .bad) = _
    rw [e0, if_pos so]
    congr 3
    rw [List.map_map]
    have : ∀ d ∈ (ps.map pD).mergeSort leD, (pD ∘ un) d = d := fun d hd => by
      obtain ⟨p, _, rfl⟩ := List.mem_map.mp (List.mem_mergeSort.mp hd)
      rfl
    rw [List.map_congr_left this, List.map_id']
/-- a graph's names and pairs -/
structure Gph (ns : List Str) (ps : List (Str × Str)) : Prop where
  nm : Nms ns ns.length
  pos : 0 < ns.length
  le : ns.length ≤ 7
  pr : Prs ns ps
  few : ps.length ≤ 12
abbrev gD (ns : List Str) (ps : List (Str × Str)) : D := .tup [.tup (txs ns), .tup (ps.map pD)]
theorem graph_ok (xs : List Int) (hx : xs.length = 20) : ∃ ns ps, Gph ns ps ∧ E1.F [.dat (.lst (nms xs)), .dat (.int 7)] = .ok (.dat (gD ns ps)) := by
  rw [show E1.F = defF 8 B1 from rfl]
  obtain ⟨x0, ys, rfl⟩ : ∃ x0 ys, xs = x0 :: ys := by cases xs <;> first | (cases hx) | exact ⟨_, _, rfl⟩
  have hy : ys.length = 19 := by simpa using hx
  obtain ⟨y0, y1, y2, y3, rs, rfl⟩ : ∃ y0 y1 y2 y3 rs, ys = y0 :: y1 :: y2 :: y3 :: rs := by
    match ys, hy with
    | y0 :: y1 :: y2 :: y3 :: rs, _ => exact ⟨_, _, _, _, _, rfl⟩
  have hr : rs.length = 15 := by simpa using hy
  have hmod : 0 ≤ x0 % 7 ∧ x0 % 7 < 7 := by omega
  obtain ⟨n, hn⟩ : ∃ n : Nat, (n : Int) = 1 + x0 % 7 := ⟨(1 + x0 % 7).toNat, by omega⟩
  obtain ⟨ns, hN, e0⟩ := names_ok y0 y1 y2 y3 rs n (by omega)
  have hN' : Nms ns ns.length := by rw [hN.len]; exact hN
  generalize hX : nms (x0 :: y0 :: y1 :: y2 :: y3 :: rs) = X at *
  have i0 : idxB (.dat (.lst X)) (.dat (.int 0)) = .ok (.dat (.int x0)) := idxL (n := 0) _ rfl (by rw [← hX]; rfl)
  obtain ⟨z5, h5⟩ : ∃ z, X[5]? = some (D.int z) := ⟨rs[0], by rw [← hX]; simp⟩
  have i5 : idxB (.dat (.lst X)) (.dat (.int 5)) = .ok (.dat (.int z5)) := idxL (n := 5) _ rfl h5
  have hi : ∀ i : Nat, i < 13 → ∃ z, X[6 + i]? = some (D.int z) := by
    intro i hi
    refine ⟨(x0 :: y0 :: y1 :: y2 :: y3 :: rs)[6 + i]'(by simp; omega), ?_⟩
    rw [← hX, List.getElem?_map, List.getElem?_eq_getElem (by simp; omega)]
    rfl
  have s1 : sliceB (.dat (.lst X)) (some 1) none = .ok (.own (.l (nms (y0 :: y1 :: y2 :: y3 :: rs)))) := by
    rw [slc_lst, ← hX]
    exact congrArg (fun l => Res.ok (B.own (M.l l))) (cut_tail _ _)
  obtain ⟨t, ht⟩ : ∃ t : Nat, (t : Int) = z5 % 13 := ⟨(z5 % 13).toNat, by omega⟩
  have ht13 : t < 13 := by omega
  have el : (rng 0 t).length = t := by rw [rng_len]; omega
  obtain ⟨ρ', q1, ps, r5, r6, r7, rfl, hP, hl⟩ := loop_all (t := .one 5) (body := B1_1) (ds := rng 0 t) (fun i ρ => ∃ (ps : List (Str × Str)) (r5 r6 r7 : Option B), ρ = [some (.dat (.lst X)), some (.dat (.int 7)), some (.dat (.int (n : Int))), some (.own (.l (txs ns))), some (.own (.t (ps.map pKv))), r5, r6, r7] ∧ Prs ns ps ∧ ps.length ≤ i)
    (ρ := [some (.dat (.lst X)), some (.dat (.int 7)), some (.dat (.int (n : Int))), some (.own (.l (txs ns))), some (.own (.t [])), none, none, none]) ⟨[], none, none, none, rfl, ⟨(fun p hp => by cases hp), (fun p hp => by cases hp)⟩, Nat.le_refl _⟩ (by
    rintro i e ρ hd ⟨ps, r5, r6, r7, rfl, hP, hl⟩
    obtain ⟨rfl, hi2⟩ := rng_get hd
    obtain ⟨z, hz⟩ := hi i (by omega)
    obtain ⟨ps', q6, q7, a1, a2, a3⟩ := graph_step X (.dat (.int 7)) ns n hN (by omega) (by omega) ps hP (by omega) i z hz r6 r7
    refine ⟨[some (.dat (.lst X)), some (.dat (.int 7)), some (.dat (.int (n : Int))), some (.own (.l (txs ns))), some (.own (.t (ps.map pKv))), some (.dat (.int (i : Int))), r6, r7], _, ?_, .inl a3, ps', some (.dat (.int (i : Int))), q6, q7, rfl, a1, by omega⟩
    show some _ = some _
    rw [Int.zero_add]
    rfl)
  obtain ⟨qs, hq, so⟩ := sort_pairs hN ps hP
  refine ⟨ns, qs, ⟨hN', by rw [hN.len]; omega, by rw [hN.len]; omega, ⟨fun p hp => hP.l p (hq.mem_iff.mp hp), fun p hp => hP.r p (hq.mem_iff.mp hp)⟩, by rw [hq.length_eq]; omega⟩, def_rt (by rfl) ?_⟩
  show outR (B1 [some _, some _, none, none, none, none, none, none]) = _
  unfold B1
  have m7 : modB (.dat (.int x0)) (.dat (.int 7)) = .ok (.dat (.int (x0 % 7))) := mod_pos (by decide)
  have m13 : modB (.dat (.int z5)) (.dat (.int 13)) = .ok (.dat (.int (z5 % 13))) := mod_pos (by decide)
  refine (congrArg outR (seq_nx (ρ' := [some (.dat (.lst X)), some (.dat (.int 7)), some (.dat (.int (n : Int))), none, none, none, none, none]) (by simp only [seqS, thenS, bin2, consA, nilA, callF, ownF, tstF, litI, litS, litB, litN, newK, newT, itF, noP, atP, nxS, bkS, ctS, badS, rtN, lockS, one1, testV, notT, andT, orT, iteV, iteS, forV, Res.ok_bind, varB, rd, setV, okV, retV, okRet, retN, bindV, par2, List.getElem?_cons_zero, List.getElem?_cons_succ, List.set_cons_zero, List.set_cons_succ, outR, callV, lenA, toArg, List.map_cons, List.map_nil, retB, List.length_cons, List.length_nil, tstB, truB, Bool.and_self, reduceIte, reduceCtorEq, Bool.false_eq_true, Nat.reduceAdd, Nat.reduceEqDiff, Bool.true_eq_false, Bool.not_true, Bool.not_false, if_true, if_false, lstB0, tupB0, lstB1, tupB1, lstB2, tupB2, lstB3, tupB3, lstB4, tupB4, lstB5, tupB5, lstB6, tupB6, i0, m7, add_ii, hn]))).trans ?_
  have o1 : ownF E0 (consA (slcV (varB 0) (atP (litI 1)) noP) (consA (varB 2) nilA)) [some (.dat (.lst X)), some (.dat (.int 7)), some (.dat (.int (n : Int))), none, none, none, none, none] = .ok (.own (.l (txs ns))) :=
    own_ok (bs := [.dat (.lst (nms (y0 :: y1 :: y2 :: y3 :: rs))), .dat (.int (n : Int))]) (by simp only [seqS, thenS, bin2, consA, nilA, callF, ownF, tstF, litI, litS, litB, litN, newK, newT, itF, noP, atP, nxS, bkS, ctS, badS, rtN, lockS, one1, testV, notT, andT, orT, iteV, iteS, forV, Res.ok_bind, varB, rd, setV, okV, retV, okRet, retN, bindV, par2, List.getElem?_cons_zero, List.getElem?_cons_succ, List.set_cons_zero, List.set_cons_succ, outR, callV, lenA, toArg, List.map_cons, List.map_nil, retB, List.length_cons, List.length_nil, tstB, truB, Bool.and_self, reduceIte, reduceCtorEq, Bool.false_eq_true, Nat.reduceAdd, Nat.reduceEqDiff, Bool.true_eq_false, Bool.not_true, Bool.not_false, if_true, if_false, lstB0, tupB0, lstB1, tupB1, lstB2, tupB2, lstB3, tupB3, lstB4, tupB4, lstB5, tupB5, lstB6, tupB6, slcV, partB, s1, frzM]) rfl e0 rfl
  refine (congrArg outR (seq_nx (ρ' := [some (.dat (.lst X)), some (.dat (.int 7)), some (.dat (.int (n : Int))), some (.own (.l (txs ns))), none, none, none, none]) (set_ok o1 rfl))).trans ?_
  refine (congrArg outR (seq_nx (ρ' := [some (.dat (.lst X)), some (.dat (.int 7)), some (.dat (.int (n : Int))), some (.own (.l (txs ns))), some (.own (.t [])), none, none, none]) (by simp only [seqS, thenS, bin2, consA, nilA, callF, ownF, tstF, litI, litS, litB, litN, newK, newT, itF, noP, atP, nxS, bkS, ctS, badS, rtN, lockS, one1, testV, notT, andT, orT, iteV, iteS, forV, Res.ok_bind, varB, rd, setV, okV, retV, okRet, retN, bindV, par2, List.getElem?_cons_zero, List.getElem?_cons_succ, List.set_cons_zero, List.set_cons_succ, outR, callV, lenA, toArg, List.map_cons, List.map_nil, retB, List.length_cons, List.length_nil, tstB, truB, Bool.and_self, reduceIte, reduceCtorEq, Bool.false_eq_true, Nat.reduceAdd, Nat.reduceEqDiff, Bool.true_eq_false, Bool.not_true, Bool.not_false, if_true, if_false, lstB0, tupB0, lstB1, tupB1, lstB2, tupB2, lstB3, tupB3, lstB4, tupB4, lstB5, tupB5, lstB6, tupB6]))).trans ?_
  refine (congrArg outR (seq_nx ((for_ok (rg_ok (bs := [.dat (.int (t : Int))]) (by simp only [seqS, thenS, bin2, consA, nilA, callF, ownF, tstF, litI, litS, litB, litN, newK, newT, itF, noP, atP, nxS, bkS, ctS, badS, rtN, lockS, one1, testV, notT, andT, orT, iteV, iteS, forV, Res.ok_bind, varB, rd, setV, okV, retV, okRet, retN, bindV, par2, List.getElem?_cons_zero, List.getElem?_cons_succ, List.set_cons_zero, List.set_cons_succ, outR, callV, lenA, toArg, List.map_cons, List.map_nil, retB, List.length_cons, List.length_nil, tstB, truB, Bool.and_self, reduceIte, reduceCtorEq, Bool.false_eq_true, Nat.reduceAdd, Nat.reduceEqDiff, Bool.true_eq_false, Bool.not_true, Bool.not_false, if_true, if_false, lstB0, tupB0, lstB1, tupB1, lstB2, tupB2, lstB3, tupB3, lstB4, tupB4, lstB5, tupB5, lstB6, tupB6, i5, m13, ht]) (rng_nat (by omega)))).trans q1))).trans ?_
  have l1 : callF tupF (consA (varB 3) nilA) [some (.dat (.lst X)), some (.dat (.int 7)), some (.dat (.int (n : Int))), some (.own (.l (txs ns))), some (.own (.t (ps.map pKv))), r5, r6, r7] = .ok (.dat (.tup (txs ns))) := call_ok (cons_ok rfl nil_ok) rfl
  have l2 : callF tupF (consA (callF sortF (consA (varB 4) nilA)) nilA) [some (.dat (.lst X)), some (.dat (.int 7)), some (.dat (.int (n : Int))), some (.own (.l (txs ns))), some (.own (.t (ps.map pKv))), r5, r6, r7] = .ok (.dat (.tup (qs.map pD))) := call_ok (cons_ok (call_ok (cons_ok rfl nil_ok) so) nil_ok) rfl
  exact congrArg outR (ret_ok (call_ok (cons_ok l1 (cons_ok l2 nil_ok)) tupB2) rfl)
end K43
namespace K43
open PySem L2 Fn
abbrev iN (n : Nat) : B := .dat (.int (n : Int))
theorem gcd_loop (r0 r1 : Option B) : ∀ (b a : Nat), whileC B4_1 B4_2 [r0, r1, some (iN a), some (iN b)] = .nx [r0, r1, some (iN (Nat.gcd a b)), some (iN 0)] := by
  intro b
  induction b using Nat.strongRecOn with
  | ind b ih =>
    intro a
    by_cases hb : b = 0
    · subst hb
      rw [Nat.gcd_zero_right]
      refine whileC_stop ?_
      exact tst_ok (bin_ok (x := iN 0) (y := .dat (.int 0)) rfl rfl (gt_ii.trans (by rw [decide_eq_false (by decide)])))
    · have h1 : B4_1 [r0, r1, some (iN a), some (iN b)] = .ok true :=
        tst_ok (bin_ok (x := iN b) (y := .dat (.int 0)) rfl rfl (gt_ii.trans (by rw [decide_eq_true (by omega)])))
      have h2 : B4_2 [r0, r1, some (iN a), some (iN b)] = .nx [r0, r1, some (iN b), some (iN (a % b))] := by
        have m : modB (iN a) (iN b) = .ok (iN (a % b)) := by
          refine (mod_pos (by omega)).trans ?_
          rw [← Int.natCast_emod]
        simp only [B4_2, seqS, thenS, bin2, consA, nilA, callF, ownF, tstF, litI, litS, litB, litN, newK, newT, itF, noP, atP, nxS, bkS, ctS, badS, rtN, lockS, one1, testV, notT, andT, orT, iteV, iteS, forV, Res.ok_bind, varB, rd, setV, okV, retV, okRet, retN, bindV, par2, List.getElem?_cons_zero, List.getElem?_cons_succ, List.set_cons_zero, List.set_cons_succ, outR, callV, lenA, toArg, List.map_cons, List.map_nil, retB, List.length_cons, List.length_nil, tstB, truB, Bool.and_self, reduceIte, reduceCtorEq, Bool.false_eq_true, Nat.reduceAdd, Nat.reduceEqDiff, Bool.true_eq_false, Bool.not_true, Bool.not_false, if_true, if_false, lstB0, tupB0, lstB1, tupB1, lstB2, tupB2, lstB3, tupB3, lstB4, tupB4, lstB5, tupB5, lstB6, tupB6, m]
      rw [whileC_nx h1 h2, ih (a % b) (Nat.mod_lt _ (by omega)) b]
      rw [Nat.gcd_comm b, ← Nat.gcd_rec, Nat.gcd_comm b a]
def red (t b : Nat) : Nat × Nat := (t / Nat.gcd t b, b / Nat.gcd t b)
abbrev fD (p : Nat × Nat) : D := .tup [.int (p.1 : Int), .int (p.2 : Int)]
theorem gcd_ok (a b : Nat) : E4.F [iN a, iN b] = .ok (iN (Nat.gcd a b)) := by
  rw [show E4.F = defF 4 B4 from rfl]
  refine def_rt (by rfl) ?_
  show outR (B4 [some _, some _, none, none]) = _
  unfold B4
  refine (congrArg outR (seq_nx (ρ' := [some (iN a), some (iN b), some (iN a), some (iN b)]) (by simp only [seqS, thenS, bin2, consA, nilA, callF, ownF, tstF, litI, litS, litB, litN, newK, newT, itF, noP, atP, nxS, bkS, ctS, badS, rtN, lockS, one1, testV, notT, andT, orT, iteV, iteS, forV, Res.ok_bind, varB, rd, setV, okV, retV, okRet, retN, bindV, par2, List.getElem?_cons_zero, List.getElem?_cons_succ, List.set_cons_zero, List.set_cons_succ, outR, callV, lenA, toArg, List.map_cons, List.map_nil, retB, List.length_cons, List.length_nil, tstB, truB, Bool.and_self, reduceIte, reduceCtorEq, Bool.false_eq_true, Nat.reduceAdd, Nat.reduceEqDiff, Bool.true_eq_false, Bool.not_true, Bool.not_false, if_true, if_false, lstB0, tupB0, lstB1, tupB1, lstB2, tupB2, lstB3, tupB3, lstB4, tupB4, lstB5, tupB5, lstB6, tupB6, abs_nat]))).trans ?_
  exact congrArg outR ((seq_nx (gcd_loop _ _ b a)).trans (b := retN 2 _) (c := .rt (iN (Nat.gcd a b))) rfl)
theorem div_nat {a b : Nat} (h : 0 < b) (hb : b < 1000) : divB (iN a) (iN b) = .ok (iN (a / b)) := by
  refine (div_pos (by omega) (by show Int.natAbs _ < _; omega)).trans ?_
  rw [← Int.natCast_ediv]
theorem gcd_pos {t b : Nat} (h : 0 < b) (hb : b < 1000) : 0 < Nat.gcd t b ∧ Nat.gcd t b < 1000 :=
  ⟨Nat.gcd_pos_of_pos_right _ h, Nat.lt_of_le_of_lt (Nat.le_of_dvd h (Nat.gcd_dvd_right t b)) hb⟩
theorem fraction_ok (t b : Nat) (h : 0 < b) (hb : b < 1000) : E5.F [iN t, iN b] = .ok (.dat (fD (red t b))) := by
  rw [show E5.F = defF 3 B5 from rfl]
  refine def_rt (by rfl) ?_
  show outR (B5 [some _, some _, none]) = _
  unfold B5
  obtain ⟨g1, g2⟩ := gcd_pos (t := t) h hb
  have c1 : tstF (bin2 eqB (varB 1) (litI 0)) [some (iN t), some (iN b), none] = .ok false := tst_ok (bin_ok (x := iN b) (y := .dat (.int 0)) rfl rfl (eq_ii.trans (by rw [decide_eq_false (by omega)])))
  refine (congrArg outR (seq_nx (ρ' := [some (iN t), some (iN b), none]) ((if_f c1).trans rfl))).trans ?_
  refine (congrArg outR (seq_nx (ρ' := [some (iN t), some (iN b), some (iN (Nat.gcd t b))]) (set_ok (own_ok (bs := [iN t, iN b]) (cons_ok (x := iN t) rfl (cons_ok (x := iN b) rfl nil_ok)) rfl (gcd_ok t b) rfl) rfl))).trans ?_
  have c2 : tstF (bin2 ltB (varB 1) (litI 0)) [some (iN t), some (iN b), some (iN (Nat.gcd t b))] = .ok false := tst_ok (bin_ok (x := iN b) (y := .dat (.int 0)) rfl rfl (lt_ii.trans (by rw [decide_eq_false (by omega)])))
  refine (congrArg outR (seq_nx (ρ' := [some (iN t), some (iN b), some (iN (Nat.gcd t b))]) ((if_f c2).trans rfl))).trans ?_
  exact congrArg outR (ret_ok (call_ok (cons_ok (bin_ok (x := iN t) (y := iN (Nat.gcd t b)) rfl rfl (div_nat g1 g2)) (cons_ok (bin_ok (x := iN b) (y := iN (Nat.gcd t b)) rfl rfl (div_nat g1 g2)) nil_ok)) tupB2) rfl)
theorem low_ok (t b : Nat) (h : 0 < b) (hb : b < 1000) : E10.F [iN t, iN b] = .ok (.dat (fD (red t b))) := by
  rw [show E10.F = defF 4 B10 from rfl]
  refine def_rt (by rfl) ?_
  show outR (B10 [some _, some _, none, none]) = _
  unfold B10
  obtain ⟨g1, g2⟩ := gcd_pos (t := t) h hb
  refine (congrArg outR (seq_nx (ρ' := [some (iN t), some (iN b), some (iN t), some (iN b)]) (by simp only [seqS, thenS, bin2, consA, nilA, callF, ownF, tstF, litI, litS, litB, litN, newK, newT, itF, noP, atP, nxS, bkS, ctS, badS, rtN, lockS, one1, testV, notT, andT, orT, iteV, iteS, forV, Res.ok_bind, varB, rd, setV, okV, retV, okRet, retN, bindV, par2, List.getElem?_cons_zero, List.getElem?_cons_succ, List.set_cons_zero, List.set_cons_succ, outR, callV, lenA, toArg, List.map_cons, List.map_nil, retB, List.length_cons, List.length_nil, tstB, truB, Bool.and_self, reduceIte, reduceCtorEq, Bool.false_eq_true, Nat.reduceAdd, Nat.reduceEqDiff, Bool.true_eq_false, Bool.not_true, Bool.not_false, if_true, if_false, lstB0, tupB0, lstB1, tupB1, lstB2, tupB2, lstB3, tupB3, lstB4, tupB4, lstB5, tupB5, lstB6, tupB6, abs_nat]))).trans ?_
  refine (congrArg outR (seq_nx (ρ' := [some (iN t), some (iN b), some (iN (Nat.gcd t b)), some (iN 0)]) (gcd_loop _ _ b t))).trans ?_
  have c2 : tstF (bin2 ltB (varB 1) (litI 0)) [some (iN t), some (iN b), some (iN (Nat.gcd t b)), some (iN 0)] = .ok false := tst_ok (bin_ok (x := iN b) (y := .dat (.int 0)) rfl rfl (lt_ii.trans (by rw [decide_eq_false (by omega)])))
  refine (congrArg outR (seq_nx (ρ' := [some (iN t), some (iN b), some (iN (Nat.gcd t b)), some (iN 0)]) ((if_f c2).trans rfl))).trans ?_
  exact congrArg outR (ret_ok (call_ok (cons_ok (bin_ok (x := iN t) (y := iN (Nat.gcd t b)) rfl rfl (div_nat g1 g2)) (cons_ok (bin_ok (x := iN b) (y := iN (Nat.gcd t b)) rfl rfl (div_nat g1 g2)) nil_ok)) tupB2) rfl)
/-! #### lowest terms -/
theorem red_lt {t b t' b' : Nat} (h : 0 < b) (h' : 0 < b') : ((red t b).1 * (red t' b').2 < (red t' b').1 * (red t b).2) ↔ t * b' < t' * b := by
  have g1 : 0 < Nat.gcd t b := Nat.gcd_pos_of_pos_right _ h
  have g2 : 0 < Nat.gcd t' b' := Nat.gcd_pos_of_pos_right _ h'
  obtain ⟨u, hu⟩ := Nat.gcd_dvd_left t b
  obtain ⟨v, hv⟩ := Nat.gcd_dvd_right t b
  obtain ⟨u', hu'⟩ := Nat.gcd_dvd_left t' b'
  obtain ⟨v', hv'⟩ := Nat.gcd_dvd_right t' b'
  have e1 : t / Nat.gcd t b = u := Nat.div_eq_of_eq_mul_right g1 hu
  have e2 : b / Nat.gcd t b = v := Nat.div_eq_of_eq_mul_right g1 hv
  have e3 : t' / Nat.gcd t' b' = u' := Nat.div_eq_of_eq_mul_right g2 hu'
  have e4 : b' / Nat.gcd t' b' = v' := Nat.div_eq_of_eq_mul_right g2 hv'
  show (t / Nat.gcd t b) * (b' / Nat.gcd t' b') < (t' / Nat.gcd t' b') * (b / Nat.gcd t b) ↔ _
  rw [e1, e2, e3, e4]
  generalize Nat.gcd t b = g at *
  generalize Nat.gcd t' b' = k at *
  subst hu hv hu' hv'
  have x1 : g * u * (k * v') = (g * k) * (u * v') := by simp only [Nat.mul_assoc, Nat.mul_left_comm]
  have x2 : k * u' * (g * v) = (g * k) * (u' * v) := by simp only [Nat.mul_assoc, Nat.mul_left_comm]
  rw [x1, x2, Nat.mul_lt_mul_left (Nat.mul_pos g1 g2)]
theorem red_eq {t b t' b' : Nat} (h : 0 < b) (h' : 0 < b') : red t b = red t' b' ↔ t * b' = t' * b := by
  constructor
  · intro e
    have a := red_lt (t := t) (t' := t') h h'
    have c := red_lt (t := t') (t' := t) h' h
    rw [e] at a c
    have := mt a.mpr (Nat.lt_irrefl _)
    have := mt c.mpr (Nat.lt_irrefl _)
    omega
  · intro e
    have g1 : 0 < Nat.gcd t b := Nat.gcd_pos_of_pos_right _ h
    have g2 : 0 < Nat.gcd t' b' := Nat.gcd_pos_of_pos_right _ h'
    have c1 : Nat.Coprime (t / Nat.gcd t b) (b / Nat.gcd t b) := Nat.coprime_div_gcd_div_gcd g1
    have c2 : Nat.Coprime (t' / Nat.gcd t' b') (b' / Nat.gcd t' b') := Nat.coprime_div_gcd_div_gcd g2
    obtain ⟨u, hu⟩ := Nat.gcd_dvd_left t b
    obtain ⟨v, hv⟩ := Nat.gcd_dvd_right t b
    obtain ⟨u', hu'⟩ := Nat.gcd_dvd_left t' b'
    obtain ⟨v', hv'⟩ := Nat.gcd_dvd_right t' b'
    have e1 : t / Nat.gcd t b = u := Nat.div_eq_of_eq_mul_right g1 hu
    have e2 : b / Nat.gcd t b = v := Nat.div_eq_of_eq_mul_right g1 hv
    have e3 : t' / Nat.gcd t' b' = u' := Nat.div_eq_of_eq_mul_right g2 hu'
    have e4 : b' / Nat.gcd t' b' = v' := Nat.div_eq_of_eq_mul_right g2 hv'
    show (t / Nat.gcd t b, b / Nat.gcd t b) = (t' / Nat.gcd t' b', b' / Nat.gcd t' b')
    rw [e1, e2, e3, e4]
    rw [e1, e2] at c1
    rw [e3, e4] at c2
    generalize Nat.gcd t b = g at *
    generalize Nat.gcd t' b' = k at *
    subst hu hv hu' hv'
    have x1 : g * u * (k * v') = (g * k) * (u * v') := by simp only [Nat.mul_assoc, Nat.mul_left_comm]
    have x2 : k * u' * (g * v) = (g * k) * (u' * v) := by simp only [Nat.mul_assoc, Nat.mul_left_comm]
    rw [x1, x2] at e
    have e5 : u * v' = u' * v := Nat.eq_of_mul_eq_mul_left (Nat.mul_pos g1 g2) e
    have d1 : v ∣ v' := (c1.symm).dvd_of_dvd_mul_left (by rw [e5]; exact Nat.dvd_mul_left v u')
    have d2 : v' ∣ v := (c2.symm).dvd_of_dvd_mul_left (by rw [← e5]; exact Nat.dvd_mul_left v' u)
    have ev : v = v' := Nat.dvd_antisymm d1 d2
    subst ev
    have hv0 : 0 < v := Nat.pos_of_mul_pos_left h
    rw [Nat.eq_of_mul_eq_mul_right hv0 e5]
theorem red_le (t b : Nat) : (red t b).1 ≤ t ∧ (red t b).2 ≤ b := ⟨Nat.div_le_self _ _, Nat.div_le_self _ _⟩
theorem below_ok {p q : Nat × Nat} (h1 : p.1 < 10000) (h2 : p.2 < 10000) (h3 : q.1 < 10000) (h4 : q.2 < 10000) : E7.F [.dat (fD p), .dat (fD q)] = .ok (.dat (.bl (decide (p.1 * q.2 < q.1 * p.2)))) := by
  have sm : ∀ n : Nat, n < 10000 → Sm64 (n : Int) := fun n h => by show Int.natAbs _ < _; omega
  rw [show E7.F = defF 2 B7 from rfl]
  refine def_rt (by rfl) ?_
  show outR (B7 [some _, some _]) = _
  have i1 : ∀ (a b : Int), idxB (.dat (.tup [.int a, .int b])) (.dat (.int 0)) = .ok (.dat (.int a)) := fun _ _ => rfl
  have i2 : ∀ (a b : Int), idxB (.dat (.tup [.int a, .int b])) (.dat (.int 1)) = .ok (.dat (.int b)) := fun _ _ => rfl
  have e : decide ((p.1 : Int) * q.2 < q.1 * p.2) = decide (p.1 * q.2 < q.1 * p.2) := by
    congr 1
    exact propext (by constructor <;> (intro h; exact_mod_cast h))
  simp only [B7, seqS, thenS, bin2, consA, nilA, callF, ownF, tstF, litI, litS, litB, litN, newK, newT, itF, noP, atP, nxS, bkS, ctS, badS, rtN, lockS, one1, testV, notT, andT, orT, iteV, iteS, forV, Res.ok_bind, varB, rd, setV, okV, retV, okRet, retN, bindV, par2, List.getElem?_cons_zero, List.getElem?_cons_succ, List.set_cons_zero, List.set_cons_succ, outR, callV, lenA, toArg, List.map_cons, List.map_nil, retB, List.length_cons, List.length_nil, tstB, truB, Bool.and_self, reduceIte, reduceCtorEq, Bool.false_eq_true, Nat.reduceAdd, Nat.reduceEqDiff, Bool.true_eq_false, Bool.not_true, Bool.not_false, if_true, if_false, lstB0, tupB0, lstB1, tupB1, lstB2, tupB2, lstB3, tupB3, lstB4, tupB4, lstB5, tupB5, lstB6, tupB6, i1, i2, mul_ok (sm _ h1) (sm _ h4), mul_ok (sm _ h3) (sm _ h2), lt_ii, e]
theorem isless_ok {p q : Nat × Nat} (h1 : p.1 < 10000) (h2 : p.2 < 10000) (h3 : q.1 < 10000) (h4 : q.2 < 10000) : E13.F [.dat (fD p), .dat (fD q)] = .ok (.dat (.bl (decide (p.1 * q.2 < q.1 * p.2)))) := below_ok h1 h2 h3 h4
end K43
namespace K43
open PySem L2 Fn
/-! ### how many pairs lie within -/
def inP (P : List Str) (p : Str × Str) : Bool := decide (p.1 ∈ P) && decide (p.2 ∈ P)
def cnt (ps : List (Str × Str)) (P : List Str) : Nat := (ps.filter (inP P)).length
abbrev tD (P : List Str) : D := .tup (txs P)
theorem comp_map {t : Tg} {it : Fn.Env → Res (List D)} {c : Fn.Env → Res Bool} {fe : Fn.Env → Res B} {vs : List Nat} {ρ : Fn.Env} {α : Type} {as : List α} {f : α → D} (k : α → Bool) (h : α → D) (h1 : it ρ = .ok (as.map f)) (hl : as.length ≤ 1000) (h2 : ∀ a ∈ as, stepC t c fe (wipeE ρ vs) (f a) = .ok (if k a = true then some (h a) else none)) :
    compV t it c fe vs ρ = .ok (.own (.l ((as.filter k).map h))) := by
  unfold compV
  rw [h1, Res.ok_bind, if_pos (le_sz (by rw [List.length_map]; exact hl))]
  have : ∀ as : List α, (∀ a ∈ as, stepC t c fe (wipeE ρ vs) (f a) = .ok (if k a = true then some (h a) else none)) → mapC (stepC t c fe (wipeE ρ vs)) (as.map f) = .ok ((as.filter k).map h) := by
    intro as
    induction as with
    | nil => intro _; rfl
    | cons a as ih =>
      intro h2
      rw [List.map_cons]
      unfold mapC
      rw [h2 a List.mem_cons_self, Res.ok_bind, ih fun b hb => h2 b (List.mem_cons_of_mem _ hb), Res.ok_bind, List.filter_cons]
      cases k a <;> rfl
  rw [this as h2, Res.ok_bind]
theorem within_ok {ns : List Str} {ps : List (Str × Str)} (G : Gph ns ps) {P : List Str} (hP : Lays P) : E6.F [.dat (gD ns ps), .dat (tD P)] = .ok (iN (cnt ps P)) := by
  rw [show E6.F = defF 3 B6 from rfl]
  refine def_rt (by rfl) ?_
  show outR (B6 [some _, some _, none]) = _
  unfold B6
  have i1 : bin2 idxB (varB 0) (litI 1) [some (.dat (gD ns ps)), some (.dat (tD P)), none] = .ok (.dat (.tup (ps.map pD))) := rfl
  have c : compV (.one 2) (itF true (bin2 idxB (varB 0) (litI 1))) (andT (tstF (bin2 (inB false) (bin2 idxB (varB 2) (litI 0)) (varB 1))) (tstF (bin2 (inB false) (bin2 idxB (varB 2) (litI 1)) (varB 1)))) (varB 2) [2] [some (.dat (gD ns ps)), some (.dat (tD P)), none] = .ok (.own (.l ((ps.filter (inP P)).map pD))) := by
    refine comp_map (f := pD) (inP P) pD (it_ok i1 rfl) (by have := G.few; omega) fun p hp => ?_
    have a1 := in_strs (G.nm.lay _ (G.pr.l p hp)) hP
    have a2 := in_strs (G.nm.lay _ (G.pr.r p hp)) hP
    have ct : andT (tstF (bin2 (inB false) (bin2 idxB (varB 2) (litI 0)) (varB 1))) (tstF (bin2 (inB false) (bin2 idxB (varB 2) (litI 1)) (varB 1))) [some (.dat (gD ns ps)), some (.dat (tD P)), some (.dat (pD p))] = .ok (inP P p) :=
      and_ok (tst_ok (bin_ok (x := .dat (.str p.1)) (y := .dat (tD P)) rfl rfl a1)) fun _ => tst_ok (bin_ok (x := .dat (.str p.2)) (y := .dat (tD P)) rfl rfl a2)
    cases e : inP P p with
    | true => exact step_yes (ρ1 := [some (.dat (gD ns ps)), some (.dat (tD P)), some (.dat (pD p))]) rfl (by rw [ct, e]) (b := .dat (pD p)) rfl rfl
    | false => exact step_no (ρ1 := [some (.dat (gD ns ps)), some (.dat (tD P)), some (.dat (pD p))]) rfl (by rw [ct, e])
  refine congrArg outR (ret_ok (call_ok (cons_ok c nil_ok) (len_lst.trans ?_)) rfl)
  rw [List.length_map]
  rfl
theorem within2_ok {ns : List Str} {ps : List (Str × Str)} (G : Gph ns ps) {P : List Str} (hP : Lays P) : E12.F [.dat (gD ns ps), .dat (tD P)] = .ok (iN (cnt ps P)) := within_ok G hP
/-! ### the parts -/
theorem sub_snoc {l : List Str} {x : Str} {P : List Str} : P.Sublist (l ++ [x]) ↔ P.Sublist l ∨ ∃ Q, P = Q ++ [x] ∧ Q.Sublist l := by
  rw [List.sublist_append_iff]
  constructor
  · rintro ⟨a, b, rfl, h1, h2⟩
    cases h2 with
    | cons _ h => rw [List.sublist_nil.mp h]; exact .inl (by rw [List.append_nil]; exact h1)
    | cons_cons _ h => rw [List.sublist_nil.mp h]; exact .inr ⟨a, rfl, h1⟩
  · rintro (h | ⟨Q, rfl, h⟩)
    · exact ⟨P, [], (List.append_nil _).symm, h, List.nil_sublist _⟩
    · exact ⟨Q, [x], rfl, h, List.Sublist.refl _⟩
theorem cat_tt {P Q : List D} (h : P.length + Q.length ≤ 1000) : addB (.dat (.tup P)) (.dat (.tup Q)) = .ok (.dat (.tup (P ++ Q))) := by
  show (if P.length + Q.length ≤ sizeLine then (.ok (.dat (.tup (P ++ Q))) : Res B) else .bad) = _
  exact if_pos (le_sz h)
theorem cat_vl {P Q : List D} (h : P.length + Q.length ≤ 1000) : addB (.vw (.l P)) (.dat (.lst Q)) = .ok (.own (.l (P ++ Q))) := by
  show (if P.length + Q.length ≤ sizeLine then (.ok (.own (.l (P ++ Q))) : Res B) else .bad) = _
  exact if_pos (le_sz h)
theorem found_step (g : B) (S : List (List Str)) (x : Str) (hS : S.length ≤ 400) (hP : ∀ P ∈ S, P.length ≤ 20) (r3 r4 r5 : Option B) : B3_1 [some g, some (.own (.l (S.map tD))), some (.dat (.str x)), r3, r4, r5] =
    .nx [some g, some (.own (.l ((S ++ S.map (· ++ [x])).map tD))), some (.dat (.str x)), r3, r4, r5] := by
  unfold B3_1
  have c : compV (.one 4) (itF true (varB 1)) yesF (bin2 addB (varB 4) (callF tupB (consA (varB 2) nilA))) [4] [some g, some (.own (.l (S.map tD))), some (.dat (.str x)), r3, r4, r5] = .ok (.own (.l ((S.filter fun _ => true).map fun P => tD (P ++ [x])))) := by
    refine comp_map (f := tD) (fun _ => true) (fun P => tD (P ++ [x])) (it_ok (b := .vw (.l (S.map tD))) rfl rfl) (by omega) fun P hp => ?_
    have e : addB (.dat (tD P)) (.dat (.tup [.str x])) = .ok (.dat (tD (P ++ [x]))) := by
      refine (cat_tt (by rw [List.length_map]; have := hP P hp; show _ + 1 ≤ 1000; omega)).trans ?_
      show Res.ok (B.dat (D.tup ((P.map D.str) ++ [D.str x]))) = Res.ok (B.dat (D.tup ((P ++ [x]).map D.str)))
      rw [List.map_append]
      rfl
    exact step_yes (ρ1 := [some g, some (.own (.l (S.map tD))), some (.dat (.str x)), r3, some (.dat (tD P)), r5]) rfl rfl (bin_ok (x := .dat (tD P)) (y := .dat (.tup [.str x])) rfl (call_ok (cons_ok (x := .dat (.str x)) rfl nil_ok) tupB1) e) rfl
  have fl : (S.filter fun _ => true) = S := List.filter_eq_self.mpr fun _ _ => rfl
  rw [fl] at c
  refine (set_ok (bin_ok (x := .vw (.l (S.map tD))) rfl c (cat_vl (by rw [List.length_map, List.length_map]; omega))) rfl).trans ?_
  rw [List.map_append, List.map_map]
  rfl
abbrev enD (P : List Str) : D := .tup [.int (P.length : Int), tD P]
theorem en_le {P Q : List Str} (h : leD (enD P) (enD Q) = true) : P.length ≤ Q.length := by
  rw [leD_iff] at h
  by_cases c : P.length ≤ Q.length
  · exact c
  · exfalso
    have e : ∀ P : List Str, ∃ r, PySem.W.keyToks (toPy (enD P)) = Sum.inl 1 :: Sum.inl (P.length : Int) :: r := fun P => ⟨_, by simp [toPy, toPys, PySem.W.keyToks, PySem.W.keyToksAll]; rfl⟩
    obtain ⟨r1, h1⟩ := e P
    obtain ⟨r2, h2⟩ := e Q
    rw [h1, h2, PyProof.Rows.lex_self, PyProof.Rows.lex_diff (O := PyProof.Rows.itemOrd) (fun z => by
      have := Sum.inl.inj z
      omega)] at h
    have : decide ((Q.length : Int) < (P.length : Int)) = false := h
    rw [decide_eq_false_iff_not] at this
    omega
theorem sortOk_en {L : List (List Str)} (h : ∀ P ∈ L, Lays P) : sortOk (L.map enD) = true := by
  unfold sortOk
  rw [toPys_map]
  simp only [Bool.and_eq_true, Bool.or_eq_true, List.all_eq_true, List.mem_map]
  refine ⟨?_, ?_, .inl ?_⟩
  · rintro _ ⟨_, ⟨P, hq, rfl⟩, rfl⟩
    obtain ⟨h1, h2⟩ := lay_strs (h P hq)
    show (PyData.canLay0 (.tuple [.int _, .tuple (toPys (txs P))]) && decide (PyData.depth (.tuple [.int _, .tuple (toPys (txs P))]) ≤ 64)) = true
    simp only [PyData.canLay0, PyData.canLayAll0, PyData.depth, PyData.depthAll, h1, h2]
    rfl
  · rintro _ ⟨_, ⟨P, _, rfl⟩, rfl⟩ _ ⟨_, ⟨Q, _, rfl⟩, rfl⟩
    show PySem.W.alike (.tuple [.int _, .tuple (toPys (txs P))]) (.tuple [.int _, .tuple (toPys (txs Q))]) = true
    simp only [PySem.W.alike, PySem.W.alikeAll, alike_txs]
    rfl
  · rintro _ ⟨_, ⟨P, _, rfl⟩, rfl⟩
    rfl
/-- the parts as told: all nonempty ones, the longer ones later -/
structure Pts (ns : List Str) (L : List (List Str)) : Prop where
  mem : ∀ P, P ∈ L ↔ P ≠ [] ∧ P.Sublist ns
  srt : L.Pairwise fun P Q => P.length ≤ Q.length
theorem ne_nil_ok {P : List Str} (hP : Lays P) : neB (.dat (tD P)) (.dat (.tup [])) = .ok (.dat (.bl (!decide (P = [])))) := by
  show ((eqD (tD P) (tD [])).bind fun k => (.ok (.dat (.bl !k)) : Res B)) = _
  unfold eqD
  rw [if_pos (by rw [Bool.and_eq_true]; exact ⟨(shaped_strs hP).1, (shaped_strs (xs := []) fun _ h => by cases h).1⟩), Res.ok_bind]
  congr 3
  show (!PyData.eqv (.tuple (toPys (txs P))) (.tuple (toPys (txs [])))) = _
  simp only [PyData.eqv, eqv_strs]
theorem parts_ok {ns : List Str} {ps : List (Str × Str)} (G : Gph ns ps) : ∃ L : List (List Str), Pts ns L ∧ L.length ≤ 400 ∧ E3.F [.dat (gD ns ps)] = .ok (.own (.l (L.map tD))) := by
  rw [show E3.F = defF 6 B3 from rfl]
  have hle := G.le
  obtain ⟨ρ', q1, S, r2, rfl, hm, hl⟩ := loop_all (t := .one 2) (body := B3_1) (ds := txs ns) (fun i ρ => ∃ (S : List (List Str)) (r2 : Option B), ρ = [some (.dat (gD ns ps)), some (.own (.l (S.map tD))), r2, none, none, none] ∧ (∀ P, P ∈ S ↔ P.Sublist (ns.take i)) ∧ S.length = 2 ^ i)
    (ρ := [some (.dat (gD ns ps)), some (.own (.l [tD []])), none, none, none, none]) ⟨[[]], none, rfl, fun P => by rw [List.take_zero, List.sublist_nil, List.mem_singleton], rfl⟩ (by
    rintro i d ρ hd ⟨S, r2, rfl, hm, hl⟩
    obtain ⟨x, hx, rfl⟩ : ∃ x, ns[i]? = some x ∧ d = .str x := by
      rw [List.getElem?_map] at hd
      cases e : ns[i]? with
      | none => rw [e] at hd; cases hd
      | some x => rw [e] at hd; exact ⟨x, rfl, (Option.some.inj hd).symm⟩
    have hi : i < ns.length := (List.getElem?_eq_some_iff.mp hx).1
    have h7 : 2 ^ i ≤ 2 ^ 7 := Nat.pow_le_pow_right (by omega) (by omega)
    have h7' : (2 : Nat) ^ 7 = 128 := by decide
    have st := found_step (.dat (gD ns ps)) S x (by omega) (fun P hP => by have := ((hm P).mp hP).length_le; rw [List.length_take] at this; omega) none none none
    refine ⟨[some (.dat (gD ns ps)), some (.own (.l (S.map tD))), some (.dat (.str x)), none, none, none], _, rfl, .inl st, S ++ S.map (· ++ [x]), some (.dat (.str x)), rfl, fun P => ?_, ?_⟩
    · have et : ns.take (i + 1) = ns.take i ++ [x] := by
        rw [List.take_add_one, hx]
        rfl
      rw [et, sub_snoc, List.mem_append, hm, List.mem_map]
      constructor
      · rintro (h | ⟨Q, hQ, rfl⟩)
        · exact .inl h
        · exact .inr ⟨Q, rfl, (hm Q).mp hQ⟩
      · rintro (h | ⟨Q, rfl, hQ⟩)
        · exact .inl h
        · exact .inr ⟨Q, (hm Q).mpr hQ, rfl⟩
    · rw [List.length_append, List.length_map, hl, Nat.pow_succ]; omega)
  have h7 : S.length ≤ 128 := by
    rw [hl, List.length_map]
    have : 2 ^ ns.length ≤ 2 ^ 7 := Nat.pow_le_pow_right (by omega) (by omega)
    have h7' : (2 : Nat) ^ 7 = 128 := by decide
    omega
  have mS : ∀ P, P ∈ S ↔ P.Sublist ns := by
    intro P
    rw [hm, List.length_map, List.take_length]
  have layS : ∀ P ∈ S, Lays P := fun P hP x hx => G.nm.lay x (((mS P).mp hP).subset hx)
  let k : List Str → Bool := fun P => !decide (P = [])
  let S1 := S.filter k
  have lay1 : ∀ P ∈ S1, Lays P := fun P hP => layS P ((List.mem_filter.mp hP).1)
  let un : D → List Str := fun d => match d with
    | .tup [_, .tup ds] => ds.map unS
    | _ => []
  have unE : ∀ P : List Str, un (enD P) = P := fun P => unS_txs P
  have pm := List.mergeSort_perm (S1.map enD) leD
  obtain ⟨L, hL, hp⟩ : ∃ L : List (List Str), (S1.map enD).mergeSort leD = L.map enD ∧ L.Perm S1 := by
    refine ⟨((S1.map enD).mergeSort leD).map un, ?_, ?_⟩
    · rw [List.map_map]
      have : ∀ d ∈ (S1.map enD).mergeSort leD, (enD ∘ un) d = d := fun d hd => by
        obtain ⟨P, _, rfl⟩ := List.mem_map.mp (List.mem_mergeSort.mp hd)
        show enD (un (enD P)) = enD P
        rw [unE]
      rw [List.map_congr_left this, List.map_id']
    · have := pm.map un
      rw [List.map_map, show (un ∘ enD) = id from funext unE, List.map_id] at this
      exact this
  have hL1 : S1.length ≤ 128 := Nat.le_trans (List.length_filter_le _ _) h7
  refine ⟨L, ⟨fun P => ?_, ?_⟩, by rw [hp.length_eq]; omega, def_rt (by rfl) ?_⟩
  · rw [hp.mem_iff]
    show P ∈ S.filter k ↔ _
    rw [List.mem_filter, mS]
    show _ ∧ (!decide (P = [])) = true ↔ _
    rw [Bool.not_eq_true', decide_eq_false_iff_not, and_comm]
  · have := sortD_pair (S1.map enD)
    rw [hL, List.pairwise_map] at this
    exact this.imp en_le
  · show outR (B3 [some _, none, none, none, none, none]) = _
    unfold B3
    refine (congrArg outR (seq_nx (ρ' := [some (.dat (gD ns ps)), some (.own (.l [tD []])), none, none, none, none]) (set_ok (call_ok (cons_ok (call_ok nil_ok tupB0) nil_ok) lstB1) rfl))).trans ?_
    have it1 : itF false (bin2 idxB (varB 0) (litI 0)) [some (.dat (gD ns ps)), some (.own (.l [tD []])), none, none, none, none] = .ok (txs ns) := it_ok (b := .dat (.tup (txs ns))) rfl rfl
    refine (congrArg outR (seq_nx ((for_ok it1).trans q1))).trans ?_
    have c1 : compV (.one 4) (itF true (varB 1)) (tstF (bin2 neB (varB 4) (callF tupB nilA))) (callF tupB (consA (callF lenB (consA (varB 4) nilA)) (consA (varB 4) nilA))) [4] [some (.dat (gD ns ps)), some (.own (.l (S.map tD))), r2, none, none, none] = .ok (.own (.l (S1.map enD))) := by
      refine comp_map (f := tD) k enD (it_ok (b := .vw (.l (S.map tD))) rfl rfl) (by omega) fun P hP => ?_
      have ct : tstF (bin2 neB (varB 4) (callF tupB nilA)) [some (.dat (gD ns ps)), some (.own (.l (S.map tD))), r2, none, some (.dat (tD P)), none] = .ok (k P) := tst_ok (bin_ok (x := .dat (tD P)) (y := .dat (.tup [])) rfl (call_ok nil_ok tupB0) (ne_nil_ok (layS P hP)))
      cases e : k P with
      | true =>
        refine step_yes (ρ1 := [some (.dat (gD ns ps)), some (.own (.l (S.map tD))), r2, none, some (.dat (tD P)), none]) rfl (by rw [ct, e]) (b := .dat (enD P)) (call_ok (cons_ok (x := .dat (.int (P.length : Int))) (call_ok (cons_ok (x := .dat (tD P)) rfl nil_ok) ((len_tup).trans (by rw [List.length_map]))) (cons_ok (x := .dat (tD P)) rfl nil_ok)) tupB2) rfl
      | false => exact step_no (ρ1 := [some (.dat (gD ns ps)), some (.own (.l (S.map tD))), r2, none, some (.dat (tD P)), none]) rfl (by rw [ct, e])
    have s1 : sortF [.dat (.lst (S1.map enD))] = .ok (.own (.l (L.map enD))) := by
      show (if sortOk (S1.map enD) = true then (.ok (.own (.l ((S1.map enD).mergeSort leD))) : Res B) else .bad) = _
      rw [if_pos (sortOk_en lay1), hL]
    refine (congrArg outR (seq_nx (ρ' := [some (.dat (gD ns ps)), some (.own (.l (S.map tD))), r2, some (.own (.l (L.map enD))), none, none]) (set_ok (call_ok (cons_ok c1 nil_ok) s1) rfl))).trans ?_
    have c2 : compV (.one 5) (itF true (varB 3)) yesF (bin2 idxB (varB 5) (litI 1)) [5] [some (.dat (gD ns ps)), some (.own (.l (S.map tD))), r2, some (.own (.l (L.map enD))), none, none] = .ok (.own (.l ((L.filter fun _ => true).map tD))) := by
      refine comp_map (f := enD) (fun _ => true) tD (it_ok (b := .vw (.l (L.map enD))) rfl rfl) (by rw [hp.length_eq]; omega) fun P hP => ?_
      exact step_yes (ρ1 := [some (.dat (gD ns ps)), some (.own (.l (S.map tD))), r2, some (.own (.l (L.map enD))), none, some (.dat (enD P))]) rfl rfl (b := .dat (tD P)) rfl rfl
    have fl : (L.filter fun _ => true) = L := List.filter_eq_self.mpr fun _ _ => rfl
    rw [fl] at c2
    exact congrArg outR (ret_ok c2 rfl)
end K43
namespace K43
open PySem L2 Fn
/-- the names at the bits of m -/
def pmR : Nat → List Str → List Str
  | _, [] => []
  | m, x :: xs => if m % 2 = 1 then x :: pmR (m / 2) xs else pmR (m / 2) xs
theorem pmR_zero : ∀ xs : List Str, pmR 0 xs = []
  | [] => rfl
  | x :: xs => by
    unfold pmR
    rw [if_neg (by decide)]
    exact pmR_zero xs
theorem pmR_sub : ∀ (xs : List Str) (m : Nat), (pmR m xs).Sublist xs
  | [], _ => List.Sublist.refl _
  | x :: xs, m => by
    unfold pmR
    split
    · exact (pmR_sub xs _).cons_cons x
    · exact (pmR_sub xs _).cons x
theorem pmR_pos : ∀ (xs : List Str) (m : Nat), 0 < m → m < 2 ^ xs.length → pmR m xs ≠ []
  | [], m, h1, h2 => by
    rw [List.length_nil, Nat.pow_zero] at h2
    omega
  | x :: xs, m, h1, h2 => by
    unfold pmR
    split
    · intro h; cases h
    · rw [List.length_cons, Nat.pow_succ] at h2
      exact pmR_pos xs _ (by omega) (by omega)
theorem pmR_of : ∀ {P xs : List Str}, P.Sublist xs → ∃ m, m < 2 ^ xs.length ∧ pmR m xs = P
  | _, _, .slnil => ⟨0, by decide, rfl⟩
  | _, _, .cons x h => by
    obtain ⟨m, h1, h2⟩ := pmR_of h
    refine ⟨2 * m, by rw [List.length_cons, Nat.pow_succ]; omega, ?_⟩
    unfold pmR
    rw [if_neg (by omega), show 2 * m / 2 = m by omega, h2]
  | _, _, .cons_cons x h => by
    obtain ⟨m, h1, h2⟩ := pmR_of h
    refine ⟨2 * m + 1, by rw [List.length_cons, Nat.pow_succ]; omega, ?_⟩
    unfold pmR
    rw [if_pos (by omega), show (2 * m + 1) / 2 = m by omega, h2]
def pmF (m : Nat) (xs : List Str) : List Str := ((List.range xs.length).filter fun k => decide (m / 2 ^ k % 2 = 1)).map fun k => xs.getD k Str.empty
theorem pmF_eq : ∀ (xs : List Str) (m : Nat), pmF m xs = pmR m xs
  | [], m => rfl
  | x :: xs, m => by
    have ih := pmF_eq xs (m / 2)
    unfold pmR
    unfold pmF at ih ⊢
    rw [List.length_cons, List.range_succ_eq_map, List.filter_cons, Nat.pow_zero, Nat.div_one]
    have e : ((List.map Nat.succ (List.range xs.length)).filter fun k => decide (m / 2 ^ k % 2 = 1)).map (fun k => (x :: xs).getD k Str.empty) = pmR (m / 2) xs := by
      rw [← ih, List.filter_map, List.map_map]
      have : ((fun k => decide (m / 2 ^ k % 2 = 1)) ∘ Nat.succ) = fun k => decide (m / 2 / 2 ^ k % 2 = 1) := by
        funext k
        show decide (m / 2 ^ (k + 1) % 2 = 1) = _
        rw [Nat.pow_succ, Nat.mul_comm, ← Nat.div_div_eq_div_mul]
      rw [this]
      rfl
    by_cases h : m % 2 = 1
    · rw [if_pos h, if_pos (decide_eq_true h), List.map_cons, e]
      rfl
    · rw [if_neg h, if_neg (by rw [decide_eq_false h]; decide), e]
theorem mask_step {ns : List Str} {ps : List (Str × Str)} (G : Gph ns ps) (found : List D) (hf : found.length < 1000) (m : Nat) (r3 : Option B) : B2_1 [some (.dat (gD ns ps)), some (.own (.l found)), some (iN m), r3] =
    .nx [some (.dat (gD ns ps)), some (.own (.l (found ++ [tD (pmR m ns)]))), some (iN m), r3] := by
  unfold B2_1
  have hle := G.le
  have it : rgF (consA (callF lenB (consA (bin2 idxB (varB 0) (litI 0)) nilA)) nilA) [some (.dat (gD ns ps)), some (.own (.l found)), some (iN m), r3] = .ok ((List.range ns.length).map fun (k : Nat) => D.int (k : Int)) := by
    refine rg_ok (bs := [iN ns.length]) (cons_ok (x := iN ns.length) (call_ok (cons_ok (x := .dat (.tup (txs ns))) rfl nil_ok) (len_tup.trans (by rw [List.length_map]))) nil_ok) ((rng_nat (by omega)).trans ?_)
    unfold rng
    rw [show ((ns.length : Int) - 0).toNat = ns.length by omega]
    congr 1
    exact List.map_congr_left fun k _ => by rw [Int.zero_add]
  have c : compV (.one 3) (rgF (consA (callF lenB (consA (bin2 idxB (varB 0) (litI 0)) nilA)) nilA)) (tstF (bin2 eqB (bin2 andB (bin2 shrB (varB 2) (varB 3)) (litI 1)) (litI 1))) (bin2 idxB (bin2 idxB (varB 0) (litI 0)) (varB 3)) [3] [some (.dat (gD ns ps)), some (.own (.l found)), some (iN m), r3] =
      .ok (.own (.l (((List.range ns.length).filter fun k => decide (m / 2 ^ k % 2 = 1)).map fun k => D.str (ns.getD k Str.empty)))) := by
    refine comp_map (f := fun (k : Nat) => D.int (k : Int)) (fun k => decide (m / 2 ^ k % 2 = 1)) (fun k => D.str (ns.getD k Str.empty)) it (by rw [List.length_range]; omega) fun k hk => ?_
    have hk' := List.mem_range.mp hk
    have sh : shrB (iN m) (iN k) = .ok (iN (m / 2 ^ k)) := by
      refine (shr_ok (by omega)).trans ?_
      rw [Int.toNat_natCast]
      congr 3
    have an : andB (iN (m / 2 ^ k)) (.dat (.int 1)) = .ok (iN (m / 2 ^ k % 2)) := by
      have hb : Builtin.bitAnd ((m / 2 ^ k : Nat) : Int) 1 = ((m / 2 ^ k % 2 : Nat) : Int) := by
        have := PySem.W.os_band (m / 2 ^ k) 1
        rw [Nat.and_one_is_mod] at this
        exact this
      exact and_ii.trans (congrArg (fun z => Res.ok (B.dat (D.int z))) hb)
    have ct : tstF (bin2 eqB (bin2 andB (bin2 shrB (varB 2) (varB 3)) (litI 1)) (litI 1)) [some (.dat (gD ns ps)), some (.own (.l found)), some (iN m), some (iN k)] = .ok (decide (m / 2 ^ k % 2 = 1)) := by
      refine tst_ok (bin_ok (x := iN (m / 2 ^ k % 2)) (y := .dat (.int 1)) (bin_ok (x := iN (m / 2 ^ k)) (y := .dat (.int 1)) (bin_ok (x := iN m) (y := iN k) rfl rfl sh) rfl an) rfl (eq_ii.trans ?_))
      exact congrArg (fun z => Res.ok (B.dat (D.bl z))) (decide_eq_decide.mpr (by constructor <;> (intro h; omega)))
    have ix : idxB (.dat (.tup (txs ns))) (iN k) = .ok (.dat (.str (ns.getD k Str.empty))) := by
      refine idx_tup (atI_nat ?_)
      rw [List.getElem?_map, List.getD_eq_getElem?_getD, List.getElem?_eq_getElem hk']
      rfl
    cases e : decide (m / 2 ^ k % 2 = 1) with
    | true => exact step_yes (ρ1 := [some (.dat (gD ns ps)), some (.own (.l found)), some (iN m), some (iN k)]) rfl (by rw [ct, e]) (bin_ok (x := .dat (.tup (txs ns))) (y := iN k) rfl rfl ix) rfl
    | false => exact step_no (ρ1 := [some (.dat (gD ns ps)), some (.own (.l found)), some (iN m), some (iN k)]) rfl (by rw [ct, e])
  have e : (((List.range ns.length).filter fun k => decide (m / 2 ^ k % 2 = 1)).map fun k => D.str (ns.getD k Str.empty)) = txs (pmR m ns) := by
    rw [← pmF_eq]
    show _ = List.map D.str (pmF m ns)
    unfold pmF
    rw [List.map_map]
    rfl
  rw [e] at c
  exact app_ok (ds := found) (b := .dat (tD (pmR m ns))) rfl (call_ok (cons_ok c nil_ok) rfl) rfl (small1000 (by omega))
theorem masks_ok {ns : List Str} {ps : List (Str × Str)} (G : Gph ns ps) : ∃ L : List (List Str), (∀ P, P ∈ L ↔ P ≠ [] ∧ P.Sublist ns) ∧ L.length ≤ 128 ∧ E2.F [.dat (gD ns ps)] = .ok (.own (.l (L.map tD))) := by
  rw [show E2.F = defF 4 B2 from rfl]
  have hle := G.le
  have h7 : 2 ^ ns.length ≤ 2 ^ 7 := Nat.pow_le_pow_right (by omega) (by omega)
  have h7' : (2 : Nat) ^ 7 = 128 := by decide
  have h1 : 1 ≤ 2 ^ ns.length := Nat.one_le_two_pow
  obtain ⟨t, ht⟩ : ∃ t, t + 1 = 2 ^ ns.length := ⟨2 ^ ns.length - 1, by omega⟩
  have el : (rng 1 ((t + 1 : Nat) : Int)).length = t := by rw [rng_len]; omega
  obtain ⟨ρ', q1, r2, rfl⟩ := loop_all (t := .one 2) (body := B2_1) (ds := rng 1 ((t + 1 : Nat) : Int)) (fun i ρ => ∃ (r2 : Option B), ρ = [some (.dat (gD ns ps)), some (.own (.l ((List.range i).map fun j => tD (pmR (1 + j) ns)))), r2, none])
    (ρ := [some (.dat (gD ns ps)), some (.own (.l [])), none, none]) ⟨none, rfl⟩ (by
    rintro i d ρ hd ⟨r2, rfl⟩
    obtain ⟨rfl, hi⟩ := rng_get hd
    refine ⟨[some (.dat (gD ns ps)), some (.own (.l ((List.range i).map fun j => tD (pmR (1 + j) ns)))), some (iN (1 + i)), none], _, ?_, .inl (mask_step G _ (by rw [List.length_map, List.length_range]; omega) (1 + i) none), some (iN (1 + i)), ?_⟩
    · show some _ = some _
      rw [show ((1 : Int) + (i : Int)) = ((1 + i : Nat) : Int) by omega]
      rfl
    · rw [List.range_succ, List.map_append]
      rfl)
  rw [el] at q1
  refine ⟨(List.range t).map fun j => pmR (1 + j) ns, fun P => ?_, by rw [List.length_map, List.length_range]; omega, def_rt (by rfl) ?_⟩
  · rw [List.mem_map]
    constructor
    · rintro ⟨j, hj, rfl⟩
      have := List.mem_range.mp hj
      exact ⟨pmR_pos ns _ (by omega) (by omega), pmR_sub ns _⟩
    · rintro ⟨h0, hs⟩
      obtain ⟨m, hm, rfl⟩ := pmR_of hs
      have : m ≠ 0 := fun z => h0 (by rw [z, pmR_zero])
      exact ⟨m - 1, List.mem_range.mpr (by omega), by rw [show 1 + (m - 1) = m by omega]⟩
  · show outR (B2 [some _, none, none, none]) = _
    unfold B2
    refine (congrArg outR (seq_nx (ρ' := [some (.dat (gD ns ps)), some (.own (.l [])), none, none]) (set_ok (call_ok nil_ok lstB0) rfl))).trans ?_
    have sh : shlB (.dat (.int 1)) (iN ns.length) = .ok (iN (t + 1)) := by
      refine (shl_ok (by omega) (by omega) (by decide)).trans ?_
      rw [Int.toNat_natCast, ht, Int.one_mul]
      congr 3
    have rg : rngA [.dat (.int 1), iN (t + 1)] = .ok (rng 1 ((t + 1 : Nat) : Int)) := by
      unfold rngA
      dsimp only
      rw [if_pos (by constructor <;> omega)]
    refine (congrArg outR (seq_nx ((for_ok (rg_ok (cons_ok (x := .dat (.int 1)) rfl (cons_ok (x := iN (t + 1)) (bin_ok (x := .dat (.int 1)) (y := iN ns.length) rfl (call_ok (cons_ok (x := .dat (.tup (txs ns))) rfl nil_ok) (len_tup.trans (by rw [List.length_map]))) sh) nil_ok)) rg)).trans q1))).trans ?_
    show Res.ok (B.own (M.l _)) = Res.ok (B.own (M.l _))
    rw [List.map_map]
    rfl
end K43
namespace K43
open PySem L2 Fn
/-! ### the mathematics: the densest parts, laid together, are a densest part -/
theorem sub_filter : ∀ {P l : List Str}, P.Sublist l → l.Nodup → l.filter (fun x => decide (x ∈ P)) = P
  | _, _, .slnil, _ => rfl
  | _, _, .cons (l₁ := P) (l₂ := l) x h, nd => by
    have nx := (List.nodup_cons.mp nd).1
    rw [List.filter_cons, if_neg (by rw [decide_eq_false (fun hx => nx (h.subset hx))]; decide)]
    exact sub_filter h (List.nodup_cons.mp nd).2
  | _, _, .cons_cons (l₁ := P) (l₂ := l) x h, nd => by
    have nx := (List.nodup_cons.mp nd).1
    rw [List.filter_cons, if_pos (decide_eq_true List.mem_cons_self)]
    congr 1
    have : l.filter (fun y => decide (y ∈ x :: P)) = l.filter (fun y => decide (y ∈ P)) := by
      refine List.filter_congr fun y hy => ?_
      have : y ≠ x := fun z => nx (z ▸ hy)
      simp [this]
    rw [this]
    exact sub_filter h (List.nodup_cons.mp nd).2
theorem cup_cap (q u : Str → Bool) : ∀ l : List Str, (l.filter fun x => q x || u x).length + (l.filter fun x => q x && u x).length = (l.filter q).length + (l.filter u).length
  | [] => rfl
  | x :: l => by
    have ih := cup_cap q u l
    simp only [List.filter_cons]
    cases q x <;> cases u x <;> simp <;> omega
theorem cup_le (q u : Str → Bool) : ∀ l : List Str, (l.filter u).length ≤ (l.filter fun x => q x || u x).length
  | [] => Nat.le_refl _
  | x :: l => by
    have ih := cup_le q u l
    simp only [List.filter_cons]
    cases q x <;> cases u x <;> simp <;> omega
theorem cup_all (q u : Str → Bool) : ∀ l : List Str, (l.filter fun x => q x || u x).length ≤ (l.filter u).length → ∀ x ∈ l, q x = true → u x = true
  | x :: l, h, y, hy, hq => by
    have ih := cup_all q u l
    have le := cup_le q u l
    simp only [List.filter_cons] at h
    cases e1 : q x <;> cases e2 : u x <;> rw [e1, e2] at h <;> simp at h
    all_goals first
      | (rcases List.mem_cons.mp hy with rfl | hy
         · first | exact e2 | (rw [e1] at hq; cases hq)
         · exact ih (by omega) y hy hq)
      | omega
theorem pairs_count {α : Type} (a b c d : α → Bool) : ∀ l : List α, (∀ x ∈ l, (a x = true → c x = true) ∧ (b x = true → c x = true) ∧ (a x = true → b x = true → d x = true)) → (l.filter a).length + (l.filter b).length ≤ (l.filter c).length + (l.filter d).length
  | [], _ => Nat.le_refl _
  | x :: l, h => by
    have ih := pairs_count a b c d l fun y hy => h y (List.mem_cons_of_mem _ hy)
    obtain ⟨h1, h2, h3⟩ := h x List.mem_cons_self
    simp only [List.filter_cons]
    cases e1 : a x <;> cases e2 : b x <;> cases e3 : c x <;> cases e4 : d x <;> simp_all <;> omega
/-- P is no denser than Q -/
def leW (ps : List (Str × Str)) (P Q : List Str) : Prop := cnt ps P * Q.length ≤ cnt ps Q * P.length
theorem leW_trans {ps : List (Str × Str)} {P Q R : List Str} (hQ : Q ≠ []) (h1 : leW ps P Q) (h2 : leW ps Q R) : leW ps P R := by
  unfold leW at *
  have q : 0 < Q.length := List.length_pos_iff.mpr hQ
  have e1 : cnt ps P * Q.length * R.length ≤ cnt ps Q * P.length * R.length := Nat.mul_le_mul_right _ h1
  have e2 : cnt ps Q * R.length * P.length ≤ cnt ps R * Q.length * P.length := Nat.mul_le_mul_right _ h2
  have e3 : cnt ps P * R.length * Q.length ≤ cnt ps R * P.length * Q.length := by
    have x1 : cnt ps P * R.length * Q.length = cnt ps P * Q.length * R.length := Nat.mul_right_comm _ _ _
    have x2 : cnt ps R * P.length * Q.length = cnt ps R * Q.length * P.length := Nat.mul_right_comm _ _ _
    have x3 : cnt ps Q * P.length * R.length = cnt ps Q * R.length * P.length := Nat.mul_right_comm _ _ _
    omega
  exact Nat.le_of_mul_le_mul_right e3 q
theorem cnt_nil (ps : List (Str × Str)) : cnt ps [] = 0 := by
  unfold cnt
  rw [List.length_eq_zero_iff, List.filter_eq_nil_iff]
  intro p _
  simp [inP]
theorem union_dense {ns : List Str} {ps : List (Str × Str)} (G : Gph ns ps) {U Q : List Str} (hU : U.Sublist ns) (hU0 : U ≠ []) (hQ : Q.Sublist ns) (hmax : ∀ P, P ≠ [] → P.Sublist ns → leW ps P U) (hQm : leW ps U Q)
    (hlong : ∀ P, P ≠ [] → P.Sublist ns → leW ps U P → P.length ≤ U.length) : ∀ x ∈ Q, x ∈ U := by
  let q : Str → Bool := fun x => decide (x ∈ Q)
  let u : Str → Bool := fun x => decide (x ∈ U)
  let W := ns.filter fun x => q x || u x
  let I := ns.filter fun x => q x && u x
  have eQ : ns.filter q = Q := sub_filter hQ G.nm.nd
  have eU : ns.filter u = U := sub_filter hU G.nm.nd
  have len := cup_cap q u ns
  rw [eQ, eU] at len
  have mW : ∀ x, x ∈ W ↔ x ∈ ns ∧ (x ∈ Q ∨ x ∈ U) := fun x => by
    show x ∈ ns.filter _ ↔ _
    rw [List.mem_filter, Bool.or_eq_true, decide_eq_true_eq, decide_eq_true_eq]
  have mI : ∀ x, x ∈ I ↔ x ∈ ns ∧ (x ∈ Q ∧ x ∈ U) := fun x => by
    show x ∈ ns.filter _ ↔ _
    rw [List.mem_filter, Bool.and_eq_true, decide_eq_true_eq, decide_eq_true_eq]
  have inP_iff : ∀ (P : List Str) (p : Str × Str), inP P p = true ↔ p.1 ∈ P ∧ p.2 ∈ P := fun P p => by
    unfold inP
    rw [Bool.and_eq_true, decide_eq_true_eq, decide_eq_true_eq]
  have c := pairs_count (inP Q) (inP U) (inP W) (inP I) ps fun p hp => by
    have n1 := G.pr.l p hp
    have n2 := G.pr.r p hp
    rw [inP_iff, inP_iff, inP_iff, inP_iff, mW, mW, mI, mI]
    exact ⟨fun h => ⟨⟨n1, .inl h.1⟩, ⟨n2, .inl h.2⟩⟩, fun h => ⟨⟨n1, .inr h.1⟩, ⟨n2, .inr h.2⟩⟩, fun h h' => ⟨⟨n1, h.1, h'.1⟩, ⟨n2, h.2, h'.2⟩⟩⟩
  have c' : cnt ps Q + cnt ps U ≤ cnt ps W + cnt ps I := c
  have W0 : W ≠ [] := by
    obtain ⟨x, hx⟩ := List.exists_mem_of_ne_nil U hU0
    exact List.ne_nil_of_mem ((mW x).mpr ⟨hU.subset hx, .inr hx⟩)
  have Isub : I.Sublist ns := List.filter_sublist
  have Wsub : W.Sublist ns := List.filter_sublist
  have hI : cnt ps I * U.length ≤ cnt ps U * I.length := by
    by_cases z : I = []
    · rw [z, cnt_nil]; simp
    · exact hmax I z Isub
  have hQ' : cnt ps U * Q.length ≤ cnt ps Q * U.length := hQm
  have lenW : W.length + I.length = Q.length + U.length := len
  have dW : leW ps U W := by
    show cnt ps U * W.length ≤ cnt ps W * U.length
    have e1 : (cnt ps Q + cnt ps U) * U.length ≤ (cnt ps W + cnt ps I) * U.length := Nat.mul_le_mul_right _ c'
    have e2 : cnt ps U * (W.length + I.length) = cnt ps U * (Q.length + U.length) := by rw [lenW]
    rw [Nat.add_mul, Nat.add_mul] at e1
    rw [Nat.mul_add, Nat.mul_add] at e2
    omega
  have lW : W.length ≤ U.length := hlong W W0 Wsub dW
  intro x hx
  have := cup_all q u ns (by rw [eU]; exact lW) x (hQ.subset hx) (decide_eq_true hx)
  exact of_decide_eq_true this
end K43
namespace K43
open PySem L2 Fn
def worth (ps : List (Str × Str)) (P : List Str) : Nat × Nat := red (cnt ps P) P.length
section
variable {ns : List Str} {ps : List (Str × Str)}
theorem part_len (G : Gph ns ps) {P : List Str} (h : P ≠ [] ∧ P.Sublist ns) : 0 < P.length ∧ P.length ≤ 7 ∧ Lays P :=
  ⟨List.length_pos_iff.mpr h.1, Nat.le_trans h.2.length_le G.le, fun x hx => G.nm.lay x (h.2.subset hx)⟩
theorem cnt_le (G : Gph ns ps) (P : List Str) : cnt ps P ≤ 12 := Nat.le_trans (List.length_filter_le _ _) G.few
theorem worth_sm (G : Gph ns ps) {P : List Str} (h : P ≠ [] ∧ P.Sublist ns) : (worth ps P).1 < 10000 ∧ (worth ps P).2 < 10000 := by
  have := red_le (cnt ps P) P.length
  have := cnt_le G P
  have := part_len G h
  unfold worth
  omega
theorem worth_lt {P Q : List Str} (hP : 0 < P.length) (hQ : 0 < Q.length) : ((worth ps P).1 * (worth ps Q).2 < (worth ps Q).1 * (worth ps P).2) ↔ ¬ leW ps Q P := by
  unfold worth leW
  rw [red_lt hP hQ]
  omega
theorem worth_eq {P Q : List Str} (hP : 0 < P.length) (hQ : 0 < Q.length) : worth ps P = worth ps Q ↔ leW ps P Q ∧ leW ps Q P := by
  unfold worth leW
  rw [red_eq hP hQ]
  omega
/-! #### the program's best -/
theorem fr_ok (G : Gph ns ps) {P : List Str} (h : P ≠ [] ∧ P.Sublist ns) {ρ : Fn.Env} (e1 : varB 0 ρ = .ok (.dat (gD ns ps))) (e2 : varB 2 ρ = .ok (.dat (tD P))) :
    ownF E5 (consA (ownF E6 (consA (varB 0) (consA (varB 2) nilA))) (consA (callF lenB (consA (varB 2) nilA)) nilA)) ρ = .ok (.dat (fD (worth ps P))) := by
  obtain ⟨p1, p2, p3⟩ := part_len G h
  refine own_ok (bs := [iN (cnt ps P), iN P.length]) (cons_ok (x := iN (cnt ps P)) (own_ok (bs := [.dat (gD ns ps), .dat (tD P)]) (cons_ok e1 (cons_ok e2 nil_ok)) rfl (within_ok G p3) rfl) (cons_ok (x := iN P.length) (call_ok (cons_ok e2 nil_ok) (len_tup.trans (by rw [List.length_map]))) nil_ok)) rfl (fraction_ok _ _ p1 (by omega)) rfl
abbrev bestD (ps : List (Str × Str)) (P : List Str) : D := .tup [fD (worth ps P), tD P]
theorem best_step0 (G : Gph ns ps) {N : List Str} (h : N ≠ [] ∧ N.Sublist ns) (r3 : Option B) : B8_1 [some (.dat (gD ns ps)), some (.dat .non), some (.dat (tD N)), r3] = .nx [some (.dat (gD ns ps)), some (.dat (bestD ps N)), some (.dat (tD N)), some (.dat (fD (worth ps N)))] := by
  unfold B8_1
  refine (seq_nx (ρ' := [some (.dat (gD ns ps)), some (.dat .non), some (.dat (tD N)), some (.dat (fD (worth ps N)))]) (set_ok (fr_ok G h rfl rfl) rfl)).trans ?_
  refine (if_t (or_ok (k := true) (j := true) (tst_ok rfl) (fun z => by cases z))).trans ?_
  exact set_ok (call_ok (cons_ok (x := .dat (fD (worth ps N))) rfl (cons_ok (x := .dat (tD N)) rfl nil_ok)) tupB2) rfl
theorem best_step1 (G : Gph ns ps) {N P : List Str} (h : N ≠ [] ∧ N.Sublist ns) (hP : P ≠ [] ∧ P.Sublist ns) (r3 : Option B) : B8_1 [some (.dat (gD ns ps)), some (.dat (bestD ps P)), some (.dat (tD N)), r3] =
    .nx [some (.dat (gD ns ps)), some (.dat (if (worth ps N).1 * (worth ps P).2 < (worth ps P).1 * (worth ps N).2 then bestD ps P else bestD ps N)), some (.dat (tD N)), some (.dat (fD (worth ps N)))] := by
  unfold B8_1
  refine (seq_nx (ρ' := [some (.dat (gD ns ps)), some (.dat (bestD ps P)), some (.dat (tD N)), some (.dat (fD (worth ps N)))]) (set_ok (fr_ok G h rfl rfl) rfl)).trans ?_
  have w1 := worth_sm G h
  have w2 := worth_sm G hP
  have bl : ownF E7 (consA (varB 3) (consA (bin2 idxB (varB 1) (litI 0)) nilA)) [some (.dat (gD ns ps)), some (.dat (bestD ps P)), some (.dat (tD N)), some (.dat (fD (worth ps N)))] = .ok (.dat (.bl (decide ((worth ps N).1 * (worth ps P).2 < (worth ps P).1 * (worth ps N).2)))) :=
    own_ok (bs := [.dat (fD (worth ps N)), .dat (fD (worth ps P))]) (cons_ok (x := .dat (fD (worth ps N))) rfl (cons_ok (x := .dat (fD (worth ps P))) (bin_ok (x := .dat (bestD ps P)) (y := .dat (.int 0)) rfl rfl rfl) nil_ok)) rfl (below_ok w1.1 w1.2 w2.1 w2.2) rfl
  have ct : orT (tstF (bin2 (isB false) (varB 1) litN)) (notT (testV (ownF E7 (consA (varB 3) (consA (bin2 idxB (varB 1) (litI 0)) nilA))))) [some (.dat (gD ns ps)), some (.dat (bestD ps P)), some (.dat (tD N)), some (.dat (fD (worth ps N)))] = .ok (false || !decide ((worth ps N).1 * (worth ps P).2 < (worth ps P).1 * (worth ps N).2)) :=
    or_ok (k := false) (tst_ok rfl) fun _ => not_ok (tv_ok bl rfl)
  by_cases c : (worth ps N).1 * (worth ps P).2 < (worth ps P).1 * (worth ps N).2
  · rw [decide_eq_true c] at ct
    rw [if_pos c]
    exact if_f ct
  · rw [decide_eq_false c] at ct
    rw [if_neg c]
    exact (if_t ct).trans (set_ok (call_ok (cons_ok (x := .dat (fD (worth ps N))) rfl (cons_ok (x := .dat (tD N)) rfl nil_ok)) tupB2) rfl)
structure Top (ns : List Str) (ps : List (Str × Str)) (U : List Str) : Prop where
  part : U ≠ [] ∧ U.Sublist ns
  max : ∀ P, P ≠ [] → P.Sublist ns → leW ps P U
  long : ∀ P, P ≠ [] → P.Sublist ns → leW ps U P → P.length ≤ U.length
theorem densest_ok (G : Gph ns ps) : ∃ U, Top ns ps U ∧ E8.F [.dat (gD ns ps)] = .ok (.dat (bestD ps U)) := by
  rw [show E8.F = defF 4 B8 from rfl]
  obtain ⟨L, hL, hLl, e0⟩ := parts_ok G
  have hmem : ∀ {i : Nat} {P : List Str}, P ∈ L.take i → P ≠ [] ∧ P.Sublist ns := fun h => (hL.mem _).mp (List.mem_of_mem_take h)
  obtain ⟨ρ', q1, b, r2, r3, rfl, hI⟩ := loop_all (t := .one 2) (body := B8_1) (ds := L.map tD) (fun i ρ => ∃ (b : D) (r2 r3 : Option B), ρ = [some (.dat (gD ns ps)), some (.dat b), r2, r3] ∧ ((i = 0 ∧ b = .non) ∨ ∃ P, P ∈ L.take i ∧ b = bestD ps P ∧ ∀ Q ∈ L.take i, leW ps Q P ∧ (leW ps P Q → Q.length ≤ P.length)))
    (ρ := [some (.dat (gD ns ps)), some (.dat .non), none, none]) ⟨.non, none, none, rfl, .inl ⟨rfl, rfl⟩⟩ (by
    rintro i d ρ hd ⟨b, r2, r3, rfl, hI⟩
    obtain ⟨N, hN, rfl⟩ : ∃ N, L[i]? = some N ∧ d = tD N := by
      rw [List.getElem?_map] at hd
      cases e : L[i]? with
      | none => rw [e] at hd; cases hd
      | some x => rw [e] at hd; exact ⟨x, rfl, (Option.some.inj hd).symm⟩
    have et : L.take (i + 1) = L.take i ++ [N] := by
      rw [List.take_add_one, hN]
      rfl
    have hNp := (hL.mem N).mp (List.mem_of_getElem? hN)
    have nl := part_len G hNp
    have self : leW ps N N := Nat.le_refl _
    have later : ∀ Q ∈ L.take i, Q.length ≤ N.length := by
      intro Q hQ
      have hi : i < L.length := (List.getElem?_eq_some_iff.mp hN).1
      have : (L.take (i + 1)).Pairwise fun P Q => P.length ≤ Q.length := hL.srt.sublist (List.take_sublist _ _)
      rw [et, List.pairwise_append] at this
      exact this.2.2 Q hQ N List.mem_cons_self
    rcases hI with ⟨rfl, rfl⟩ | ⟨P, hP, rfl, hmax⟩
    · refine ⟨[some (.dat (gD ns ps)), some (.dat .non), some (.dat (tD N)), r3], _, rfl, .inl (best_step0 G hNp r3), bestD ps N, _, _, rfl, .inr ⟨N, by rw [et]; exact List.mem_append_right _ List.mem_cons_self, rfl, fun Q hQ => ?_⟩⟩
      rw [et] at hQ
      rcases List.mem_append.mp hQ with hQ | hQ
      · cases hQ
      · rw [List.mem_singleton.mp hQ]; exact ⟨self, fun _ => Nat.le_refl _⟩
    · have hPp := hmem hP
      have pl := part_len G hPp
      refine ⟨[some (.dat (gD ns ps)), some (.dat (bestD ps P)), some (.dat (tD N)), r3], _, rfl, .inl (best_step1 G hNp hPp r3), _, _, _, rfl, .inr ?_⟩
      by_cases c : (worth ps N).1 * (worth ps P).2 < (worth ps P).1 * (worth ps N).2
      · rw [if_pos c]
        have nle : ¬ leW ps P N := (worth_lt nl.1 pl.1).mp c
        refine ⟨P, by rw [et]; exact List.mem_append_left _ hP, rfl, fun Q hQ => ?_⟩
        rw [et] at hQ
        rcases List.mem_append.mp hQ with hQ | hQ
        · exact hmax Q hQ
        · rw [List.mem_singleton.mp hQ]
          refine ⟨?_, fun z => absurd z nle⟩
          unfold leW at nle ⊢
          omega
      · rw [if_neg c]
        have le : leW ps P N := Classical.byContradiction fun z => c ((worth_lt nl.1 pl.1).mpr z)
        refine ⟨N, by rw [et]; exact List.mem_append_right _ List.mem_cons_self, rfl, fun Q hQ => ?_⟩
        rw [et] at hQ
        rcases List.mem_append.mp hQ with hQ | hQ
        · exact ⟨leW_trans hPp.1 (hmax Q hQ).1 le, fun _ => later Q hQ⟩
        · rw [List.mem_singleton.mp hQ]; exact ⟨self, fun _ => Nat.le_refl _⟩)
  rw [List.length_map, List.take_length] at hI
  obtain ⟨x, hx⟩ : ∃ x, x ∈ ns := List.exists_mem_of_length_pos G.pos
  have h1 : [x] ∈ L := (hL.mem [x]).mpr ⟨by simp, List.singleton_sublist.mpr hx⟩
  rcases hI with ⟨h0, _⟩ | ⟨U, hU, rfl, hmax⟩
  · rw [List.length_eq_zero_iff.mp h0] at h1
    cases h1
  refine ⟨U, ⟨(hL.mem U).mp hU, fun P p1 p2 => (hmax P ((hL.mem P).mpr ⟨p1, p2⟩)).1, fun P p1 p2 => (hmax P ((hL.mem P).mpr ⟨p1, p2⟩)).2⟩, def_rt (by rfl) ?_⟩
  show outR (B8 [some _, none, none, none]) = _
  unfold B8
  refine (congrArg outR (seq_nx (ρ' := [some (.dat (gD ns ps)), some (.dat .non), none, none]) (set_ok rfl rfl))).trans ?_
  have it : itF false (ownF E3 (consA (varB 0) nilA)) [some (.dat (gD ns ps)), some (.dat .non), none, none] = .ok (L.map tD) := it_ok (own_ok (bs := [.dat (gD ns ps)]) (cons_ok (x := .dat (gD ns ps)) rfl nil_ok) rfl e0 rfl) rfl
  exact (congrArg outR (seq_nx ((for_ok it).trans q1))).trans rfl
end
end K43
namespace K43
open PySem L2 Fn
abbrev kKv (x : Str) : Key × D := (Sum.inr x, .bl true)
theorem put_name (ks : List Str) (x : Str) : putD (ks.map kKv) (Sum.inr x : Key) (.bl true) = (if x ∈ ks then ks else ks ++ [x]).map kKv := by
  unfold putD
  have e1 : ((ks.map kKv).any fun kv => decide (kv.1 = (Sum.inr x : Key))) = decide (x ∈ ks) := by
    rw [List.any_map]
    induction ks with
    | nil => rfl
    | cons q qs ih =>
      rw [List.any_cons, ih]
      simp only [Function.comp, Sum.inr.injEq, List.mem_cons]
      by_cases h : q = x
      · subst h; simp
      · have h' : ¬ x = q := fun z => h z.symm
        simp [h, h']
  rw [e1]
  by_cases h : x ∈ ks
  · rw [if_pos (decide_eq_true h), if_pos h]
    rw [List.map_map]
    refine List.map_congr_left fun q _ => ?_
    show (if (Sum.inr q : Key) = Sum.inr x then ((Sum.inr q : Key), D.bl true) else kKv q) = kKv q
    split <;> rfl
  · rw [if_neg (by rw [decide_eq_false h]; decide), if_neg h, List.map_append]
    rfl
theorem names_loop (a0 a1 a2 a3 a5 a6 a8 a9 : Option B) (ks P : List Str) (hk : ks.Nodup) (hs : ks.length + P.length ≤ 900) (r7 : Option B) : ∃ (ks' : List Str) (q7 : Option B), ks'.Nodup ∧ ks'.length ≤ ks.length + P.length ∧ (∀ x, x ∈ ks' ↔ x ∈ ks ∨ x ∈ P) ∧
    loopF (.one 7) B14_1 (txs P) [a0, a1, a2, a3, some (.own (.k (ks.map kKv))), a5, a6, r7, a8, a9] = .nx [a0, a1, a2, a3, some (.own (.k (ks'.map kKv))), a5, a6, q7, a8, a9] := by
  obtain ⟨ρ', q1, ks', r7, rfl, h1, h2, h3⟩ := loop_all (t := .one 7) (body := B14_1) (ds := txs P) (fun i ρ => ∃ (ks' : List Str) (r7 : Option B), ρ = [a0, a1, a2, a3, some (.own (.k (ks'.map kKv))), a5, a6, r7, a8, a9] ∧ ks'.Nodup ∧ ks'.length ≤ ks.length + i ∧ (∀ x, x ∈ ks' ↔ x ∈ ks ∨ x ∈ P.take i))
    (ρ := [a0, a1, a2, a3, some (.own (.k (ks.map kKv))), a5, a6, r7, a8, a9]) ⟨ks, r7, rfl, hk, by omega, fun x => by simp⟩ (by
    rintro i d ρ hd ⟨ks', r7, rfl, h1, h2, h3⟩
    obtain ⟨y, hy, rfl⟩ : ∃ y, P[i]? = some y ∧ d = .str y := by
      rw [List.getElem?_map] at hd
      cases e : P[i]? with
      | none => rw [e] at hd; cases hd
      | some x => rw [e] at hd; exact ⟨x, rfl, (Option.some.inj hd).symm⟩
    have hi : i < P.length := (List.getElem?_eq_some_iff.mp hy).1
    have et : P.take (i + 1) = P.take i ++ [y] := by
      rw [List.take_add_one, hy]
      rfl
    refine ⟨[a0, a1, a2, a3, some (.own (.k (ks'.map kKv))), a5, a6, some (.dat (.str y)), a8, a9], [a0, a1, a2, a3, some (.own (.k ((if y ∈ ks' then ks' else ks' ++ [y]).map kKv))), a5, a6, some (.dat (.str y)), a8, a9], rfl, .inl ?_, _, _, rfl, ?_, ?_, ?_⟩
    · unfold B14_1
      exact Fn.put_ok (b := .dat (.bl true)) (kb := .dat (.str y)) (m := .k (ks'.map kKv)) rfl rfl rfl rfl (by
        show (if (ks'.map kKv).length < sizeLine then some (M.k (putD (ks'.map kKv) (Sum.inr y : Key) (.bl true))) else none) = _
        rw [if_pos (small1000 (by rw [List.length_map]; omega)), put_name])
    · split
      · exact h1
      · rename_i hn
        rw [List.nodup_append]
        refine ⟨h1, by simp, fun a ha b hb z => ?_⟩
        rw [List.mem_singleton.mp hb] at z
        exact hn (z ▸ ha)
    · split
      · omega
      · rw [List.length_append]; show _ + 1 ≤ _; omega
    · intro x
      rw [et, List.mem_append, List.mem_singleton, ← or_assoc, ← h3]
      split
      · rename_i hn
        constructor
        · exact .inl
        · rintro (h | rfl)
          · exact h
          · exact hn
      · rw [List.mem_append, List.mem_singleton])
  rw [List.length_map] at h2 h3
  exact ⟨ks', r7, h1, h2, fun x => by rw [h3, List.take_length], q1⟩
theorem feq (p q : Nat × Nat) : eqB (.dat (fD p)) (.dat (fD q)) = .ok (.dat (.bl (decide (p = q)))) := by
  show Res.ok (B.dat (D.bl (PyData.eqv (.tuple [.int (p.1 : Int), .int (p.2 : Int)]) (.tuple [.int (q.1 : Int), .int (q.2 : Int)])))) = _
  refine congrArg (fun b => Res.ok (B.dat (D.bl b))) ?_
  simp only [PyData.eqv, PyData.eqvAll, Bool.and_true]
  rw [Bool.eq_iff_iff, Bool.and_eq_true, beq_iff_eq, beq_iff_eq, decide_eq_true_eq, Prod.ext_iff]
  omega
section
variable {ns : List Str} {ps : List (Str × Str)}
theorem leW_total (ps : List (Str × Str)) {P Q : List Str} (h : ¬ leW ps P Q) : leW ps Q P := by
  unfold leW at *
  omega
/-- the law's state behind some parts -/
def Inv1 (ps : List (Str × Str)) (T : List (List Str)) (b : D) (ks : List Str) : Prop :=
  (T = [] ∧ b = .non ∧ ks = []) ∨ ∃ P, P ∈ T ∧ b = fD (worth ps P) ∧ (∀ Q ∈ T, leW ps Q P) ∧ ∀ x, x ∈ ks ↔ ∃ Q ∈ T, leW ps P Q ∧ x ∈ Q
theorem law_worth (G : Gph ns ps) {N : List Str} (h : N ≠ [] ∧ N.Sublist ns) {ρ : Fn.Env} (e1 : varB 2 ρ = .ok (.dat (gD ns ps))) (e2 : varB 5 ρ = .ok (.dat (tD N))) :
    ownF E10 (consA (ownF E12 (consA (varB 2) (consA (varB 5) nilA))) (consA (callF lenB (consA (varB 5) nilA)) nilA)) ρ = .ok (.dat (fD (worth ps N))) := by
  obtain ⟨p1, p2, p3⟩ := part_len G h
  exact own_ok (bs := [iN (cnt ps N), iN N.length]) (cons_ok (x := iN (cnt ps N)) (own_ok (bs := [.dat (gD ns ps), .dat (tD N)]) (cons_ok e1 (cons_ok e2 nil_ok)) rfl (within2_ok G p3) rfl) (cons_ok (x := iN N.length) (call_ok (cons_ok e2 nil_ok) (len_tup.trans (by rw [List.length_map]))) nil_ok)) rfl (low_ok _ _ p1 (by omega)) rfl
theorem law_part (G : Gph ns ps) (a0 a1 a8 a9 : Option B) (T : List (List Str)) (hT : ∀ Q ∈ T, Q ≠ [] ∧ Q.Sublist ns) {N : List Str} (h : N ≠ [] ∧ N.Sublist ns) (b : D) (ks : List Str) (hk : ks.Nodup) (hl : ks.length ≤ 892) (hI : Inv1 ps T b ks) (r6 r7 : Option B) :
    ∃ (b' : D) (ks' : List Str) (q6 q7 : Option B), ks'.Nodup ∧ ks'.length ≤ ks.length + 7 ∧ Inv1 ps (T ++ [N]) b' ks' ∧ B14_2 [a0, a1, some (.dat (gD ns ps)), some (.dat b), some (.own (.k (ks.map kKv))), some (.dat (tD N)), r6, r7, a8, a9] =
      .nx [a0, a1, some (.dat (gD ns ps)), some (.dat b'), some (.own (.k (ks'.map kKv))), some (.dat (tD N)), q6, q7, a8, a9] := by
  have nl := part_len G h
  have w1 := worth_sm G h
  have self : leW ps N N := Nat.le_refl _
  have s1 : thenS (ownF E10 (consA (ownF E12 (consA (varB 2) (consA (varB 5) nilA))) (consA (callF lenB (consA (varB 5) nilA)) nilA))) (setV 6) [a0, a1, some (.dat (gD ns ps)), some (.dat b), some (.own (.k (ks.map kKv))), some (.dat (tD N)), r6, r7, a8, a9] =
      .nx [a0, a1, some (.dat (gD ns ps)), some (.dat b), some (.own (.k (ks.map kKv))), some (.dat (tD N)), some (.dat (fD (worth ps N))), r7, a8, a9] := set_ok (law_worth G h rfl rfl) rfl
  -- taking N's names
  have take : ∀ (ks0 : List Str), ks0.Nodup → ks0.length ≤ 892 → ∃ (ks' : List Str) (q7 : Option B), ks'.Nodup ∧ ks'.length ≤ ks0.length + 7 ∧ (∀ x, x ∈ ks' ↔ x ∈ ks0 ∨ x ∈ N) ∧ ∀ w, worth ps N = w →
      iteS (tstF (bin2 eqB (varB 6) (varB 3))) (forV (.one 7) (itF false (varB 5)) B14_1) nxS [a0, a1, some (.dat (gD ns ps)), some (.dat (fD w)), some (.own (.k (ks0.map kKv))), some (.dat (tD N)), some (.dat (fD (worth ps N))), r7, a8, a9] =
      .nx [a0, a1, some (.dat (gD ns ps)), some (.dat (fD w)), some (.own (.k (ks'.map kKv))), some (.dat (tD N)), some (.dat (fD (worth ps N))), q7, a8, a9] := by
    intro ks0 k1 k2
    obtain ⟨ks', q7, h1, h2, h3, _⟩ := names_loop a0 a1 (some (.dat (gD ns ps))) (some (.dat (fD (worth ps N)))) (some (.dat (tD N))) (some (.dat (fD (worth ps N)))) a8 a9 ks0 N k1 (by omega) r7
    refine ⟨ks', q7, h1, by omega, h3, fun w hw => ?_⟩
    subst hw
    have ct : tstF (bin2 eqB (varB 6) (varB 3)) [a0, a1, some (.dat (gD ns ps)), some (.dat (fD (worth ps N))), some (.own (.k (ks0.map kKv))), some (.dat (tD N)), some (.dat (fD (worth ps N))), r7, a8, a9] = .ok true :=
      tst_ok (bin_ok (x := .dat (fD (worth ps N))) (y := .dat (fD (worth ps N))) rfl rfl ((feq _ _).trans (by rw [decide_eq_true rfl])))
    refine (if_t ct).trans ((for_ok (it_ok (b := .dat (tD N)) rfl rfl)).trans ?_)
    assumption
  -- a new best
  have fresh : iteS (orT (tstF (bin2 (isB false) (varB 3) litN)) (testV (ownF E13 (consA (varB 3) (consA (varB 6) nilA))))) (seqS (thenS (varB 6) (setV 3)) (thenS newK (setV 4))) nxS [a0, a1, some (.dat (gD ns ps)), some (.dat b), some (.own (.k (ks.map kKv))), some (.dat (tD N)), some (.dat (fD (worth ps N))), r7, a8, a9] =
      .nx [a0, a1, some (.dat (gD ns ps)), some (.dat (fD (worth ps N))), some (.own (.k (([] : List Str).map kKv))), some (.dat (tD N)), some (.dat (fD (worth ps N))), r7, a8, a9] →
      (∀ Q ∈ T, leW ps Q N) → (∀ Q ∈ T, ¬ leW ps N Q) → ∃ (b' : D) (ks' : List Str) (q6 q7 : Option B), ks'.Nodup ∧ ks'.length ≤ ks.length + 7 ∧ Inv1 ps (T ++ [N]) b' ks' ∧ B14_2 [a0, a1, some (.dat (gD ns ps)), some (.dat b), some (.own (.k (ks.map kKv))), some (.dat (tD N)), r6, r7, a8, a9] =
      .nx [a0, a1, some (.dat (gD ns ps)), some (.dat b'), some (.own (.k (ks'.map kKv))), some (.dat (tD N)), q6, q7, a8, a9] := by
    intro st l1 l2
    obtain ⟨ks', q7, h1, h2, h3, h4⟩ := take [] List.nodup_nil (by show 0 ≤ 892; omega)
    rw [List.length_nil] at h2
    refine ⟨_, ks', _, q7, h1, by omega, .inr ⟨N, List.mem_append_right _ List.mem_cons_self, rfl, fun Q hQ => ?_, fun x => ?_⟩, (seq_nx s1).trans ((seq_nx st).trans (h4 _ rfl))⟩
    · rcases List.mem_append.mp hQ with hQ | hQ
      · exact l1 Q hQ
      · rw [List.mem_singleton.mp hQ]; exact self
    · rw [h3]
      constructor
      · rintro (z | z)
        · cases z
        · exact ⟨N, List.mem_append_right _ List.mem_cons_self, self, z⟩
      · rintro ⟨Q, hQ, le, hx⟩
        rcases List.mem_append.mp hQ with hQ | hQ
        · exact absurd le (l2 Q hQ)
        · rw [List.mem_singleton.mp hQ] at hx; exact .inr hx
  rcases hI with ⟨rfl, rfl, rfl⟩ | ⟨P, hP, rfl, hmax, hmem⟩
  · refine fresh ?_ (fun Q hQ => by cases hQ) (fun Q hQ => by cases hQ)
    refine (if_t (or_ok (k := true) (j := true) (tst_ok rfl) (fun z => by cases z))).trans ?_
    exact (seq_nx (set_ok rfl rfl)).trans (set_ok rfl rfl)
  · have hPp := hT P hP
    have pl := part_len G hPp
    have w2 := worth_sm G hPp
    have bl : ownF E13 (consA (varB 3) (consA (varB 6) nilA)) [a0, a1, some (.dat (gD ns ps)), some (.dat (fD (worth ps P))), some (.own (.k (ks.map kKv))), some (.dat (tD N)), some (.dat (fD (worth ps N))), r7, a8, a9] = .ok (.dat (.bl (decide ((worth ps P).1 * (worth ps N).2 < (worth ps N).1 * (worth ps P).2)))) :=
      own_ok (bs := [.dat (fD (worth ps P)), .dat (fD (worth ps N))]) (cons_ok (x := .dat (fD (worth ps P))) rfl (cons_ok (x := .dat (fD (worth ps N))) rfl nil_ok)) rfl (isless_ok w2.1 w2.2 w1.1 w1.2) rfl
    have ct : orT (tstF (bin2 (isB false) (varB 3) litN)) (testV (ownF E13 (consA (varB 3) (consA (varB 6) nilA)))) [a0, a1, some (.dat (gD ns ps)), some (.dat (fD (worth ps P))), some (.own (.k (ks.map kKv))), some (.dat (tD N)), some (.dat (fD (worth ps N))), r7, a8, a9] = .ok (false || decide ((worth ps P).1 * (worth ps N).2 < (worth ps N).1 * (worth ps P).2)) :=
      or_ok (k := false) (tst_ok rfl) fun _ => tv_ok bl rfl
    by_cases c : (worth ps P).1 * (worth ps N).2 < (worth ps N).1 * (worth ps P).2
    · rw [decide_eq_true c] at ct
      have nle : ¬ leW ps N P := (worth_lt pl.1 nl.1).mp c
      have le := leW_total ps nle
      refine fresh ?_ (fun Q hQ => leW_trans hPp.1 (hmax Q hQ) le) (fun Q hQ z => nle (leW_trans (hT Q hQ).1 z (hmax Q hQ)))
      exact (if_t ct).trans ((seq_nx (set_ok rfl rfl)).trans (set_ok rfl rfl))
    · rw [decide_eq_false c] at ct
      have le : leW ps N P := Classical.byContradiction fun z => c ((worth_lt pl.1 nl.1).mpr z)
      have s2 : iteS (orT (tstF (bin2 (isB false) (varB 3) litN)) (testV (ownF E13 (consA (varB 3) (consA (varB 6) nilA))))) (seqS (thenS (varB 6) (setV 3)) (thenS newK (setV 4))) nxS [a0, a1, some (.dat (gD ns ps)), some (.dat (fD (worth ps P))), some (.own (.k (ks.map kKv))), some (.dat (tD N)), some (.dat (fD (worth ps N))), r7, a8, a9] =
        .nx [a0, a1, some (.dat (gD ns ps)), some (.dat (fD (worth ps P))), some (.own (.k (ks.map kKv))), some (.dat (tD N)), some (.dat (fD (worth ps N))), r7, a8, a9] := if_f ct
      have mx : ∀ Q ∈ T ++ [N], leW ps Q P := fun Q hQ => by
        rcases List.mem_append.mp hQ with hQ | hQ
        · exact hmax Q hQ
        · rw [List.mem_singleton.mp hQ]; exact le
      by_cases e : worth ps N = worth ps P
      · have le2 : leW ps P N := ((worth_eq nl.1 pl.1).mp e).2
        obtain ⟨ks', q7, h1, h2, h3, h4⟩ := take ks hk hl
        refine ⟨_, ks', _, q7, h1, h2, .inr ⟨P, List.mem_append_left _ hP, rfl, mx, fun x => ?_⟩, (seq_nx s1).trans ((seq_nx s2).trans (h4 _ e))⟩
        rw [h3, hmem]
        constructor
        · rintro (⟨Q, hQ, l, hx⟩ | hx)
          · exact ⟨Q, List.mem_append_left _ hQ, l, hx⟩
          · exact ⟨N, List.mem_append_right _ List.mem_cons_self, le2, hx⟩
        · rintro ⟨Q, hQ, l, hx⟩
          rcases List.mem_append.mp hQ with hQ | hQ
          · exact .inl ⟨Q, hQ, l, hx⟩
          · rw [List.mem_singleton.mp hQ] at hx; exact .inr hx
      · have nle : ¬ leW ps P N := fun z => e ((worth_eq nl.1 pl.1).mpr ⟨le, z⟩)
        have ce : tstF (bin2 eqB (varB 6) (varB 3)) [a0, a1, some (.dat (gD ns ps)), some (.dat (fD (worth ps P))), some (.own (.k (ks.map kKv))), some (.dat (tD N)), some (.dat (fD (worth ps N))), r7, a8, a9] = .ok false :=
          tst_ok (bin_ok (x := .dat (fD (worth ps N))) (y := .dat (fD (worth ps P))) rfl rfl ((feq _ _).trans (by rw [decide_eq_false e])))
        refine ⟨_, ks, _, r7, hk, by omega, .inr ⟨P, List.mem_append_left _ hP, rfl, mx, fun x => ?_⟩, (seq_nx s1).trans ((seq_nx s2).trans (if_f ce))⟩
        rw [hmem]
        constructor
        · rintro ⟨Q, hQ, l, hx⟩
          exact ⟨Q, List.mem_append_left _ hQ, l, hx⟩
        · rintro ⟨Q, hQ, l, hx⟩
          rcases List.mem_append.mp hQ with hQ | hQ
          · exact ⟨Q, hQ, l, hx⟩
          · rw [List.mem_singleton.mp hQ] at l; exact absurd l nle
end
end K43
namespace K43
open PySem L2 Fn
section
variable {ns : List Str} {ps : List (Str × Str)}
theorem perm_nodup {a b : List Str} (ha : a.Nodup) (hb : b.Nodup) (h : ∀ x, x ∈ a ↔ x ∈ b) : a.Perm b := by
  rw [List.perm_iff_count]
  intro x
  rw [ha.count, hb.count]
  by_cases m : x ∈ a
  · rw [if_pos m, if_pos ((h x).mp m)]
  · rw [if_neg m, if_neg (fun z => m ((h x).mpr z))]
/-- the union, told sorted, is the program's part -/
theorem every_ok (G : Gph ns ps) {U : List Str} (hU : Top ns ps U) {L : List (List Str)} (hL : ∀ P, P ∈ L ↔ P ≠ [] ∧ P.Sublist ns) {b : D} {ks : List Str} (hk : ks.Nodup) (hI : Inv1 ps L b ks) :
    b = fD (worth ps U) ∧ sortF [.vw (.k (ks.map kKv))] = .ok (.own (.l (txs U))) := by
  have UL : U ∈ L := (hL U).mpr hU.part
  rcases hI with ⟨rfl, _, _⟩ | ⟨P, hP, rfl, hmax, hmem⟩
  · cases UL
  have hPp := (hL P).mp hP
  have pl := part_len G hPp
  have ul := part_len G hU.part
  have e1 : leW ps U P := hmax U UL
  have e2 : leW ps P U := hU.max P hPp.1 hPp.2
  have ew : worth ps P = worth ps U := (worth_eq pl.1 ul.1).mpr ⟨e2, e1⟩
  refine ⟨by rw [ew], ?_⟩
  have mem : ∀ x, x ∈ ks ↔ x ∈ U := by
    intro x
    rw [hmem]
    constructor
    · rintro ⟨Q, hQ, l, hx⟩
      have hQp := (hL Q).mp hQ
      exact union_dense G hU.part.2 hU.part.1 hQp.2 hU.max (leW_trans hPp.1 e1 l) hU.long x hx
    · intro hx
      exact ⟨U, UL, e2, hx⟩
  have Und : U.Nodup := G.nm.nd.sublist hU.part.2
  have pm : ks.Perm U := perm_nodup hk Und mem
  have e0 : ((ks.map kKv).map fun kv => keyB kv.1) = txs ks := by
    rw [List.map_map]
    rfl
  have lay : Lays ks := fun x hx => ul.2.2 x ((mem x).mp hx)
  show (if sortOk ((ks.map kKv).map fun kv => keyB kv.1) = true then (.ok (.own (.l (((ks.map kKv).map fun kv => keyB kv.1).mergeSort leD))) : Res B) else .bad) = _
  rw [e0, if_pos (sortOk_txs lay)]
  have all : ∀ d ∈ (txs ks).mergeSort leD, ∃ x, d = .str x := fun d hd => by
    obtain ⟨x, _, rfl⟩ := List.mem_map.mp (List.mem_mergeSort.mp hd)
    exact ⟨x, rfl⟩
  obtain ⟨E, hE⟩ := txs_of all
  have pE : E.Perm ks := txs_perm (by rw [← hE]; exact List.mergeSort_perm _ _)
  have sE : (txs E).Pairwise fun a b => leD a b = true := by rw [← hE]; exact sortD_pair _
  have sU : (txs U).Pairwise fun a b => leD a b = true := G.nm.srt.sublist (hU.part.2.map _)
  rw [hE, txs_sorted sE sU (pE.trans pm)]
theorem ne_self (p : Nat × Nat) {U : List Str} (h : Lays U) : neB (.dat (.tup [fD p, tD U])) (.dat (.tup [fD p, tD U])) = .ok (.dat (.bl false)) := by
  obtain ⟨h1, h2⟩ := lay_strs h
  have sh : SeqAt.shaped (toPy (.tup [fD p, tD U])) = true := by
    show (PyData.canLay0 (.tuple [.tuple [.int _, .int _], .tuple (toPys (txs U))]) && decide (PyData.depth (.tuple [.tuple [.int _, .int _], .tuple (toPys (txs U))]) ≤ 64)) = true
    simp only [PyData.canLay0, PyData.canLayAll0, PyData.depth, PyData.depthAll, h1, h2]
    rfl
  show ((eqD (.tup [fD p, tD U]) (.tup [fD p, tD U])).bind fun k => (.ok (.dat (.bl !k)) : Res B)) = _
  unfold eqD
  rw [if_pos (by rw [Bool.and_eq_true]; exact ⟨sh, sh⟩), Res.ok_bind]
  refine congrArg (fun b => Res.ok (B.dat (D.bl b))) ?_
  show (!PyData.eqv (.tuple [.tuple [.int _, .int _], .tuple (toPys (txs U))]) (.tuple [.tuple [.int _, .int _], .tuple (toPys (txs U))])) = false
  simp [PyData.eqv, PyData.eqvAll, eqv_strs]
end
theorem round_ok (sc : List Int) (k : Nat) (hk : k < 64) (r2 r3 r4 r5 r6 r7 r8 r9 : Option B) : ∃ q2 q3 q4 q5 q6 q7 q8 q9, B14_3 [some (.scr sc), some (iN k), r2, r3, r4, r5, r6, r7, r8, r9] = .nx [some (.scr sc), some (iN k), q2, q3, q4, q5, q6, q7, q8, q9] := by
  obtain ⟨c, hc⟩ := cell_ok sc k hk
  obtain ⟨xs, hx, hn⟩ := numbers_ok c 20 (by omega)
  obtain ⟨ns, ps, G, hg⟩ := graph_ok xs hx
  obtain ⟨L, hL, hLl, hm⟩ := masks_ok G
  obtain ⟨U, hU, hd⟩ := densest_ok G
  have ul := part_len G hU.part
  obtain ⟨ρ', q1, b, ks, r5', r6', r7', rfl, hnd, hI⟩ := loop_all (t := .one 5) (body := B14_2) (ds := L.map tD) (fun i ρ => ∃ (b : D) (ks : List Str) (r5 r6 r7 : Option B), ρ = [some (.scr sc), some (iN k), some (.dat (gD ns ps)), some (.dat b), some (.own (.k (ks.map kKv))), r5, r6, r7, r8, r9] ∧ (ks.Nodup ∧ ks.length ≤ 7 * i) ∧ Inv1 ps (L.take i) b ks)
    (ρ := [some (.scr sc), some (iN k), some (.dat (gD ns ps)), some (.dat .non), some (.own (.k [])), r5, r6, r7, r8, r9]) ⟨.non, [], r5, r6, r7, rfl, ⟨List.nodup_nil, Nat.zero_le _⟩, .inl ⟨rfl, rfl, rfl⟩⟩ (by
    rintro i d ρ hd ⟨b, ks, r5, r6, r7, rfl, ⟨h1, h2⟩, hI⟩
    obtain ⟨N, hN, rfl⟩ : ∃ N, L[i]? = some N ∧ d = tD N := by
      rw [List.getElem?_map] at hd
      cases e : L[i]? with
      | none => rw [e] at hd; cases hd
      | some x => rw [e] at hd; exact ⟨x, rfl, (Option.some.inj hd).symm⟩
    have hi : i < L.length := (List.getElem?_eq_some_iff.mp hN).1
    have et : L.take (i + 1) = L.take i ++ [N] := by
      rw [List.take_add_one, hN]
      rfl
    obtain ⟨b', ks', q6, q7, a1, a2, a3, a4⟩ := law_part G (some (.scr sc)) (some (iN k)) r8 r9 (L.take i) (fun Q hQ => (hL Q).mp (List.mem_of_mem_take hQ)) ((hL N).mp (List.mem_of_getElem? hN)) b ks h1 (by omega) hI r6 r7
    exact ⟨_, _, rfl, .inl a4, b', ks', _, q6, q7, rfl, ⟨a1, by omega⟩, by rw [et]; exact a3⟩)
  rw [List.length_map, List.take_length] at hI
  obtain ⟨rfl, hs⟩ := every_ok G hU hL hnd.1 hI
  have g1 : ownF E1 (consA (ownF E9 (consA (ownF E11 (consA (varB 0) (consA (varB 1) nilA))) (consA (litI 20) nilA))) (consA (litI 7) nilA)) [some (.scr sc), some (iN k), r2, r3, r4, r5, r6, r7, r8, r9] = .ok (.dat (gD ns ps)) :=
    own_ok (bs := [.dat (.lst (nms xs)), .dat (.int 7)]) (cons_ok (x := .own (.l (nms xs))) (own_ok (bs := [.dat (.int c), .dat (.int 20)]) (cons_ok (x := .dat (.int c)) (own_ok (bs := [.scr sc, iN k]) (cons_ok (x := .scr sc) rfl (cons_ok (x := iN k) rfl nil_ok)) rfl hc rfl) (cons_ok (x := .dat (.int 20)) rfl nil_ok)) rfl hn rfl) (cons_ok (x := .dat (.int 7)) rfl nil_ok)) rfl hg rfl
  refine ⟨some (.dat (gD ns ps)), some (.dat (fD (worth ps U))), some (.own (.k (ks.map kKv))), r5', r6', r7', some (.dat (bestD ps U)), r9, ?_⟩
  unfold B14_3
  refine (seq_nx (set_ok g1 rfl)).trans ?_
  refine (seq_nx (ρ' := [some (.scr sc), some (iN k), some (.dat (gD ns ps)), some (.dat .non), r4, r5, r6, r7, r8, r9]) (set_ok rfl rfl)).trans ?_
  refine (seq_nx (ρ' := [some (.scr sc), some (iN k), some (.dat (gD ns ps)), some (.dat .non), some (.own (.k [])), r5, r6, r7, r8, r9]) (set_ok rfl rfl)).trans ?_
  have it : itF false (ownF E2 (consA (varB 2) nilA)) [some (.scr sc), some (iN k), some (.dat (gD ns ps)), some (.dat .non), some (.own (.k [])), r5, r6, r7, r8, r9] = .ok (L.map tD) := it_ok (own_ok (bs := [.dat (gD ns ps)]) (cons_ok (x := .dat (gD ns ps)) rfl nil_ok) rfl hm rfl) rfl
  refine (seq_nx ((for_ok it).trans q1)).trans ?_
  refine (seq_nx (ρ' := [some (.scr sc), some (iN k), some (.dat (gD ns ps)), some (.dat (fD (worth ps U))), some (.own (.k (ks.map kKv))), r5', r6', r7', some (.dat (bestD ps U)), r9]) (set_ok (own_ok (bs := [.dat (gD ns ps)]) (cons_ok (x := .dat (gD ns ps)) rfl nil_ok) rfl hd rfl) rfl)).trans ?_
  have t1 : notT (testV (one1 (isiB .tuple) (varB 8))) [some (.scr sc), some (iN k), some (.dat (gD ns ps)), some (.dat (fD (worth ps U))), some (.own (.k (ks.map kKv))), r5', r6', r7', some (.dat (bestD ps U)), r9] = .ok false := not_ok (k := true) (tv_ok (one_ok (x := .dat (bestD ps U)) rfl rfl) rfl)
  have t2 : tstF (bin2 neB (varB 8) (callF tupB (consA (varB 3) (consA (callF tupF (consA (callF sortF (consA (varB 4) nilA)) nilA)) nilA)))) [some (.scr sc), some (iN k), some (.dat (gD ns ps)), some (.dat (fD (worth ps U))), some (.own (.k (ks.map kKv))), r5', r6', r7', some (.dat (bestD ps U)), r9] = .ok false :=
    tst_ok (bin_ok (x := .dat (bestD ps U)) (y := .dat (bestD ps U)) rfl (call_ok (cons_ok (x := .dat (fD (worth ps U))) rfl (cons_ok (x := .dat (tD U)) (call_ok (cons_ok (call_ok (cons_ok (x := .vw (.k (ks.map kKv))) rfl nil_ok) hs) nil_ok) rfl) nil_ok)) tupB2) (ne_self _ ul.2.2))
  have t3 : notT (testV (one1 (isiB .tuple) (bin2 idxB (varB 8) (litI 1)))) [some (.scr sc), some (iN k), some (.dat (gD ns ps)), some (.dat (fD (worth ps U))), some (.own (.k (ks.map kKv))), r5', r6', r7', some (.dat (bestD ps U)), r9] = .ok false := not_ok (k := true) (tv_ok (one_ok (x := .dat (tD U)) (bin_ok (x := .dat (bestD ps U)) (y := .dat (.int 1)) rfl rfl rfl) rfl) rfl)
  have ct : orT (notT (testV (one1 (isiB .tuple) (varB 8)))) (orT (tstF (bin2 neB (varB 8) (callF tupB (consA (varB 3) (consA (callF tupF (consA (callF sortF (consA (varB 4) nilA)) nilA)) nilA))))) (notT (testV (one1 (isiB .tuple) (bin2 idxB (varB 8) (litI 1)))))) [some (.scr sc), some (iN k), some (.dat (gD ns ps)), some (.dat (fD (worth ps U))), some (.own (.k (ks.map kKv))), r5', r6', r7', some (.dat (bestD ps U)), r9] = .ok false :=
    or_ok (k := false) (j := false) t1 fun _ => or_ok (k := false) (j := false) t2 fun _ => t3
  refine (seq_nx ((if_f ct).trans rfl)).trans ?_
  have c1 : compV (.one 9) (itF true (bin2 idxB (varB 8) (litI 0))) yesF (one1 (isiB .bool) (varB 9)) [9] [some (.scr sc), some (iN k), some (.dat (gD ns ps)), some (.dat (fD (worth ps U))), some (.own (.k (ks.map kKv))), r5', r6', r7', some (.dat (bestD ps U)), r9] = .ok (.own (.l (([((worth ps U).1 : Int), ((worth ps U).2 : Int)].filter fun _ => true).map fun _ => D.bl false))) := by
    refine comp_map (f := D.int) (fun _ => true) (fun _ => D.bl false) (it_ok (b := .dat (fD (worth ps U))) rfl rfl) (by show 2 ≤ 1000; decide) fun z hz => ?_
    exact step_yes (ρ1 := [some (.scr sc), some (iN k), some (.dat (gD ns ps)), some (.dat (fD (worth ps U))), some (.own (.k (ks.map kKv))), r5', r6', r7', some (.dat (bestD ps U)), some (.dat (.int z))]) rfl rfl (one_ok (x := .dat (.int z)) rfl rfl) rfl
  have ca : testV (callF anyF (consA (compV (.one 9) (itF true (bin2 idxB (varB 8) (litI 0))) yesF (one1 (isiB .bool) (varB 9)) [9]) nilA)) [some (.scr sc), some (iN k), some (.dat (gD ns ps)), some (.dat (fD (worth ps U))), some (.own (.k (ks.map kKv))), r5', r6', r7', some (.dat (bestD ps U)), r9] = .ok false :=
    tv_ok (call_ok (cons_ok c1 nil_ok) (b := .ok (.dat (.bl false))) rfl) rfl
  exact (if_f ca).trans rfl
theorem main (sc : List Int) (h : sc.length ≤ 63) : E14.F [.scr sc] = .ok (.dat (.bl true)) := by
  rw [show E14.F = defF 10 B14 from rfl]
  refine def_rt (by rfl) ?_
  show outR (B14 [some _, none, none, none, none, none, none, none, none, none]) = _
  unfold B14
  obtain ⟨m, hm, hm6⟩ : ∃ m : Nat, (m : Int) = max 3 (min (sc.length : Int) 6) ∧ m ≤ 6 := ⟨(max 3 (min (sc.length : Int) 6)).toNat, by omega, by omega⟩
  have it : rgF (consA (callF maxF (consA (litI 3) (consA (callF minF (consA (callF lenB (consA (varB 0) nilA)) (consA (litI 6) nilA))) nilA))) nilA) [some (.scr sc), none, none, none, none, none, none, none, none, none] = .ok (rng 0 m) := by
    refine rg_ok (bs := [iN m]) (cons_ok (x := iN m) (call_ok (cons_ok (x := .dat (.int 3)) rfl (cons_ok (x := .dat (.int (min (sc.length : Int) 6))) (call_ok (cons_ok (x := .dat (.int sc.length)) (call_ok (cons_ok (x := .scr sc) rfl nil_ok) len_scr) (cons_ok (x := .dat (.int 6)) rfl nil_ok)) min_ii) nil_ok)) (max_ii.trans (by rw [← hm]))) nil_ok) (rng_nat (by omega))
  obtain ⟨ρ', q1, r1, r2, r3, r4, r5, r6, r7, r8, r9, rfl⟩ := loop_all (t := .one 1) (body := B14_3) (ds := rng 0 m) (fun i ρ => ∃ (r1 r2 r3 r4 r5 r6 r7 r8 r9 : Option B), ρ = [some (.scr sc), r1, r2, r3, r4, r5, r6, r7, r8, r9])
    (ρ := [some (.scr sc), none, none, none, none, none, none, none, none, none]) ⟨_, _, _, _, _, _, _, _, _, rfl⟩ (by
    rintro i d ρ hd ⟨r1, r2, r3, r4, r5, r6, r7, r8, r9, rfl⟩
    obtain ⟨rfl, hi⟩ := rng_get hd
    obtain ⟨q2, q3, q4, q5, q6, q7, q8, q9, hq⟩ := round_ok sc i (by omega) r2 r3 r4 r5 r6 r7 r8 r9
    refine ⟨[some (.scr sc), some (iN i), r2, r3, r4, r5, r6, r7, r8, r9], _, ?_, .inl hq, _, _, _, _, _, _, _, _, _, rfl⟩
    show some _ = some _
    rw [Int.zero_add]
    rfl)
  exact (congrArg outR (seq_nx ((for_ok it).trans q1))).trans rfl
end K43
namespace K43
open PySem L2 Fn
/-! ### the table, the top -/
theorem all_mk {l : PySem.W.OpenLaw} {w : World} {K : PySem.W.Frag} {h : Heap} {mg : Str → Option Value} {fa : Addr} (X : K.In h) (G : h.Ns mainGlobals mg) (hfa : mg "law" = some (.ref fa))
    {od0 an0 : Option Addr} {sl0 : Array (Option Value)} {oc0 kV0 dc0 pm0 cd0 ct0 : Value} {f0 : Addr}
    {od1 an1 : Option Addr} {sl1 : Array (Option Value)} {oc1 kV1 dc1 pm1 cd1 ct1 : Value} {f1 : Addr}
    {od2 an2 : Option Addr} {sl2 : Array (Option Value)} {oc2 kV2 dc2 pm2 cd2 ct2 : Value} {f2 : Addr}
    {od3 an3 : Option Addr} {sl3 : Array (Option Value)} {oc3 kV3 dc3 pm3 cd3 ct3 : Value} {f3 : Addr}
    {od4 an4 : Option Addr} {sl4 : Array (Option Value)} {oc4 kV4 dc4 pm4 cd4 ct4 : Value} {f4 : Addr}
    {od5 an5 : Option Addr} {sl5 : Array (Option Value)} {oc5 kV5 dc5 pm5 cd5 ct5 : Value} {f5 : Addr}
    {od6 an6 : Option Addr} {sl6 : Array (Option Value)} {oc6 kV6 dc6 pm6 cd6 ct6 : Value} {f6 : Addr}
    {od7 an7 : Option Addr} {sl7 : Array (Option Value)} {oc7 kV7 dc7 pm7 cd7 ct7 : Value} {f7 : Addr}
    {od8 an8 : Option Addr} {sl8 : Array (Option Value)} {oc8 kV8 dc8 pm8 cd8 ct8 : Value} {f8 : Addr}
    {od9 an9 : Option Addr} {sl9 : Array (Option Value)} {oc9 kV9 dc9 pm9 cd9 ct9 : Value} {f9 : Addr}
    {od10 an10 : Option Addr} {sl10 : Array (Option Value)} {oc10 kV10 dc10 pm10 cd10 ct10 : Value} {f10 : Addr}
    {od11 an11 : Option Addr} {sl11 : Array (Option Value)} {oc11 kV11 dc11 pm11 cd11 ct11 : Value} {f11 : Addr}
    {od12 an12 : Option Addr} {sl12 : Array (Option Value)} {oc12 kV12 dc12 pm12 cd12 ct12 : Value} {f12 : Addr}
    {od13 an13 : Option Addr} {sl13 : Array (Option Value)} {oc13 kV13 dc13 pm13 cd13 ct13 : Value} {f13 : Addr}
    {od14 an14 : Option Addr} {sl14 : Array (Option Value)} {oc14 kV14 dc14 pm14 cd14 ct14 : Value} {f14 : Addr}
    (a0 : PySem.W.nsIn K mainGlobals "_law_names" = some (some (.ref f0))) (l0 : K.lookup f0 = some ⟨oc0, od0, .func (PySem.W.fnOf "_law_names" "_law_names" (defArgs S0) (defBody S0) (defScope S0) .none kV0 dc0 pm0 an0 cd0 ct0), sl0⟩) (c0 : PySem.W.codeIn K cd0 "_law_names" = true) (k0 : PySem.W.keepIn K (.ref f0) = true)
    (a1 : PySem.W.nsIn K mainGlobals "_law_graph" = some (some (.ref f1))) (l1 : K.lookup f1 = some ⟨oc1, od1, .func (PySem.W.fnOf "_law_graph" "_law_graph" (defArgs S1) (defBody S1) (defScope S1) .none kV1 dc1 pm1 an1 cd1 ct1), sl1⟩) (c1 : PySem.W.codeIn K cd1 "_law_graph" = true) (k1 : PySem.W.keepIn K (.ref f1) = true)
    (a2 : PySem.W.nsIn K mainGlobals "_law_parts" = some (some (.ref f2))) (l2 : K.lookup f2 = some ⟨oc2, od2, .func (PySem.W.fnOf "_law_parts" "_law_parts" (defArgs S2) (defBody S2) (defScope S2) .none kV2 dc2 pm2 an2 cd2 ct2), sl2⟩) (c2 : PySem.W.codeIn K cd2 "_law_parts" = true) (k2 : PySem.W.keepIn K (.ref f2) = true)
    (a3 : PySem.W.nsIn K mainGlobals "parts_of" = some (some (.ref f3))) (l3 : K.lookup f3 = some ⟨oc3, od3, .func (PySem.W.fnOf "parts_of" "parts_of" (defArgs S3) (defBody S3) (defScope S3) .none kV3 dc3 pm3 an3 cd3 ct3), sl3⟩) (c3 : PySem.W.codeIn K cd3 "parts_of" = true) (k3 : PySem.W.keepIn K (.ref f3) = true)
    (a4 : PySem.W.nsIn K mainGlobals "shared_part" = some (some (.ref f4))) (l4 : K.lookup f4 = some ⟨oc4, od4, .func (PySem.W.fnOf "shared_part" "shared_part" (defArgs S4) (defBody S4) (defScope S4) .none kV4 dc4 pm4 an4 cd4 ct4), sl4⟩) (c4 : PySem.W.codeIn K cd4 "shared_part" = true) (k4 : PySem.W.keepIn K (.ref f4) = true)
    (a5 : PySem.W.nsIn K mainGlobals "fraction" = some (some (.ref f5))) (l5 : K.lookup f5 = some ⟨oc5, od5, .func (PySem.W.fnOf "fraction" "fraction" (defArgs S5) (defBody S5) (defScope S5) .none kV5 dc5 pm5 an5 cd5 ct5), sl5⟩) (c5 : PySem.W.codeIn K cd5 "fraction" = true) (k5 : PySem.W.keepIn K (.ref f5) = true)
    (a6 : PySem.W.nsIn K mainGlobals "within" = some (some (.ref f6))) (l6 : K.lookup f6 = some ⟨oc6, od6, .func (PySem.W.fnOf "within" "within" (defArgs S6) (defBody S6) (defScope S6) .none kV6 dc6 pm6 an6 cd6 ct6), sl6⟩) (c6 : PySem.W.codeIn K cd6 "within" = true) (k6 : PySem.W.keepIn K (.ref f6) = true)
    (a7 : PySem.W.nsIn K mainGlobals "below" = some (some (.ref f7))) (l7 : K.lookup f7 = some ⟨oc7, od7, .func (PySem.W.fnOf "below" "below" (defArgs S7) (defBody S7) (defScope S7) .none kV7 dc7 pm7 an7 cd7 ct7), sl7⟩) (c7 : PySem.W.codeIn K cd7 "below" = true) (k7 : PySem.W.keepIn K (.ref f7) = true)
    (a8 : PySem.W.nsIn K mainGlobals "densest" = some (some (.ref f8))) (l8 : K.lookup f8 = some ⟨oc8, od8, .func (PySem.W.fnOf "densest" "densest" (defArgs S8) (defBody S8) (defScope S8) .none kV8 dc8 pm8 an8 cd8 ct8), sl8⟩) (c8 : PySem.W.codeIn K cd8 "densest" = true) (k8 : PySem.W.keepIn K (.ref f8) = true)
    (a9 : PySem.W.nsIn K mainGlobals "_law_numbers" = some (some (.ref f9))) (l9 : K.lookup f9 = some ⟨oc9, od9, .func (PySem.W.fnOf "_law_numbers" "_law_numbers" (defArgs S9) (defBody S9) (defScope S9) .none kV9 dc9 pm9 an9 cd9 ct9), sl9⟩) (c9 : PySem.W.codeIn K cd9 "_law_numbers" = true) (k9 : PySem.W.keepIn K (.ref f9) = true)
    (a10 : PySem.W.nsIn K mainGlobals "_law_low" = some (some (.ref f10))) (l10 : K.lookup f10 = some ⟨oc10, od10, .func (PySem.W.fnOf "_law_low" "_law_low" (defArgs S10) (defBody S10) (defScope S10) .none kV10 dc10 pm10 an10 cd10 ct10), sl10⟩) (c10 : PySem.W.codeIn K cd10 "_law_low" = true) (k10 : PySem.W.keepIn K (.ref f10) = true)
    (a11 : PySem.W.nsIn K mainGlobals "_law_cell" = some (some (.ref f11))) (l11 : K.lookup f11 = some ⟨oc11, od11, .func (PySem.W.fnOf "_law_cell" "_law_cell" (defArgs S11) (defBody S11) (defScope S11) .none kV11 dc11 pm11 an11 cd11 ct11), sl11⟩) (c11 : PySem.W.codeIn K cd11 "_law_cell" = true) (k11 : PySem.W.keepIn K (.ref f11) = true)
    (a12 : PySem.W.nsIn K mainGlobals "_law_within" = some (some (.ref f12))) (l12 : K.lookup f12 = some ⟨oc12, od12, .func (PySem.W.fnOf "_law_within" "_law_within" (defArgs S12) (defBody S12) (defScope S12) .none kV12 dc12 pm12 an12 cd12 ct12), sl12⟩) (c12 : PySem.W.codeIn K cd12 "_law_within" = true) (k12 : PySem.W.keepIn K (.ref f12) = true)
    (a13 : PySem.W.nsIn K mainGlobals "_law_is_less" = some (some (.ref f13))) (l13 : K.lookup f13 = some ⟨oc13, od13, .func (PySem.W.fnOf "_law_is_less" "_law_is_less" (defArgs S13) (defBody S13) (defScope S13) .none kV13 dc13 pm13 an13 cd13 ct13), sl13⟩) (c13 : PySem.W.codeIn K cd13 "_law_is_less" = true) (k13 : PySem.W.keepIn K (.ref f13) = true)
    (a14 : PySem.W.nsIn K mainGlobals "law" = some (some (.ref f14))) (l14 : K.lookup f14 = some ⟨oc14, od14, .func (PySem.W.fnOf "law" "law" (defArgs S14) (defBody S14) (defScope S14) .none kV14 dc14 pm14 an14 cd14 ct14), sl14⟩) (c14 : PySem.W.codeIn K cd14 "law" = true) (k14 : PySem.W.keepIn K (.ref f14) = true)
    (z0 : PySem.W.nsIn K mainGlobals "abs" = some none) (z1 : PySem.W.nsIn K mainGlobals "any" = some none) (z2 : PySem.W.nsIn K mainGlobals "bool" = some none) (z3 : PySem.W.nsIn K mainGlobals "int" = some none) (z4 : PySem.W.nsIn K mainGlobals "isinstance" = some none) (z5 : PySem.W.nsIn K mainGlobals "len" = some none) (z6 : PySem.W.nsIn K mainGlobals "max" = some none) (z7 : PySem.W.nsIn K mainGlobals "min" = some none) (z8 : PySem.W.nsIn K mainGlobals "range" = some none) (z9 : PySem.W.nsIn K mainGlobals "sorted" = some none) (z10 : PySem.W.nsIn K mainGlobals "tuple" = some none)
    (main : ∀ ns : List Int, ns.length ≤ 63 → E14.F [.scr ns] = .ok (.dat (.bl true))) :
    ∃ fd : FuncData, (∀ (s : Shared) (v : Value), BindsTo s fd ⟨[v], []⟩ [("_law_script", v)]) ∧ ∀ base : Heap, K.In base → base.Ns mainGlobals mg → FnOk l.prog w K mg base (L2.CX l.prog w) 15 fa fd ["_law_script"] (spLaw K) := by
  have e := hfa.symm.trans (PySem.W.mg_of X G a14)
  cases e
  have hbi : ∀ x ∈ bt, mg x = none := by
    intro x hx
    simp only [bt, List.mem_cons, List.not_mem_nil, or_false] at hx
    rcases hx with rfl | rfl | rfl | rfl | rfl | rfl | rfl | rfl | rfl | rfl | rfl
    · exact PySem.W.mg_none_of X G z0
    · exact PySem.W.mg_none_of X G z1
    · exact PySem.W.mg_none_of X G z2
    · exact PySem.W.mg_none_of X G z3
    · exact PySem.W.mg_none_of X G z4
    · exact PySem.W.mg_none_of X G z5
    · exact PySem.W.mg_none_of X G z6
    · exact PySem.W.mg_none_of X G z7
    · exact PySem.W.mg_none_of X G z8
    · exact PySem.W.mg_none_of X G z9
    · exact PySem.W.mg_none_of X G z10
  refine ⟨PySem.W.fnOf "law" "law" (defArgs S14) (defBody S14) (defScope S14) .none kV14 dc14 pm14 an14 cd14 ct14, fun s v => .of_eq rfl, fun base _ _ => ?_⟩
  let fl : Nat → Option Addr := fun i => [f0, f1, f2, f3, f4, f5, f6, f7, f8, f9, f10, f11, f12, f13][i]?
  have W0 : TabW l.prog w K mg base fl (fun _ => .none) 0 T0 := TabW.nil
  have F0 := fun_mk (st := S0) l0 c0 k0
  have W1 : TabW l.prog w K mg base fl (fun _ => .none) 1 T1 := W0.more (en := E0) F0 sc0 hbi rfl (fun X g C => ok0 C) (PySem.W.mg_of X G a0) rfl (F0.binds (ps := ["_law_xs", "_law_many"]) fun _ _ _ _ _ _ us hl => match us, hl with | [_, _], _ => rfl)
  have F1 := fun_mk (st := S1) l1 c1 k1
  have W2 : TabW l.prog w K mg base fl (fun _ => .none) 2 T2 := W1.more (en := E1) F1 sc1 hbi rfl (fun X g C => ok1 C) (PySem.W.mg_of X G a1) rfl (F1.binds (ps := ["_law_xs", "_law_most"]) fun _ _ _ _ _ _ us hl => match us, hl with | [_, _], _ => rfl)
  have F2 := fun_mk (st := S2) l2 c2 k2
  have W3 : TabW l.prog w K mg base fl (fun _ => .none) 3 T3 := W2.more (en := E2) F2 sc2 hbi rfl (fun X g C => ok2 C) (PySem.W.mg_of X G a2) rfl (F2.binds (ps := ["_law_graph_here"]) fun _ _ _ _ _ _ us hl => match us, hl with | [_], _ => rfl)
  have F3 := fun_mk (st := S3) l3 c3 k3
  have W4 : TabW l.prog w K mg base fl (fun _ => .none) 4 T4 := W3.more (en := E3) F3 sc3 hbi rfl (fun X g C => ok3 C) (PySem.W.mg_of X G a3) rfl (F3.binds (ps := ["graph"]) fun _ _ _ _ _ _ us hl => match us, hl with | [_], _ => rfl)
  have F4 := fun_mk (st := S4) l4 c4 k4
  have W5 : TabW l.prog w K mg base fl (fun _ => .none) 5 T5 := W4.more (en := E4) F4 sc4 hbi rfl (fun X g C => ok4 C) (PySem.W.mg_of X G a4) rfl (F4.binds (ps := ["one", "other"]) fun _ _ _ _ _ _ us hl => match us, hl with | [_, _], _ => rfl)
  have F5 := fun_mk (st := S5) l5 c5 k5
  have W6 : TabW l.prog w K mg base fl (fun _ => .none) 6 T6 := W5.more (en := E5) F5 sc5 hbi rfl (fun X g C => ok5 C) (PySem.W.mg_of X G a5) rfl (F5.binds (ps := ["top", "bottom"]) fun _ _ _ _ _ _ us hl => match us, hl with | [_, _], _ => rfl)
  have F6 := fun_mk (st := S6) l6 c6 k6
  have W7 : TabW l.prog w K mg base fl (fun _ => .none) 7 T7 := W6.more (en := E6) F6 sc6 hbi rfl (fun X g C => ok6 C) (PySem.W.mg_of X G a6) rfl (F6.binds (ps := ["graph", "part"]) fun _ _ _ _ _ _ us hl => match us, hl with | [_, _], _ => rfl)
  have F7 := fun_mk (st := S7) l7 c7 k7
  have W8 : TabW l.prog w K mg base fl (fun _ => .none) 8 T8 := W7.more (en := E7) F7 sc7 hbi rfl (fun X g C => ok7 C) (PySem.W.mg_of X G a7) rfl (F7.binds (ps := ["a", "b"]) fun _ _ _ _ _ _ us hl => match us, hl with | [_, _], _ => rfl)
  have F8 := fun_mk (st := S8) l8 c8 k8
  have W9 : TabW l.prog w K mg base fl (fun _ => .none) 9 T9 := W8.more (en := E8) F8 sc8 hbi rfl (fun X g C => ok8 C) (PySem.W.mg_of X G a8) rfl (F8.binds (ps := ["graph"]) fun _ _ _ _ _ _ us hl => match us, hl with | [_], _ => rfl)
  have F9 := fun_mk (st := S9) l9 c9 k9
  have W10 : TabW l.prog w K mg base fl (fun _ => .none) 10 T10 := W9.more (en := E9) F9 sc9 hbi rfl (fun X g C => ok9 C) (PySem.W.mg_of X G a9) rfl (F9.binds (ps := ["_law_cell_here", "_law_many"]) fun _ _ _ _ _ _ us hl => match us, hl with | [_, _], _ => rfl)
  have F10 := fun_mk (st := S10) l10 c10 k10
  have W11 : TabW l.prog w K mg base fl (fun _ => .none) 11 T11 := W10.more (en := E10) F10 sc10 hbi rfl (fun X g C => ok10 C) (PySem.W.mg_of X G a10) rfl (F10.binds (ps := ["_law_top", "_law_bottom"]) fun _ _ _ _ _ _ us hl => match us, hl with | [_, _], _ => rfl)
  have F11 := fun_mk (st := S11) l11 c11 k11
  have W12 : TabW l.prog w K mg base fl (fun _ => .none) 12 T12 := W11.more (en := E11) F11 sc11 hbi rfl (fun X g C => ok11 C) (PySem.W.mg_of X G a11) rfl (F11.binds (ps := ["_law_script", "_law_k"]) fun _ _ _ _ _ _ us hl => match us, hl with | [_, _], _ => rfl)
  have F12 := fun_mk (st := S12) l12 c12 k12
  have W13 : TabW l.prog w K mg base fl (fun _ => .none) 13 T13 := W12.more (en := E12) F12 sc12 hbi rfl (fun X g C => ok12 C) (PySem.W.mg_of X G a12) rfl (F12.binds (ps := ["_law_graph_here", "_law_part"]) fun _ _ _ _ _ _ us hl => match us, hl with | [_, _], _ => rfl)
  have F13 := fun_mk (st := S13) l13 c13 k13
  have W14 : TabW l.prog w K mg base fl (fun _ => .none) 14 T14 := W13.more (en := E13) F13 sc13 hbi rfl (fun X g C => ok13 C) (PySem.W.mg_of X G a13) rfl (F13.binds (ps := ["_law_one", "_law_other"]) fun _ _ _ _ _ _ us hl => match us, hl with | [_, _], _ => rfl)
  have F14 := fun_mk (st := S14) l14 c14 k14
  exact (def_ok (fa := fl) (cls := fun _ => .none) (n := 1) (tab := T14) F14 sc14 rfl hbi W14.use fun X g _ C => ok14 C).imp (spLaw_of main)
end K43
open PySem PySem.W PyProof.Rows
set_option maxRecDepth 100000 in
set_option maxHeartbeats 0 in
theorem PySem.Challenge.cw_cutstairs_k43_densest_parts_holds : PySem.Challenge.rw_cutstairs_k43_densest_parts.Holds := by
  w_on; o_law; k_head; (case hw => w_witness2)
  k_fill
  refine Fn.walk (l := PySem.Challenge.rw_cutstairs_k43_densest_parts) (x := "_law_script") 15 (by exact ⟨rfl, by decide, by decide⟩) rfl rfl (fun w h Y => PySem.W.kIn_of Y) ?F
  case F =>
    intro w mg fa h KX G hmg
    refine' K43.all_mk KX G hmg ?a0 ?l0 ?c0 ?k0 ?a1 ?l1 ?c1 ?k1 ?a2 ?l2 ?c2 ?k2 ?a3 ?l3 ?c3 ?k3 ?a4 ?l4 ?c4 ?k4 ?a5 ?l5 ?c5 ?k5 ?a6 ?l6 ?c6 ?k6 ?a7 ?l7 ?c7 ?k7 ?a8 ?l8 ?c8 ?k8 ?a9 ?l9 ?c9 ?k9 ?a10 ?l10 ?c10 ?k10 ?a11 ?l11 ?c11 ?k11 ?a12 ?l12 ?c12 ?k12 ?a13 ?l13 ?c13 ?k13 ?a14 ?l14 ?c14 ?k14 ?z0 ?z1 ?z2 ?z3 ?z4 ?z5 ?z6 ?z7 ?z8 ?z9 ?z10 K43.main
    (case a0 => k_is); (case l0 => k_is); (case c0 => k_is); (case k0 => k_is)
    (case a1 => k_is); (case l1 => k_is); (case c1 => k_is); (case k1 => k_is)
    (case a2 => k_is); (case l2 => k_is); (case c2 => k_is); (case k2 => k_is)
    (case a3 => k_is); (case l3 => k_is); (case c3 => k_is); (case k3 => k_is)
    (case a4 => k_is); (case l4 => k_is); (case c4 => k_is); (case k4 => k_is)
    (case a5 => k_is); (case l5 => k_is); (case c5 => k_is); (case k5 => k_is)
    (case a6 => k_is); (case l6 => k_is); (case c6 => k_is); (case k6 => k_is)
    (case a7 => k_is); (case l7 => k_is); (case c7 => k_is); (case k7 => k_is)
    (case a8 => k_is); (case l8 => k_is); (case c8 => k_is); (case k8 => k_is)
    (case a9 => k_is); (case l9 => k_is); (case c9 => k_is); (case k9 => k_is)
    (case a10 => k_is); (case l10 => k_is); (case c10 => k_is); (case k10 => k_is)
    (case a11 => k_is); (case l11 => k_is); (case c11 => k_is); (case k11 => k_is)
    (case a12 => k_is); (case l12 => k_is); (case c12 => k_is); (case k12 => k_is)
    (case a13 => k_is); (case l13 => k_is); (case c13 => k_is); (case k13 => k_is)
    (case a14 => k_is); (case l14 => k_is); (case c14 => k_is); (case k14 => k_is)
    (case z0 => k_is); (case z1 => k_is); (case z2 => k_is); (case z3 => k_is); (case z4 => k_is); (case z5 => k_is); (case z6 => k_is); (case z7 => k_is); (case z8 => k_is); (case z9 => k_is); (case z10 => k_is)
