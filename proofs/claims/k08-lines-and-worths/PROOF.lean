import PyProof.Rows.All
import HandS.Conv
import HandS.Deep
import HandS.ForExc
import HandS.ForMost
import HandS.IsInst
import HandS.More
import HandS.Style
import HandS.TupAny
import HandS.TupLen
import HandS.TupMul
import HandS.Wide
import HandS.Zip
import KE.OsArith
import KE.SortData
import OpenK.AllK
import Wide.All
import Wide.FinOn
import PySem.Challenge.RW_cutstairs_k08_lines_and_worths
set_option Elab.async false
set_option linter.all false
set_option maxRecDepth 100000
set_option maxHeartbeats 400000
namespace Fn
open PySem PySem.Spec PyProof.Rows L2
/-! ### plain data, what a name holds, what an evaluation ends in -/
inductive D where
  | non | bl (b : Bool) | int (i : Int) | str (x : Str) | tup (xs : List D) | ctup (xs : List D) | lst (xs : List D)
  | dk (kvs : List (Key × D)) | dt (kvs : List (List Key × D)) | fn (k : Nat)
inductive M where
  | l (ds : List D) | k (kvs : List (Key × D)) | t (kvs : List (List Key × D))
inductive B where
  | dat (d : D) | own (m : M) | vw (m : M) | bor (m : M) | scr (ns : List Int)
inductive Res (α : Type) where
  | ok (a : α) | exc (c : Nat) | bad
namespace Res
def bind {α β : Type} (r : Res α) (f : α → Res β) : Res β := match r with
  | .ok a => f a
  | .exc c => .exc c
  | .bad => .bad
def map {α β : Type} (f : α → β) (r : Res α) : Res β := r.bind fun a => .ok (f a)
theorem ok_bind {α β : Type} (a : α) (f : α → Res β) : (Res.ok a).bind f = f a := rfl
theorem exc_bind {α β : Type} (c : Nat) (f : α → Res β) : (Res.exc c : Res α).bind f = .exc c := rfl
theorem bad_bind {α β : Type} (f : α → Res β) : (Res.bad : Res α).bind f = .bad := rfl
end Res
def frzM : M → D
  | .l ds => .lst ds
  | .k kvs => .dk kvs
  | .t kvs => .dt kvs
/-- a value that is handed on within an expression: what is fresh is locked -/
def rd : B → B
  | .own m => .dat (frzM m)
  | b => b
abbrev Env := List (Option B)
/-! ### how data lies in the heap -/
mutual
inductive Rp (K : PySem.W.Frag) (fa : Nat → Option Addr) (F : Hp) : V → D → Prop
  | non : Rp K fa F .non .non
  | bl (b : Bool) : Rp K fa F (.bl b) (.bl b)
  | int (i : Int) : Rp K fa F (.int i) (.int i)
  | str (x : Str) : Rp K fa F (.str x) (.str x)
  | tup {a : Addr} {xs : List V} {ds : List D} : F a = some (.tup xs) → RpAll K fa F xs ds → Rp K fa F (.ref a) (.tup ds)
  | ctup {a : Addr} {xs : List V} {ds : List D} : SqT K (fun _ => none) a xs → RpAll K fa F xs ds → Rp K fa F (.ref a) (.ctup ds)
  | lst {a : Addr} {xs : List V} {ds : List D} : F a = some (.lst xs) → RpAll K fa F xs ds → Rp K fa F (.ref a) (.lst ds)
  | dk {a : Addr} {kvs : List (Key × V)} {kds : List (Key × D)} : F a = some (.dK kvs) → kvs.map (·.1) = kds.map (·.1) → RpAll K fa F (kvs.map (·.2)) (kds.map (·.2)) → Rp K fa F (.ref a) (.dk kds)
  | dt {a : Addr} {kvs : List (List Key × V)} {kds : List (List Key × D)} : F a = some (.dT kvs) → kvs.map (·.1) = kds.map (·.1) → RpAll K fa F (kvs.map (·.2)) (kds.map (·.2)) → Rp K fa F (.ref a) (.dt kds)
  | fn {a : Addr} {k : Nat} : fa k = some a → Rp K fa F (.ref a) (.fn k)
inductive RpAll (K : PySem.W.Frag) (fa : Nat → Option Addr) (F : Hp) : List V → List D → Prop
  | nil : RpAll K fa F [] []
  | cons {v : V} {vs : List V} {d : D} {ds : List D} : Rp K fa F v d → RpAll K fa F vs ds → RpAll K fa F (v :: vs) (d :: ds)
end
inductive RpM (K : PySem.W.Frag) (fa : Nat → Option Addr) (F : Hp) : HO → M → Prop
  | l {xs : List V} {ds : List D} : RpAll K fa F xs ds → RpM K fa F (.lst xs) (.l ds)
  | k {kvs : List (Key × V)} {kds : List (Key × D)} : kvs.map (·.1) = kds.map (·.1) → RpAll K fa F (kvs.map (·.2)) (kds.map (·.2)) → RpM K fa F (.dK kvs) (.k kds)
  | t {kvs : List (List Key × V)} {kds : List (List Key × D)} : kvs.map (·.1) = kds.map (·.1) → RpAll K fa F (kvs.map (·.2)) (kds.map (·.2)) → RpM K fa F (.dT kvs) (.t kds)
section
variable {K : PySem.W.Frag} {fa : Nat → Option Addr} {F F' H H' : Hp}
theorem same_sqT (e : Same F F') {a : Addr} {xs : List V} (h : SqT K F a xs) : SqT K F' a xs := by
  rcases h with (h | ⟨o, h⟩) | h
  · exact .inl (.inl (e _ _ h))
  · exact .inl (.inr ⟨o, e _ _ h⟩)
  · exact .inr h
mutual
theorem Rp.mono (e : Same F F') : ∀ {v : V} {d : D}, Rp K fa F v d → Rp K fa F' v d
  | _, _, .non => .non
  | _, _, .bl b => .bl b
  | _, _, .int i => .int i
  | _, _, .str x => .str x
  | _, _, .tup h r => .tup (e _ _ h) (RpAll.mono e r)
  | _, _, .ctup h r => .ctup h (RpAll.mono e r)
  | _, _, .lst h r => .lst (e _ _ h) (RpAll.mono e r)
  | _, _, .dk h q r => .dk (e _ _ h) q (RpAll.mono e r)
  | _, _, .dt h q r => .dt (e _ _ h) q (RpAll.mono e r)
  | _, _, .fn h => .fn h
theorem RpAll.mono (e : Same F F') : ∀ {vs : List V} {ds : List D}, RpAll K fa F vs ds → RpAll K fa F' vs ds
  | _, _, .nil => .nil
  | _, _, .cons h r => .cons (Rp.mono e h) (RpAll.mono e r)
end
theorem RpM.mono (e : Same F F') {o : HO} {m : M} (h : RpM K fa F o m) : RpM K fa F' o m := by
  cases h with
  | l r => exact .l (r.mono e)
  | k q r => exact .k q (r.mono e)
  | t q r => exact .t q (r.mono e)
theorem RpAll.len : ∀ {vs : List V} {ds : List D}, RpAll K fa F vs ds → vs.length = ds.length
  | _, _, .nil => rfl
  | _, _, .cons _ r => congrArg (· + 1) r.len
theorem RpAll.get : ∀ {vs : List V} {ds : List D} {i : Nat} {d : D}, RpAll K fa F vs ds → ds[i]? = some d → ∃ v, vs[i]? = some v ∧ Rp K fa F v d
  | _, _, _, _, .nil, h => by simp at h
  | _, _, 0, _, .cons h _, e => by simp at e; subst e; exact ⟨_, rfl, h⟩
  | _, _, i + 1, d, .cons _ r, e => by
    obtain ⟨v, h1, h2⟩ := RpAll.get (i := i) (d := d) r (by simpa using e)
    exact ⟨v, by simpa using h1, h2⟩
theorem RpAll.get' : ∀ {vs : List V} {ds : List D} {i : Nat} {v : V}, RpAll K fa F vs ds → vs[i]? = some v → ∃ d, ds[i]? = some d ∧ Rp K fa F v d
  | _, _, _, _, .nil, h => by simp at h
  | _, _, 0, _, .cons h _, e => by simp at e; subst e; exact ⟨_, rfl, h⟩
  | _, _, i + 1, v, .cons _ r, e => by
    obtain ⟨d, h1, h2⟩ := RpAll.get' (i := i) (v := v) r (by simpa using e)
    exact ⟨d, by simpa using h1, h2⟩
theorem RpAll.app : ∀ {vs ws : List V} {ds es : List D}, RpAll K fa F vs ds → RpAll K fa F ws es → RpAll K fa F (vs ++ ws) (ds ++ es)
  | _, _, _, _, .nil, s => s
  | _, _, _, _, .cons h r, s => .cons h (r.app s)
theorem RpAll.take : ∀ {vs : List V} {ds : List D} (n : Nat), RpAll K fa F vs ds → RpAll K fa F (vs.take n) (ds.take n)
  | _, _, 0, _ => .nil
  | _, _, _ + 1, .nil => .nil
  | _, _, n + 1, .cons h r => .cons h (r.take n)
theorem RpAll.drop : ∀ {vs : List V} {ds : List D} (n : Nat), RpAll K fa F vs ds → RpAll K fa F (vs.drop n) (ds.drop n)
  | _, _, 0, r => r
  | _, _, _ + 1, .nil => .nil
  | _, _, n + 1, .cons _ r => r.drop n
theorem RpAll.rev {vs : List V} {ds : List D} (h : RpAll K fa F vs ds) : RpAll K fa F vs.reverse ds.reverse := by
  induction vs generalizing ds with
  | nil => cases h; exact .nil
  | cons v vs ih =>
    cases h with
    | cons h r =>
      rw [List.reverse_cons, List.reverse_cons]
      exact (ih r).app (.cons h .nil)
theorem RpAll.set : ∀ {vs : List V} {ds : List D} (i : Nat) {v : V} {d : D}, RpAll K fa F vs ds → Rp K fa F v d → RpAll K fa F (vs.set i v) (ds.set i d)
  | _, _, _, _, _, .nil, _ => .nil
  | _, _, 0, _, _, .cons _ r, h => .cons h r
  | _, _, i + 1, _, _, .cons q r, h => .cons q (r.set i h)
theorem RpAll.ints : ∀ {vs : List V} {ns : List Int}, RpAll K fa F vs (ns.map D.int) → vs = ns.map V.int
  | _, [], .nil => rfl
  | _, n :: ns, .cons h r => by cases h; rw [r.ints]; rfl
theorem RpAll.of_ints : ∀ (ns : List Int), RpAll K fa F (ns.map V.int) (ns.map D.int)
  | [] => .nil
  | n :: ns => .cons (.int n) (RpAll.of_ints ns)
theorem RpAll.strs : ∀ {vs : List V} {ns : List Str}, RpAll K fa F vs (ns.map D.str) → vs = ns.map V.str
  | _, [], .nil => rfl
  | _, n :: ns, .cons h r => by cases h; rw [r.strs]; rfl
theorem RpAll.of_strs : ∀ (ns : List Str), RpAll K fa F (ns.map V.str) (ns.map D.str)
  | [] => .nil
  | n :: ns => .cons (.str n) (RpAll.of_strs ns)
theorem RpAll.bls : ∀ {vs : List V} {ns : List Bool}, RpAll K fa F vs (ns.map D.bl) → vs = ns.map V.bl
  | _, [], .nil => rfl
  | _, n :: ns, .cons h r => by cases h; rw [r.bls]; rfl
theorem RpM.frz {o : HO} {m : M} {p : Addr} (h : RpM K fa F o m) (e : F p = some o) : Rp K fa F (.ref p) (frzM m) := by
  cases h with
  | l r => exact .lst e r
  | k q r => exact .dk e q r
  | t q r => exact .dt e q r
/-! ### growing -/
structure Grow (F H F' H' : Hp) : Prop where
  fh : Same F F'
  hh : Same H H'
  sub : Same F' H'
  new : ∀ a o, H a = some o → (∀ xs, o ≠ .tup xs) → F a = none → F' a = none
theorem Grow.refl (s : Same F H) : Grow F H F H := ⟨Same.refl F, Same.refl H, s, fun _ _ _ _ e => e⟩
theorem Grow.trans {F1 H1 F2 H2 : Hp} (a : Grow F H F1 H1) (b : Grow F1 H1 F2 H2) : Grow F H F2 H2 :=
  ⟨a.fh.trans b.fh, a.hh.trans b.hh, b.sub, fun c o h n e => b.new c o (a.hh _ _ h) n (a.new c o h n e)⟩
theorem upd_none {p b : Addr} {o : HO} (h : H p = none) (e : H b ≠ none) : upd H p o b = H b := upd_ne fun z => e (z ▸ h)
theorem same_upd {p : Addr} {o : HO} (h : H p = none) : Same H (upd H p o) := fun b u q => by rw [upd_ne (ne_of_none q h)]; exact q
theorem Same.none {p : Addr} (s : Same F H) (h : H p = none) : F p = none := s.free h
/-- a new object, not locked -/
theorem Grow.newH (s : Same F H) {p : Addr} {o : HO} (h : H p = none) : Grow F H F (upd H p o) :=
  ⟨Same.refl F, same_upd h, s.trans (same_upd h), fun _ _ _ _ e => e⟩
/-- a new object, locked -/
theorem Grow.newF (s : Same F H) {p : Addr} {o : HO} (h : H p = none) : Grow F H (upd F p o) (upd H p o) :=
  ⟨same_upd (s.free h), same_upd h, fun b u q => by
    by_cases hb : b = p
    · subst hb; rw [upd_same] at q ⊢; exact q
    · rw [upd_ne hb] at q ⊢; exact s _ _ q, fun a o ha _ e => by
    have hb : a ≠ p := ne_of_none ha h
    rw [upd_ne hb]; exact e⟩
/-- locking what was new -/
theorem Grow.lock {F1 H1 : Hp} (g : Grow F H F1 H1) {p : Addr} {o : HO} (h : H p = none) (e : H1 p = some o) (f : F1 p = none) : Grow F H (upd F1 p o) H1 :=
  ⟨g.fh.trans (same_upd f), g.hh, fun b u q => by
    by_cases hb : b = p
    · subst hb; rw [upd_same] at q; rw [e]; exact q
    · rw [upd_ne hb] at q; exact g.sub _ _ q, fun a o ha n ea => by
    have hb : a ≠ p := ne_of_none ha h
    rw [upd_ne hb]; exact g.new a o ha n ea⟩
/-- a tuple that stands, locked -/
theorem Grow.tup {F1 H1 : Hp} (g : Grow F H F1 H1) {p : Addr} {xs : List V} (e : H1 p = some (.tup xs)) : Grow F H (upd F1 p (.tup xs)) H1 :=
  ⟨fun b u q => by
    by_cases hb : b = p
    · subst hb
      have := g.sub _ _ (g.fh _ _ q)
      rw [e] at this
      rw [upd_same]
      exact this
    · rw [upd_ne hb]; exact g.fh _ _ q, g.hh, fun b u q => by
    by_cases hb : b = p
    · subst hb; rw [upd_same] at q; rw [e]; exact q
    · rw [upd_ne hb] at q; exact g.sub _ _ q, fun a o ha n ea => by
    have hb : a ≠ p := fun z => by
      subst z
      have := g.hh _ _ ha
      rw [e] at this
      exact n xs (Option.some.inj this).symm
    rw [upd_ne hb]; exact g.new a o ha n ea⟩
end
theorem RpM.notTup {K : PySem.W.Frag} {fa : Nat → Option Addr} {F : Hp} {o : HO} {m : M} (h : RpM K fa F o m) : ∀ xs, o ≠ .tup xs := by
  cases h <;> (intro xs z; cases z)
/-! ### the fixed part of a def's run: what stood at its entry, and the wish about errors -/
structure G where
  K : PySem.W.Frag
  fa : Nat → Option Addr
  F0 : Hp
  G0 : Hp
  E : Nat → Hp → Prop
/-- what an expression gave -/
def RB (g : G) (F H F' H' : Hp) (v : V) : B → Prop
  | .dat d => Rp g.K g.fa F' v d
  | .own m => ∃ p o, v = .ref p ∧ H p = none ∧ H' p = some o ∧ F' p = none ∧ RpM g.K g.fa F' o m
  | .vw m => ∃ p o, v = .ref p ∧ H' p = some o ∧ RpM g.K g.fa F' o m
  | .bor m => ∃ p o, v = .ref p ∧ g.G0 p = some o ∧ RpM g.K g.fa F' o m
  | .scr ns => ∃ p, v = .ref p ∧ SqL g.K g.G0 p (ns.map V.int)
/-- a value in hand -/
def RR (g : G) (F H : Hp) (v : V) : B → Prop
  | .dat d => Rp g.K g.fa F v d
  | .own _ => False
  | .vw m => ∃ p o, v = .ref p ∧ H p = some o ∧ RpM g.K g.fa F o m
  | .bor m => ∃ p o, v = .ref p ∧ g.G0 p = some o ∧ RpM g.K g.fa F o m
  | .scr ns => ∃ p, v = .ref p ∧ SqL g.K g.G0 p (ns.map V.int)
/-- what a name holds -/
def RN (g : G) (F H : Hp) (v : V) : B → Prop
  | .dat d => Rp g.K g.fa F v d
  | .own m => ∃ p o, v = .ref p ∧ H p = some o ∧ F p = none ∧ g.G0 p = none ∧ RpM g.K g.fa F o m
  | .vw _ => False
  | .bor m => ∃ p o, v = .ref p ∧ g.G0 p = some o ∧ RpM g.K g.fa F o m
  | .scr ns => ∃ p, v = .ref p ∧ SqL g.K g.G0 p (ns.map V.int)
/-- the state within a def's body -/
structure St (g : G) (F H : Hp) (σ : L2.St) (ρ : Env) : Prop where
  gr : Grow g.F0 g.G0 F H
  len : σ.length = ρ.length
  at_ : ∀ (i : Nat) (b : B), ρ[i]? = some (some b) → ∃ v, σ[i]? = some (some v) ∧ RN g F H v b
  apart : ∀ (i j : Nat) (m m' : M), i ≠ j → ρ[i]? = some (some (.own m)) → ρ[j]? = some (some (.own m')) → σ[i]? ≠ σ[j]?
section
variable {g : G} {F H F' H' : Hp} {σ : L2.St} {ρ : Env}
theorem St.sub (s : St g F H σ ρ) : Same F H := s.gr.sub
theorem RN.mono {v : V} {b : B} (r : RN g F H v b) (e : Grow F H F' H') : RN g F' H' v b := by
  cases b with
  | dat d => exact Rp.mono e.fh r
  | own m =>
    obtain ⟨p, o, rfl, h, f, n, q⟩ := r
    exact ⟨p, o, rfl, e.hh _ _ h, e.new p o h q.notTup f, n, q.mono e.fh⟩
  | vw m => exact r
  | bor m =>
    obtain ⟨p, o, rfl, h, q⟩ := r
    exact ⟨p, o, rfl, h, q.mono e.fh⟩
  | scr ns => exact r
theorem RR.mono {v : V} {b : B} (r : RR g F H v b) (e : Grow F H F' H') : RR g F' H' v b := by
  cases b with
  | dat d => exact Rp.mono e.fh r
  | own m => exact r
  | vw m =>
    obtain ⟨p, o, rfl, h, q⟩ := r
    exact ⟨p, o, rfl, e.hh _ _ h, q.mono e.fh⟩
  | bor m =>
    obtain ⟨p, o, rfl, h, q⟩ := r
    exact ⟨p, o, rfl, h, q.mono e.fh⟩
  | scr ns => exact r
/-- from an expression's value to one in hand: what is fresh is locked -/
theorem RB.rd {v : V} {b : B} (e : Grow F H F' H') (r : RB g F H F' H' v b) : ∃ F'', Grow F H F'' H' ∧ RR g F'' H' v (rd b) := by
  cases b with
  | dat d => exact ⟨F', e, r⟩
  | own m =>
    obtain ⟨p, o, rfl, h, ho, f, q⟩ := r
    refine ⟨upd F' p o, e.lock h ho f, ?_⟩
    exact (q.mono (same_upd f)).frz upd_same
  | vw m =>
    obtain ⟨p, o, rfl, h, q⟩ := r
    exact ⟨F', e, p, o, rfl, h, q⟩
  | bor m =>
    obtain ⟨p, o, rfl, h, q⟩ := r
    exact ⟨F', e, p, o, rfl, h, q⟩
  | scr ns => exact ⟨F', e, r⟩
/-- a value in hand, as an expression's value -/
theorem RR.rb {v : V} {b : B} {F0 H0 : Hp} (r : RR g F H v b) : RB g F0 H0 F H v b := by
  cases b with
  | dat d => exact r
  | own m => exact r.elim
  | vw m => exact r
  | bor m => exact r
  | scr ns => exact r
theorem RB.later {v : V} {b : B} {F1 H1 : Hp} (e : Grow F H F1 H1) (r : RB g F1 H1 F' H' v b) : RB g F H F' H' v b := by
  cases b with
  | dat d => exact r
  | own m =>
    obtain ⟨p, o, rfl, h, z⟩ := r
    exact ⟨p, o, rfl, e.hh.free h, z⟩
  | vw m => exact r
  | bor m => exact r
  | scr ns => exact r
theorem St.grow (s : St g F H σ ρ) (e : Grow F H F' H') : St g F' H' σ ρ :=
  ⟨s.gr.trans e, s.len, fun i b h => let ⟨v, h1, h2⟩ := s.at_ i b h; ⟨v, h1, h2.mono e⟩, s.apart⟩
theorem St.own_none (s : St g F H σ ρ) {i : Nat} {m : M} (h : ρ[i]? = some (some (.own m))) : ∃ p o, σ[i]? = some (some (.ref p)) ∧ H p = some o ∧ F p = none ∧ g.G0 p = none ∧ RpM g.K g.fa F o m := by
  obtain ⟨v, h1, p, o, rfl, h2⟩ := s.at_ i _ h
  exact ⟨p, o, h1, h2⟩
theorem set_some {α : Type} {l : List (Option α)} {i j : Nat} {x : Option α} {y : α} (h : (l.set i x)[j]? = some (some y)) : (i = j ∧ x = some y ∧ j < l.length) ∨ (i ≠ j ∧ l[j]? = some (some y)) := by
  by_cases hij : i = j
  · subst hij
    by_cases hl : i < l.length
    · rw [List.getElem?_set_self hl] at h
      exact .inl ⟨rfl, Option.some.inj h, hl⟩
    · rw [List.getElem?_eq_none (by simpa using hl)] at h
      cases h
  · rw [List.getElem?_set_ne hij] at h
    exact .inr ⟨hij, h⟩
/-- a name takes what an expression gave -/
theorem St.put (s : St g F H σ ρ) {v : V} {b : B} (e : Grow F H F' H') (r : RB g F H F' H' v b) (i : Nat) (hv : ∀ m, b ≠ .vw m) : St g F' H' (σ.set i (some v)) (ρ.set i (some b)) := by
  have s1 := s.grow e
  refine ⟨s1.gr, by simp [s1.len], fun j b' h => ?_, fun j k m m' hjk h1 h2 => ?_⟩
  · rcases set_some h with ⟨rfl, h1, h2⟩ | ⟨h1, h2⟩
    · cases h1
      refine ⟨v, by rw [List.getElem?_set_self (by rw [s1.len]; exact h2)], ?_⟩
      cases b with
      | dat d => exact r
      | own m =>
        obtain ⟨p, o, rfl, h, z, f, q⟩ := r
        exact ⟨p, o, rfl, z, f, s.gr.hh.free h, q⟩
      | vw m => exact absurd rfl (hv m)
      | bor m => exact r
      | scr ns => exact r
    · obtain ⟨w, h3, h4⟩ := s1.at_ j b' h2
      exact ⟨w, by rw [List.getElem?_set_ne h1]; exact h3, h4⟩
  · -- what is fresh stands apart
    have fresh : ∀ {m : M} {j : Nat} {m' : M}, b = .own m → ρ[j]? = some (some (.own m')) → σ[j]? ≠ some (some v) := fun {m j m'} hb hj => by
      subst hb
      obtain ⟨p, o, rfl, h, _⟩ := r
      obtain ⟨q, oq, h3, h4, _⟩ := s.own_none hj
      rw [h3]
      intro z
      cases z
      rw [h] at h4
      cases h4
    rcases set_some h1 with ⟨rfl, e1, l1⟩ | ⟨n1, e1⟩ <;> rcases set_some h2 with ⟨rfl, e2, l2⟩ | ⟨n2, e2⟩
    · exact absurd rfl hjk
    · cases e1
      rw [List.getElem?_set_self (by rw [s.len]; exact l1), List.getElem?_set_ne n2]
      exact fun z => fresh rfl e2 z.symm
    · cases e2
      rw [List.getElem?_set_self (by rw [s.len]; exact l2), List.getElem?_set_ne n1]
      exact fresh rfl e1
    · rw [List.getElem?_set_ne n1, List.getElem?_set_ne n2]
      exact s1.apart j k m m' hjk e1 e2
/-- a name is forgotten -/
theorem St.drop (s : St g F H σ ρ) (i : Nat) : St g F H (σ.set i none) (ρ.set i none) := by
  refine ⟨s.gr, by simp [s.len], fun j b h => ?_, fun j k m m' hjk h1 h2 => ?_⟩
  · rcases set_some h with ⟨rfl, h1, h2⟩ | ⟨h1, h2⟩
    · cases h1
    · obtain ⟨w, h3, h4⟩ := s.at_ j b h2
      exact ⟨w, by rw [List.getElem?_set_ne h1]; exact h3, h4⟩
  · rcases set_some h1 with ⟨rfl, e1, l1⟩ | ⟨n1, e1⟩
    · cases e1
    rcases set_some h2 with ⟨rfl, e2, l2⟩ | ⟨n2, e2⟩
    · cases e2
    rw [List.getElem?_set_ne n1, List.getElem?_set_ne n2]
    exact s.apart j k m m' hjk e1 e2
/-- an owned object is changed -/
theorem St.change (s : St g F H σ ρ) {i : Nat} {m m' : M} {p : Addr} {o' : HO} (h : ρ[i]? = some (some (.own m))) (hp : σ[i]? = some (some (.ref p))) (q : RpM g.K g.fa F o' m') : St g F (upd H p o') σ (ρ.set i (some (.own m'))) := by
  obtain ⟨p', o, h1, h2, h3, h4, h5⟩ := s.own_none h
  rw [hp] at h1
  cases h1
  have il : i < ρ.length := (List.getElem?_eq_some_iff.mp h).1
  refine ⟨⟨s.gr.fh, fun b u z => ?_, fun b u z => ?_, s.gr.new⟩, by simp [s.len], fun j b hj => ?_, fun j k n n' hjk e1 e2 => ?_⟩
  · rw [upd_ne (ne_of_none z h4)]; exact s.gr.hh _ _ z
  · rw [upd_ne (ne_of_none z h3)]; exact s.sub _ _ z
  · rcases set_some hj with ⟨rfl, e1, l1⟩ | ⟨n1, e1⟩
    · cases e1
      exact ⟨_, hp, p, o', rfl, upd_same, h3, h4, q⟩
    · obtain ⟨w, h6, h7⟩ := s.at_ j b e1
      refine ⟨w, h6, ?_⟩
      cases b with
      | dat d => exact h7
      | own n =>
        obtain ⟨r, or, rfl, a1, a2, a3, a4⟩ := h7
        have ne : r ≠ p := fun z => s.apart i j m n n1 h e1 (by rw [hp, h6, z])
        exact ⟨r, or, rfl, by rw [upd_ne ne]; exact a1, a2, a3, a4⟩
      | vw n => exact h7
      | bor n => exact h7
      | scr ns => exact h7
  · have back : ∀ {j : Nat} {n : M}, (ρ.set i (some (.own m')))[j]? = some (some (.own n)) → ∃ n', ρ[j]? = some (some (.own n')) := fun {j n} hj => by
      rcases set_some hj with ⟨rfl, e1, l1⟩ | ⟨n1, e1⟩
      · exact ⟨m, h⟩
      · exact ⟨n, e1⟩
    obtain ⟨a, ha⟩ := back e1
    obtain ⟨b, hb⟩ := back e2
    exact s.apart j k a b hjk ha hb
/-- an owned object is locked -/
theorem St.lock (s : St g F H σ ρ) {i : Nat} {m : M} (h : ρ[i]? = some (some (.own m))) : ∃ F', Grow g.F0 g.G0 F' H ∧ Same F F' ∧ St g F' H σ (ρ.set i (some (.dat (frzM m)))) := by
  obtain ⟨p, o, h1, h2, h3, h4, h5⟩ := s.own_none h
  have gr : Grow g.F0 g.G0 (upd F p o) H := s.gr.lock h4 h2 h3
  refine ⟨upd F p o, gr, same_upd h3, gr, by simp [s.len], fun j b hj => ?_, fun j k n n' hjk e1 e2 => ?_⟩
  · rcases set_some hj with ⟨rfl, e1, l1⟩ | ⟨n1, e1⟩
    · cases e1
      exact ⟨_, h1, (h5.mono (same_upd h3)).frz upd_same⟩
    · obtain ⟨w, h6, h7⟩ := s.at_ j b e1
      refine ⟨w, h6, ?_⟩
      cases b with
      | dat d => exact Rp.mono (same_upd h3) h7
      | own n =>
        obtain ⟨r, or, rfl, a1, a2, a3, a4⟩ := h7
        have ne : r ≠ p := fun z => s.apart i j m n n1 h e1 (by rw [h1, h6, z])
        exact ⟨r, or, rfl, a1, by rw [upd_ne ne]; exact a2, a3, a4.mono (same_upd h3)⟩
      | vw n => exact h7
      | bor n =>
        obtain ⟨r, or, rfl, a1, a2⟩ := h7
        exact ⟨r, or, rfl, a1, a2.mono (same_upd h3)⟩
      | scr ns => exact h7
  · have back : ∀ {j : Nat} {n : M}, (ρ.set i (some (.dat (frzM m))))[j]? = some (some (.own n)) → ρ[j]? = some (some (.own n)) := fun {j n} hj => by
      rcases set_some hj with ⟨rfl, e1, l1⟩ | ⟨n1, e1⟩
      · cases e1
      · exact e1
    exact s.apart j k n n' hjk (back e1) (back e2)
end
/-! ### readings -/
/-- what is wanted behind an expression that ends so -/
def Post (g : G) (F H : Hp) (r : Res B) (Q : VK) : Prop := match r with
  | .ok b => ∀ v F' H', Grow F H F' H' → RB g F H F' H' v b → Q v H'
  | .exc c => ∀ F' H', Grow F H F' H' → g.E c H'
  | .bad => False
def tF (g : G) (f : Env → Res B) : TE := fun σ H Q => ∃ F ρ, St g F H σ ρ ∧ Post g F H (f ρ) Q
def PostA (g : G) (F H : Hp) (r : Res (List B)) (Q : List V → Hp → Prop) : Prop := match r with
  | .ok bs => ∀ vs F' H', Grow F H F' H' → Paired (RR g F' H') vs bs → Q vs H'
  | .exc c => ∀ F' H', Grow F H F' H' → g.E c H'
  | .bad => False
def tFA (g : G) (f : Env → Res (List B)) : TA := fun σ H Q => ∃ F ρ, St g F H σ ρ ∧ PostA g F H (f ρ) Q
def PostT (g : G) (F H : Hp) (r : Res Bool) (Q : Bool → Hp → Prop) : Prop := match r with
  | .ok b => ∀ F' H', Grow F H F' H' → Q b H'
  | .exc c => ∀ F' H', Grow F H F' H' → g.E c H'
  | .bad => False
def tFT (g : G) (f : Env → Res Bool) : TT := fun σ H Q => ∃ F ρ, St g F H σ ρ ∧ PostT g F H (f ρ) Q
section
variable {g : G} {F H F' H' : Hp} {σ : L2.St} {ρ : Env}
theorem Post.later {r : Res B} {Q : VK} (h : Post g F H r Q) (e : Grow F H F' H') : Post g F' H' r Q := by
  cases r with
  | ok b => exact fun v F2 H2 e2 rb => h v F2 H2 (e.trans e2) (rb.later e)
  | exc c => exact fun F2 H2 e2 => h F2 H2 (e.trans e2)
  | bad => exact h
theorem PostA.later {r : Res (List B)} {Q : List V → Hp → Prop} (h : PostA g F H r Q) (e : Grow F H F' H') : PostA g F' H' r Q := by
  cases r with
  | ok b => exact fun v F2 H2 e2 rb => h v F2 H2 (e.trans e2) rb
  | exc c => exact fun F2 H2 e2 => h F2 H2 (e.trans e2)
  | bad => exact h
theorem PostT.later {r : Res Bool} {Q : Bool → Hp → Prop} (h : PostT g F H r Q) (e : Grow F H F' H') : PostT g F' H' r Q := by
  cases r with
  | ok b => exact fun F2 H2 e2 => h F2 H2 (e.trans e2)
  | exc c => exact fun F2 H2 e2 => h F2 H2 (e.trans e2)
  | bad => exact h
/-- an expression's reading, then what is done with its value in hand -/
theorem run1 {f : Env → Res B} {Q : VK} (s : St g F H σ ρ) (hok : ∀ b v F1 H1, f ρ = .ok b → Grow F H F1 H1 → RR g F1 H1 v (rd b) → Q v H1) (hexc : ∀ c, f ρ = .exc c → ∀ F' H', Grow F H F' H' → g.E c H') (hbad : f ρ ≠ .bad) : tF g f σ H Q := by
  refine ⟨F, ρ, s, ?_⟩
  cases e : f ρ with
  | ok b => exact fun v F1 H1 e1 rb => let ⟨F2, e2, r2⟩ := rb.rd e1; hok b v F2 H1 e e2 r2
  | exc c => exact hexc c e
  | bad => exact hbad e
end
end Fn
namespace Fn
open PySem PySem.Spec PyProof.Rows L2
/-! ### data as the library's data -/
mutual
def toPy : D → PyData
  | .non => .none
  | .bl b => .bool b
  | .int i => .int i
  | .str x => .str x
  | .tup xs => .tuple (toPys xs)
  | .ctup xs => .tuple (toPys xs)
  | .lst xs => .list (toPys xs)
  | .dk _ => .dict []
  | .dt _ => .dict []
  | .fn _ => .dict []
def toPys : List D → List PyData
  | [] => []
  | x :: xs => toPy x :: toPys xs
end
theorem toPys_map (xs : List D) : toPys xs = xs.map toPy := by
  induction xs with
  | nil => rfl
  | cons x xs ih => rw [toPys, ih]; rfl
structure Sm (g : G) (F H : Hp) : Prop where
  fh : Same F H
  gh : Same g.G0 H
theorem St.sm {g : G} {F H : Hp} {σ : L2.St} {ρ : Env} (s : St g F H σ ρ) : Sm g F H := ⟨s.gr.sub, s.gr.hh⟩
theorem Sm.grow {g : G} {F H F' H' : Hp} (s : Sm g F H) (e : Grow F H F' H') : Sm g F' H' := ⟨e.sub, s.gh.trans e.hh⟩
section
variable {g : G} {F H F' H' : Hp}
theorem sqT_none {K : PySem.W.Frag} {a : Addr} {xs : List V} (h : SqT K (fun _ => none) a xs) : SqT K H a xs := by
  rcases h with (h | ⟨o, h⟩) | h
  · cases h
  · cases h
  · exact .inr h
mutual
theorem Rp.dp {K : PySem.W.Frag} {fa : Nat → Option Addr} (e : Same F H) : ∀ {v : V} {d : D}, Rp K fa F v d → (toPy d).canLay0 = true → Dp K H v (toPy d)
  | _, _, .non, _ => .non
  | _, _, .bl b, _ => .bl b
  | _, _, .int i, _ => .int i
  | _, _, .str x, _ => .str x
  | _, _, .tup h r, c => by
    simp only [toPy, PyData.canLay0] at c ⊢
    exact .tup (SqT.of (e _ _ h)) (RpAll.dp e r c)
  | _, _, .ctup h r, c => by
    simp only [toPy, PyData.canLay0] at c ⊢
    exact .tup (sqT_none h) (RpAll.dp e r c)
  | _, _, .lst h r, c => by
    simp only [toPy, PyData.canLay0] at c ⊢
    exact .lst (SqL.of (e _ _ h)) (RpAll.dp e r c)
  | _, _, .dk _ _ _, c => by simp [toPy, PyData.canLay0] at c
  | _, _, .dt _ _ _, c => by simp [toPy, PyData.canLay0] at c
  | _, _, .fn _, c => by simp [toPy, PyData.canLay0] at c
theorem RpAll.dp {K : PySem.W.Frag} {fa : Nat → Option Addr} (e : Same F H) : ∀ {vs : List V} {ds : List D}, RpAll K fa F vs ds → PyData.canLayAll0 (toPys ds) = true → DpAll K H vs (toPys ds)
  | _, _, .nil, _ => .nil
  | _, _, .cons h r, c => by
    simp only [toPys, PyData.canLayAll0, Bool.and_eq_true] at c ⊢
    exact .cons (Rp.dp e h c.1) (RpAll.dp e r c.2)
end
/-! ### what is wanted behind a result -/
theorem Post.dat {d : D} {Q : VK} {v : V} (h : Post g F H (.ok (.dat d)) Q) (s : Sm g F H) (r : Rp g.K g.fa F v d) : Q v H := h v F H (Grow.refl s.fh) r
theorem Post.int {i : Int} {Q : VK} (h : Post g F H (.ok (.dat (.int i))) Q) (s : Sm g F H) : Q (.int i) H := h.dat s (.int i)
theorem Post.bl {i : Bool} {Q : VK} (h : Post g F H (.ok (.dat (.bl i))) Q) (s : Sm g F H) : Q (.bl i) H := h.dat s (.bl i)
theorem Post.str {i : Str} {Q : VK} (h : Post g F H (.ok (.dat (.str i))) Q) (s : Sm g F H) : Q (.str i) H := h.dat s (.str i)
theorem Post.newM {m : M} {o : HO} {Q : VK} (h : Post g F H (.ok (.own m)) Q) (s : Sm g F H) (r : RpM g.K g.fa F o m) (p : Addr) (hp : H p = none) : Q (.ref p) (upd H p o) :=
  h (.ref p) F (upd H p o) (Grow.newH s.fh hp) ⟨p, o, rfl, hp, upd_same, s.fh.free hp, r⟩
theorem Post.newL {ds : List D} {xs : List V} {Q : VK} (h : Post g F H (.ok (.own (.l ds))) Q) (s : Sm g F H) (r : RpAll g.K g.fa F xs ds) (p : Addr) (hp : H p = none) : Q (.ref p) (upd H p (.lst xs)) :=
  h.newM s (.l r) p hp
theorem Post.newT {ds : List D} {xs : List V} {Q : VK} (h : Post g F H (.ok (.dat (.tup ds))) Q) (s : Sm g F H) (r : RpAll g.K g.fa F xs ds) (p : Addr) (hp : H p = none) : Q (.ref p) (upd H p (.tup xs)) :=
  h (.ref p) (upd F p (.tup xs)) (upd H p (.tup xs)) (Grow.newF s.fh hp) (.tup upd_same (r.mono (same_upd (s.fh.free hp))))
/-! ### readings of sequences -/
def seqI : B → Option (List D)
  | .dat (.tup xs) => some xs
  | .dat (.ctup xs) => some xs
  | .dat (.lst xs) => some xs
  | .vw (.l xs) => some xs
  | .bor (.l xs) => some xs
  | .scr ns => some (ns.map .int)
  | _ => none
/-- lists that stand by themselves in the heap -/
def seqL : B → Option (List D)
  | .dat (.lst xs) => some xs
  | .vw (.l xs) => some xs
  | .bor (.l xs) => some xs
  | _ => none
theorem seqL_ok {v : V} {b : B} {ds : List D} (s : Sm g F H) (r : RR g F H v b) (h : seqL b = some ds) : ∃ a xs, v = .ref a ∧ H a = some (.lst xs) ∧ RpAll g.K g.fa F xs ds := by
  unfold seqL at h
  split at h
  · cases h
    cases r with
    | lst h1 h2 => exact ⟨_, _, rfl, s.fh _ _ h1, h2⟩
  · cases h
    obtain ⟨p, o, rfl, h1, h2⟩ := r
    cases h2 with
    | l h2 => exact ⟨_, _, rfl, h1, h2⟩
  · cases h
    obtain ⟨p, o, rfl, h1, h2⟩ := r
    cases h2 with
    | l h2 => exact ⟨_, _, rfl, s.gh _ _ h1, h2⟩
  · cases h
theorem seqI_ok {v : V} {b : B} {ds : List D} (s : Sm g F H) (r : RR g F H v b) (h : seqI b = some ds) : ∃ a xs, v = .ref a ∧ (SqL g.K H a xs ∨ SqT g.K H a xs) ∧ RpAll g.K g.fa F xs ds := by
  unfold seqI at h
  split at h
  · cases h
    cases r with
    | tup h1 h2 => exact ⟨_, _, rfl, .inr (SqT.of (s.fh _ _ h1)), h2⟩
  · cases h
    cases r with
    | ctup h1 h2 => exact ⟨_, _, rfl, .inr (sqT_none h1), h2⟩
  · cases h
    cases r with
    | lst h1 h2 => exact ⟨_, _, rfl, .inl (SqL.of (s.fh _ _ h1)), h2⟩
  · cases h
    obtain ⟨p, o, rfl, h1, h2⟩ := r
    cases h2 with
    | l h2 => exact ⟨_, _, rfl, .inl (SqL.of h1), h2⟩
  · cases h
    obtain ⟨p, o, rfl, h1, h2⟩ := r
    cases h2 with
    | l h2 => exact ⟨_, _, rfl, .inl (SqL.of (s.gh _ _ h1)), h2⟩
  · cases h
    obtain ⟨p, rfl, h1⟩ := r
    exact ⟨_, _, rfl, .inl (s.gh.seq h1), RpAll.of_ints _⟩
  · cases h
end
/-! ### operators -/
def OpG (g : G) (r : R2) (f : B → B → Res B) : Prop := ∀ (F H : Hp) (x y : V) (a b : B) (Q : VK), Sm g F H → RR g F H x a → RR g F H y b → Post g F H (f a b) Q → r x y H Q
def bin2 (f : B → B → Res B) (fa fb : Env → Res B) : Env → Res B := fun ρ => (fa ρ).bind fun x => (fb ρ).bind fun y => f (rd x) (rd y)
section
variable {X : Cx} {g : G} {a b : Expr} {fa fb : Env → Res B} {pos : Pos}
theorem PE.imp {e : Expr} {t t' : TE} (h : PE X e t) (i : ∀ σ H Q, t' σ H Q → t σ H Q) : PE X e t' := ⟨fun pins s σ H Q I w => h.run pins s σ H Q I (i σ H Q w)⟩
theorem PT.imp {e : Expr} {t t' : TT} (h : PT X e t) (i : ∀ σ H Q, t' σ H Q → t σ H Q) : PT X e t' := ⟨fun pins s σ H Q I w => h.run pins s σ H Q I (i σ H Q w)⟩
theorem PA.imp {e : List Expr} {t t' : TA} (h : PA X e t) (i : ∀ σ H Q, t' σ H Q → t σ H Q) : PA X e t' := ⟨fun p pins s σ H Q I w => h.run p pins s σ H Q I (i σ H Q w)⟩
/-- two expressions, then an operation on their values -/
theorem run2 {r : R2} {f : B → B → Res B} (hg : OpG g r f) {σ : L2.St} {H : Hp} {Q : VK} (h : tF g (bin2 f fa fb) σ H Q) : tOp r (tF g fa) (tF g fb) σ H Q := by
  obtain ⟨F, ρ, s, p⟩ := h
  unfold bin2 at p
  refine run1 s (fun bx v F1 H1 e1 g1 r1 => ?_) (fun c e => ?_) (fun e => ?_)
  · rw [e1, Res.ok_bind] at p
    have s1 := s.grow g1
    refine run1 s1 (fun by_ w F2 H2 e2 g2 r2 => ?_) (fun c e => ?_) (fun e => ?_)
    · rw [e2, Res.ok_bind] at p
      exact hg F2 H2 v w _ _ Q (s1.sm.grow g2) (r1.mono g2) r2 (p.later (g1.trans g2))
    · rw [e, Res.exc_bind] at p
      exact fun F' H' gr => p F' H' (g1.trans gr)
    · rw [e] at p
      exact p
  · rw [e] at p
    exact p
  · rw [e] at p
    exact p
theorem fe_bin {op : Operator} {r : R2} {f : B → B → Res B} (ho : OpR X (binaryOp op) r) (hg : OpG g r f) (ha : PE X a (tF g fa)) (hb : PE X b (tF g fb)) : PE X (.BinOp a op b pos) (tF g (bin2 f fa fb)) :=
  PE.imp (pe_op ho ha hb) fun _ _ _ h => run2 hg h
theorem fe_cmp {op : CmpOp} {r : R2} {f : B → B → Res B} (ho : OpR X (compareOp op) r) (hg : OpG g r f) (ha : PE X a (tF g fa)) (hb : PE X b (tF g fb)) (hm : behindInMarks op b = false) : PE X (.Compare a [op] [b] pos) (tF g (bin2 f fa fb)) :=
  PE.imp (pe_cmpR ho ha hb hm) fun _ _ _ h => run2 hg h
end
/-! #### + -/
def catL (xs : List D) (b : B) : Res B := match seqL b with
  | some ys => if xs.length + ys.length ≤ sizeLine then .ok (.own (.l (xs ++ ys))) else .bad
  | none => .bad
def catT (xs : List D) (b : B) : Res B := match b with
  | .dat (.tup ys) => if xs.length + ys.length ≤ sizeLine then .ok (.dat (.tup (xs ++ ys))) else .bad
  | _ => .bad
def addB (a b : B) : Res B := match a with
  | .dat (.int i) => (match b with | .dat (.int j) => .ok (.dat (.int (i + j))) | _ => .bad)
  | .dat (.str i) => (match b with | .dat (.str j) => if i.length + j.length ≤ sizeLine then .ok (.dat (.str (i ++ j))) else .bad | _ => .bad)
  | .dat (.tup xs) => catT xs b
  | .dat (.lst xs) => catL xs b
  | .vw (.l xs) => catL xs b
  | .bor (.l xs) => catL xs b
  | _ => .bad
def rAdd (K : PySem.W.Frag) : R2 := fun x y H Q => rI0 (fun i j => .int (i + j)) x y H Q ∨ (∃ i j, x = .str i ∧ y = .str j ∧ i.length + j.length ≤ sizeLine ∧ Q (.str (i ++ j)) H) ∨ rCatA K x y H Q ∨ rCat x y H Q
theorem op_addF {X : Cx} : OpR X (binaryOp .Add) (rAdd X.K) := OpR.or op_add (OpR.or op_add_str (OpR.or op_catA op_cat))
theorem g_add {g : G} {K : PySem.W.Frag} (hK : g.K = K) : OpG g (rAdd K) addB := by
  subst hK
  intro F H x y a b Q s ra rb p
  have cat : ∀ {xs : List D}, seqL a = some xs → Post g F H (catL xs b) Q → rAdd g.K x y H Q := fun {xs} ha p => by
    unfold catL at p
    split at p
    · rename_i ys hb
      split at p
      · rename_i hz
        obtain ⟨p1, xs', rfl, h1, r1⟩ := seqL_ok s ra ha
        obtain ⟨p2, ys', rfl, h2, r2⟩ := seqL_ok s rb hb
        exact .inr (.inr (.inr ⟨p1, p2, xs', ys', rfl, rfl, h1, h2, by rw [r1.len, r2.len]; exact hz, p.newL s (r1.app r2)⟩))
      · exact p.elim
    · exact p.elim
  unfold addB at p
  split at p
  · split at p
    · cases ra
      cases rb
      exact .inl ⟨_, _, rfl, rfl, p.int s⟩
    · exact p.elim
  · split at p
    · split at p
      · rename_i hz
        cases ra
        cases rb
        exact .inr (.inl ⟨_, _, rfl, rfl, hz, p.str s⟩)
      · exact p.elim
    · exact p.elim
  · unfold catT at p
    split at p
    · split at p
      · rename_i xs ys hz
        cases ra with
        | tup h1 r1 =>
          cases rb with
          | tup h2 r2 =>
            refine .inr (.inr (.inl ⟨_, _, _, _, rfl, rfl, SqT.of (s.fh _ _ h1), SqT.of (s.fh _ _ h2), by rw [r1.len, r2.len]; exact hz, fun e => ?_, fun e e2 => ?_, fun _ _ => ?_⟩))
            · subst e
              cases r1
              exact p.dat s (.tup h2 r2)
            · subst e2
              cases r2
              rw [List.append_nil] at p
              exact p.dat s (.tup h1 r1)
            · exact p.newT s (r1.app r2)
      · exact p.elim
    · exact p.elim
  · exact cat rfl p
  · exact cat rfl p
  · exact cat rfl p
  · exact p.elim
/-! #### -, *, //, %, <<, >>, &, ** -/
def int2 (C : Int → Int → Bool) (f : Int → Int → Int) (a b : B) : Res B := match a with
  | .dat (.int i) => (match b with | .dat (.int j) => if C i j then .ok (.dat (.int (f i j))) else .bad | _ => .bad)
  | _ => .bad
theorem g_int2 {g : G} {C : Int → Int → Bool} {C' : Int → Int → Prop} {f : Int → Int → Int} (hC : ∀ i j, C i j = true → C' i j) : OpG g (rI C' fun i j => .int (f i j)) (int2 C f) := by
  intro F H x y a b Q s ra rb p
  unfold int2 at p
  split at p
  · split at p
    · split at p
      · rename_i hc
        cases ra
        cases rb
        exact ⟨_, _, rfl, rfl, hC _ _ hc, p.int s⟩
      · exact p.elim
    · exact p.elim
  · exact p.elim
def CDivG (i j : Int) : Prop := j ≠ 0 ∧ j.natAbs.log2 < 9000
theorem op_fdivG {X : Cx} : OpR X (binaryOp .FloorDiv) (rI CDivG fun i j => .int (i.fdiv j)) := opI fun _ _ _ _ _ _ _ hc q => floordiv_int hc.1 q (.inl (PyProof.noPylong_of_log2 hc.2))
theorem op_modG {X : Cx} : OpR X (binaryOp .Mod) (rI (fun _ j => j ≠ 0) fun i j => .int (i.fmod j)) := opI fun _ _ _ _ _ _ _ hc q => mod_int' hc q
def subB : B → B → Res B := int2 (fun _ _ => true) (fun i j => i - j)
def divB : B → B → Res B := int2 (fun _ j => decide (j ≠ 0) && decide (j.natAbs.log2 < 9000)) Int.fdiv
def modB : B → B → Res B := int2 (fun _ j => decide (j ≠ 0)) Int.fmod
def shlB : B → B → Res B := int2 (fun i j => decide (0 ≤ j) && decide (j ≤ 1000000) && decide (i.natAbs < 2 ^ 64)) fun i j => i * 2 ^ j.toNat
def powB : B → B → Res B := int2 (fun i j => decide (0 ≤ j) && decide (j ≤ 1000000) && decide (i.natAbs < 2 ^ 64)) fun i j => i ^ j.toNat
def shrB : B → B → Res B := int2 (fun _ j => decide (0 ≤ j)) fun i j => i / 2 ^ j.toNat
def andB : B → B → Res B := int2 (fun _ _ => true) Builtin.bitAnd
/-- x repeated -/
def repS (x : Str) (n : Int) : Str := ⟨(List.replicate n.toNat x.cps.toList).flatten.toArray⟩
def mulB (a b : B) : Res B := match a with
  | .dat (.int i) => (match b with | .dat (.int j) => if i.natAbs.log2 + j.natAbs.log2 < 1000000 then .ok (.dat (.int (i * j))) else .bad | _ => .bad)
  | .dat (.str x) => (match b with | .dat (.int j) => if -1000 ≤ j ∧ j ≤ 1000 ∧ x.length ≤ 1000 then .ok (.dat (.str (repS x j))) else .bad | _ => .bad)
  | _ => .bad
theorem fold_rep (x : Str) : ∀ (k : Nat) (acc : List Nat), (List.replicate k x.cps).foldl (· ++ ·) acc.toArray = (acc ++ (List.replicate k x.cps.toList).flatten).toArray
  | 0, acc => by simp
  | k + 1, acc => by
    rw [List.replicate_succ, List.foldl_cons, List.replicate_succ, List.flatten_cons, ← List.append_assoc]
    have e : acc.toArray ++ x.cps = (acc ++ x.cps.toList).toArray := by simp
    rw [e]
    exact fold_rep x k _
theorem rep_eq (x : Str) (k : Nat) : (⟨(List.replicate k x.cps).foldl (· ++ ·) #[]⟩ : Str) = ⟨(List.replicate k x.cps.toList).flatten.toArray⟩ := by
  have e := fold_rep x k []
  rw [List.nil_append] at e
  exact congrArg Str.mk e
def rRepS : R2 := fun x y H Q => ∃ z j, x = .str z ∧ y = .int j ∧ -1000 ≤ j ∧ j ≤ 1000 ∧ z.length ≤ 1000 ∧ Q (.str (repS z j)) H
theorem op_repS {X : Cx} : OpR X (binaryOp .Mult) rRepS := by
  intro pins s σ H x y v u Q I rx ry h
  obtain ⟨z, j, rfl, rfl, h1, h2, h3, q⟩ := h
  obtain ⟨t, rfl⟩ := rx
  obtain ⟨t', rfl⟩ := ry
  have hr : (decide (j < -(2 ^ 63 : Int)) || decide (j ≥ 2 ^ 63)) = false := by
    have a1 : ¬ j < -(2 ^ 63 : Int) := by omega
    have a2 : ¬ j ≥ 2 ^ 63 := by omega
    rw [decide_eq_false a1, decide_eq_false a2]
    rfl
  have line : sizeLine = 16777216 := sizeLine_eq
  refine PySem.P.mul_str hr (fun hj _ => ?_) (fun hj _ => ?_) ?_
  · have z1 : (1000 : Int) ≤ (2 ^ 63 - 1) / j := by
      rw [Int.le_ediv_iff_mul_le (by omega)]
      omega
    omega
  · have hk : j.toNat ≤ 1000 := by omega
    have hm : z.length * j.toNat ≤ 1000 * 1000 := Nat.mul_le_mul h3 hk
    unfold Builtin.Str.tooLong
    rw [decide_eq_false]
    omega
  · have e0 : ∀ w : Str, w = repS z j → EP X pins σ Q (.str w s.toks) { s with toks := s.toks + 1 } := fun w e => ⟨.str w, H, I.tok _, ⟨_, rfl⟩, by rw [e]; exact q⟩
    by_cases c1 : j < 1
    · rw [if_pos c1]
      refine ⟨by decide, e0 _ ?_⟩
      have : j.toNat = 0 := by omega
      unfold repS
      rw [this]
      rfl
    · rw [if_neg c1]
      by_cases c2 : (j == 1 || z.length == 0) = true
      · rw [if_pos c2]
        refine ⟨.str z, H, I, ⟨_, rfl⟩, ?_⟩
        have e : z = repS z j := by
          unfold repS
          rw [Bool.or_eq_true] at c2
          rcases c2 with c2 | c2
          · have : j = 1 := by simpa using c2
            subst this
            simp
          · have hz : z.length = 0 := by simpa using c2
            have hl : z.cps.toList = [] := by
              have : z.cps.toList.length = 0 := by rw [Array.length_toList]; exact hz
              exact List.length_eq_zero_iff.mp this
            have hc : z.cps = #[] := by
              have := congrArg List.toArray hl
              simpa using this
            rw [hl]
            have : (List.replicate j.toNat ([] : List Nat)).flatten = [] := by simp
            rw [this]
            cases z
            simp only at hc
            rw [hc]
        rw [← e] at q
        exact q
      · rw [if_neg c2, rep_eq]
        refine ⟨?_, e0 _ rfl⟩
        have hk : j.toNat ≤ 1000 := by omega
        have hm : j.toNat * z.length ≤ 1000 * 1000 := Nat.mul_le_mul hk h3
        have e : (⟨(List.replicate j.toNat z.cps.toList).flatten.toArray⟩ : Str).length = j.toNat * z.length := by
          simp [Str.length]
        rw [e]
        omega
def rMul : R2 := fun x y H Q => rI CMulW (fun i j => .int (i * j)) x y H Q ∨ rRepS x y H Q
theorem op_mulF {X : Cx} : OpR X (binaryOp .Mult) rMul := OpR.or op_mulW op_repS
theorem g_mul {g : G} : OpG g rMul mulB := by
  intro F H x y a b Q s ra rb p
  unfold mulB at p
  split at p
  · split at p
    · split at p
      · rename_i hc
        cases ra
        cases rb
        exact .inl ⟨_, _, rfl, rfl, hc, p.int s⟩
      · exact p.elim
    · exact p.elim
  · split at p
    · split at p
      · rename_i hc
        cases ra
        cases rb
        exact .inr ⟨_, _, rfl, rfl, hc.1, hc.2.1, hc.2.2, p.str s⟩
      · exact p.elim
    · exact p.elim
  · exact p.elim
theorem g_sub {g : G} : OpG g (rI0 fun i j => .int (i - j)) subB := fun F H x y a b Q s ra rb p => by
  obtain ⟨i, j, h1, h2, _, q⟩ := g_int2 (C' := fun _ _ => True) (fun _ _ _ => trivial) F H x y a b Q s ra rb p
  exact ⟨i, j, h1, h2, q⟩
theorem g_and {g : G} : OpG g (rI0 fun i j => .int (Builtin.bitAnd i j)) andB := fun F H x y a b Q s ra rb p => by
  obtain ⟨i, j, h1, h2, _, q⟩ := g_int2 (C' := fun _ _ => True) (fun _ _ _ => trivial) F H x y a b Q s ra rb p
  exact ⟨i, j, h1, h2, q⟩
theorem g_div {g : G} : OpG g (rI CDivG fun i j => .int (i.fdiv j)) divB := g_int2 fun i j h => by
  rw [Bool.and_eq_true] at h
  exact ⟨of_decide_eq_true h.1, of_decide_eq_true h.2⟩
theorem g_mod {g : G} : OpG g (rI (fun _ j => j ≠ 0) fun i j => .int (i.fmod j)) modB := g_int2 fun i j h => of_decide_eq_true h
theorem pow_c {i j : Int} (h : (decide (0 ≤ j) && decide (j ≤ 1000000) && decide (i.natAbs < 2 ^ 64)) = true) : CPow i j := by
  rw [Bool.and_eq_true, Bool.and_eq_true] at h
  exact ⟨of_decide_eq_true h.1.1, of_decide_eq_true h.1.2, of_decide_eq_true h.2⟩
theorem g_shl {g : G} : OpG g (rI CPow fun i j => .int (i * 2 ^ j.toNat)) shlB := g_int2 fun i j h => pow_c h
theorem g_pow {g : G} : OpG g (rI CPow fun i j => .int (i ^ j.toNat)) powB := g_int2 fun i j h => pow_c h
theorem g_shr {g : G} : OpG g (rI (fun _ j => 0 ≤ j) fun i j => .int (i / 2 ^ j.toNat)) shrB := g_int2 fun i j h => of_decide_eq_true h
end Fn
namespace Fn
open PySem PySem.Spec PyProof.Rows L2
/-! #### ==, != -/
def datOf : B → D
  | .dat d => d
  | .own m => frzM m
  | .vw m => frzM m
  | .bor m => frzM m
  | .scr ns => .lst (ns.map .int)
/-- == of data; True and 1 are alike to it -/
def eqD (d e : D) : Res Bool := if (SeqAt.shaped (toPy d) && SeqAt.shaped (toPy e)) = true then .ok (PyData.eqv (toPy d) (toPy e)) else .bad
def eqB (a b : B) : Res B := (eqD (datOf a) (datOf b)).bind fun k => .ok (.dat (.bl k))
def neB (a b : B) : Res B := (eqD (datOf a) (datOf b)).bind fun k => .ok (.dat (.bl !k))
section
variable {g : G} {F H : Hp} {v : V}
theorem frz_dp {p : Addr} {o : HO} {m : M} (s : Sm g F H) (h : H p = some o) (r : RpM g.K g.fa F o m) (c : (toPy (frzM m)).canLay0 = true) : Dp g.K H (.ref p) (toPy (frzM m)) := by
  cases r with
  | l r =>
    simp only [frzM, toPy, PyData.canLay0] at c ⊢
    exact .lst (SqL.of h) (RpAll.dp s.fh r c)
  | k _ _ => simp [frzM, toPy, PyData.canLay0] at c
  | t _ _ => simp [frzM, toPy, PyData.canLay0] at c
theorem RR.dp {b : B} (s : Sm g F H) (r : RR g F H v b) (c : (toPy (datOf b)).canLay0 = true) : Dp g.K H v (toPy (datOf b)) := by
  cases b with
  | dat d => exact Rp.dp s.fh r c
  | own m => exact r.elim
  | vw m =>
    obtain ⟨p, o, rfl, h, q⟩ := r
    exact frz_dp s h q c
  | bor m =>
    obtain ⟨p, o, rfl, h, q⟩ := r
    exact frz_dp s (s.gh _ _ h) q c
  | scr ns =>
    obtain ⟨p, rfl, h⟩ := r
    simp only [datOf, toPy, PyData.canLay0] at c ⊢
    exact .lst (s.gh.seq h) (RpAll.dp s.fh (K := g.K) (fa := g.fa) (RpAll.of_ints ns) c)
end
theorem g_eq {g : G} {K : PySem.W.Frag} (hK : g.K = K) : OpG g (rEqD K) eqB := by
  subst hK
  intro F H x y a b Q s ra rb p
  unfold eqB eqD at p
  split at p
  · rename_i h
    rw [Bool.and_eq_true] at h
    exact ⟨_, _, ra.dp s (SeqAt.canLay_of_shaped h.1), rb.dp s (SeqAt.canLay_of_shaped h.2), h.1, h.2, p.bl s⟩
  · exact p.elim
theorem g_ne {g : G} {K : PySem.W.Frag} (hK : g.K = K) : OpG g (rNeD K) neB := by
  subst hK
  intro F H x y a b Q s ra rb p
  unfold neB eqD at p
  split at p
  · rename_i h
    rw [Bool.and_eq_true] at h
    exact ⟨_, _, ra.dp s (SeqAt.canLay_of_shaped h.1), rb.dp s (SeqAt.canLay_of_shaped h.2), h.1, h.2, p.bl s⟩
  · exact p.elim
/-! #### <, <=, >, >= -/
def notNone : PyData → Bool
  | .none => false
  | _ => true
def ltPy (x y : PyData) : Res Bool := if (SeqAt.shaped x && (SeqAt.shaped y && (PySem.W.alike x y && notNone x))) = true then .ok (PySem.W.dataLt x y) else .bad
def ltD (d e : D) : Res Bool := match d with
  | .int i => (match e with | .int j => .ok (decide (i < j)) | _ => .bad)
  | .str x => (match e with | .str y => .ok (decide (x.cps.toList < y.cps.toList)) | _ => .bad)
  | d => ltPy (toPy d) (toPy e)
def ltB (a b : B) : Res B := (ltD (datOf a) (datOf b)).bind fun k => .ok (.dat (.bl k))
def cmpI (f : Int → Int → Bool) (a b : B) : Res B := match a with
  | .dat (.int i) => (match b with | .dat (.int j) => .ok (.dat (.bl (f i j))) | _ => .bad)
  | _ => .bad
def rLtD (K : PySem.W.Frag) : R2 := fun x y H Q => ∃ d e, Dp K H x d ∧ Dp K H y e ∧ PySem.W.alike d e = true ∧ d ≠ .none ∧ d.depth ≤ 64 ∧ Q (.bl (PySem.W.dataLt d e)) H
theorem op_ltD {X : Cx} (hu : X.A.units + 64 < cLine) : OpR X (compareOp .Lt) (rLtD X.K) := by
  intro pins s σ H x y v u Q I rx ry h
  obtain ⟨d, e, hd, he, ha, hn, hs, q⟩ := h
  obtain ⟨as, r1⟩ := Dp.reads I d x v hd rx
  obtain ⟨bs, r2⟩ := Dp.reads I e y u he ry
  exact PySem.W.rcLt_alike d e X.A s v u as bs r1 r2 ha hn (by have := Nat.min_le_left d.depth e.depth; omega) X.prog X.w X.xe _ ⟨.bl _, H, I, rfl, q⟩
def rLt (K : PySem.W.Frag) : R2 := fun x y H Q => rI0 (fun i j => .bl (decide (i < j))) x y H Q ∨ (∃ i j, x = .str i ∧ y = .str j ∧ Q (.bl (decide (i.cps.toList < j.cps.toList))) H) ∨ rLtD K x y H Q
theorem op_ltF {X : Cx} (hu : X.A.units + 64 < cLine) : OpR X (compareOp .Lt) (rLt X.K) := OpR.or op_lt (OpR.or op_lt_str (op_ltD hu))
theorem rr_int {g : G} {F H : Hp} {v : V} {b : B} {i : Int} (r : RR g F H v b) (h : datOf b = .int i) : v = .int i := by
  cases b with
  | dat d => cases h; cases r; rfl
  | own m => exact r.elim
  | vw m => cases m <;> cases h
  | bor m => cases m <;> cases h
  | scr ns => cases h
theorem rr_str {g : G} {F H : Hp} {v : V} {b : B} {i : Str} (r : RR g F H v b) (h : datOf b = .str i) : v = .str i := by
  cases b with
  | dat d => cases h; cases r; rfl
  | own m => exact r.elim
  | vw m => cases m <;> cases h
  | bor m => cases m <;> cases h
  | scr ns => cases h
theorem g_lt {g : G} {K : PySem.W.Frag} (hK : g.K = K) : OpG g (rLt K) ltB := by
  subst hK
  intro F H x y a b Q s ra rb p
  unfold ltB ltD at p
  split at p
  · rename_i i ha
    split at p
    · rename_i j hb
      exact .inl ⟨i, j, rr_int ra ha, rr_int rb hb, p.bl s⟩
    · exact p.elim
  · rename_i i ha
    split at p
    · rename_i j hb
      exact .inr (.inl ⟨i, j, rr_str ra ha, rr_str rb hb, p.bl s⟩)
    · exact p.elim
  · by_cases h : (SeqAt.shaped (toPy (datOf a)) && (SeqAt.shaped (toPy (datOf b)) && (PySem.W.alike (toPy (datOf a)) (toPy (datOf b)) && notNone (toPy (datOf a))))) = true
    · unfold ltPy at p
      rw [if_pos h] at p
      simp only [Bool.and_eq_true] at h
      obtain ⟨h1, h2, h3, h4⟩ := h
      exact .inr (.inr ⟨_, _, ra.dp s (SeqAt.canLay_of_shaped h1), rb.dp s (SeqAt.canLay_of_shaped h2), h3, fun e => by rw [e] at h4; exact Bool.false_ne_true h4, SeqAt.depth_of_shaped h1, p.bl s⟩)
    · unfold ltPy at p
      rw [if_neg h] at p
      exact p.elim
theorem g_cmpI {g : G} {f : Int → Int → Bool} : OpG g (rI0 fun i j => .bl (f i j)) (cmpI f) := by
  intro F H x y a b Q s ra rb p
  unfold cmpI at p
  split at p
  · split at p
    · cases ra
      cases rb
      exact ⟨_, _, rfl, rfl, p.bl s⟩
    · exact p.elim
  · exact p.elim
/-! #### is, is not; in, not in -/
def isNone : D → Bool
  | .non => true
  | _ => false
def isB (neg : Bool) (a b : B) : Res B := match b with
  | .dat .non => (match a with | .own _ => .bad | a => .ok (.dat (.bl (isNone (datOf a) != neg))))
  | .dat (.bl y) => (match a with | .dat (.bl x) => .ok (.dat (.bl (decide (x = y) != neg))) | _ => .bad)
  | _ => .bad
def rIs : R2 := fun x y H Q => (y = .non ∧ Q (.bl (decide (x = .non))) H) ∨ rIsB x y H Q
def rIsNot : R2 := fun x y H Q => (y = .non ∧ Q (.bl (!decide (x = .non))) H) ∨ rNotB x y H Q
theorem op_isF {X : Cx} : OpR X (compareOp .Is) rIs := OpR.or op_isN op_isBl
theorem op_isNotF {X : Cx} : OpR X (compareOp .IsNot) rIsNot := OpR.or op_notN op_notBl
theorem rr_none {g : G} {F H : Hp} {v : V} {b : B} (r : RR g F H v b) : decide (v = .non) = isNone (datOf b) := by
  cases b with
  | dat d => cases r <;> simp [datOf, isNone]
  | own m => exact r.elim
  | vw m =>
    obtain ⟨p, o, rfl, _⟩ := r
    cases m <;> simp [datOf, frzM, isNone]
  | bor m =>
    obtain ⟨p, o, rfl, _⟩ := r
    cases m <;> simp [datOf, frzM, isNone]
  | scr ns =>
    obtain ⟨p, rfl, _⟩ := r
    simp [datOf, isNone]
theorem g_is {g : G} : OpG g rIs (isB false) := by
  intro F H x y a b Q s ra rb p
  unfold isB at p
  split at p
  · cases rb
    split at p
    · exact p.elim
    · have q := p.bl s
      refine .inl ⟨rfl, ?_⟩
      rw [rr_none ra]
      simpa using q
  · split at p
    · cases ra
      cases rb
      have q := p.bl s
      exact .inr ⟨_, _, rfl, rfl, by simpa using q⟩
    · exact p.elim
  · exact p.elim
theorem g_isNot {g : G} : OpG g rIsNot (isB true) := by
  intro F H x y a b Q s ra rb p
  unfold isB at p
  split at p
  · cases rb
    split at p
    · exact p.elim
    · have q := p.bl s
      refine .inl ⟨rfl, ?_⟩
      rw [rr_none ra]
      simpa using q
  · split at p
    · cases ra
      cases rb
      have q := p.bl s
      exact .inr ⟨_, _, rfl, rfl, by simpa using q⟩
    · exact p.elim
  · exact p.elim
/-- x in xs: a text among signs of a text; a flat thing among flat things; data among a list of data; a key of a dict -/
def flatD : D → Bool
  | .int _ => true
  | .str _ => true
  | _ => false
def keyD : D → Option Key
  | .int i => some (.inl i)
  | .str x => some (.inr x)
  | _ => none
def strIn (x y : Str) : Bool := !(Builtin.Str.occurrences y x 0 y.length 1).isEmpty
end Fn
namespace Fn
open PySem PySem.Spec PyProof.Rows L2
/-! ### sorted -/
def leD : D → D → Bool := PySem.W.dataLe false toPy
def isTup1 : PyData → Bool
  | .tuple (_ :: _) => true
  | _ => false
def isPlain : PyData → Bool
  | .none => false
  | .tuple _ => false
  | _ => true
def sortOk (ds : List D) : Bool := (toPys ds).all SeqAt.shaped && ((toPys ds).all (fun a => (toPys ds).all fun b => PySem.W.alike a b) && ((toPys ds).all isTup1 || (toPys ds).all isPlain))
theorem sortOk_iff {ds : List D} (h : sortOk ds = true) : (∀ d ∈ ds, SeqAt.shaped (toPy d) = true) ∧ PySem.W.AllAlike (ds.map toPy) ∧ PySem.W.Sortable (ds.map toPy) := by
  unfold sortOk at h
  rw [toPys_map] at h
  simp only [Bool.and_eq_true, Bool.or_eq_true, List.all_eq_true] at h
  obtain ⟨h1, h2, h3⟩ := h
  refine ⟨fun d hd => h1 _ (List.mem_map.mpr ⟨d, hd, rfl⟩), fun d hd d' hd' => h2 d hd d' hd', ?_⟩
  rcases h3 with h3 | h3
  · refine .inl fun d hd => ?_
    have q := h3 d hd
    cases d with
    | tuple xs =>
      cases xs with
      | nil => cases q
      | cons x r => exact ⟨x, r, rfl⟩
    | _ => cases q
  · refine .inr fun d hd => ?_
    have q := h3 d hd
    constructor
    · rintro rfl
      cases q
    · rintro xs rfl
      cases q
mutual
theorem reads_lt {h : Heap} : ∀ (d : PyData) (v : Value) (as : List Addr), d.canLay0 = true → Reads h v d as → ∀ a ∈ as, a < h.objs.size
  | .none, _, _, _, r => by cases r; intro a ha; cases ha
  | .bool _, _, _, _, r => by cases r; intro a ha; cases ha
  | .int _, _, _, _, r => by cases r; intro a ha; cases ha
  | .str _, _, _, _, r => by cases r; intro a ha; cases ha
  | .list xs, _, _, c, r => by
    simp only [PyData.canLay0] at c
    cases r with
    | list h1 h2 h3 h4 =>
      intro a ha
      rcases List.mem_cons.mp ha with e | ha
      · rw [e]; exact Heap.lt_size h1
      · exact readsAll_lt xs _ _ c h4 a ha
  | .tuple xs, _, _, c, r => by
    simp only [PyData.canLay0] at c
    cases r with
    | tuple h1 h2 h3 h4 =>
      intro a ha
      exact readsAll_lt xs _ _ c h4 a ha
  | .dict _, _, _, c, r => by simp [PyData.canLay0] at c
theorem readsAll_lt {h : Heap} : ∀ (ds : List PyData) (vs : List Value) (as : List Addr), PyData.canLayAll0 ds = true → ReadsAll h vs ds as → ∀ a ∈ as, a < h.objs.size
  | [], _, _, _, r => by cases r; intro a ha; cases ha
  | d :: ds, _, _, c, r => by
    simp only [PyData.canLayAll0, Bool.and_eq_true] at c
    cases r with
    | cons h1 h2 =>
      intro a ha
      rcases List.mem_append.mp ha with hm | hm
      · exact reads_lt d _ _ c.1 h1 a hm
      · exact readsAll_lt ds _ _ c.2 h2 a hm
end
section
variable {X : Cx} {pins : List (Addr × Obj)} {σ : L2.St} {H : Hp} {s : Shared}
/-- values that read as data, in a row -/
theorem each_of (I : Inv X pins σ H s) : ∀ {xs : List V} {us : List Value} {ds : List D}, Vals xs us → DpAll X.K H xs (toPys ds) →
    PySem.W.EachIs (fun v (b : V × D) => RelV b.1 v) us (xs.zip ds) ∧ PySem.W.EachIs (fun v (b : V × D) => ∃ as, Reads s.heap v (toPy b.2) as) us (xs.zip ds)
  | [], _, [], .nil, _ => ⟨.nil, .nil⟩
  | [], _, _ :: _, .nil, h => by
    simp only [toPys] at h
    cases h
  | _ :: _, _, [], .cons _ _, h => by
    simp only [toPys] at h
    cases h
  | x :: xs, u :: us, d :: ds, .cons r t, h => by
    simp only [toPys] at h
    cases h with
    | cons h1 h2 =>
      obtain ⟨e1, e2⟩ := each_of I t h2
      exact ⟨.cons r e1, .cons (Dp.reads I _ _ _ h1 r) e2⟩
theorem each_vals : ∀ {us : List Value} {bs : List (V × D)}, PySem.W.EachIs (fun v (b : V × D) => RelV b.1 v) us bs → Vals (bs.map (·.1)) us
  | _, _, .nil => .nil
  | _, _, .cons r t => .cons r (each_vals t)
/-- the items in order, with their data -/
def sortZ (xs : List V) (ds : List D) : List (V × D) := (xs.zip ds).mergeSort (PySem.W.dataLe false fun b => toPy b.2)
theorem zip_snd : ∀ {xs : List V} {ds : List D}, xs.length = ds.length → (xs.zip ds).map (·.2) = ds
  | [], [], _ => rfl
  | _ :: _, _ :: _, h => by
    rw [List.zip_cons_cons, List.map_cons, zip_snd (by simpa using h)]
  | [], _ :: _, h => by simp at h
  | _ :: _, [], h => by simp at h
theorem sortZ_snd {xs : List V} {ds : List D} (h : xs.length = ds.length) : (sortZ xs ds).map (·.2) = ds.mergeSort leD := by
  unfold sortZ leD
  have e := List.map_mergeSort (r := PySem.W.dataLe false fun b : V × D => toPy b.2) (s := PySem.W.dataLe false toPy) (f := fun b : V × D => b.2) (l := xs.zip ds) (fun a _ b _ => rfl)
  rw [zip_snd h] at e
  exact e
theorem rp_zip {K : PySem.W.Frag} {fa : Nat → Option Addr} {F : Hp} : ∀ {xs : List V} {ds : List D}, RpAll K fa F xs ds → ∀ b ∈ xs.zip ds, Rp K fa F b.1 b.2
  | _, _, .nil, b, hb => by simp at hb
  | _, _, .cons h r, b, hb => by
    rw [List.zip_cons_cons] at hb
    rcases List.mem_cons.mp hb with rfl | hb
    · exact h
    · exact rp_zip r b hb
theorem rp_unzip {K : PySem.W.Frag} {fa : Nat → Option Addr} {F : Hp} : ∀ {bs : List (V × D)}, (∀ b ∈ bs, Rp K fa F b.1 b.2) → RpAll K fa F (bs.map (·.1)) (bs.map (·.2))
  | [], _ => .nil
  | b :: bs, h => .cons (h b List.mem_cons_self) (rp_unzip fun c hc => h c (List.mem_cons_of_mem _ hc))
theorem sortZ_rp {K : PySem.W.Frag} {fa : Nat → Option Addr} {F : Hp} {xs : List V} {ds : List D} (r : RpAll K fa F xs ds) : RpAll K fa F ((sortZ xs ds).map (·.1)) (ds.mergeSort leD) := by
  rw [← sortZ_snd r.len]
  exact rp_unzip fun b hb => rp_zip r b ((List.mergeSort_perm _ _).mem_iff.mp hb)
theorem map_toPy_zip {xs : List V} {ds : List D} (h : xs.length = ds.length) : (xs.zip ds).map (fun b => toPy b.2) = ds.map toPy := by
  have e : (xs.zip ds).map (fun b => toPy b.2) = ((xs.zip ds).map (·.2)).map toPy := by rw [List.map_map]; rfl
  rw [e, zip_snd h]
def rSortF (K : PySem.W.Frag) : List V → Hp → VK → Prop := fun vs H Q => ∃ (a : Addr) (xs : List V) (ds : List D), vs = [.ref a] ∧ SqL K H a xs ∧ DpAll K H xs (toPys ds) ∧ xs.length = ds.length ∧ sortOk ds = true ∧
  ∀ p, H p = none → Q (.ref p) (upd H p (.lst ((sortZ xs ds).map (·.1))))
theorem cr_sortF (hu : X.A.units + 100 < cLine) : CallR X (.builtin "sorted") (rSortF X.K) := by
  intro pins s σ H vs us Q I r h
  obtain ⟨a, xs, ds, rfl, hs, hd, hl, ho, q⟩ := h
  obtain ⟨its, rv, pl, hz⟩ := I.list hs
  rw [Vals.ref1 r]
  obtain ⟨o1, o2, o3⟩ := sortOk_iff ho
  obtain ⟨e1, e2⟩ := each_of I rv hd
  have hlz : (xs.zip ds).length = xs.length := by rw [List.length_zip, ← hl]; exact Nat.min_self _
  refine PySem.W.sorted_data (bs := xs.zip ds) (enc := fun b => toPy b.2) pl.isList e1 e2 (by rw [map_toPy_zip hl]; exact o2) (by rw [map_toPy_zip hl]; exact o3) (by rw [hlz]; exact hz) (fun b hb => ?_) fun out ho1 ho2 => ?_
  · have := SeqAt.depth_of_shaped (o1 b.2 (List.of_mem_zip hb).2)
    omega
  · obtain ⟨ep, he'⟩ := PyProof.Rows.sortedAll_at s.heap its out.toArray
    have hv : Vals ((sortZ xs ds).map (·.1)) out := each_vals ho2
    have hlen : ((sortZ xs ds).map (·.1)).length ≤ sizeLine := by rw [hv.length, ho1, hlz]; exact hz
    exact ⟨.ref _, upd H (s.heap.objs.size + 1) (.lst ((sortZ xs ds).map (·.1))), I.laid (t' := s.toks) (fun _ _ => PyProof.Rows.sortedAll_old) (Nat.le_succ _) ⟨hlen, out, ep, hv, he'⟩, rfl, q _ (I.hok.fresh (Nat.le_succ _))⟩
/-- behind the collecting of what is walked: the new list is sorted -/
theorem sort_new {A : Around} {E : Value → Shared → Prop} {xs : List V} {us : List Value} {ds : List D} {Q : VK} {tk : Nat} {h' : Heap} (hu : A.units + 100 < cLine) (I : Inv X pins σ H { s with heap := h', toks := tk }) (rv : Vals xs us) (hd : DpAll X.K H xs (toPys ds)) (hl : xs.length = ds.length)
    (ho : sortOk ds = true) (hz : xs.length ≤ sizeLine) (q : ∀ p, H p = none → Q (.ref p) (upd H p (.lst ((sortZ xs ds).map (·.1))))) :
    wpAny (model X.prog X.w) A (call (.builtin "list.sort") [.ref h'.objs.size]) (fun _ s' => EP X pins σ Q (.ref h'.objs.size) s') E { s with heap := h'.push (seqObj "list" us.toArray 0), toks := tk } := by
  obtain ⟨o1, o2, o3⟩ := sortOk_iff ho
  obtain ⟨e1, e2⟩ := each_of I rv hd
  have hlz : (xs.zip ds).length = xs.length := by rw [List.length_zip, ← hl]; exact Nat.min_self _
  have hoL : (h'.push (seqObj "list" us.toArray 0)).get? h'.objs.size = some (seqObj "list" us.toArray 0) := Heap.get?_push_size _ rfl
  have e3 : PySem.W.EachIs (fun v (b : V × D) => ∃ as, Reads (h'.push (seqObj "list" us.toArray 0)) v (toPy b.2) as ∧ h'.objs.size ∉ as) us (xs.zip ds) := by
    have go : ∀ {vs : List Value} {bs : List (V × D)}, (∀ b ∈ bs, SeqAt.shaped (toPy b.2) = true) → PySem.W.EachIs (fun v (b : V × D) => ∃ as, Reads h' v (toPy b.2) as) vs bs → PySem.W.EachIs (fun v (b : V × D) => ∃ as, Reads (h'.push (seqObj "list" us.toArray 0)) v (toPy b.2) as ∧ h'.objs.size ∉ as) vs bs := by
      intro vs bs hs e
      induction e with
      | nil => exact .nil
      | cons r t ih =>
        obtain ⟨as, rr⟩ := r
        refine .cons ⟨as, PyProof.Rows.Reads.keeps (fun b o e => Heap.get?_push_of_some _ e) rr, fun hm => Nat.lt_irrefl _ (reads_lt _ _ _ (SeqAt.canLay_of_shaped (hs _ List.mem_cons_self)) rr _ hm)⟩ (ih fun b hb => hs b (List.mem_cons_of_mem _ hb))
    exact go (fun b hb => o1 b.2 (List.of_mem_zip hb).2) e2
  refine PySem.W.list_sort_data (bs := xs.zip ds) (enc := fun b => toPy b.2) (s := { s with heap := h'.push (seqObj "list" us.toArray 0), toks := tk }) hoL e1 e3
    (by rw [map_toPy_zip hl]; exact o2) (by rw [map_toPy_zip hl]; exact o3) (by rw [hlz]; exact hz) (fun b hb => ?_) fun out ho1 ho2 => ?_
  · have := SeqAt.depth_of_shaped (o1 b.2 (List.of_mem_zip hb).2)
    omega
  · have hv : Vals ((sortZ xs ds).map (·.1)) out := each_vals ho2
    have hlen : ((sortZ xs ds).map (·.1)).length ≤ sizeLine := by rw [hv.length, ho1, hlz]; exact hz
    obtain ⟨e', he'⟩ := PyProof.Rows.sortedHeap_at (vs := us) (out := out.toArray) hoL
    refine ⟨.ref h'.objs.size, upd H h'.objs.size (.lst ((sortZ xs ds).map (·.1))), I.laid (t' := tk) (fun b u e => ?_) (Nat.le_refl _) (show ObjOk X.prog X.w _ _ _ (.lst ((sortZ xs ds).map (·.1))) from ⟨hlen, out, e', hv, he'⟩), rfl, q _ (I.hok.fresh (Nat.le_refl _))⟩
    have hb : b < h'.objs.size := Heap.lt_size e
    rw [PyProof.Rows.sortedHeap_old (Nat.ne_of_lt hb) (by rw [size_push']; exact Nat.lt_succ_of_lt hb)]
    exact Heap.get?_push_of_some _ e
end
section
variable {X : Cx}
/-- sorted of a dict -/
def rSortDk (K : PySem.W.Frag) : List V → Hp → VK → Prop := fun vs H Q => ∃ (a : Addr) (kvs : List (Key × V)) (ds : List D), vs = [.ref a] ∧ Rd H a (.dK kvs) ∧ DpAll K H (kvs.map fun kv => kV kv.1) (toPys ds) ∧ kvs.length = ds.length ∧ sortOk ds = true ∧
  ∀ p, H p = none → Q (.ref p) (upd H p (.lst ((sortZ (kvs.map fun kv => kV kv.1) ds).map (·.1))))
theorem cr_sortDk (hc : X.calm = true) (hu : X.A.units + 200 < cLine) : CallR X (.builtin "sorted") (rSortDk X.K) := by
  intro pins s σ H xs us Q I r q
  obtain ⟨a, kvs, ds, ex, hd, hdp, hl, ho, q⟩ := q
  subst ex
  obtain ⟨u, eu, rx⟩ := vals1 r
  subst eu
  cases rx
  obtain ⟨z, lo, vs, rel, dd⟩ := dk_rd I.hok hd
  obtain ⟨ep, hat⟩ := dd.dictAt
  have hl2 : kvs.length = vs.length := Paired.length rel
  have h16 : vs.length ≤ sizeLine := by rw [← hl2]; exact z
  refine Calls.call_function_entry PyProof.Rows.kind_sorted PyProof.Rows.plain_sorted PyProof.Rows.entry_sorted (PyProof.Rows.args_sorted1 _) ?_
  unfold Builtin.«sorted»
  refine wpAny_bind (m := checkCount "sorted" 1 1 _) (wpAny_pure ?_)
  refine wpAny_bind (PySem.W.kdu_collect (A := X.A.in1) (PySem.W.kdl_dict (knd := mixKind X.prog X.w) (kvs := vs) (ep := ep) lo) (I.ok.hd hc) hat h16 fun h' tk acc hk hacc => ?_)
  have I1 : Inv X pins σ H { s with heap := h', toks := tk } := I.kept hk
  have rv : Vals (kvs.map fun kv => kV kv.1) acc.toList := by
    refine vals_of_at (by rw [List.length_map, hl2, ← hacc.1]; exact Array.length_toList.symm) fun j x w h1 h2 => ?_
    obtain ⟨k, y, hky, hi⟩ := hacc.2 j w (by rw [← Array.getElem?_toList]; exact h2)
    have e1 : (kvs.map (·.1))[j]? = some k := by
      rw [KV.keys rel, List.getElem?_map, hky] <;> rfl
    have e2 : (kvs.map fun kv => kV kv.1)[j]? = some (kV k) := by
      have e3 : (kvs.map fun kv => kV kv.1) = (kvs.map (·.1)).map kV := by rw [List.map_map] <;> rfl
      rw [e3, List.getElem?_map, e1] <;> rfl
    rw [e2] at h1
    cases h1
    exact keyIs_rel hi
  refine wpAny_bind (wpAny_newList ?_ (by have e : acc.toList.length = acc.size := by {simp}; rw [e, hacc.1]; exact h16))
  refine wpAny_bind (wpAny_holding (wpAny_mono (sort_new (A := X.A.in1) (E := X.xe) (s := s) (Q := Q) (by show X.A.units + 1 + 100 < cLine; omega) I1 rv hdp (by rw [List.length_map]; exact hl) ho (by rw [List.length_map]; exact z) q) (fun _ s' x => ?_) fun _ _ e => e))
  exact wpAny_pure ⟨_, rfl, x⟩
end
end Fn
namespace Fn
open PySem PySem.Spec PyProof.Rows L2
def keyB : Key → D
  | .inl i => .int i
  | .inr x => .str x
/-- a key of a dict whose keys are tuples, as data -/
def kD (k : List Key) : D := .tup (k.map keyB)
section
variable {X : Cx}
def rSortDt (K : PySem.W.Frag) : List V → Hp → VK → Prop := fun vs H Q => ∃ (a : Addr) (kvs : List (List Key × V)), vs = [.ref a] ∧ Rd H a (.dT kvs) ∧ sortOk (kvs.map fun kv => kD kv.1) = true ∧
  ∀ p bs, H p = none → IsKeys H kvs bs → Q (.ref p) (upd H p (.lst ((sortZ (bs.map V.ref) (kvs.map fun kv => kD kv.1)).map (·.1))))
theorem kV_dp {K : PySem.W.Frag} {H : Hp} : ∀ (k : List Key), DpAll K H (k.map kV) (toPys (k.map keyB))
  | [] => .nil
  | .inl i :: r => .cons (.int i) (kV_dp r)
  | .inr x :: r => .cons (.str x) (kV_dp r)
theorem keys_dp {K : PySem.W.Frag} {H : Hp} : ∀ {kvs : List (List Key × V)} {bs : List Addr}, IsKeys H kvs bs → DpAll K H (bs.map V.ref) (toPys (kvs.map fun kv => kD kv.1))
  | _, _, .nil => .nil
  | _, _, .cons h r => .cons (.tup (SqT.of h) (kV_dp _)) (keys_dp r)
theorem cr_sortDt (hc : X.calm = true) (hu : X.A.units + 200 < cLine) : CallR X (.builtin "sorted") (rSortDt X.K) := by
  intro pins s σ H xs us Q I r h
  obtain ⟨d, kvs, rfl, hd, ho1, q⟩ := h
  obtain ⟨u, rfl, rx⟩ := r.one
  cases rx
  obtain ⟨z, hs, ks, pr, o, es, ep, ho, hx, hdt, he, hn⟩ := (show ObjOk X.prog X.w H s.heap d (.dT kvs) from hd.ok I.hok)
  have l1 : es.size = ks.length := size_of_entries he
  have l2 : kvs.length = ks.length := Paired.length pr
  refine Calls.call_function_entry PyProof.Rows.kind_sorted PyProof.Rows.plain_sorted PyProof.Rows.entry_sorted (PyProof.Rows.args_sorted1 _) ?_
  unfold Builtin.«sorted»
  refine wpAny_bind (m := checkCount "sorted" 1 1 _) (wpAny_pure ?_)
  refine wpAny_bind (PySem.W.kdu_collect (A := X.A.in1) (kdl_raw hs hx hdt) (I.ok.hd hc) ho (by omega) fun h' tk acc' hk it => ?_)
  have ea : acc'.toList = ks.map fun x => Value.ref x.2.1 := by
    have hl : acc'.toList.length = ks.length := by rw [Array.length_toList, it.1]; exact l1
    apply List.ext_getElem?
    intro j
    rw [List.getElem?_map]
    cases hj : acc'.toList[j]? with
    | none =>
      have h1 := List.getElem?_eq_none_iff.mp hj
      rw [List.getElem?_eq_none (by omega)]
      all_goals rfl
    | some v =>
      obtain ⟨en, hen, hv⟩ := it.2 j v (by rw [← Array.getElem?_toList]; exact hj)
      have qe := entry_at he j
      rw [hen] at qe
      cases hb : ks[j]? with
      | none =>
        rw [hb] at qe
        exact nomatch (show some en = none from qe)
      | some b =>
        rw [hb] at qe
        have e2 : en = entryOfKey (tupleKind (mixKind X.prog X.w)) b := Option.some.inj qe
        rw [hv, e2]
        all_goals rfl
  have eb : acc'.toList = (ks.map fun x => x.2.1).map Value.ref := by rw [ea, List.map_map]; all_goals rfl
  have rv : Vals ((ks.map fun x => x.2.1).map V.ref) acc'.toList := by rw [eb]; exact vals_refs _
  have hz : ((ks.map fun x => x.2.1).map V.ref).length ≤ sizeLine := by rw [List.length_map, List.length_map]; omega
  have I1 : Inv X pins σ H { s with heap := h', toks := tk } := I.kept hk
  have hK : IsKeys H kvs (ks.map fun x => x.2.1) := isKeys_of pr
  refine wpAny_bind (wpAny_newList ?_ (by rw [← rv.length]; exact hz))
  refine wpAny_bind (wpAny_holding (wpAny_mono (sort_new (A := X.A.in1) (E := X.xe) (s := s) (Q := Q) (by show X.A.units + 1 + 100 < cLine; omega) I1 rv (keys_dp hK) (by rw [List.length_map, List.length_map, List.length_map]; exact l2.symm) ho1 hz (fun p hp => q p _ hp hK)) (fun _ s' x => ?_) fun _ _ e => e))
  exact wpAny_pure ⟨_, rfl, x⟩
end
end Fn
namespace Fn
open PySem PySem.Spec PyProof.Rows L2
/-! ### dicts as data -/
def getK {κ : Type} [DecidableEq κ] (kvs : List (κ × D)) (k : κ) : Option D := (kvs.find? fun kv => decide (kv.1 = k)).map (·.2)
def putD {κ : Type} [DecidableEq κ] (kvs : List (κ × D)) (k : κ) (v : D) : List (κ × D) :=
  if (kvs.any fun kv => decide (kv.1 = k)) = true then kvs.map (fun kv => if kv.1 = k then (kv.1, v) else kv) else kvs ++ [(k, v)]
section
variable {κ : Type} [DecidableEq κ] {K : PySem.W.Frag} {fa : Nat → Option Addr} {F : Hp}
theorem get_rel : ∀ {kvs : List (κ × V)} {kds : List (κ × D)}, kvs.map (·.1) = kds.map (·.1) → RpAll K fa F (kvs.map (·.2)) (kds.map (·.2)) → ∀ k,
    (valV kvs k = none ∧ getK kds k = none) ∨ ∃ v d, valV kvs k = some v ∧ getK kds k = some d ∧ Rp K fa F v d
  | [], [], _, _, _ => .inl ⟨rfl, rfl⟩
  | [], _ :: _, h, _, _ => by simp at h
  | _ :: _, [], h, _, _ => by simp at h
  | (a, v) :: kvs, (b, d) :: kds, h, r, k => by
    simp only [List.map_cons, List.cons.injEq] at h r
    obtain ⟨e, h⟩ := h
    subst e
    cases r with
    | cons r1 r2 =>
      by_cases c : a = k
      · refine .inr ⟨v, d, ?_, ?_, r1⟩
        · simp [valV, List.find?_cons, c]
        · simp [getK, List.find?_cons, c]
      · rcases get_rel h r2 k with ⟨h1, h2⟩ | ⟨v', d', h1, h2, h3⟩
        · refine .inl ⟨?_, ?_⟩
          · simpa [valV, List.find?_cons, c] using h1
          · simpa [getK, List.find?_cons, c] using h2
        · refine .inr ⟨v', d', ?_, ?_, h3⟩
          · simpa [valV, List.find?_cons, c] using h1
          · simpa [getK, List.find?_cons, c] using h2
theorem any_rel : ∀ {kvs : List (κ × V)} {kds : List (κ × D)}, kvs.map (·.1) = kds.map (·.1) → ∀ k, (kvs.any fun kv => decide (kv.1 = k)) = (kds.any fun kv => decide (kv.1 = k))
  | [], [], _, _ => rfl
  | [], _ :: _, h, _ => by simp at h
  | _ :: _, [], h, _ => by simp at h
  | (a, v) :: kvs, (b, d) :: kds, h, k => by
    simp only [List.map_cons, List.cons.injEq] at h
    obtain ⟨e, h⟩ := h
    subst e
    simp only [List.any_cons]
    rw [any_rel h k]
theorem put_keys : ∀ {kvs : List (κ × V)} {kds : List (κ × D)}, kvs.map (·.1) = kds.map (·.1) → ∀ k v d, (putK kvs k v).map (·.1) = (putD kds k d).map (·.1) := by
  intro kvs kds h k v d
  unfold putK putD
  rw [any_rel h k]
  split
  · rw [List.map_map, List.map_map]
    have e1 : ((fun x : κ × V => x.1) ∘ fun kv : κ × V => if kv.1 = k then (kv.1, v) else kv) = fun x => x.1 := by
      funext x
      show (if x.1 = k then (x.1, v) else x).1 = x.1
      split <;> rfl
    have e2 : ((fun x : κ × D => x.1) ∘ fun kv : κ × D => if kv.1 = k then (kv.1, d) else kv) = fun x => x.1 := by
      funext x
      show (if x.1 = k then (x.1, d) else x).1 = x.1
      split <;> rfl
    rw [e1, e2, h]
  · rw [List.map_append, List.map_append, h]
    rfl
theorem put_map {v : V} {d : D} {k : κ} (hv : Rp K fa F v d) : ∀ {kvs : List (κ × V)} {kds : List (κ × D)}, kvs.map (·.1) = kds.map (·.1) → RpAll K fa F (kvs.map (·.2)) (kds.map (·.2)) →
    RpAll K fa F ((kvs.map fun kv => if kv.1 = k then (kv.1, v) else kv).map (·.2)) ((kds.map fun kv => if kv.1 = k then (kv.1, d) else kv).map (·.2))
  | [], [], _, _ => .nil
  | [], _ :: _, h, _ => by simp at h
  | _ :: _, [], h, _ => by simp at h
  | (a, x) :: kvs, (b, y) :: kds, h, r => by
    simp only [List.map_cons, List.cons.injEq] at h r ⊢
    obtain ⟨e, h⟩ := h
    subst e
    cases r with
    | cons r1 r2 =>
      by_cases c : a = k
      · rw [if_pos c, if_pos c]
        exact .cons hv (put_map hv h r2)
      · rw [if_neg c, if_neg c]
        exact .cons r1 (put_map hv h r2)
theorem put_rel {kvs : List (κ × V)} {kds : List (κ × D)} (h : kvs.map (·.1) = kds.map (·.1)) (r : RpAll K fa F (kvs.map (·.2)) (kds.map (·.2))) {k : κ} {v : V} {d : D} (hv : Rp K fa F v d) :
    RpAll K fa F ((putK kvs k v).map (·.2)) ((putD kds k d).map (·.2)) := by
  unfold putK putD
  rw [any_rel h k]
  split
  · exact put_map hv h r
  · rw [List.map_append, List.map_append]
    exact r.app (.cons hv .nil)
end
def dkOf : B → Option (List (Key × D))
  | .dat (.dk kvs) => some kvs
  | .vw (.k kvs) => some kvs
  | .bor (.k kvs) => some kvs
  | _ => none
def dtOf : B → Option (List (List Key × D))
  | .dat (.dt kvs) => some kvs
  | .vw (.t kvs) => some kvs
  | .bor (.t kvs) => some kvs
  | _ => none
def tkeyL : List D → Option (List Key)
  | [] => some []
  | d :: ds => match keyD d, tkeyL ds with
    | some k, some ks => some (k :: ks)
    | _, _ => none
/-- a tuple as a key -/
def tkey : B → Option (List Key)
  | .dat (.tup xs) => tkeyL xs
  | _ => none
section
variable {g : G} {F H : Hp} {v : V} {b : B}
theorem dkOf_ok {kds : List (Key × D)} (s : Sm g F H) (r : RR g F H v b) (h : dkOf b = some kds) : ∃ a kvs, v = .ref a ∧ H a = some (.dK kvs) ∧ kvs.map (·.1) = kds.map (·.1) ∧ RpAll g.K g.fa F (kvs.map (·.2)) (kds.map (·.2)) := by
  unfold dkOf at h
  split at h
  · cases h
    cases r with
    | dk h1 h2 h3 => exact ⟨_, _, rfl, s.fh _ _ h1, h2, h3⟩
  · cases h
    obtain ⟨p, o, rfl, h1, h2⟩ := r
    cases h2 with
    | k h2 h3 => exact ⟨_, _, rfl, h1, h2, h3⟩
  · cases h
    obtain ⟨p, o, rfl, h1, h2⟩ := r
    cases h2 with
    | k h2 h3 => exact ⟨_, _, rfl, s.gh _ _ h1, h2, h3⟩
  · cases h
theorem dtOf_ok {kds : List (List Key × D)} (s : Sm g F H) (r : RR g F H v b) (h : dtOf b = some kds) : ∃ a kvs, v = .ref a ∧ H a = some (.dT kvs) ∧ kvs.map (·.1) = kds.map (·.1) ∧ RpAll g.K g.fa F (kvs.map (·.2)) (kds.map (·.2)) := by
  unfold dtOf at h
  split at h
  · cases h
    cases r with
    | dt h1 h2 h3 => exact ⟨_, _, rfl, s.fh _ _ h1, h2, h3⟩
  · cases h
    obtain ⟨p, o, rfl, h1, h2⟩ := r
    cases h2 with
    | t h2 h3 => exact ⟨_, _, rfl, h1, h2, h3⟩
  · cases h
    obtain ⟨p, o, rfl, h1, h2⟩ := r
    cases h2 with
    | t h2 h3 => exact ⟨_, _, rfl, s.gh _ _ h1, h2, h3⟩
  · cases h
theorem keyD_ok {k : Key} {d : D} (h : keyD d = some k) (r : Rp g.K g.fa F v d) : v = kV k := by
  unfold keyD at h
  split at h
  · cases h; cases r; rfl
  · cases h; cases r; rfl
  · cases h
theorem tkeyL_ok : ∀ {ds : List D} {vs : List V} {ks : List Key}, tkeyL ds = some ks → RpAll g.K g.fa F vs ds → vs = ks.map kV
  | [], _, _, h, r => by cases h; cases r; rfl
  | d :: ds, _, ks, h, r => by
    unfold tkeyL at h
    split at h
    · rename_i k ks' h1 h2
      cases h
      cases r with
      | cons r1 r2 => rw [keyD_ok h1 r1, tkeyL_ok h2 r2]; rfl
    · cases h
theorem tkey_ok {ks : List Key} (s : Sm g F H) (r : RR g F H v b) (h : tkey b = some ks) : ∃ a, v = .ref a ∧ H a = some (.tup (ks.map kV)) := by
  unfold tkey at h
  split at h
  · cases r with
    | tup h1 h2 => exact ⟨_, rfl, by rw [← tkeyL_ok h h2]; exact s.fh _ _ h1⟩
  · cases h
theorem rr_key {k : Key} (r : RR g F H v b) (h : keyD (datOf b) = some k) : v = kV k := by
  cases b with
  | dat d => exact keyD_ok h r
  | own m => exact r.elim
  | vw m => cases m <;> cases h
  | bor m => cases m <;> cases h
  | scr ns => cases h
end
/-- what a dict holds at a key -/
def dgetB (a k : B) : Option (Option D) := match dkOf a with
  | some kvs => (match keyD (datOf k) with | some q => some (getK kvs q) | none => none)
  | none => (match dtOf a with
    | some kvs => (match tkey k with | some q => some (getK kvs q) | none => none)
    | none => none)
theorem dgetB_ok {g : G} {F H : Hp} {x y : V} {a k : B} {o : Option D} (s : Sm g F H) (ra : RR g F H x a) (rk : RR g F H y k) (h : dgetB a k = some o) :
    ∃ p ov, x = .ref p ∧ DGet H p y ov ∧ ((ov = none ∧ o = none) ∨ ∃ v d, ov = some v ∧ o = some d ∧ Rp g.K g.fa F v d) := by
  unfold dgetB at h
  split at h
  · rename_i kvs hk
    obtain ⟨p, kv, rfl, h1, h2, h3⟩ := dkOf_ok s ra hk
    split at h
    · rename_i q hq
      cases h
      have e := rr_key rk hq
      subst e
      exact ⟨p, _, rfl, DGet.k h1, get_rel h2 h3 q⟩
    · cases h
  · split at h
    · rename_i kvs hk
      obtain ⟨p, kv, rfl, h1, h2, h3⟩ := dtOf_ok s ra hk
      split at h
      · rename_i q hq
        cases h
        obtain ⟨b, rfl, hb⟩ := tkey_ok s rk hq
        exact ⟨p, _, rfl, DGet.t h1 hb, get_rel h2 h3 q⟩
      · cases h
    · cases h
/-! ### in, not in -/
def inSeq (d : D) (ds : List D) (lst : Bool) : Res Bool :=
  if (SeqAt.shaped (toPy d) && SeqAt.shaped (.list (toPys ds))) = true then .ok (ds.any fun e => PyData.eqv (toPy e) (toPy d)) else .bad
def inB (neg : Bool) (a b : B) : Res B := match b with
  | .dat (.str y) => (match a with | .dat (.str x) => .ok (.dat (.bl (strIn x y != neg))) | _ => .bad)
  | b => match dgetB b a with
    | some o => .ok (.dat (.bl (o.isSome != neg)))
    | none => match seqI b with
      | some ds => (inSeq (datOf a) ds true).bind fun k => .ok (.dat (.bl (k != neg)))
      | none => .bad
def rInS (K : PySem.W.Frag) (neg : Bool) : R2 := fun x y H Q => ∃ d ds, Dp K H x d ∧ (Dp K H y (.list ds) ∨ Dp K H y (.tuple ds)) ∧ SeqAt.shaped d = true ∧ SeqAt.shaped (.list ds) = true ∧ Q (.bl ((ds.any fun z => PyData.eqv z d) != neg)) H
theorem room_seq {A : Around} {d : PyData} {ds : List PyData} (hd : SeqAt.shaped d = true) (hu : A.units + 100 < cLine) : A.units + 1 + min (PyData.depthAll ds) d.depth < cLine := by
  have := SeqAt.depth_of_shaped hd
  have h2 : min (PyData.depthAll ds) d.depth ≤ d.depth := Nat.min_le_right _ _
  omega
theorem op_inS {X : Cx} (hu : X.A.units + 100 < cLine) : OpR X (compareOp .In) (rInS X.K false) := by
  intro pins s σ H x y v u Q I rx ry h
  obtain ⟨d, ds, hd, he, sd, se, q⟩ := h
  obtain ⟨as, r1⟩ := Dp.reads I d x v hd rx
  have q' : Q (.bl (ds.any fun z => PyData.eqv z d)) H := by simpa using q
  rcases he with he | he
  · obtain ⟨bs, r2⟩ := Dp.reads I (.list ds) y u he ry
    exact SeqAt.in_list_reads r2 r1 (SeqAt.canLay_of_shaped se) (SeqAt.canLay_of_shaped sd) (room_seq sd hu) ⟨.bl _, H, I, rfl, q'⟩
  · obtain ⟨bs, r2⟩ := Dp.reads I (.tuple ds) y u he ry
    exact SeqAt.in_tuple_reads r2 r1 (SeqAt.canLay_of_shaped se) (SeqAt.canLay_of_shaped sd) (room_seq sd hu) ⟨.bl _, H, I, rfl, q'⟩
theorem op_notInS {X : Cx} (hu : X.A.units + 100 < cLine) : OpR X (compareOp .NotIn) (rInS X.K true) := by
  intro pins s σ H x y v u Q I rx ry h
  obtain ⟨d, ds, hd, he, sd, se, q⟩ := h
  obtain ⟨as, r1⟩ := Dp.reads I d x v hd rx
  have q' : Q (.bl (!ds.any fun z => PyData.eqv z d)) H := by simpa using q
  rcases he with he | he
  · obtain ⟨bs, r2⟩ := Dp.reads I (.list ds) y u he ry
    exact SeqAt.notIn_list_reads r2 r1 (SeqAt.canLay_of_shaped se) (SeqAt.canLay_of_shaped sd) (room_seq sd hu) ⟨.bl _, H, I, rfl, q'⟩
  · obtain ⟨bs, r2⟩ := Dp.reads I (.tuple ds) y u he ry
    exact SeqAt.notIn_tuple_reads r2 r1 (SeqAt.canLay_of_shaped se) (SeqAt.canLay_of_shaped sd) (room_seq sd hu) ⟨.bl _, H, I, rfl, q'⟩
def rInDk (neg : Bool) : R2 := fun y x H Q => ∃ a o, x = .ref a ∧ DGet H a y o ∧ Q (.bl (o.isSome != neg)) H
theorem op_inDk {X : Cx} (hu : X.A.units + 100 < cLine) : OpR X (compareOp .In) (rInDk false) := by
  intro pins s σ H y x v u Q I ry rx h
  obtain ⟨a, o, rfl, gd, q⟩ := h
  cases rx
  exact d_in (by omega) I gd ry fun s' I' => ⟨.bl _, H, I', rfl, by simpa using q⟩
theorem op_notInDk {X : Cx} (hu : X.A.units + 100 < cLine) : OpR X (compareOp .NotIn) (rInDk true) := by
  intro pins s σ H y x v u Q I ry rx h
  obtain ⟨a, o, rfl, gd, q⟩ := h
  cases rx
  exact d_notIn (by omega) I gd ry fun s' I' => ⟨.bl _, H, I', rfl, by simpa using q⟩
def rInT (neg : Bool) : R2 := fun x y H Q => ∃ i j, x = .str i ∧ y = .str j ∧ Q (.bl (strIn i j != neg)) H
theorem op_inT {X : Cx} : OpR X (compareOp .In) (rInT false) := by
  intro pins s σ H x y v u Q I rx ry h
  obtain ⟨i, j, rfl, rfl, q⟩ := h
  exact op_in_str pins s σ H _ _ v u Q I rx ry ⟨i, j, rfl, rfl, by simpa [strIn] using q⟩
theorem op_notInT {X : Cx} : OpR X (compareOp .NotIn) (rInT true) := by
  intro pins s σ H x y v u Q I rx ry h
  obtain ⟨i, j, rfl, rfl, q⟩ := h
  exact L2.op_notIn_str pins s σ H _ _ v u Q I rx ry ⟨i, j, rfl, rfl, by simpa [strIn] using q⟩
def rInF (K : PySem.W.Frag) (neg : Bool) : R2 := fun x y H Q => rInT neg x y H Q ∨ rInDk neg x y H Q ∨ rInS K neg x y H Q
theorem op_inF {X : Cx} (hu : X.A.units + 100 < cLine) : OpR X (compareOp .In) (rInF X.K false) := OpR.or op_inT (OpR.or (op_inDk hu) (op_inS hu))
theorem op_notInF {X : Cx} (hu : X.A.units + 100 < cLine) : OpR X (compareOp .NotIn) (rInF X.K true) := OpR.or op_notInT (OpR.or (op_notInDk hu) (op_notInS hu))
theorem seq_dp {g : G} {F H : Hp} {v : V} {b : B} {ds : List D} (s : Sm g F H) (r : RR g F H v b) (h : seqI b = some ds) (c : PyData.canLayAll0 (toPys ds) = true) : Dp g.K H v (.list (toPys ds)) ∨ Dp g.K H v (.tuple (toPys ds)) := by
  obtain ⟨a, xs, rfl, h1, h2⟩ := seqI_ok s r h
  rcases h1 with h1 | h1
  · exact .inl (.lst h1 (RpAll.dp s.fh h2 c))
  · exact .inr (.tup h1 (RpAll.dp s.fh h2 c))
theorem g_in {g : G} {K : PySem.W.Frag} {neg : Bool} (hK : g.K = K) : OpG g (rInF K neg) (inB neg) := by
  subst hK
  intro F H x y a b Q s ra rb p
  unfold inB at p
  split at p
  · split at p
    · cases ra
      cases rb
      exact .inl ⟨_, _, rfl, rfl, p.bl s⟩
    · exact p.elim
  · split at p
    · rename_i o ho
      obtain ⟨q, ov, rfl, gd, hr⟩ := dgetB_ok s rb ra ho
      refine .inr (.inl ⟨q, ov, rfl, gd, ?_⟩)
      have e : ov.isSome = o.isSome := by
        rcases hr with ⟨e1, e2⟩ | ⟨v, d, e1, e2, _⟩ <;> rw [e1, e2] <;> rfl
      rw [e]
      exact p.bl s
    · split at p
      · rename_i ds hs
        unfold inSeq at p
        split at p
        · rename_i h
          rw [Bool.and_eq_true] at h
          have c : PyData.canLayAll0 (toPys ds) = true := by
            have := SeqAt.canLay_of_shaped h.2
            simpa only [PyData.canLay0] using this
          refine .inr (.inr ⟨_, _, ra.dp s (SeqAt.canLay_of_shaped h.1), seq_dp s rb hs c, h.1, h.2, ?_⟩)
          have e : ((toPys ds).any fun z => PyData.eqv z (toPy (datOf a))) = ds.any fun e => PyData.eqv (toPy e) (toPy (datOf a)) := by
            rw [toPys_map, List.any_map]
            rfl
          rw [e]
          exact p.bl s
        · exact p.elim
      · exact p.elim
/-! ### subscripts -/
def idxB (a i : B) : Res B := match dgetB a i with
  | some (some d) => .ok (.dat d)
  | some none => .bad
  | none => match i with
    | .dat (.int k) => (match a with
      | .dat (.str x) => (match atI x.cps.toList k with | some c => if x.length ≤ sizeLine then .ok (.dat (.str ⟨#[c]⟩)) else .bad | none => .bad)
      | a => (match seqI a with
        | some ds => (match atI ds k with | some d => .ok (.dat d) | none => .bad)
        | none => .bad))
    | _ => .bad
def rIxD : R2 := fun x y H Q => ∃ a v, x = .ref a ∧ DGet H a y (some v) ∧ Q v H
theorem ix_dict {X : Cx} (hu : X.A.units + 100 < cLine) : IxR X rIxD := by
  intro value slice pins s σ H x y v u Q I rx ry h hs
  obtain ⟨a, z, rfl, gd, q⟩ := h
  cases rx
  exact tail_any (dict_typeIs I gd) PySem.F.slot_dict_getitem.lookup (d_getItem (by omega) I gd ry fun w' s' I' rw' => ⟨z, H, I', rw', q⟩) hs
def rIxF (K : PySem.W.Frag) : R2 := fun x y H Q => rIxD x y H Q ∨ rIx K x y H Q
theorem ix_F {X : Cx} (hu : X.A.units + 100 < cLine) : IxR X (rIxF X.K) := IxR.or (ix_dict hu) ix_seq
theorem atI_rp {K : PySem.W.Frag} {fa : Nat → Option Addr} {F : Hp} {xs : List V} {ds : List D} {k : Int} {d : D} (r : RpAll K fa F xs ds) (h : atI ds k = some d) : ∃ v, atI xs k = some v ∧ Rp K fa F v d := by
  unfold atI at h ⊢
  rw [r.len]
  cases e : ixN ds.length k with
  | none => rw [e] at h; cases h
  | some j =>
    rw [e] at h
    exact r.get h
theorem g_idx {g : G} {K : PySem.W.Frag} (hK : g.K = K) : OpG g (rIxF K) idxB := by
  subst hK
  intro F H x y a b Q s ra rb p
  unfold idxB at p
  split at p
  · rename_i d hd
    obtain ⟨q, ov, rfl, gd, hr⟩ := dgetB_ok s ra rb hd
    rcases hr with ⟨_, e2⟩ | ⟨v, d', rfl, e2, r⟩
    · cases e2
    · cases e2
      exact .inl ⟨q, v, rfl, gd, p.dat s r⟩
  · exact p.elim
  · split at p
    · split at p
      · split at p
        · rename_i c hc
          split at p
          · rename_i hz
            cases ra
            cases rb
            exact .inr (.inr (.inr ⟨_, _, c, rfl, rfl, hz, hc, p.str s⟩))
          · exact p.elim
        · exact p.elim
      · split at p
        · rename_i ds hs
          split at p
          · rename_i d hd
            cases rb
            obtain ⟨q, xs, rfl, h1, h2⟩ := seqI_ok s ra hs
            obtain ⟨v, hv, rv⟩ := atI_rp h2 hd
            rcases h1 with h1 | h1
            · exact .inr (.inl ⟨q, xs, _, v, rfl, rfl, h1, hv, p.dat s rv⟩)
            · exact .inr (.inr (.inl ⟨q, xs, _, v, rfl, rfl, h1, hv, p.dat s rv⟩))
          · exact p.elim
        · exact p.elim
    · exact p.elim
theorem fe_idx {X : Cx} {g : G} {a b : Expr} {fa fb : Env → Res B} {pos : Pos} (hu : X.A.units + 100 < cLine) (hK : g.K = X.K) (hp : PlainIx b) (ha : PE X a (tF g fa)) (hb : PE X b (tF g fb)) : PE X (.Subscript a b pos) (tF g (bin2 idxB fa fb)) :=
  PE.imp (pe_ix (ix_F hu) ha hb hp) fun _ _ _ h => run2 (g_idx hK) h
end Fn
namespace Fn
open PySem PySem.Spec PyProof.Rows L2
/-! ### forms of syntax -/
def nst : Expr → Bool
  | .Starred .. => false
  | _ => true
def nsl : Expr → Bool
  | .Slice .. => false
  | _ => true
def nset : Expr → Bool
  | .Set .. => false
  | _ => true
def plainT : Expr → Bool
  | .UnaryOp .. => false
  | .BoolOp .. => false
  | .IfExp .. => false
  | .Compare .. => false
  | _ => true
theorem star_cons {e : Expr} {es : List Expr} {env : PySem.Env} (h : nst e = true) : starEach (e :: es) env = (false, eval e env) :: starEach es env := by
  cases e <;> first | rfl | cases h
theorem star_none {env : PySem.Env} {pos : Pos} : ∀ {es : List Expr}, es.all nst = true → (backTo pos (starEach es env)).any (·.1) = false
  | [], _ => rfl
  | e :: es, h => by
    rw [List.all_cons, Bool.and_eq_true] at h
    rw [star_cons h.1]
    exact star_none h.2
theorem nsl_ix {b : Expr} (h : nsl b = true) : PlainIx b := by
  intro o i
  cases b <;> first | rfl | cases h
theorem nset_mark {op : CmpOp} {b : Expr} (h : nset b = true) : behindInMarks op b = false := by
  cases b <;> first | rfl | cases h
theorem plainT_eq {e : Expr} {env : PySem.Env} (h : plainT e = true) : ∀ whole, isTrue e env whole = (do let v ← whole; standAt e.pos; holding [v] (truthy v)) := by
  intro whole
  cases e <;> first | rfl | cases h
section
variable {X : Cx} {g : G} {a b c : Expr} {pos : Pos} {fa fb fc : Env → Res B}
/-! ### names, written things -/
def varB (i : Nat) (ρ : Env) : Res B := match ρ[i]? with
  | some (some (.dat d)) => .ok (.dat d)
  | some (some (.own m)) => .ok (.vw m)
  | some (some (.bor m)) => .ok (.bor m)
  | some (some (.scr ns)) => .ok (.scr ns)
  | _ => .bad
theorem var_run {i : Nat} {σ : L2.St} {H : Hp} {Q : VK} (h : tF g (varB i) σ H Q) : tVar i σ H Q := by
  obtain ⟨F, ρ, s, p⟩ := h
  unfold varB at p
  split at p
  · rename_i d e
    obtain ⟨v, h1, h2⟩ := s.at_ i _ e
    exact ⟨v, h1, p v F H (Grow.refl s.sub) h2⟩
  · rename_i m e
    obtain ⟨v, h1, q, o, rfl, h2, h3, h4, h5⟩ := s.at_ i _ e
    exact ⟨_, h1, p _ F H (Grow.refl s.sub) ⟨q, o, rfl, h2, h5⟩⟩
  · rename_i m e
    obtain ⟨v, h1, h2⟩ := s.at_ i _ e
    exact ⟨v, h1, p v F H (Grow.refl s.sub) h2⟩
  · rename_i ns e
    obtain ⟨v, h1, h2⟩ := s.at_ i _ e
    exact ⟨v, h1, p v F H (Grow.refl s.sub) h2⟩
  · exact p.elim
theorem con_run {v : V} {d : D} {σ : L2.St} {H : Hp} {Q : VK} (hv : ∀ F, Rp g.K g.fa F v d) (h : tF g (fun _ => .ok (.dat d)) σ H Q) : tC v σ H Q := by
  obtain ⟨F, ρ, s, p⟩ := h
  exact p v F H (Grow.refl s.sub) (hv F)
/-! ### argument lists -/
def consA (fa : Env → Res B) (fs : Env → Res (List B)) : Env → Res (List B) := fun ρ => (fa ρ).bind fun x => (fs ρ).bind fun xs => .ok (rd x :: xs)
theorem fa_nil : PA X [] (tFA g fun _ => .ok []) := PA.imp pa_nil fun _ _ _ ⟨F, _, s, p⟩ => p [] F _ (Grow.refl s.sub) .nil
theorem fa_cons {e : Expr} {es : List Expr} {fs : Env → Res (List B)} (hn : nst e = true) (ha : PE X e (tF g fa)) (hr : PA X es (tFA g fs)) : PA X (e :: es) (tFA g (consA fa fs)) := by
  refine PA.imp (pa_cons ha hr (star_cons hn)) fun σ H Q ⟨F, ρ, s, p⟩ => ?_
  unfold consA at p
  show tF g fa σ H _
  refine run1 s (fun bx v F1 H1 e1 g1 r1 => ?_) (fun c e => ?_) (fun e => ?_)
  · rw [e1, Res.ok_bind] at p
    have s1 := s.grow g1
    refine ⟨F1, ρ, s1, ?_⟩
    cases e2 : fs ρ with
    | ok bs =>
      rw [e2, Res.ok_bind] at p
      exact fun vs F2 H2 g2 r2 => p (v :: vs) F2 H2 (g1.trans g2) (.cons (r1.mono g2) r2)
    | exc c =>
      rw [e2, Res.exc_bind] at p
      exact fun F' H' gr => p F' H' (g1.trans gr)
    | bad =>
      rw [e2] at p
      exact p
  · rw [e] at p
    exact p
  · rw [e] at p
    exact p
/-- arguments, then what is done with them -/
theorem runA {fs : Env → Res (List B)} {f : List B → Res B} {r : List V → Hp → VK → Prop} {σ : L2.St} {H : Hp} {Q : VK}
    (hg : ∀ (F H : Hp) (vs : List V) (bs : List B) (Q : VK), Sm g F H → Paired (RR g F H) vs bs → Post g F H (f bs) Q → r vs H Q)
    (h : tF g (fun ρ => (fs ρ).bind f) σ H Q) : tFA g fs σ H fun vs H1 => r vs H1 Q := by
  obtain ⟨F, ρ, s, p⟩ := h
  refine ⟨F, ρ, s, ?_⟩
  dsimp only at p
  cases e : fs ρ with
  | ok bs =>
    rw [e, Res.ok_bind] at p
    exact fun vs F1 H1 g1 r1 => hg F1 H1 vs bs Q (s.sm.grow g1) r1 (p.later g1)
  | exc c =>
    rw [e, Res.exc_bind] at p
    exact p
  | bad =>
    rw [e] at p
    exact p
def CallG (g : G) (r : List V → Hp → VK → Prop) (f : List B → Res B) : Prop := ∀ (F H : Hp) (vs : List V) (bs : List B) (Q : VK), Sm g F H → Paired (RR g F H) vs bs → Post g F H (f bs) Q → r vs H Q
theorem fe_callB {x : Str} {p : Pos} {e : Expr} {es : List Expr} {id : String} {r : List V → Hp → VK → Prop} {fs : Env → Res (List B)} {f : List B → Res B} (hc : CallR X (.builtin id) r) (hg : Gl X x) (hm : X.mg x = none) (hv : bootBuiltins x = some (.builtin id)) (hcg : CallG g r f)
    (ha : PA X (e :: es) (tFA g fs)) (hn : x ≠ "__name__") (hdb : (x == ("__debug__" : Str)) = false) (hst : (e :: es).all nst = true) : PE X (.Call (.Name x p) (e :: es) [] pos) (tF g fun ρ => (fs ρ).bind f) := by
  rw [List.all_cons, Bool.and_eq_true] at hst
  exact PE.imp (pe_callB hc hg hm hv ha hn hdb (star_cons hst.1) (star_none hst.2)) fun _ _ _ h => runA hcg h
theorem fe_callTy {x : Str} {p : Pos} {e : Expr} {es : List Expr} {T : String} {r : List V → Hp → VK → Prop} {fs : Env → Res (List B)} {f : List B → Res B} (hc : CallR X (.type T) r) (hg : Gl X x) (hm : X.mg x = none) (hv : bootBuiltins x = some (.type T)) (hcg : CallG g r f)
    (ha : PA X (e :: es) (tFA g fs)) (hn : x ≠ "__name__") (hdb : (x == ("__debug__" : Str)) = false) (hst : (e :: es).all nst = true) : PE X (.Call (.Name x p) (e :: es) [] pos) (tF g fun ρ => (fs ρ).bind f) := by
  rw [List.all_cons, Bool.and_eq_true] at hst
  exact PE.imp (pe_callTy hc hg hm hv ha hn hdb (star_cons hst.1) (star_none hst.2)) fun _ _ _ h => runA hcg h
/-! ### displays -/
def dats : List B → Option (List D)
  | [] => some []
  | .dat d :: bs => (match dats bs with | some ds => some (d :: ds) | none => none)
  | _ => none
theorem dats_ok {F H : Hp} : ∀ {bs : List B} {vs : List V} {ds : List D}, dats bs = some ds → Paired (RR g F H) vs bs → RpAll g.K g.fa F vs ds
  | [], _, _, h, .nil => by cases h; exact .nil
  | .dat d :: bs, _, _, h, .cons r rs => by
    unfold dats at h
    split at h
    · rename_i ds' h'
      cases h
      exact .cons r (dats_ok h' rs)
    · cases h
  | .own _ :: _, _, _, h, _ => by cases h
  | .vw _ :: _, _, _, h, _ => by cases h
  | .bor _ :: _, _, _, h, _ => by cases h
  | .scr _ :: _, _, _, h, _ => by cases h
def tupB (bs : List B) : Res B := match dats bs with
  | some ds => if ds.length ≤ sizeLine then .ok (.dat (.tup ds)) else .bad
  | none => .bad
def lstB (bs : List B) : Res B := match dats bs with
  | some ds => if ds.length ≤ sizeLine then .ok (.own (.l ds)) else .bad
  | none => .bad
theorem g_tup : CallG g (fun xs H1 Q => xs.length ≤ sizeLine ∧ ∀ p, H1 p = none → Q (.ref p) (upd H1 p (.tup xs))) tupB := by
  intro F H vs bs Q s r p
  unfold tupB at p
  split at p
  · rename_i ds hd
    split at p
    · rename_i hz
      have rr := dats_ok hd r
      exact ⟨by rw [rr.len]; exact hz, p.newT s rr⟩
    · exact p.elim
  · exact p.elim
theorem g_lst : CallG g (fun xs H1 Q => xs.length ≤ sizeLine ∧ ∀ p, H1 p = none → Q (.ref p) (upd H1 p (.lst xs))) lstB := by
  intro F H vs bs Q s r p
  unfold lstB at p
  split at p
  · rename_i ds hd
    split at p
    · rename_i hz
      have rr := dats_ok hd r
      exact ⟨by rw [rr.len]; exact hz, p.newL s rr⟩
    · exact p.elim
  · exact p.elim
theorem fe_tup {es : List Expr} {k : Nat} {fs : Env → Res (List B)} (ha : PA X es (tFA g fs)) : PE X (.Tuple es k pos) (tF g fun ρ => (fs ρ).bind tupB) := PE.imp (pe_tup ha) fun _ _ _ h => runA g_tup h
theorem fe_lst {es : List Expr} {fs : Env → Res (List B)} (ha : PA X es (tFA g fs)) : PE X (.List es pos) (tF g fun ρ => (fs ρ).bind lstB) := PE.imp (pe_lst ha) fun _ _ _ h => runA g_lst h
theorem fe_dicK : PE X (.Dict [] [] pos) (tF g fun _ => .ok (.own (.k []))) := PE.imp pe_dnewK fun σ H Q ⟨F, ρ, s, p⟩ => fun d hd => p.newM s.sm (.k (kvs := []) rfl .nil) d hd
theorem fe_dicT : PE X (.Dict [] [] pos) (tF g fun _ => .ok (.own (.t []))) := PE.imp pe_dnewT fun σ H Q ⟨F, ρ, s, p⟩ => fun d hd => p.newM s.sm (.t (kvs := []) rfl .nil) d hd
/-! ### one value, then what is done with it -/
def one1 (f : B → Res B) (fa : Env → Res B) : Env → Res B := fun ρ => (fa ρ).bind fun x => f (rd x)
theorem runU {f : B → Res B} {R : V → Hp → VK → Prop} {σ : L2.St} {H : Hp} {Q : VK} (hg : ∀ (F H : Hp) (v : V) (b : B) (Q : VK), Sm g F H → RR g F H v b → Post g F H (f b) Q → R v H Q) (h : tF g (one1 f fa) σ H Q) : tF g fa σ H fun v H1 => R v H1 Q := by
  obtain ⟨F, ρ, s, p⟩ := h
  unfold one1 at p
  refine run1 s (fun bx v F1 H1 e1 g1 r1 => ?_) (fun c e => ?_) (fun e => ?_)
  · rw [e1, Res.ok_bind] at p
    exact hg F1 H1 v _ Q (s.sm.grow g1) r1 (p.later g1)
  · rw [e] at p
    exact p
  · rw [e] at p
    exact p
def negB (b : B) : Res B := match b with
  | .dat (.int i) => .ok (.dat (.int (-i)))
  | _ => .bad
theorem fe_neg (ha : PE X a (tF g fa)) : PE X (.UnaryOp .USub a pos) (tF g (one1 negB fa)) := by
  refine PE.imp (pe_un un_neg ha) fun σ H Q h => runU (f := negB) (R := rU fun i => .int (-i)) (fun F H v b Q s r p => ?_) h
  unfold negB at p
  split at p
  · cases r
    exact ⟨_, rfl, p.int s⟩
  · exact p.elim
def notB (b : B) : Res B := match b with
  | .dat (.bl k) => .ok (.dat (.bl !k))
  | _ => .bad
theorem fe_not (ha : PE X a (tF g fa)) : PE X (.UnaryOp .Not a pos) (tF g (one1 notB fa)) := by
  refine PE.imp (pe_not ha) fun σ H Q h => runU (f := notB) (R := fun x H1 Q => ∃ c, x = .bl c ∧ Q (.bl (!c)) H1) (fun F H v b Q s r p => ?_) h
  unfold notB at p
  split at p
  · cases r
    exact ⟨_, rfl, p.bl s⟩
  · exact p.elim
def revB (b : B) : Res B := match b with
  | .scr ns => .ok (.own (.l (ns.reverse.map .int)))
  | b => match seqL b with
    | some ds => .ok (.own (.l ds.reverse))
    | none => .bad
/-! ### and, or as values: the left ones are truths -/
def andV (fa fb : Env → Res B) : Env → Res B := fun ρ => (fa ρ).bind fun x => match x with
  | .dat (.bl true) => fb ρ
  | .dat (.bl false) => .ok (.dat (.bl false))
  | _ => .bad
def orV (fa fb : Env → Res B) : Env → Res B := fun ρ => (fa ρ).bind fun x => match x with
  | .dat (.bl false) => fb ρ
  | .dat (.bl true) => .ok (.dat (.bl true))
  | _ => .bad
theorem fe_and {rest : List Expr} (ha : PE X a (tF g fa)) (hb : PE X (.BoolOp .And (b :: rest) pos) (tF g fb)) : PE X (.BoolOp .And (a :: b :: rest) pos) (tF g (andV fa fb)) := by
  refine PE.imp (pe_and ha hb) fun σ H Q ⟨F, ρ, s, p⟩ => ?_
  unfold andV at p
  show tF g fa σ H _
  refine run1 s (fun bx v F1 H1 e1 g1 r1 => ?_) (fun c e => ?_) (fun e => ?_)
  · rw [e1, Res.ok_bind] at p
    split at p
    · cases r1
      refine ⟨true, rfl, ?_⟩
      rw [if_pos rfl]
      exact ⟨F1, ρ, s.grow g1, p.later g1⟩
    · cases r1
      refine ⟨false, rfl, ?_⟩
      rw [if_neg Bool.false_ne_true]
      exact (p.later g1).bl (s.sm.grow g1)
    · exact p.elim
  · rw [e] at p
    exact p
  · rw [e] at p
    exact p
theorem fe_or {rest : List Expr} (ha : PE X a (tF g fa)) (hb : PE X (.BoolOp .Or (b :: rest) pos) (tF g fb)) : PE X (.BoolOp .Or (a :: b :: rest) pos) (tF g (orV fa fb)) := by
  refine PE.imp (pe_or ha hb) fun σ H Q ⟨F, ρ, s, p⟩ => ?_
  unfold orV at p
  show tF g fa σ H _
  refine run1 s (fun bx v F1 H1 e1 g1 r1 => ?_) (fun c e => ?_) (fun e => ?_)
  · rw [e1, Res.ok_bind] at p
    split at p
    · cases r1
      refine ⟨false, rfl, ?_⟩
      rw [if_neg Bool.false_ne_true]
      exact ⟨F1, ρ, s.grow g1, p.later g1⟩
    · cases r1
      refine ⟨true, rfl, ?_⟩
      rw [if_pos rfl]
      exact (p.later g1).bl (s.sm.grow g1)
    · exact p.elim
  · rw [e] at p
    exact p
  · rw [e] at p
    exact p
/-! ### tests -/
def truB (b : B) : Res Bool := match b with
  | .dat .non => .ok false
  | .dat (.bl k) => .ok k
  | .dat (.int i) => .ok (i != 0)
  | .dat (.str x) => if x.length ≤ sizeLine then .ok ((x.length : Int) != 0) else .bad
  | b => match dkOf b with
    | some kvs => .ok (!kvs.isEmpty)
    | none => match seqI b with
      | some ds => .ok (!ds.isEmpty)
      | none => .bad
def testV (fa : Env → Res B) : Env → Res Bool := fun ρ => (fa ρ).bind fun x => truB (rd x)
theorem truB_ok {F H : Hp} {v : V} {b : B} {k : Bool} (s : Sm g F H) (r : RR g F H v b) (h : truB b = .ok k) : TruV g.K v H k := by
  unfold truB at h
  split at h
  · cases h; cases r; rfl
  · cases h; cases r; rfl
  · cases h; cases r; rfl
  · split at h
    · cases h; cases r; exact ⟨by assumption, rfl⟩
    · cases h
  · split at h
    · rename_i kvs hk
      cases h
      obtain ⟨p, xs, rfl, h1, h2, h3⟩ := dkOf_ok s r hk
      refine .inr (.inr ⟨xs, h1, ?_⟩)
      cases xs with
      | nil => cases kvs with
        | nil => rfl
        | cons _ _ => simp at h2
      | cons _ _ => cases kvs with
        | nil => simp at h2
        | cons _ _ => rfl
    · split at h
      · rename_i ds hs
        cases h
        obtain ⟨p, xs, rfl, h1, h2⟩ := seqI_ok s r hs
        have e : (!ds.isEmpty) = !xs.isEmpty := by cases h2 <;> rfl
        rw [e]
        rcases h1 with h1 | h1
        · exact .inl ⟨xs, h1, rfl⟩
        · exact .inr (.inl ⟨xs, h1, rfl⟩)
      · cases h
theorem ft_val (hK : g.K = X.K) (hp : plainT a = true) (ha : PE X a (tF g fa)) : PT X a (tFT g (testV fa)) := by
  refine PT.imp (pt_truth ha (plainT_eq hp)) fun σ H Q ⟨F, ρ, s, p⟩ => ?_
  unfold testV at p
  show tF g fa σ H _
  rw [← hK]
  refine run1 s (fun bx v F1 H1 e1 g1 r1 => ?_) (fun c e => ?_) (fun e => ?_)
  · rw [e1, Res.ok_bind] at p
    cases e2 : truB (rd bx) with
    | ok k =>
      rw [e2] at p
      exact ⟨k, truB_ok (s.sm.grow g1) r1 e2, p F1 H1 g1⟩
    | exc c =>
      exfalso
      unfold truB at e2
      repeat (split at e2 <;> try cases e2)
    | bad =>
      rw [e2] at p
      exact p.elim
  · rw [e] at p
    exact p
  · rw [e] at p
    exact p
end
end Fn
namespace Fn
open PySem PySem.Spec PyProof.Rows L2
/-! ### built-in functions -/
section
variable {X : Cx} {g : G}
theorem paired1 {α β : Type} {R : α → β → Prop} {xs : List α} {b : β} (h : Paired R xs [b]) : ∃ x, xs = [x] ∧ R x b := by
  cases h with
  | cons r t => cases t; exact ⟨_, rfl, r⟩
theorem paired2 {α β : Type} {R : α → β → Prop} {xs : List α} {b c : β} (h : Paired R xs [b, c]) : ∃ x y, xs = [x, y] ∧ R x b ∧ R y c := by
  cases h with
  | cons r t =>
    obtain ⟨y, rfl, r'⟩ := paired1 t
    exact ⟨_, _, rfl, r, r'⟩
def intsD : List D → Option (List Int)
  | [] => some []
  | .int i :: ds => (match intsD ds with | some ns => some (i :: ns) | none => none)
  | _ => none
def blsD : List D → Option (List Bool)
  | [] => some []
  | .bl i :: ds => (match blsD ds with | some ns => some (i :: ns) | none => none)
  | _ => none
theorem intsD_ok : ∀ {ds : List D} {ns : List Int}, intsD ds = some ns → ds = ns.map D.int
  | [], _, h => by cases h; rfl
  | .int i :: ds, _, h => by
    unfold intsD at h
    split at h
    · rename_i ns e
      cases h
      rw [intsD_ok e]; rfl
    · cases h
  | .non :: _, _, h => by cases h
  | .bl _ :: _, _, h => by cases h
  | .str _ :: _, _, h => by cases h
  | .tup _ :: _, _, h => by cases h
  | .ctup _ :: _, _, h => by cases h
  | .lst _ :: _, _, h => by cases h
  | .dk _ :: _, _, h => by cases h
  | .dt _ :: _, _, h => by cases h
  | .fn _ :: _, _, h => by cases h
theorem blsD_ok : ∀ {ds : List D} {ns : List Bool}, blsD ds = some ns → ds = ns.map D.bl
  | [], _, h => by cases h; rfl
  | .bl i :: ds, _, h => by
    unfold blsD at h
    split at h
    · rename_i ns e
      cases h
      rw [blsD_ok e]; rfl
    · cases h
  | .non :: _, _, h => by cases h
  | .int _ :: _, _, h => by cases h
  | .str _ :: _, _, h => by cases h
  | .tup _ :: _, _, h => by cases h
  | .ctup _ :: _, _, h => by cases h
  | .lst _ :: _, _, h => by cases h
  | .dk _ :: _, _, h => by cases h
  | .dt _ :: _, _, h => by cases h
  | .fn _ :: _, _, h => by cases h
theorem intsD_map (ns : List Int) : intsD (ns.map D.int) = some ns := by
  induction ns with
  | nil => rfl
  | cons n ns ih => rw [List.map_cons, intsD, ih]
theorem blsD_map (ns : List Bool) : blsD (ns.map D.bl) = some ns := by
  induction ns with
  | nil => rfl
  | cons n ns ih => rw [List.map_cons, blsD, ih]
def lenB (bs : List B) : Res B := match bs with
  | [.dat (.str x)] => if x.length ≤ sizeLine then .ok (.dat (.int x.length)) else .bad
  | [b] => (match dkOf b with
    | some kvs => .ok (.dat (.int kvs.length))
    | none => match seqI b with
      | some ds => .ok (.dat (.int ds.length))
      | none => match dtOf b with
        | some kvs => .ok (.dat (.int kvs.length))
        | none => .bad)
  | _ => .bad
def rLenF (K : PySem.W.Frag) : List V → Hp → VK → Prop := fun xs H Q => (∃ p ys, xs = [.ref p] ∧ (SqL K H p ys ∨ SqT K H p ys) ∧ Q (.int ys.length) H) ∨ (∃ z, xs = [.str z] ∧ z.length ≤ sizeLine ∧ Q (.int z.length) H) ∨ (∃ a kvs, xs = [V.ref a] ∧ H a = some (.dK kvs) ∧ Q (.int kvs.length) H) ∨ rLenT xs H Q
theorem c_len : CallR X (.builtin "len") (rLenF X.K) := CallR.or call_len_seq (CallR.or call_len_str (CallR.or call_lenD call_len_dT))
theorem g_len {K : PySem.W.Frag} (hK : g.K = K) : CallG g (rLenF K) lenB := by
  subst hK
  intro F H vs bs Q s r p
  unfold lenB at p
  split at p
  · split at p
    · obtain ⟨v, rfl, rv⟩ := paired1 r
      cases rv
      exact .inr (.inl ⟨_, rfl, by assumption, p.int s⟩)
    · exact p.elim
  · obtain ⟨v, rfl, rv⟩ := paired1 r
    split at p
    · rename_i kvs hk
      obtain ⟨q, xs, rfl, h1, h2, h3⟩ := dkOf_ok s rv hk
      have e : xs.length = kvs.length := by simpa using congrArg List.length h2
      exact .inr (.inr (.inl ⟨q, xs, rfl, h1, by rw [e]; exact p.int s⟩))
    · split at p
      · rename_i ds hs
        obtain ⟨q, xs, rfl, h1, h2⟩ := seqI_ok s rv hs
        exact .inl ⟨q, xs, rfl, h1, by rw [h2.len]; exact p.int s⟩
      · split at p
        · rename_i kvs hk
          obtain ⟨q, xs, rfl, h1, h2, h3⟩ := dtOf_ok s rv hk
          have e : xs.length = kvs.length := by simpa using congrArg List.length h2
          exact .inr (.inr (.inr ⟨q, xs, rfl, h1, by rw [e]; exact p.int s⟩))
        · exact p.elim
  · exact p.elim
def absF (bs : List B) : Res B := match bs with
  | [.dat (.int i)] => .ok (.dat (.int (if i < 0 then -i else i)))
  | _ => .bad
theorem g_abs : CallG g (fun xs H Q => ∃ i, xs = [.int i] ∧ Q (.int (if i < 0 then -i else i)) H) absF := by
  intro F H vs bs Q s r p
  unfold absF at p
  split at p
  · obtain ⟨v, rfl, rv⟩ := paired1 r
    cases rv
    exact ⟨_, rfl, p.int s⟩
  · exact p.elim
/-- the least, the greatest of whole numbers -/
def minI : List Int → Int
  | [] => 0
  | n :: ns => ns.foldl min n
def maxI : List Int → Int
  | [] => 0
  | n :: ns => ns.foldl max n
theorem foldl_min : ∀ (ns : List Int) (n : Int), (ns.foldl min n = n ∨ ns.foldl min n ∈ ns) ∧ ns.foldl min n ≤ n ∧ ∀ y ∈ ns, ns.foldl min n ≤ y
  | [], n => ⟨.inl rfl, Int.le_refl _, fun y h => by cases h⟩
  | m :: ns, n => by
    obtain ⟨h1, h2, h3⟩ := foldl_min ns (min n m)
    rw [List.foldl_cons]
    refine ⟨?_, by omega, fun y hy => ?_⟩
    · rcases h1 with h1 | h1
      · rw [h1]
        by_cases c : n ≤ m
        · exact .inl (by omega)
        · exact .inr (by rw [show min n m = m by omega]; exact List.mem_cons_self)
      · exact .inr (List.mem_cons_of_mem _ h1)
    · rcases List.mem_cons.mp hy with rfl | hy
      · omega
      · exact h3 y hy
theorem foldl_max : ∀ (ns : List Int) (n : Int), (ns.foldl max n = n ∨ ns.foldl max n ∈ ns) ∧ n ≤ ns.foldl max n ∧ ∀ y ∈ ns, y ≤ ns.foldl max n
  | [], n => ⟨.inl rfl, Int.le_refl _, fun y h => by cases h⟩
  | m :: ns, n => by
    obtain ⟨h1, h2, h3⟩ := foldl_max ns (max n m)
    rw [List.foldl_cons]
    refine ⟨?_, by omega, fun y hy => ?_⟩
    · rcases h1 with h1 | h1
      · rw [h1]
        by_cases c : m ≤ n
        · exact .inl (by omega)
        · exact .inr (by rw [show max n m = m by omega]; exact List.mem_cons_self)
      · exact .inr (List.mem_cons_of_mem _ h1)
    · rcases List.mem_cons.mp hy with rfl | hy
      · omega
      · exact h3 y hy
theorem minI_ok {ns : List Int} (h : 0 < ns.length) : minI ns ∈ ns ∧ ∀ y ∈ ns, minI ns ≤ y := by
  cases ns with
  | nil => simp at h
  | cons n ns =>
    obtain ⟨h1, h2, h3⟩ := foldl_min ns n
    refine ⟨?_, fun y hy => ?_⟩
    · rcases h1 with h1 | h1
      · show ns.foldl min n ∈ n :: ns
        rw [h1]; exact List.mem_cons_self
      · exact List.mem_cons_of_mem _ h1
    · rcases List.mem_cons.mp hy with rfl | hy
      · exact h2
      · exact h3 y hy
theorem maxI_ok {ns : List Int} (h : 0 < ns.length) : maxI ns ∈ ns ∧ ∀ y ∈ ns, y ≤ maxI ns := by
  cases ns with
  | nil => simp at h
  | cons n ns =>
    obtain ⟨h1, h2, h3⟩ := foldl_max ns n
    refine ⟨?_, fun y hy => ?_⟩
    · rcases h1 with h1 | h1
      · show ns.foldl max n ∈ n :: ns
        rw [h1]; exact List.mem_cons_self
      · exact List.mem_cons_of_mem _ h1
    · rcases List.mem_cons.mp hy with rfl | hy
      · exact h2
      · exact h3 y hy
def mnxB (two : Int → Int → Int) (many : List Int → Int) (bs : List B) : Res B := match bs with
  | [.dat (.int i), .dat (.int j)] => .ok (.dat (.int (two i j)))
  | [b] => (match seqL b with
    | some ds => (match intsD ds with
      | some ns => if 0 < ns.length then .ok (.dat (.int (many ns))) else .bad
      | none => .bad)
    | none => .bad)
  | _ => .bad
def minF : List B → Res B := mnxB (fun i j => if j < i then j else i) minI
def maxF : List B → Res B := mnxB (fun i j => if j > i then j else i) maxI
def rMinF (K : PySem.W.Frag) : List V → Hp → VK → Prop := fun xs H Q => (∃ i j, xs = [.int i, .int j] ∧ Q (.int (if j < i then j else i)) H) ∨ rMin K xs H Q
def rMaxF (K : PySem.W.Frag) : List V → Hp → VK → Prop := fun xs H Q => (∃ i j, xs = [.int i, .int j] ∧ Q (.int (if j > i then j else i)) H) ∨ rMax K xs H Q
theorem c_min (hc : X.calm = true) : CallR X (.builtin "min") (rMinF X.K) := CallR.or (call_min2 hc) (cr_min hc)
theorem c_max (hc : X.calm = true) : CallR X (.builtin "max") (rMaxF X.K) := CallR.or (call_max2 hc) (cr_max hc)
theorem ints_at {F H : Hp} {v : V} {b : B} {ds : List D} {ns : List Int} (s : Sm g F H) (r : RR g F H v b) (h : seqL b = some ds) (e : intsD ds = some ns) : ∃ a, v = .ref a ∧ SqL g.K H a (ns.map V.int) := by
  obtain ⟨a, xs, rfl, h1, h2⟩ := seqL_ok s r h
  have ed := intsD_ok e
  subst ed
  have ex := h2.ints
  subst ex
  exact ⟨a, rfl, SqL.of h1⟩
theorem g_min {K : PySem.W.Frag} (hK : g.K = K) : CallG g (rMinF K) minF := by
  subst hK
  intro F H vs bs Q s r p
  unfold minF mnxB at p
  split at p
  · obtain ⟨v, w, rfl, rv, rw'⟩ := paired2 r
    cases rv
    cases rw'
    exact .inl ⟨_, _, rfl, p.int s⟩
  · obtain ⟨v, rfl, rv⟩ := paired1 r
    split at p
    · rename_i ds hd
      split at p
      · rename_i ns hn
        split at p
        · rename_i hl
          obtain ⟨a, rfl, h1⟩ := ints_at s rv hd hn
          obtain ⟨m1, m2⟩ := minI_ok hl
          refine .inr ⟨a, ns, rfl, h1, hl, fun m h2 h3 => ?_⟩
          have e : m = minI ns := by
            have a1 := h3 _ m1
            have a2 := m2 _ h2
            omega
          subst e
          exact p.int s
        · exact p.elim
      · exact p.elim
    · exact p.elim
  · exact p.elim
theorem g_max {K : PySem.W.Frag} (hK : g.K = K) : CallG g (rMaxF K) maxF := by
  subst hK
  intro F H vs bs Q s r p
  unfold maxF mnxB at p
  split at p
  · obtain ⟨v, w, rfl, rv, rw'⟩ := paired2 r
    cases rv
    cases rw'
    exact .inl ⟨_, _, rfl, p.int s⟩
  · obtain ⟨v, rfl, rv⟩ := paired1 r
    split at p
    · rename_i ds hd
      split at p
      · rename_i ns hn
        split at p
        · rename_i hl
          obtain ⟨a, rfl, h1⟩ := ints_at s rv hd hn
          obtain ⟨m1, m2⟩ := maxI_ok hl
          refine .inr ⟨a, ns, rfl, h1, hl, fun m h2 h3 => ?_⟩
          have e : m = maxI ns := by
            have a1 := h3 _ m1
            have a2 := m2 _ h2
            omega
          subst e
          exact p.int s
        · exact p.elim
      · exact p.elim
    · exact p.elim
  · exact p.elim
def sumF (bs : List B) : Res B := match bs with
  | [b] => (match seqL b with
    | some ds => (match intsD ds with
      | some ns => .ok (.dat (.int ns.sum))
      | none => .bad)
    | none => .bad)
  | _ => .bad
theorem g_sum {K : PySem.W.Frag} (hK : g.K = K) : CallG g (rSum K) sumF := by
  subst hK
  intro F H vs bs Q s r p
  unfold sumF at p
  split at p
  · obtain ⟨v, rfl, rv⟩ := paired1 r
    split at p
    · rename_i ds hd
      split at p
      · rename_i ns hn
        obtain ⟨a, rfl, h1⟩ := ints_at s rv hd hn
        exact ⟨a, ns, rfl, h1, p.int s⟩
      · exact p.elim
    · exact p.elim
  · exact p.elim
def anyAllF (f : List Bool → Bool) (bs : List B) : Res B := match bs with
  | [b] => (match seqL b with
    | some ds => (match blsD ds with
      | some ns => .ok (.dat (.bl (f ns)))
      | none => .bad)
    | none => .bad)
  | _ => .bad
def anyF : List B → Res B := anyAllF fun ns => ns.any id
def allF : List B → Res B := anyAllF fun ns => ns.all id
theorem bls_at {F H : Hp} {v : V} {b : B} {ds : List D} {ns : List Bool} (s : Sm g F H) (r : RR g F H v b) (h : seqL b = some ds) (e : blsD ds = some ns) : ∃ a, v = .ref a ∧ SqL g.K H a (ns.map V.bl) := by
  obtain ⟨a, xs, rfl, h1, h2⟩ := seqL_ok s r h
  have ed := blsD_ok e
  subst ed
  have ex := h2.bls
  subst ex
  exact ⟨a, rfl, SqL.of h1⟩
theorem g_any {K : PySem.W.Frag} (hK : g.K = K) : CallG g (rAny K) anyF := by
  subst hK
  intro F H vs bs Q s r p
  unfold anyF anyAllF at p
  split at p
  · obtain ⟨v, rfl, rv⟩ := paired1 r
    split at p
    · rename_i ds hd
      split at p
      · rename_i ns hn
        obtain ⟨a, rfl, h1⟩ := bls_at s rv hd hn
        exact ⟨a, ns, rfl, h1, p.bl s⟩
      · exact p.elim
    · exact p.elim
  · exact p.elim
theorem g_all {K : PySem.W.Frag} (hK : g.K = K) : CallG g (rAll K) allF := by
  subst hK
  intro F H vs bs Q s r p
  unfold allF anyAllF at p
  split at p
  · obtain ⟨v, rfl, rv⟩ := paired1 r
    split at p
    · rename_i ds hd
      split at p
      · rename_i ns hn
        obtain ⟨a, rfl, h1⟩ := bls_at s rv hd hn
        exact ⟨a, ns, rfl, h1, p.bl s⟩
      · exact p.elim
    · exact p.elim
  · exact p.elim
/-! ### classes called -/
def intF (bs : List B) : Res B := match bs with
  | [.dat (.int i)] => .ok (.dat (.int i))
  | [.dat (.bl k)] => .ok (.dat (.int (if k then 1 else 0)))
  | _ => .bad
theorem g_int : CallG g (fun xs H Q => (∃ i, xs = [.int i] ∧ Q (.int i) H) ∨ ∃ k, xs = [.bl k] ∧ Q (.int (if k then 1 else 0)) H) intF := by
  intro F H vs bs Q s r p
  unfold intF at p
  split at p
  · obtain ⟨v, rfl, rv⟩ := paired1 r
    cases rv
    exact .inl ⟨_, rfl, p.int s⟩
  · obtain ⟨v, rfl, rv⟩ := paired1 r
    cases rv
    exact .inr ⟨_, rfl, p.int s⟩
  · exact p.elim
def strF (bs : List B) : Res B := match bs with
  | [.dat (.int i)] => if i.natAbs.log2 < 1920 then .ok (.dat (.str (toString i))) else .bad
  | _ => .bad
theorem g_str : CallG g (fun xs H Q => ∃ i, xs = [.int i] ∧ i.natAbs.log2 < 1920 ∧ Q (.str (toString i)) H) strF := by
  intro F H vs bs Q s r p
  unfold strF at p
  split at p
  · split at p
    · obtain ⟨v, rfl, rv⟩ := paired1 r
      cases rv
      exact ⟨_, rfl, by assumption, p.str s⟩
    · exact p.elim
  · exact p.elim
def isTupD : B → Bool
  | .dat (.tup _) => true
  | .dat (.ctup _) => true
  | _ => false
def tupF (bs : List B) : Res B := match bs with
  | [.dat (.tup xs)] => .ok (.dat (.tup xs))
  | [.dat (.ctup xs)] => .ok (.dat (.ctup xs))
  | [b] => (match seqI b with
    | some ds => .ok (.dat (.tup ds))
    | none => .bad)
  | _ => .bad
theorem seqI_list {F H : Hp} {v : V} {b : B} {ds : List D} (s : Sm g F H) (r : RR g F H v b) (h : seqI b = some ds) (n1 : ∀ xs, b ≠ .dat (.tup xs)) (n2 : ∀ xs, b ≠ .dat (.ctup xs)) : ∃ a xs, v = .ref a ∧ SqL g.K H a xs ∧ RpAll g.K g.fa F xs ds := by
  unfold seqI at h
  split at h
  · exact absurd rfl (n1 _)
  · exact absurd rfl (n2 _)
  · cases h
    cases r with
    | lst h1 h2 => exact ⟨_, _, rfl, SqL.of (s.fh _ _ h1), h2⟩
  · cases h
    obtain ⟨p, o, rfl, h1, h2⟩ := r
    cases h2 with
    | l h2 => exact ⟨_, _, rfl, SqL.of h1, h2⟩
  · cases h
    obtain ⟨p, o, rfl, h1, h2⟩ := r
    cases h2 with
    | l h2 => exact ⟨_, _, rfl, SqL.of (s.gh _ _ h1), h2⟩
  · cases h
    obtain ⟨p, rfl, h1⟩ := r
    exact ⟨_, _, rfl, s.gh.seq h1, RpAll.of_ints _⟩
  · cases h
def rTupF (K : PySem.W.Frag) : List V → Hp → VK → Prop := fun xs H Q => ∃ p ys, xs = [.ref p] ∧ ((SqL K H p ys ∧ ∀ l, H l = none → Q (.ref l) (upd H l (.tup ys))) ∨ (SqT K H p ys ∧ Q (.ref p) H))
theorem g_tupF {K : PySem.W.Frag} (hK : g.K = K) : CallG g (rTupF K) tupF := by
  subst hK
  intro F H vs bs Q s r p
  unfold tupF at p
  split at p
  · obtain ⟨v, rfl, rv⟩ := paired1 r
    cases rv with
    | tup h1 h2 => exact ⟨_, _, rfl, .inr ⟨SqT.of (s.fh _ _ h1), p.dat s (.tup h1 h2)⟩⟩
  · obtain ⟨v, rfl, rv⟩ := paired1 r
    cases rv with
    | ctup h1 h2 => exact ⟨_, _, rfl, .inr ⟨sqT_none h1, p.dat s (.ctup h1 h2)⟩⟩
  · rename_i b n1 n2
    obtain ⟨v, rfl, rv⟩ := paired1 r
    split at p
    · rename_i ds hs
      obtain ⟨a, xs, rfl, h1, h2⟩ := seqI_list s rv hs (fun xs e => n1 xs (by rw [e])) (fun xs e => n2 xs (by rw [e]))
      exact ⟨a, xs, rfl, .inl ⟨h1, p.newT s h2⟩⟩
    · exact p.elim
  · exact p.elim
def lstF (bs : List B) : Res B := match bs with
  | [b] => (match seqI b with
    | some ds => .ok (.own (.l ds))
    | none => .bad)
  | _ => .bad
def rLstF (K : PySem.W.Frag) : List V → Hp → VK → Prop := fun xs H Q => ∃ p ys, xs = [.ref p] ∧ (SqL K H p ys ∨ SqT K H p ys) ∧ ∀ l, H l = none → Q (.ref l) (upd H l (.lst ys))
theorem g_lstF {K : PySem.W.Frag} (hK : g.K = K) : CallG g (rLstF K) lstF := by
  subst hK
  intro F H vs bs Q s r p
  unfold lstF at p
  split at p
  · obtain ⟨v, rfl, rv⟩ := paired1 r
    split at p
    · rename_i ds hs
      obtain ⟨a, xs, rfl, h1, h2⟩ := seqI_ok s rv hs
      exact ⟨a, xs, rfl, h1, p.newL s h2⟩
    · exact p.elim
  · exact p.elim
/-! ### sorted -/
def sortF (bs : List B) : Res B := match bs with
  | [b] => (match dkOf b with
    | some kvs => if sortOk (kvs.map fun kv => keyB kv.1) = true then .ok (.own (.l ((kvs.map fun kv => keyB kv.1).mergeSort leD))) else .bad
    | none => match dtOf b with
      | some kvs => if sortOk (kvs.map fun kv => kD kv.1) = true then .ok (.own (.l ((kvs.map fun kv => kD kv.1).mergeSort leD))) else .bad
      | none => match seqL b with
        | some ds => if sortOk ds = true then .ok (.own (.l (ds.mergeSort leD))) else .bad
        | none => .bad)
  | _ => .bad
def rSortAll (K : PySem.W.Frag) : List V → Hp → VK → Prop := fun xs H Q => rSortDk K xs H Q ∨ rSortDt K xs H Q ∨ rSortF K xs H Q
theorem c_sort (hc : X.calm = true) (hu : X.A.units + 200 < cLine) : CallR X (.builtin "sorted") (rSortAll X.K) := CallR.or (cr_sortDk hc hu) (CallR.or (cr_sortDt hc hu) (cr_sortF (by omega)))
theorem keyB_rp {F : Hp} : ∀ (k : Key), Rp g.K g.fa F (kV k) (keyB k)
  | .inl i => .int i
  | .inr x => .str x
theorem keysB_rp {F : Hp} : ∀ (ks : List Key), RpAll g.K g.fa F (ks.map kV) (ks.map keyB)
  | [] => .nil
  | k :: ks => .cons (keyB_rp k) (keysB_rp ks)
theorem lay_of {ds : List D} (h : sortOk ds = true) : PyData.canLayAll0 (toPys ds) = true := by
  obtain ⟨h1, _, _⟩ := sortOk_iff h
  have go : ∀ ds : List D, (∀ d ∈ ds, SeqAt.shaped (toPy d) = true) → PyData.canLayAll0 (toPys ds) = true := by
    intro ds
    induction ds with
    | nil => intro _; simp [toPys, PyData.canLayAll0]
    | cons d ds ih =>
      intro h
      rw [toPys, PyData.canLayAll0, SeqAt.canLay_of_shaped (h d List.mem_cons_self), ih fun e he => h e (List.mem_cons_of_mem _ he)]
      rfl
  exact go ds h1
/-- the keys of a dict whose keys are tuples, locked -/
theorem lock_keys {F H : Hp} (s : Same F H) : ∀ {kvs : List (List Key × V)} {bs : List Addr}, IsKeys H kvs bs → ∀ {F1 : Hp}, Grow F H F1 H → ∃ F', Grow F H F' H ∧ Same F1 F' ∧ RpAll g.K g.fa F' (bs.map V.ref) (kvs.map fun kv => kD kv.1)
  | _, _, .nil, F1, g1 => ⟨F1, g1, Same.refl _, .nil⟩
  | kv :: kvs, b :: bs, .cons h r, F1, g1 => by
    have g2 : Grow F H (upd F1 b (.tup (kv.1.map kV))) H := g1.tup h
    obtain ⟨F', g3, s3, r3⟩ := lock_keys s r g2
    refine ⟨F', g3, fun c o e => s3 _ _ ?_, .cons (.tup (s3 _ _ upd_same) (keysB_rp _)) r3⟩
    by_cases hb : c = b
    · subst hb
      have := g1.sub _ _ e
      rw [h] at this
      rw [upd_same]
      exact this
    · rw [upd_ne hb]
      exact e
theorem g_sort {K : PySem.W.Frag} (hK : g.K = K) : CallG g (rSortAll K) sortF := by
  subst hK
  intro F H vs bs Q s r p
  unfold sortF at p
  split at p
  · obtain ⟨v, rfl, rv⟩ := paired1 r
    split at p
    · rename_i kvs hk
      split at p
      · rename_i ho
        obtain ⟨a, xs, rfl, h1, h2, h3⟩ := dkOf_ok s rv hk
        have ek : xs.map (fun kv => kV kv.1) = (kvs.map (·.1)).map kV := by rw [← h2, List.map_map]; rfl
        have eb : kvs.map (fun kv => keyB kv.1) = (kvs.map (·.1)).map keyB := by rw [List.map_map]; rfl
        have rr : RpAll g.K g.fa F (xs.map fun kv => kV kv.1) (kvs.map fun kv => keyB kv.1) := by
          rw [ek, eb]
          exact keysB_rp _
        refine .inl ⟨a, xs, _, rfl, .inl h1, RpAll.dp s.fh rr (lay_of ho), by have e := congrArg List.length h2; simpa using e, ho, p.newL s (sortZ_rp rr)⟩
      · exact p.elim
    · split at p
      · rename_i kvs hk
        split at p
        · rename_i ho
          obtain ⟨a, xs, rfl, h1, h2, h3⟩ := dtOf_ok s rv hk
          have ek : xs.map (fun kv => kD kv.1) = kvs.map fun kv => kD kv.1 := by
            have e := congrArg (List.map kD) h2
            rw [List.map_map, List.map_map] at e
            exact e
          refine .inr (.inl ⟨a, xs, rfl, .inl h1, by rw [ek]; exact ho, fun q bs hq hb => ?_⟩)
          obtain ⟨F', g1, _, r1⟩ := lock_keys (g := g) s.fh hb (Grow.refl s.fh)
          have p' := p.later g1
          rw [← ek] at p'
          exact p'.newL (s.grow g1) (sortZ_rp r1) q hq
        · exact p.elim
      · split at p
        · rename_i ds hs
          split at p
          · rename_i ho
            obtain ⟨a, xs, rfl, h1, h2⟩ := seqL_ok s rv hs
            exact .inr (.inr ⟨a, xs, ds, rfl, SqL.of h1, RpAll.dp s.fh h2 (lay_of ho), h2.len, ho, p.newL s (sortZ_rp h2)⟩)
          · exact p.elim
        · exact p.elim
  · exact p.elim
end
end Fn
namespace Fn
open PySem PySem.Spec PyProof.Rows L2
section
variable {X : Cx} {g : G} {a b c : Expr} {pos : Pos} {fa fb fc : Env → Res B}
/-! ### tests of comparisons, and, or, not; a if t else b -/
def tstB (b : B) : Res Bool := match b with
  | .dat (.bl k) => .ok k
  | _ => .bad
theorem tst_run {f : Env → Res B} {σ : L2.St} {H : Hp} {Q : Bool → Hp → Prop} (h : tFT g (fun ρ => (f ρ).bind tstB) σ H Q) : tF g f σ H fun x H' => ∃ k, x = .bl k ∧ Q k H' := by
  obtain ⟨F, ρ, s, p⟩ := h
  refine ⟨F, ρ, s, ?_⟩
  dsimp only at p
  cases e : f ρ with
  | ok b =>
    rw [e, Res.ok_bind] at p
    intro v F' H' g1 r1
    unfold tstB at p
    split at p
    · cases r1
      exact ⟨_, rfl, p F' H' g1⟩
    · exact p.elim
  | exc c =>
    rw [e, Res.exc_bind] at p
    exact p
  | bad =>
    rw [e] at p
    exact p
theorem ft_cmp {op : CmpOp} {r : R2} {f : B → B → Res B} (ho : OpR X (compareOp op) r) (hg : OpG g r f) (ha : PE X a (tF g fa)) (hb : PE X b (tF g fb)) (hm : behindInMarks op b = false) : PT X (.Compare a [op] [b] pos) (tFT g fun ρ => (bin2 f fa fb ρ).bind tstB) :=
  PT.imp (pt_cmpR ho ha hb hm) fun _ _ _ h => run2 hg (tst_run h)
/-- a op b op' c -/
def chn (f f' : B → B → Res B) (fa fb fc : Env → Res B) : Env → Res B := fun ρ => (fa ρ).bind fun x => (fb ρ).bind fun y => (f (rd x) (rd y)).bind fun z => match z with
  | .dat (.bl true) => (fc ρ).bind fun w => f' (rd y) (rd w)
  | .dat (.bl false) => .ok (.dat (.bl false))
  | _ => .bad
theorem chn_run {r r' : R2} {f f' : B → B → Res B} (hg : OpG g r f) (hg' : OpG g r' f') {σ : L2.St} {H : Hp} {Q : VK} (h : tF g (chn f f' fa fb fc) σ H Q) : tChain r r' (tF g fa) (tF g fb) (tF g fc) σ H Q := by
  obtain ⟨F, ρ, s, p⟩ := h
  unfold chn at p
  refine run1 s (fun bx v F1 H1 e1 g1 r1 => ?_) (fun c e => ?_) (fun e => ?_)
  · rw [e1, Res.ok_bind] at p
    have s1 := s.grow g1
    refine run1 s1 (fun by_ w F2 H2 e2 g2 r2 => ?_) (fun c e => ?_) (fun e => ?_)
    · rw [e2, Res.ok_bind] at p
      have s2 := s1.grow g2
      refine hg F2 H2 v w _ _ _ s2.sm (r1.mono g2) r2 ?_
      have p2 := p.later (g1.trans g2)
      cases e3 : f (rd bx) (rd by_) with
      | ok z =>
        rw [e3, Res.ok_bind] at p2
        intro zv F3 H3 g3 r3
        split at p2
        · cases r3
          refine ⟨true, rfl, ?_⟩
          rw [if_pos rfl]
          have s3 := s2.grow g3
          refine run1 s3 (fun bw u F4 H4 e4 g4 r4 => ?_) (fun c e => ?_) (fun e => ?_)
          · rw [e4, Res.ok_bind] at p2
            exact hg' F4 H4 w u _ _ Q (s3.sm.grow g4) ((r2.mono g3).mono g4) r4 (p2.later (g3.trans g4))
          · rw [e, Res.exc_bind] at p2
            exact fun F' H' gr => p2 F' H' (g3.trans gr)
          · rw [e] at p2
            exact p2
        · cases r3
          refine ⟨false, rfl, ?_⟩
          rw [if_neg Bool.false_ne_true]
          exact (p2.later g3).bl (s2.sm.grow g3)
        · exact p2.elim
      | exc c =>
        rw [e3, Res.exc_bind] at p2
        exact p2
      | bad =>
        rw [e3] at p2
        exact p2
    · rw [e, Res.exc_bind] at p
      exact fun F' H' gr => p F' H' (g1.trans gr)
    · rw [e] at p
      exact p
  · rw [e] at p
    exact p
  · rw [e] at p
    exact p
theorem mark2 {op op' : CmpOp} {b c : Expr} (hm : nset c = true) : lastMarks [op, op'] [b, c] = false := by
  show behindInMarks op' c = false
  exact nset_mark hm
theorem fe_chain {op op' : CmpOp} {r r' : R2} {f f' : B → B → Res B} (ho : OpR X (compareOp op) r) (hg : OpG g r f) (ho' : OpR X (compareOp op') r') (hg' : OpG g r' f') (ha : PE X a (tF g fa)) (hb : PE X b (tF g fb)) (hc : PE X c (tF g fc)) (hm : nset c = true) :
    PE X (.Compare a [op, op'] [b, c] pos) (tF g (chn f f' fa fb fc)) := PE.imp (pe_chain ho ho' ha hb hc (mark2 hm)) fun _ _ _ h => chn_run hg hg' h
theorem ft_chain {op op' : CmpOp} {r r' : R2} {f f' : B → B → Res B} (ho : OpR X (compareOp op) r) (hg : OpG g r f) (ho' : OpR X (compareOp op') r') (hg' : OpG g r' f') (ha : PE X a (tF g fa)) (hb : PE X b (tF g fb)) (hc : PE X c (tF g fc)) (hm : nset c = true) :
    PT X (.Compare a [op, op'] [b, c] pos) (tFT g fun ρ => (chn f f' fa fb fc ρ).bind tstB) := PT.imp (pt_chain ho ho' ha hb hc (mark2 hm)) fun _ _ _ h => chn_run hg hg' (tst_run h)
/-- a test, then what is done with its answer -/
theorem runT {t : Env → Res Bool} {σ : L2.St} {F H : Hp} {ρ : Env} {Q : Bool → Hp → Prop} (s : St g F H σ ρ) (hok : ∀ k F1 H1, t ρ = .ok k → Grow F H F1 H1 → Q k H1) (hexc : ∀ c, t ρ = .exc c → ∀ F' H', Grow F H F' H' → g.E c H') (hbad : t ρ ≠ .bad) : tFT g t σ H Q := by
  refine ⟨F, ρ, s, ?_⟩
  cases e : t ρ with
  | ok k => exact fun F1 H1 g1 => hok k F1 H1 e g1
  | exc c => exact hexc c e
  | bad => exact hbad e
def notT (t : Env → Res Bool) : Env → Res Bool := fun ρ => (t ρ).bind fun k => .ok !k
def andT (t u : Env → Res Bool) : Env → Res Bool := fun ρ => (t ρ).bind fun k => if k = true then u ρ else .ok false
def orT (t u : Env → Res Bool) : Env → Res Bool := fun ρ => (t ρ).bind fun k => if k = true then .ok true else u ρ
theorem ft_not {t : Env → Res Bool} (ha : PT X a (tFT g t)) : PT X (.UnaryOp .Not a pos) (tFT g (notT t)) := by
  refine PT.imp (pt_not ha) fun σ H Q ⟨F, ρ, s, p⟩ => ?_
  unfold notT at p
  refine runT s (fun k F1 H1 e g1 => ?_) (fun c e => ?_) (fun e => ?_)
  · rw [e, Res.ok_bind] at p
    exact p F1 H1 g1
  · rw [e] at p
    exact p
  · rw [e] at p
    exact p
theorem ft_and {t u : Env → Res Bool} {rest : List Expr} (ha : PT X a (tFT g t)) (hb : PW X (.BoolOp .And (b :: rest) pos) (tFT g u)) : PW X (.BoolOp .And (a :: b :: rest) pos) (tFT g (andT t u)) := by
  have h := pw_and ha hb
  refine ⟨fun wh pins s σ H Q I hw => h.run wh pins s σ H Q I ?_⟩
  obtain ⟨F, ρ, st, p⟩ := hw
  unfold andT at p
  refine runT st (fun k F1 H1 e g1 => ?_) (fun c e => ?_) (fun e => ?_)
  · rw [e, Res.ok_bind] at p
    cases k with
    | true =>
      rw [if_pos rfl] at p ⊢
      exact ⟨F1, ρ, st.grow g1, p.later g1⟩
    | false =>
      rw [if_neg Bool.false_ne_true] at p ⊢
      exact p F1 H1 g1
  · rw [e] at p
    exact p
  · rw [e] at p
    exact p
theorem ft_or {t u : Env → Res Bool} {rest : List Expr} (ha : PT X a (tFT g t)) (hb : PW X (.BoolOp .Or (b :: rest) pos) (tFT g u)) : PW X (.BoolOp .Or (a :: b :: rest) pos) (tFT g (orT t u)) := by
  have h := pw_or ha hb
  refine ⟨fun wh pins s σ H Q I hw => h.run wh pins s σ H Q I ?_⟩
  obtain ⟨F, ρ, st, p⟩ := hw
  unfold orT at p
  refine runT st (fun k F1 H1 e g1 => ?_) (fun c e => ?_) (fun e => ?_)
  · rw [e, Res.ok_bind] at p
    cases k with
    | true =>
      rw [if_pos rfl] at p ⊢
      exact p F1 H1 g1
    | false =>
      rw [if_neg Bool.false_ne_true] at p ⊢
      exact ⟨F1, ρ, st.grow g1, p.later g1⟩
  · rw [e] at p
    exact p
  · rw [e] at p
    exact p
def iteV (t : Env → Res Bool) (fa fb : Env → Res B) : Env → Res B := fun ρ => (t ρ).bind fun k => if k = true then fa ρ else fb ρ
theorem fe_ite {t : Env → Res Bool} (hc : PT X c (tFT g t)) (ha : PE X a (tF g fa)) (hb : PE X b (tF g fb)) : PE X (.IfExp c a b pos) (tF g (iteV t fa fb)) := by
  refine PE.imp (pe_ifExp hc ha hb) fun σ H Q ⟨F, ρ, s, p⟩ => ?_
  unfold iteV at p
  refine runT s (fun k F1 H1 e g1 => ?_) (fun c e => ?_) (fun e => ?_)
  · rw [e, Res.ok_bind] at p
    cases k with
    | true =>
      rw [if_pos rfl] at p ⊢
      exact ⟨F1, ρ, s.grow g1, p.later g1⟩
    | false =>
      rw [if_neg Bool.false_ne_true] at p ⊢
      exact ⟨F1, ρ, s.grow g1, p.later g1⟩
  · rw [e] at p
    exact p
  · rw [e] at p
    exact p
/-! ### isinstance of a built-in class -/
inductive Ty where
  | int | bool | str | tuple | list | dict
  deriving DecidableEq
def Ty.nm : Ty → String
  | .int => "int"
  | .bool => "bool"
  | .str => "str"
  | .tuple => "tuple"
  | .list => "list"
  | .dict => "dict"
def tyD : D → Option Ty
  | .non => none
  | .bl _ => some .bool
  | .int _ => some .int
  | .str _ => some .str
  | .tup _ => some .tuple
  | .ctup _ => some .tuple
  | .lst _ => some .list
  | .dk _ => some .dict
  | .dt _ => some .dict
  | .fn _ => none
def isTy (t : Ty) (d : D) : Bool := match tyD d with
  | some u => decide (u = t) || (decide (u = .bool) && decide (t = .int))
  | none => false
def isFn : D → Bool
  | .fn _ => true
  | _ => false
def isiB (t : Ty) (b : B) : Res B := if isFn (datOf b) = true then .bad else .ok (.dat (.bl (isTy t (datOf b))))
def tyN (o : Option Ty) : String := match o with
  | none => "NoneType"
  | some t => t.nm
theorem kit_all : ∀ (u : Option Ty) (t : Ty), kitB (tyN u) t.nm = some (match u with | some u => decide (u = t) || (decide (u = .bool) && decide (t = .int)) | none => false) := by
  intro u t
  cases u with
  | none => cases t <;> decide +kernel
  | some u => cases u <;> cases t <;> decide +kernel
theorem m_ty {K : PySem.W.Frag} {fa : Nat → Option Addr} {F H : Hp} {p : Addr} {o : HO} {m : M} (h : H p = some o) (r : RpM K fa F o m) : TyX K H (.ref p) (.type (tyN (tyD (frzM m)))) := by
  cases r with
  | l r => exact .base (.lst h)
  | k _ _ => exact .base (.dK h)
  | t _ _ => exact .base (.dT h)
theorem sqL_ty {K : PySem.W.Frag} {H : Hp} {p : Addr} {xs : List V} (h : SqL K H p xs) : TyX K H (.ref p) (.type "list") := by
  rcases h with (h | ⟨o, h⟩) | ⟨o, its, n, hk, hc, _⟩
  · exact .base (.lst h)
  · exact .base (.frz h)
  · exact .kList hk hc
theorem rr_ty {F H : Hp} {v : V} {b : B} (s : Sm g F H) (r : RR g F H v b) (hf : isFn (datOf b) = false) : TyX g.K H v (.type (tyN (tyD (datOf b)))) := by
  cases b with
  | dat d =>
    cases r with
    | non => exact .base .non
    | bl b => exact .base (.bl b)
    | int i => exact .base (.int i)
    | str x => exact .base (.str x)
    | tup h _ => exact .base (.tup (s.fh _ _ h))
    | ctup h _ =>
      rcases h with (h | ⟨o, h⟩) | ⟨o, its, n, hk, hc, _⟩
      · cases h
      · cases h
      · exact .kTuple hk hc
    | lst h _ => exact .base (.lst (s.fh _ _ h))
    | dk h _ _ => exact .base (.dK (s.fh _ _ h))
    | dt h _ _ => exact .base (.dT (s.fh _ _ h))
    | fn _ => cases hf
  | own m => exact r.elim
  | vw m =>
    obtain ⟨p, o, rfl, h, q⟩ := r
    exact m_ty h q
  | bor m =>
    obtain ⟨p, o, rfl, h, q⟩ := r
    exact m_ty (s.gh _ _ h) q
  | scr ns =>
    obtain ⟨p, rfl, h⟩ := r
    exact sqL_ty (s.gh.seq h)
theorem fe_isi {t : Ty} {x : Str} {p p2 : Pos} (hK : g.K = X.K) (hg : Gl X "isinstance") (hm : X.mg "isinstance" = none) (hx : x = Str.ofString t.nm) (hg2 : Gl X x) (hm2 : X.mg x = none) (hb : bootBuiltins x = some (.type t.nm)) (hn : nst a = true) (ha : PE X a (tF g fa)) :
    PE X (.Call (.Name "isinstance" p) [a, .Name x p2] [] pos) (tF g (one1 (isiB t) fa)) := by
  have h2 : PA X [a, .Name x p2] (tCons (tF g fa) (tCons (tC (.ty t.nm)) tNil)) := pa_cons ha (pa_cons (pe_bltn (v := .ty t.nm) hg2 hm2 hb rfl (by rw [hx]; cases t <;> decide) (by rw [hx]; cases t <;> decide)) pa_nil) (star_cons hn)
  refine PE.imp (pe_callB call_isi hg hm PyProof.Rows.boot_isinstance h2 (by decide) (by decide) (star_cons hn) (by rfl)) fun σ H Q ⟨F, ρ, s, q⟩ => ?_
  unfold one1 at q
  show tF g fa σ H _
  refine run1 s (fun bx v F1 H1 e1 g1 r1 => ?_) (fun c e => ?_) (fun e => ?_)
  · rw [e1, Res.ok_bind] at q
    unfold isiB at q
    by_cases hf : isFn (datOf (rd bx)) = true
    · rw [if_pos hf] at q
      exact q.elim
    · rw [if_neg hf] at q
      have s1 := (s.grow g1).sm
      refine ⟨v, _, _, _, _, rfl, ClsV.ty _, ?_, kit_ty (kit_all (tyD (datOf (rd bx))) t), ?_⟩
      · rw [← hK]
        exact rr_ty s1 r1 (by simpa using hf)
      · exact (q.later g1).bl s1
  · rw [e] at q
    exact q
  · rw [e] at q
    exact q
/-! ### slices -/
def PostO (g : G) (F H : Hp) (r : Res (Option Int)) (Q : Option Int → Hp → Prop) : Prop := match r with
  | .ok b => ∀ F' H', Grow F H F' H' → Q b H'
  | .exc c => ∀ F' H', Grow F H F' H' → g.E c H'
  | .bad => False
def tFO (g : G) (f : Env → Res (Option Int)) : TO := fun σ H Q => ∃ F ρ, St g F H σ ρ ∧ PostO g F H (f ρ) Q
theorem PO.imp {e : Option Expr} {t t' : TO} (h : PO X e t) (i : ∀ σ H Q, t' σ H Q → t σ H Q) : PO X e t' := ⟨fun pins s σ H Q I w => h.run pins s σ H Q I (i σ H Q w)⟩
def partB (b : B) : Res (Option Int) := match b with
  | .dat (.int i) => .ok (some i)
  | _ => .bad
theorem fo_none : PO X none (tFO g fun _ => .ok none) := PO.imp po_none fun _ _ _ ⟨F, _, s, p⟩ => p F _ (Grow.refl s.sub)
theorem fo_some (ha : PE X a (tF g fa)) : PO X (some a) (tFO g fun ρ => (fa ρ).bind fun x => partB x) := by
  refine PO.imp (po_some ha) fun σ H Q ⟨F, ρ, s, p⟩ => ?_
  refine ⟨F, ρ, s, ?_⟩
  dsimp only at p
  cases e : fa ρ with
  | ok b =>
    rw [e, Res.ok_bind] at p
    intro v F' H' g1 r1
    unfold partB at p
    split at p
    · cases r1
      exact ⟨_, rfl, p F' H' g1⟩
    · exact p.elim
  | exc c =>
    rw [e] at p
    exact p
  | bad =>
    rw [e] at p
    exact p
def cutL {α : Type} (xs : List α) (lo hi : Option Int) : List α := (xs.drop (HT.sIx xs.length 0 lo)).take (HT.sIx xs.length xs.length hi - HT.sIx xs.length 0 lo)
def isTup? : B → Option (Bool × List D)
  | .dat (.tup xs) => some (false, xs)
  | .dat (.ctup xs) => some (true, xs)
  | _ => none
def sliceB (b : B) (lo hi : Option Int) : Res B := match b with
  | .dat (.str x) => if x.length ≤ sizeLine then .ok (.dat (.str (cutS x lo hi))) else .bad
  | .dat (.tup xs) => .ok (.dat (.tup (cutL xs lo hi)))
  | .dat (.ctup xs) => if HT.sIx xs.length 0 lo = 0 ∧ HT.sIx xs.length xs.length hi = xs.length then .ok (.dat (.ctup xs)) else .ok (.dat (.tup (cutL xs lo hi)))
  | b => match seqI b with
    | some ds => .ok (.own (.l (cutL ds lo hi)))
    | none => .bad
theorem cut_rp {K : PySem.W.Frag} {fa : Nat → Option Addr} {F : Hp} {xs : List V} {ds : List D} (r : RpAll K fa F xs ds) (lo hi : Option Int) : RpAll K fa F (cutV xs lo hi) (cutL ds lo hi) := by
  unfold cutV cutL
  rw [r.len]
  exact (r.drop _).take _
def rSlF (K : PySem.W.Frag) : V → Option Int → Option Int → Hp → VK → Prop := fun x lo hi H Q => rSlS x lo hi H Q ∨ rSlA K x lo hi H Q ∨ rSlL K x lo hi H Q
theorem sl_F : SlR X (rSlF X.K) := SlR.or sl_str (SlR.or sl_tupA sl_list)
theorem cut_whole {α : Type} {xs : List α} {lo hi : Option Int} (h : HT.sIx xs.length 0 lo = 0 ∧ HT.sIx xs.length xs.length hi = xs.length) : cutL xs lo hi = xs := by
  unfold cutL
  rw [h.1, h.2, List.drop_zero, Nat.sub_zero, List.take_length]
theorem g_slice {F H : Hp} {v : V} {b : B} {lo hi : Option Int} {Q : VK} (s : Sm g F H) (r : RR g F H v b) (p : Post g F H (sliceB b lo hi) Q) : rSlF g.K v lo hi H Q := by
  unfold sliceB at p
  split at p
  · split at p
    · cases r
      exact .inl ⟨_, rfl, by assumption, p.str s⟩
    · exact p.elim
  · cases r with
    | tup h1 h2 =>
      refine .inr (.inl ⟨_, _, rfl, SqT.of (s.fh _ _ h1), fun hw => ?_, fun _ => p.newT s (cut_rp h2 lo hi)⟩)
      rw [h2.len] at hw
      rw [cut_whole hw] at p
      exact p.dat s (.tup h1 h2)
  · cases r with
    | ctup h1 h2 =>
      refine .inr (.inl ⟨_, _, rfl, sqT_none h1, fun hw => ?_, fun hw => ?_⟩)
      · rw [h2.len] at hw
        rw [if_pos hw] at p
        exact p.dat s (.ctup h1 h2)
      · rw [h2.len] at hw
        rw [if_neg hw] at p
        exact p.newT s (cut_rp h2 lo hi)
  · rename_i n1 n2 n3
    split at p
    · rename_i ds hs
      obtain ⟨a, xs, rfl, h1, h2⟩ := seqI_list s r hs n2 n3
      exact .inr (.inr ⟨a, xs, rfl, h1, p.newL s (cut_rp h2 lo hi)⟩)
    · exact p.elim
def slcV (fa : Env → Res B) (fl fh : Env → Res (Option Int)) : Env → Res B := fun ρ => (fa ρ).bind fun x => (fl ρ).bind fun l => (fh ρ).bind fun h => sliceB (rd x) l h
theorem fe_slice {lo hi : Option Expr} {fl fh : Env → Res (Option Int)} {p2 : Pos} (hK : g.K = X.K) (ha : PE X a (tF g fa)) (hl : PO X lo (tFO g fl)) (hh : PO X hi (tFO g fh)) : PE X (.Subscript a (.Slice lo hi none p2) pos) (tF g (slcV fa fl fh)) := by
  refine PE.imp (pe_slice sl_F ha hl hh) fun σ H Q ⟨F, ρ, s, p⟩ => ?_
  unfold slcV at p
  show tF g fa σ H _
  refine run1 s (fun bx v F1 H1 e1 g1 r1 => ?_) (fun c e => ?_) (fun e => ?_)
  · rw [e1, Res.ok_bind] at p
    have s1 := s.grow g1
    refine ⟨F1, ρ, s1, ?_⟩
    cases e2 : fl ρ with
    | ok l =>
      rw [e2, Res.ok_bind] at p
      intro F2 H2 g2
      refine ⟨F2, ρ, s1.grow g2, ?_⟩
      cases e3 : fh ρ with
      | ok h =>
        rw [e3, Res.ok_bind] at p
        intro F3 H3 g3
        rw [← hK]
        exact g_slice (((s1.grow g2).grow g3).sm) ((r1.mono g2).mono g3) (p.later ((g1.trans g2).trans g3))
      | exc c =>
        rw [e3, Res.exc_bind] at p
        exact fun F' H' gr => p F' H' ((g1.trans g2).trans gr)
      | bad =>
        rw [e3] at p
        exact p
    | exc c =>
      rw [e2, Res.exc_bind] at p
      exact fun F' H' gr => p F' H' (g1.trans gr)
    | bad =>
      rw [e2] at p
      exact p
  · rw [e] at p
    exact p
  · rw [e] at p
    exact p
/-! ### calls of the text's own defs -/
structure En where
  name : Str
  n : Nat
  F : List B → Res B
/-- what a def sees of an argument -/
def toArg : B → B
  | .vw m => .bor m
  | b => b
def gOf (K : PySem.W.Frag) (fa : Nat → Option Addr) (cls : Nat → Value) (F H : Hp) (E : XK) : G := ⟨K, fa, F, H, fun c H' => E (cls c) none H'⟩
def spF (K : PySem.W.Frag) (fa : Nat → Option Addr) (cls : Nat → Value) (n : Nat) (Fk : List B → Res B) : Sp := fun vs H Q E =>
  vs.length = n ∧ ∃ F bs, Same F H ∧ Paired (RR (gOf K fa cls F H E) F H) vs bs ∧ Post (gOf K fa cls F H E) F H (Fk bs) Q
structure TabOk (X : Cx) (fa : Nat → Option Addr) (cls : Nat → Value) (lv : Nat) (tab : List En) : Prop where
  at_ : ∀ (k : Nat) (en : En), tab[k]? = some en → ∃ f fd ps, X.mg en.name = some (.ref f) ∧ fa k = some f ∧ PySem.W.keepIn X.K (.ref f) = true ∧ Binds X.K fd ps [] ∧ FnOk X.prog X.w X.K X.mg X.base (L2.CX X.prog X.w) lv f fd ps (spF X.K fa cls en.n en.F)
/-- an error of a callee is let out as the wish says -/
def Pz (X : Cx) (g : G) (cls : Nat → Value) : Prop := ∃ E' : XK, Passes (L2.CX X.prog X.w) X E' ∧ ∀ c H', g.E c H' → E' (cls c) none H'
theorem arg_ok {cls : Nat → Value} {F H : Hp} {E : XK} (s : Sm g F H) : ∀ {vs : List V} {bs : List B}, Paired (RR g F H) vs bs → Paired (RR (gOf g.K g.fa cls F H E) F H) vs (bs.map toArg)
  | _, _, .nil => .nil
  | v :: vs, b :: bs, .cons r rs => by
    refine .cons ?_ (arg_ok s rs)
    cases b with
    | dat d => exact r
    | own m => exact r.elim
    | vw m => exact r
    | bor m =>
      obtain ⟨p, o, e, h, q⟩ := r
      exact ⟨p, o, e, s.gh _ _ h, q⟩
    | scr ns =>
      obtain ⟨p, e, h⟩ := r
      exact ⟨p, e, s.gh.seq h⟩
/-- what comes back from a def, for its caller -/
theorem back_post {cls : Nat → Value} {F H : Hp} {E : XK} {r : Res B} {Q : VK} (hE : ∀ c H', g.E c H' → E (cls c) none H') (hb : ∀ b, r = .ok b → (∀ m, b ≠ .bor m) ∧ ∀ ns, b ≠ .scr ns) (h : Post g F H r Q) : Post (gOf g.K g.fa cls F H E) F H r Q := by
  cases r with
  | ok b =>
    intro v F' H' g1 r1
    refine h v F' H' g1 ?_
    cases b with
    | dat d => exact r1
    | own m => exact r1
    | vw m => exact r1
    | bor m => exact absurd rfl ((hb _ rfl).1 m)
    | scr ns => exact absurd rfl ((hb _ rfl).2 ns)
  | exc c => exact fun F' H' g1 => hE c H' (h F' H' g1)
  | bad => exact h
/-- what a def hands back must not be borrowed -/
def retB (b : B) : Res B := match b with
  | .bor _ => .bad
  | .scr _ => .bad
  | .vw _ => .bad
  | b => .ok b
def callV (en : En) (bs : List B) : Res B := (en.F (bs.map toArg)).bind retB
theorem call_run {X : Cx} {cls : Nat → Value} {en : En} {E : XK} (hK : g.K = X.K) (hE : ∀ c H', g.E c H' → E (cls c) none H') (F H : Hp) (vs : List V) (bs : List B) (Q : VK) (hn : bs.length = en.n) (s : Sm g F H) (r : Paired (RR g F H) vs bs) (p : Post g F H (callV en bs) Q) : spF X.K g.fa cls en.n en.F vs H Q E := by
  refine ⟨by rw [Paired.length r]; exact hn, F, bs.map toArg, s.fh, by rw [← hK]; exact arg_ok s r, ?_⟩
  rw [← hK]
  unfold callV at p
  cases e : en.F (bs.map toArg) with
  | ok b =>
    rw [e, Res.ok_bind] at p
    refine back_post hE (fun b' e' => ?_) ?_
    · cases e'
      constructor
      · rintro m rfl
        exact p.elim
      · rintro ns rfl
        exact p.elim
    · cases b with
      | dat d => exact p
      | own m => exact p
      | vw m => exact p.elim
      | bor m => exact p.elim
      | scr ns => exact p.elim
  | exc c =>
    rw [e, Res.exc_bind] at p
    exact fun F' H' g1 => hE c H' (p F' H' g1)
  | bad =>
    rw [e] at p
    exact p
/-- the number of arguments -/
def lenA (n : Nat) (bs : List B) : Res (List B) := if bs.length = n then .ok bs else .bad
theorem fe_call {lv : Nat} {tab : List En} {cls : Nat → Value} {k : Nat} {en : En} {x : Str} {p : Pos} {e : Expr} {es : List Expr} {fs : Env → Res (List B)} (T : TabOk X g.fa cls lv tab) (hr : Room lv X.A) (hp : Pz X g cls) (hk : tab[k]? = some en) (hx : x = en.name) (hK : g.K = X.K) (hg : Gl X x)
    (ha : PA X (e :: es) (tFA g fs)) (hdb : (x == ("__debug__" : Str)) = false) (hst : (e :: es).all nst = true) : PE X (.Call (.Name x p) (e :: es) [] pos) (tF g fun ρ => (fs ρ).bind fun bs => (lenA en.n bs).bind (callV en)) := by
  obtain ⟨f, fd, ps, hm, _, hkp, hb, F⟩ := T.at_ k en hk
  obtain ⟨E', hpass, hE⟩ := hp
  rw [List.all_cons, Bool.and_eq_true] at hst
  subst hx
  refine PE.imp (pe_call F hr hg hm hkp hb .nil hpass ha hdb (star_cons hst.1) (star_none hst.2)) fun σ H Q h => ?_
  refine runA (r := fun vs H1 Q => spF X.K g.fa cls en.n en.F (vs ++ []) H1 Q E') (fun F H vs bs Q s r p => ?_) h
  rw [List.append_nil]
  unfold lenA at p
  split at p
  · rename_i hn
    exact call_run hK hE F H vs bs Q hn s r p
  · exact p.elim
end
end Fn
namespace Fn
open PySem PySem.Spec PyProof.Rows L2
/-! ### what is walked -/
structure ItOk (g : G) (P : Hp → Hp → Prop) (J : It) (ds : List D) : Prop where
  go : ∀ i F H, P F H → i < ds.length → J.go i H
  stop : ∀ i F H, P F H → ds.length ≤ i → J.stop i H
  yld : ∀ i F H x H' d, P F H → ds[i]? = some d → J.yld i H x H' → ∃ F', Grow F H F' H' ∧ Rp g.K g.fa F' x d
/-- what is sure of the heaps behind the turns: within a comprehension (lk) all stands; else what is locked, and what stood at the def's entry -/
def PP (g : G) (lk : Bool) (F1 H1 F H : Hp) : Prop := Same F1 F ∧ Same F H ∧ Same g.G0 H ∧ (lk = true → Same H1 H)
def PostI (g : G) (lk : Bool) (F H : Hp) (r : Res (List D)) (R : It → Hp → Prop) : Prop := match r with
  | .ok ds => ∀ F1 H1 J, Grow F H F1 H1 → ItOk g (PP g lk F1 H1) J ds → R J H1
  | .exc c => ∀ F' H', Grow F H F' H' → g.E c H'
  | .bad => False
def tFI (g : G) (lk : Bool) (f : Env → Res (List D)) : TI := fun σ H R => ∃ F ρ, St g F H σ ρ ∧ PostI g lk F H (f ρ) R
theorem PI.imp {X : Cx} {tg e : Expr} {t t' : TI} (h : PI X tg e t) (i : ∀ σ H R, t' σ H R → t σ H R) : PI X tg e t' := ⟨fun pins s σ H R I w => h.run pins s σ H R I (i σ H R w)⟩
theorem PI.or {X : Cx} {tg e : Expr} {t u : TI} (h : PI X tg e t) (h' : PI X tg e u) : PI X tg e (fun σ H R => t σ H R ∨ u σ H R) :=
  ⟨fun pins s σ H R I w => w.elim (h.run pins s σ H R I) (h'.run pins s σ H R I)⟩
theorem PG.or {X : Cx} {tg : Expr} {t u : TG} (h : PG X tg t) (h' : PG X tg u) : PG X tg (fun v σ H Q => t v σ H Q ∨ u v σ H Q) :=
  ⟨fun pins s σ H v w Q I r q => q.elim (h.run pins s σ H v w Q I r) (h'.run pins s σ H v w Q I r)⟩
def itemsB (lk : Bool) (b : B) : Res (List D) := match b with
  | .dat (.str x) => .ok (x.cps.toList.map fun c => .str ⟨#[c]⟩)
  | .vw (.l ds) => if lk = true then .ok ds else .bad
  | b => match seqI b with
    | some ds => .ok ds
    | none => .bad
section
variable {X : Cx} {g : G} {a b : Expr} {pos : Pos} {fa fb : Env → Res B} {lk : Bool}
theorem list_it {F1 H1 : Hp} {p : Addr} {xs : List V} {ds : List D} (h : ∀ F H, PP g lk F1 H1 F H → SqL g.K H p xs) (r : RpAll g.K g.fa F1 xs ds) : ItOk g (PP g lk F1 H1) (Itl g.K p) ds where
  go := fun i F H q hi => ⟨xs, xs[i]'(by rw [r.len]; exact hi), h F H q, by simp⟩
  stop := fun i F H q hi => ⟨xs, h F H q, by rw [r.len]; exact hi⟩
  yld := fun i F H x H' d q hd hy => by
    obtain ⟨e, hy⟩ := hy
    subst e
    obtain ⟨v, h1, h2⟩ := r.get hd
    have e2 := hy xs (h F H' q)
    rw [h1] at e2
    cases e2
    exact ⟨F, Grow.refl q.2.1, h2.mono q.1⟩
theorem tup_it {F1 H1 : Hp} {p : Addr} {xs : List V} {ds : List D} (h : ∀ F H, PP g lk F1 H1 F H → SqT g.K H p xs) (r : RpAll g.K g.fa F1 xs ds) : ItOk g (PP g lk F1 H1) (Itt g.K p) ds where
  go := fun i F H q hi => ⟨xs, xs[i]'(by rw [r.len]; exact hi), h F H q, by simp⟩
  stop := fun i F H q hi => ⟨xs, h F H q, by rw [r.len]; exact hi⟩
  yld := fun i F H x H' d q hd hy => by
    obtain ⟨e, hy⟩ := hy
    subst e
    obtain ⟨v, h1, h2⟩ := r.get hd
    have e2 := hy xs (h F H' q)
    rw [h1] at e2
    cases e2
    exact ⟨F, Grow.refl q.2.1, h2.mono q.1⟩
theorem str_it {F1 H1 : Hp} {z : Str} : ItOk g (PP g lk F1 H1) (Its z) (z.cps.toList.map fun c => .str ⟨#[c]⟩) where
  go := fun i F H q hi => by
    rw [List.length_map, Array.length_toList] at hi
    exact hi
  stop := fun i F H q hi => by
    rw [List.length_map, Array.length_toList] at hi
    exact hi
  yld := fun i F H x H' d q hd hy => by
    obtain ⟨e, c, hc, hx⟩ := hy
    subst e hx
    rw [List.getElem?_map, Array.getElem?_toList, hc] at hd
    cases hd
    exact ⟨F, Grow.refl q.2.1, .str _⟩
theorem range_it {F1 H1 : Hp} {lo : Int} {n : Nat} : ItOk g (PP g lk F1 H1) (Itr lo n) ((List.range n).map fun (i : Nat) => D.int (lo + (i : Int))) where
  go := fun i F H q hi => by
    rw [List.length_map, List.length_range] at hi
    exact hi
  stop := fun i F H q hi => by
    rw [List.length_map, List.length_range] at hi
    exact hi
  yld := fun i F H x H' d q hd hy => by
    obtain ⟨e, hx⟩ := hy
    subst e hx
    rw [List.getElem?_map] at hd
    by_cases hi : i < n
    · rw [List.getElem?_range hi] at hd
      cases hd
      exact ⟨F, Grow.refl q.2.1, .int _⟩
    · rw [List.getElem?_eq_none (by simpa using hi)] at hd
      cases hd
theorem items_ok {F H F1 H1 : Hp} {v : V} {b : B} {ds : List D} {R : It → Hp → Prop} (s : Sm g F1 H1) (g1 : Grow F H F1 H1) (r : RR g F1 H1 v b) (h : itemsB lk b = .ok ds) (k : ∀ J, ItOk g (PP g lk F1 H1) J ds → R J H1) :
    (∃ a, v = .ref a ∧ (∃ xs, SqL g.K H1 a xs) ∧ R (Itl g.K a) H1) ∨ (∃ a, v = .ref a ∧ (∃ xs, SqT g.K H1 a xs) ∧ R (Itt g.K a) H1) ∨ ∃ z, v = .str z ∧ R (Its z) H1 := by
  have L : ∀ {p : Addr} {xs : List V}, (∀ F H, PP g lk F1 H1 F H → SqL g.K H p xs) → SqL g.K H1 p xs → RpAll g.K g.fa F1 xs ds → v = .ref p → (∃ a, v = .ref a ∧ (∃ xs, SqL g.K H1 a xs) ∧ R (Itl g.K a) H1) ∨ (∃ a, v = .ref a ∧ (∃ xs, SqT g.K H1 a xs) ∧ R (Itt g.K a) H1) ∨ ∃ z, v = .str z ∧ R (Its z) H1 :=
    fun {p xs} h1 h2 h3 e => .inl ⟨p, e, ⟨xs, h2⟩, k _ (list_it h1 h3)⟩
  have T : ∀ {p : Addr} {xs : List V}, (∀ F H, PP g lk F1 H1 F H → SqT g.K H p xs) → SqT g.K H1 p xs → RpAll g.K g.fa F1 xs ds → v = .ref p → (∃ a, v = .ref a ∧ (∃ xs, SqL g.K H1 a xs) ∧ R (Itl g.K a) H1) ∨ (∃ a, v = .ref a ∧ (∃ xs, SqT g.K H1 a xs) ∧ R (Itt g.K a) H1) ∨ ∃ z, v = .str z ∧ R (Its z) H1 :=
    fun {p xs} h1 h2 h3 e => .inr (.inl ⟨p, e, ⟨xs, h2⟩, k _ (tup_it h1 h3)⟩)
  unfold itemsB at h
  split at h
  · cases h
    cases r
    exact .inr (.inr ⟨_, rfl, k _ str_it⟩)
  · split at h
    · rename_i hl
      cases h
      obtain ⟨p, o, rfl, h1, h2⟩ := r
      cases h2 with
      | l h2 => exact L (fun F H q => SqL.of (q.2.2.2 hl _ _ h1)) (SqL.of h1) h2 rfl
    · cases h
  · rename_i n1 n2
    split at h
    · rename_i ds' hs
      cases h
      unfold seqI at hs
      split at hs
      · cases hs
        cases r with
        | tup h1 h2 => exact T (fun F H q => SqT.of (q.2.1 _ _ (q.1 _ _ h1))) (SqT.of (s.fh _ _ h1)) h2 rfl
      · cases hs
        cases r with
        | ctup h1 h2 => exact T (fun F H q => sqT_none h1) (sqT_none h1) h2 rfl
      · cases hs
        cases r with
        | lst h1 h2 => exact L (fun F H q => SqL.of (q.2.1 _ _ (q.1 _ _ h1))) (SqL.of (s.fh _ _ h1)) h2 rfl
      · rename_i xs
        exact absurd rfl (n2 xs)
      · cases hs
        obtain ⟨p, o, rfl, h1, h2⟩ := r
        cases h2 with
        | l h2 => exact L (fun F H q => SqL.of (q.2.2.1 _ _ h1)) (SqL.of (s.gh _ _ h1)) h2 rfl
      · cases hs
        obtain ⟨p, rfl, h1⟩ := r
        exact L (fun F H q => q.2.2.1.seq h1) (s.gh.seq h1) (RpAll.of_ints _) rfl
      · cases hs
    · cases h
theorem pi_any {tg : Expr} {tl : TE} (hl : PE X a tl) : PI X tg a fun σ H R => tl σ H fun x H1 => (∃ a, x = .ref a ∧ (∃ xs, SqL X.K H1 a xs) ∧ R (Itl X.K a) H1) ∨ (∃ a, x = .ref a ∧ (∃ xs, SqT X.K H1 a xs) ∧ R (Itt X.K a) H1) ∨ ∃ z, x = .str z ∧ R (Its z) H1 := by
  refine ⟨fun pins s σ H R I h => ?_⟩
  refine thn (hl.run pins s σ H _ I h) fun v s1 ⟨x, H1, I1, r1, q1⟩ => ?_
  rcases q1 with ⟨a, e, ⟨xs, hq⟩, q⟩ | ⟨a, e, ⟨xs, hq⟩, q⟩ | ⟨z, e, q⟩
  · subst e
    cases r1
    obtain ⟨its, rv, p, hz⟩ := I1.list hq
    refine wpAny_pyIter_list p.isList ?_
    refine ⟨s1.heap.objs.size, [s1.heap.objs.size], _, _, H1, rfl, I1.kept (t' := s1.toks) fun b o e => Heap.get?_push_of_some _ e, turn_list a _, ⟨_, Heap.get?_push_size _ rfl, rfl, rfl⟩, fun b hb => ?_, q⟩
    have e : b = s1.heap.objs.size := by simpa using hb
    subst e
    exact I1.fpOk (Nat.le_refl _) (I1.hok.fresh (Nat.le_refl _))
  · subst e
    cases r1
    obtain ⟨its, rv, p, hz⟩ := I1.tuple hq
    refine wpAny_pyIter_tuple (show s1.heap.IsTuple a its.toArray from p) ?_
    refine ⟨s1.heap.objs.size, [s1.heap.objs.size], _, _, H1, rfl, I1.kept (t' := s1.toks) fun b o e => Heap.get?_push_of_some _ e, turn_tuple a _, ⟨_, Heap.get?_push_size _ rfl, rfl, rfl⟩, fun b hb => ?_, q⟩
    have e : b = s1.heap.objs.size := by simpa using hb
    subst e
    exact I1.fpOk (Nat.le_refl _) (I1.hok.fresh (Nat.le_refl _))
  · subst e
    obtain ⟨t, rfl⟩ := r1
    cases ha : z.cps.all (· < 128)
    · exact wpAny_pyIter_wide ha (pi_one (tk := s1.toks) I1 _ (turn_str _ z t "str_iterator" (.inr rfl)) ⟨_, Heap.get?_push_size _ rfl, rfl, rfl⟩ q)
    · exact wpAny_pyIter_ascii ha (pi_one (tk := s1.toks) I1 _ (turn_str _ z t "str_ascii_iterator" (.inl rfl)) ⟨_, Heap.get?_push_size _ rfl, rfl, rfl⟩ q)
theorem fi_seq {tg : Expr} (hK : g.K = X.K) (ha : PE X a (tF g fa)) : PI X tg a (tFI g lk fun ρ => (fa ρ).bind fun x => itemsB lk (rd x)) := by
  refine PI.imp (pi_any ha) fun σ H R ⟨F, ρ, s, p⟩ => ?_
  dsimp only at p
  rw [← hK]
  refine run1 s (fun bx v F1 H1 e1 g1 r1 => ?_) (fun c e => ?_) (fun e => ?_)
  · rw [e1, Res.ok_bind] at p
    have s1 := s.grow g1
    cases e2 : itemsB lk (rd bx) with
    | ok ds =>
      rw [e2] at p
      exact items_ok s1.sm g1 r1 e2 fun J hJ => p F1 H1 J g1 hJ
    | exc c =>
      exfalso
      unfold itemsB at e2
      repeat (split at e2 <;> try cases e2)
    | bad =>
      rw [e2] at p
      exact p.elim
  · rw [e] at p
    exact p
  · rw [e] at p
    exact p
def rng (lo hi : Int) : List D := (List.range (hi - lo).toNat).map fun (i : Nat) => D.int (lo + (i : Int))
def rngA (bs : List B) : Res (List D) := match bs with
  | [.dat (.int j)] => if -(2 ^ 62) ≤ j ∧ j < 2 ^ 62 then .ok (rng 0 j) else .bad
  | [.dat (.int i), .dat (.int j)] => if -(2 ^ 62) ≤ i ∧ i < 2 ^ 62 ∧ -(2 ^ 62) ≤ j ∧ j < 2 ^ 62 then .ok (rng i j) else .bad
  | _ => .bad
theorem fi_range1 {tg : Expr} {p pos : Pos} {fs : Env → Res (List B)} (hg : Gl X "range") (hm : X.mg "range" = none) (hn : nst a = true) (ha : PA X [a] (tFA g fs)) (h1 : ∀ ρ bs, fs ρ = .ok bs → bs.length = 1) : PI X tg (.Call (.Name "range" p) [a] [] pos) (tFI g lk fun ρ => (fs ρ).bind rngA) := by
  refine PI.imp (pi_range1 hg hm ha (star_cons hn)) fun σ H R ⟨F, ρ, s, q⟩ => ?_
  refine ⟨F, ρ, s, ?_⟩
  dsimp only at q
  cases e : fs ρ with
  | ok bs =>
    rw [e, Res.ok_bind] at q
    intro vs F1 H1 g1 r1
    have hl := h1 ρ bs e
    match bs, hl, r1, q with
    | [b], _, r1, q =>
      obtain ⟨v, rfl, rv⟩ := paired1 r1
      unfold rngA at q
      split at q
      · rename_i j eb
        cases eb
        split at q
        · rename_i hj
          cases rv
          refine ⟨j, rfl, hj.1, hj.2, q F1 H1 _ g1 ?_⟩
          have z := range_it (g := g) (lk := lk) (F1 := F1) (H1 := H1) (lo := 0) (n := j.toNat)
          unfold rng
          rw [Int.sub_zero]
          exact z
        · exact q.elim
      · rename_i eb
        cases eb
      · exact q.elim
  | exc c =>
    rw [e, Res.exc_bind] at q
    exact q
  | bad =>
    rw [e] at q
    exact q
theorem fi_range2 {tg : Expr} {p pos : Pos} {fs : Env → Res (List B)} (hg : Gl X "range") (hm : X.mg "range" = none) (hn : nst a = true) (hn2 : nst b = true) (ha : PA X [a, b] (tFA g fs)) (h1 : ∀ ρ bs, fs ρ = .ok bs → bs.length = 2) : PI X tg (.Call (.Name "range" p) [a, b] [] pos) (tFI g lk fun ρ => (fs ρ).bind rngA) := by
  refine PI.imp (pi_range2 hg hm ha (by rw [star_cons hn, star_cons hn2]; rfl) (star_cons hn2)) fun σ H R ⟨F, ρ, s, q⟩ => ?_
  refine ⟨F, ρ, s, ?_⟩
  dsimp only at q
  cases e : fs ρ with
  | ok bs =>
    rw [e, Res.ok_bind] at q
    intro vs F1 H1 g1 r1
    have hl := h1 ρ bs e
    match bs, hl, r1, q with
    | [b, b'], _, r1, q =>
      obtain ⟨v, w, rfl, rv, rw'⟩ := paired2 r1
      unfold rngA at q
      split at q
      · rename_i eb
        cases eb
      · rename_i i j eb
        cases eb
        split at q
        · rename_i hj
          cases rv
          cases rw'
          exact ⟨i, j, rfl, hj, q F1 H1 _ g1 range_it⟩
        · exact q.elim
      · exact q.elim
  | exc c =>
    rw [e, Res.exc_bind] at q
    exact q
  | bad =>
    rw [e] at q
    exact q
/-! ### targets -/
inductive Tg where
  | one (i : Nat)
  | many (is : List Nat)
def putMany : List Nat → List D → Env → Env
  | i :: is, d :: ds, ρ => putMany is ds (ρ.set i (some (.dat d)))
  | _, _, ρ => ρ
def bindT (t : Tg) (d : D) (ρ : Env) : Option Env := match t with
  | .one i => some (ρ.set i (some (.dat d)))
  | .many is => match d with
    | .tup ds => if ds.length = is.length then some (putMany is ds ρ) else none
    | .ctup ds => if ds.length = is.length then some (putMany is ds ρ) else none
    | .lst ds => if ds.length = is.length then some (putMany is ds ρ) else none
    | _ => none
/-- a target: what it does with data in hand -/
def tFG (g : G) (t : Tg) : TG := fun v σ H Q => ∃ F ρ d ρ', St g F H σ ρ ∧ Rp g.K g.fa F v d ∧ bindT t d ρ = some ρ' ∧ ∀ σ', St g F H σ' ρ' → (∀ i, (∀ j, t = .one j → i ≠ j) → (∀ is, t = .many is → i ∉ is) → σ'[i]? = σ[i]?) → Q σ' H
theorem PG.imp {tg : Expr} {t t' : TG} (h : PG X tg t) (i : ∀ v σ H Q, t' v σ H Q → t v σ H Q) : PG X tg t' := ⟨fun pins s σ H v u Q I r w => h.run pins s σ H v u Q I r (i v σ H Q w)⟩
theorem fg_one {i : Nat} {x : Str} (hN : X.N.Nodup) (hi : X.N[i]? = some x) (hx : Loc X.env.scope x) (hf : X.fn x = true ∨ X.env.scope.names.lookup x = some .local) : PG X (.Name x pos) (tFG g (.one i)) :=
  PG.imp (pg_name hN hi hx hf) fun v σ H Q ⟨F, ρ, d, ρ', s, r, hb, q⟩ => by
    unfold bindT at hb
    cases hb
    exact q _ (s.put (b := .dat d) (Grow.refl s.sub) r i (by intro m z; cases z)) fun j hj _ => List.getElem?_set_ne (fun z => hj i rfl z.symm)
def gPut : List Nat → TGs
  | [] => gNil
  | i :: is => gCons (gName i) (gPut is)
theorem put_run {F H : Hp} {Q : L2.St → Hp → Prop} : ∀ {is : List Nat} {ds : List D} {vs : List V} {σ : L2.St} {ρ : Env}, ds.length = is.length → RpAll g.K g.fa F vs ds → St g F H σ ρ → (∀ σ', St g F H σ' (putMany is ds ρ) → (∀ i, i ∉ is → σ'[i]? = σ[i]?) → Q σ' H) → gPut is vs σ H Q
  | [], [], _, σ, ρ, _, .nil, s, q => ⟨rfl, q σ s fun _ _ => rfl⟩
  | i :: is, d :: ds, _, σ, ρ, h, .cons r rs, s, q => by
    refine ⟨_, _, rfl, put_run (by simpa using h) rs (s.put (b := .dat d) (Grow.refl s.sub) r i (by intro m z; cases z)) fun σ' s' k => q σ' s' fun j hj => ?_⟩
    rw [List.mem_cons, not_or] at hj
    rw [k j hj.2, List.getElem?_set_ne (fun z => hj.1 z.symm)]
  | [], _ :: _, _, _, _, h, _, _, _ => by simp at h
  | _ :: _, [], _, _, _, h, _, _, _ => by simp at h
theorem fg_many {is : List Nat} {es : List Expr} {k : Nat} (hc : X.calm = true) (hK : g.K = X.K) (h : PGs X es (gPut is)) (hn : (assignEach es X.env).length = is.length) (hst : (assignEach es X.env).findIdx? (·.1) = none) : PG X (.Tuple es k pos) (tFG g (.many is)) := by
  refine PG.imp (PG.or (pg_tup hc h hn hst) (pg_lst hc h hn hst)) fun v σ H Q ⟨F, ρ, d, ρ', s, r, hb, q⟩ => ?_
  rw [← hK]
  unfold bindT at hb
  dsimp only at hb
  split at hb
  · split at hb
    · rename_i hl
      cases hb
      cases r with
      | tup h1 h2 => exact .inl ⟨_, _, rfl, SqT.of (s.sub _ _ h1), by rw [h2.len]; exact hl, put_run hl h2 s fun σ' s' k => q σ' s' fun i _ hi => k i (hi is rfl)⟩
    · cases hb
  · split at hb
    · rename_i hl
      cases hb
      cases r with
      | ctup h1 h2 => exact .inl ⟨_, _, rfl, sqT_none h1, by rw [h2.len]; exact hl, put_run hl h2 s fun σ' s' k => q σ' s' fun i _ hi => k i (hi is rfl)⟩
    · cases hb
  · split at hb
    · rename_i hl
      cases hb
      cases r with
      | lst h1 h2 => exact .inr ⟨_, _, rfl, SqL.of (s.sub _ _ h1), by rw [h2.len]; exact hl, put_run hl h2 s fun σ' s' k => q σ' s' fun i _ hi => k i (hi is rfl)⟩
    · cases hb
  · cases hb
end
end Fn
namespace Fn
open PySem PySem.Spec PyProof.Rows L2
/-! ### comprehensions -/
def wipeE (ρ : Env) : List Nat → Env
  | [] => ρ
  | v :: vs => (wipeE ρ vs).set v none
def datOnly (b : B) : Res (Option D) := match b with
  | .dat d => .ok (some d)
  | _ => .bad
/-- one item: what it gives, if it is taken -/
def stepC (t : Tg) (c : Env → Res Bool) (fe : Env → Res B) (ρ : Env) (d : D) : Res (Option D) := match bindT t d ρ with
  | none => .bad
  | some ρ1 => match c ρ1 with
    | .ok true => (match fe ρ1 with
      | .ok b => datOnly (rd b)
      | _ => .bad)
    | .ok false => .ok none
    | _ => .bad
def mapC (f : D → Res (Option D)) : List D → Res (List D)
  | [] => .ok []
  | d :: ds => (f d).bind fun o => (mapC f ds).bind fun xs => .ok (o.toList ++ xs)
def compV (t : Tg) (it : Env → Res (List D)) (c : Env → Res Bool) (fe : Env → Res B) (vs : List Nat) : Env → Res B := fun ρ => (it ρ).bind fun ds =>
  if ds.length ≤ sizeLine then (mapC (stepC t c fe (wipeE ρ vs)) ds).bind fun out => .ok (.own (.l out)) else .bad
section
variable {X : Cx} {g : G}
theorem St.wipe {F H : Hp} {σ : L2.St} {ρ : Env} (s : St g F H σ ρ) : ∀ vs : List Nat, St g F H (L2.wipe σ vs) (wipeE ρ vs)
  | [] => s
  | v :: vs => (St.wipe s vs).drop v
/-- within a comprehension no error is let out -/
def G.mute (g : G) : G := { g with E := fun _ _ => False }
theorem St.mute {F H : Hp} {σ : L2.St} {ρ : Env} (s : St g F H σ ρ) : St g.mute F H σ ρ := ⟨s.gr, s.len, fun i b h => let ⟨v, h1, h2⟩ := s.at_ i b h; ⟨v, h1, by cases b <;> exact h2⟩, s.apart⟩
theorem wipe_in {σ : L2.St} {i : Nat} : ∀ {vs : List Nat}, i ∈ vs → (L2.wipe σ vs)[i]? = if i < σ.length then some none else none
  | v :: vs, h => by
    unfold L2.wipe
    by_cases e : v = i
    · subst e
      by_cases hl : v < σ.length
      · rw [if_pos hl, List.getElem?_set_self (by rw [L2.wipe_length]; exact hl)]
      · rw [if_neg hl, List.getElem?_eq_none (by rw [List.length_set, L2.wipe_length]; omega)]
    · rw [List.getElem?_set_ne e]
      exact wipe_in ((List.mem_cons.mp h).resolve_left fun z => e z.symm)
theorem wipe_again {σ σ2 : L2.St} {vs : List Nat} (hl : σ2.length = σ.length) (h : ∀ i, i ∉ vs → σ2[i]? = (L2.wipe σ vs)[i]?) : L2.wipe σ2 vs = L2.wipe σ vs := by
  apply List.ext_getElem?
  intro i
  by_cases hi : i ∈ vs
  · rw [wipe_in hi, wipe_in hi, hl]
  · rw [L2.wipe_out hi, h i hi]
def Tg.slots : Tg → List Nat
  | .one i => [i]
  | .many is => is
theorem putMany_len : ∀ (is : List Nat) (es : List D) (ρ : Env), (putMany is es ρ).length = ρ.length
  | [], _, _ => rfl
  | _ :: _, [], _ => rfl
  | a :: is, b :: es, ρ => by
    show (putMany is es (ρ.set a (some (.dat b)))).length = _
    rw [putMany_len is es, List.length_set]
theorem bindT_len {t : Tg} {d : D} {ρ ρ1 : Env} (hb : bindT t d ρ = some ρ1) : ρ1.length = ρ.length := by
  unfold bindT at hb
  split at hb
  · cases hb
    rw [List.length_set]
  · split at hb <;> first | (split at hb <;> first | (cases hb; exact putMany_len _ _ _) | cases hb) | cases hb
theorem fe_comp {t : Tg} {it : Env → Res (List D)} {c : Env → Res Bool} {fe : Env → Res B} {elt tg iter : Expr} {ifs : List Expr} {scope : Scope} {own : List (Str × Nat)} {pos : Pos} (hc : X.calm = true) (hN : X.N.Nodup) (hi : PI X tg iter (tFI g true it)) (ok : BlkOk X.N X.env.scope scope own)
    (hsl : ∀ i ∈ t.slots, i ∈ own.map (·.2))
    (hg : ∀ (s : Shared) (H : Hp) (C : Addr) (cl : List (Str × Addr)) (fp : List Addr), PG (X.blk s H scope (compEnvC scope cl C X.env) fp) tg (tFG g.mute t)) (ht : ∀ (s : Shared) (H : Hp) (C : Addr) (cl : List (Str × Addr)) (fp : List Addr), PTs (X.blk s H scope (compEnvC scope cl C X.env) fp) ifs (tFT g.mute c))
    (he : ∀ (s : Shared) (H : Hp) (C : Addr) (cl : List (Str × Addr)) (fp : List Addr), PE (X.blk s H scope (compEnvC scope cl C X.env) fp) elt (tF g.mute fe)) (hs : ∀ x, foldedSetIterable iter X.env x = pure x)
    {σ : L2.St} {H : Hp} {Q : VK} (h : tF g (compV t it c fe (own.map (·.2))) σ H Q) : tLc (tFI g true it) (tFG g.mute t) (tFT g.mute c) (tF g.mute fe) (own.map (·.2)) σ H Q := by
  obtain ⟨F, ρ, s, p⟩ := h
  unfold compV at p
  refine ⟨F, ρ, s, ?_⟩
  cases e : it ρ with
  | exc k =>
    rw [e, Res.exc_bind] at p
    exact p
  | bad =>
    rw [e] at p
    exact p
  | ok ds =>
    rw [e, Res.ok_bind] at p
    split at p
    · rename_i hz
      cases em : mapC (stepC t c fe (wipeE ρ (own.map (·.2)))) ds with
      | exc k =>
        exfalso
        have no : ∀ (ds : List D) (k : Nat), mapC (stepC t c fe (wipeE ρ (own.map (·.2)))) ds ≠ .exc k := by
          intro ds
          induction ds with
          | nil => intro k z; cases z
          | cons d ds ih =>
            intro k z
            unfold mapC at z
            cases e1 : stepC t c fe (wipeE ρ (own.map (·.2))) d with
            | ok o =>
              rw [e1, Res.ok_bind] at z
              cases e2 : mapC (stepC t c fe (wipeE ρ (own.map (·.2)))) ds with
              | ok xs => rw [e2] at z; cases z
              | exc k' => exact ih k' e2
              | bad => rw [e2] at z; cases z
            | exc k' =>
              unfold stepC at e1
              split at e1
              · cases e1
              · split at e1
                · split at e1
                  · unfold datOnly at e1
                    split at e1 <;> cases e1
                  · cases e1
                · cases e1
                · cases e1
            | bad => rw [e1] at z; cases z
        exact no ds k em
      | bad =>
        rw [em] at p
        exact p.elim
      | ok out =>
        rw [em, Res.ok_bind] at p
        intro F1 H1 J g1 hJ D hD
        have s1 : St g.mute F1 H1 (L2.wipe σ (own.map (·.2))) (wipeE ρ (own.map (·.2))) := ((s.grow g1).wipe _).mute
        have s1' := s.grow g1
        refine ⟨fun i m H => m = ds.length - i ∧ i ≤ ds.length ∧ ∃ F xs acc rest, Grow F1 H1 F H ∧ H D = some (.lst xs) ∧ F D = none ∧ RpAll g.K g.fa F xs acc ∧ acc.length ≤ i ∧ mapC (stepC t c fe (wipeE ρ (own.map (·.2)))) (ds.drop i) = .ok rest ∧ out = acc ++ rest,
          ⟨ds.length, by simp, Nat.zero_le _, F1, [], [], out, Grow.newH s1'.sub hD, upd_same, s1'.sub.free hD, .nil, Nat.le_refl _, by simpa using em, rfl⟩, ?_⟩
        rintro i m H2 ⟨rfl, hi2, F2, xs, acc, rest, g2, hx, hfx, hr, hal, hm, ho⟩
        have pp : PP g true F1 H1 F2 H2 := ⟨g2.fh, g2.sub, s1'.gr.hh.trans g2.hh, fun _ => g2.hh⟩
        by_cases hlt : i < ds.length
        · refine .inr ⟨hJ.go i F2 H2 pp hlt, fun H' => ∃ F xs acc rest, Grow F1 H1 F H' ∧ H' D = some (.lst xs) ∧ F D = none ∧ RpAll g.K g.fa F xs acc ∧ acc.length ≤ i + 1 ∧ mapC (stepC t c fe (wipeE ρ (own.map (·.2)))) (ds.drop (i + 1)) = .ok rest ∧ out = acc ++ rest,
            fun H' hn => ⟨ds.length - (i + 1), by omega, rfl, hlt, hn⟩, fun x H' hy => ?_⟩
          have hd : ds[i]? = some ds[i] := List.getElem?_eq_getElem hlt
          obtain ⟨F3, g3, r3⟩ := hJ.yld i F2 H2 x H' ds[i] pp hd hy
          have edrop : ds.drop i = ds[i] :: ds.drop (i + 1) := List.drop_eq_getElem_cons hlt
          rw [edrop] at hm
          unfold mapC at hm
          cases e1 : stepC t c fe (wipeE ρ (own.map (·.2))) ds[i] with
          | exc k => rw [e1] at hm; cases hm
          | bad => rw [e1] at hm; cases hm
          | ok o =>
            rw [e1, Res.ok_bind] at hm
            cases e2 : mapC (stepC t c fe (wipeE ρ (own.map (·.2)))) (ds.drop (i + 1)) with
            | exc k => rw [e2] at hm; cases hm
            | bad => rw [e2] at hm; cases hm
            | ok rest' =>
              rw [e2, Res.ok_bind] at hm
              have erest : rest = o.toList ++ rest' := by cases hm; rfl
              subst erest
              have g13 : Grow F1 H1 F3 H' := g2.trans g3
              have s3 := s1.grow g13
              have hx3 : H' D = some (.lst xs) := g3.hh _ _ hx
              have hf3 : F3 D = none := g3.new D _ hx (by intro _ z; cases z) hfx
              unfold stepC at e1
              split at e1
              · cases e1
              · rename_i ρ1 hb
                refine ⟨F3, wipeE ρ (own.map (·.2)), ds[i], ρ1, s3, r3, hb, fun σ2 s4 kp => ?_⟩
                refine ⟨wipe_again (by
                  have l1 := s4.len
                  have l2 := s3.len
                  have l3 : ρ1.length = (wipeE ρ (own.map (·.2))).length := by
                    exact bindT_len hb
                  rw [l1, l3, ← l2, L2.wipe_length]) fun j hj => kp j (fun i' ei z => hj (by
                    subst z
                    exact hsl j (by rw [ei]; exact List.mem_singleton.mpr rfl))) fun is ei z => hj (hsl j (by rw [ei]; exact z)), ?_⟩
                refine ⟨F3, ρ1, s4, ?_⟩
                split at e1
                · rename_i hc1
                  rw [hc1]
                  intro F5 H5 g5
                  rw [if_pos rfl]
                  have s5 := s4.grow g5
                  split at e1
                  · rename_i b hfe
                    refine run1 s5 (fun bx v F6 H6 e6 g6 r6 => ?_) (fun c' e6 => by rw [hfe] at e6; cases e6) (by rw [hfe]; intro z; cases z)
                    rw [hfe] at e6
                    cases e6
                    unfold datOnly at e1
                    split at e1
                    · rename_i d' hd'
                      cases e1
                      rw [hd'] at r6
                      have g36 : Grow F3 H' F6 H6 := g5.trans g6
                      have hx6 : H6 D = some (.lst xs) := g36.hh _ _ hx3
                      have hf6 : F6 D = none := g36.new D _ hx3 (by intro _ z; cases z) hf3
                      refine ⟨xs, hx6, by rw [hr.len]; omega, F6, xs ++ [v], acc ++ [d'], rest', ⟨(g13.trans g36).fh, fun b u q => ?_, fun b u q => ?_, (g13.trans g36).new⟩, upd_same, hf6, (hr.mono (g3.fh.trans g36.fh)).app (.cons r6 .nil), by rw [List.length_append]; simpa using hal, rfl, by rw [ho, List.append_assoc]; rfl⟩
                      · rw [upd_ne (ne_of_none q hD)]
                        exact (g13.trans g36).hh _ _ q
                      · rw [upd_ne (ne_of_none q hf6)]
                        exact (g13.trans g36).sub _ _ q
                    · cases e1
                  · cases e1
                · rename_i hc1
                  rw [hc1]
                  intro F5 H5 g5
                  rw [if_neg Bool.false_ne_true]
                  cases e1
                  have hx5 : H5 D = some (.lst xs) := g5.hh _ _ hx3
                  have hf5 : F5 D = none := g5.new D _ hx3 (by intro _ z; cases z) hf3
                  exact ⟨F5, xs, acc, rest', g13.trans g5, hx5, hf5, hr.mono (g3.fh.trans g5.fh), by omega, rfl, ho⟩
                · cases e1
        · have e : i = ds.length := by omega
          subst e
          refine .inl ⟨hJ.stop _ F2 H2 pp (Nat.le_refl _), ?_⟩
          rw [List.drop_length] at hm
          cases hm
          rw [List.append_nil] at ho
          subst ho
          exact p _ F2 H2 (g1.trans g2) ⟨D, .lst xs, rfl, g1.hh.free hD, hx, hfx, .l hr⟩
    · exact p.elim
theorem fe_lc {t : Tg} {it : Env → Res (List D)} {c : Env → Res Bool} {fe : Env → Res B} {elt tg iter : Expr} {ifs : List Expr} {scope : Scope} {own : List (Str × Nat)} {pos : Pos} (hc : X.calm = true) (hN : X.N.Nodup) (hi : PI X tg iter (tFI g true it)) (ok : BlkOk X.N X.env.scope scope own)
    (hsl : ∀ i ∈ t.slots, i ∈ own.map (·.2))
    (hg : ∀ (s : Shared) (H : Hp) (C : Addr) (cl : List (Str × Addr)) (fp : List Addr), PG (X.blk s H scope (compEnvC scope cl C X.env) fp) tg (tFG g.mute t)) (ht : ∀ (s : Shared) (H : Hp) (C : Addr) (cl : List (Str × Addr)) (fp : List Addr), PTs (X.blk s H scope (compEnvC scope cl C X.env) fp) ifs (tFT g.mute c))
    (he : ∀ (s : Shared) (H : Hp) (C : Addr) (cl : List (Str × Addr)) (fp : List Addr), PE (X.blk s H scope (compEnvC scope cl C X.env) fp) elt (tF g.mute fe)) (hs : ∀ x, foldedSetIterable iter X.env x = pure x) : PE X (.ListComp elt [⟨tg, iter, ifs, 0⟩] scope pos) (tF g (compV t it c fe (own.map (·.2)))) :=
  PE.imp (pe_lc hc hN hi ok hg ht he hs) fun _ _ _ h => fe_comp (pos := pos) hc hN hi ok hsl hg ht he hs h
end
end Fn
namespace Fn
open PySem PySem.Spec PyProof.Rows L2
/-! ### statements -/
inductive Out where
  | nx (ρ : Env) | rt (b : B) | bk (ρ : Env) | ct (ρ : Env) | exc (c : Nat) | bad
def PostS (g : G) (E : Ends) (r : Out) : Prop := match r with
  | .nx ρ' => ∀ σ' F' H', St g F' H' σ' ρ' → E.nx σ' H'
  | .bk ρ' => ∀ σ' F' H', St g F' H' σ' ρ' → E.bk σ' H'
  | .ct ρ' => ∀ σ' F' H', St g F' H' σ' ρ' → E.ct σ' H'
  | .rt b => ∀ v F' H', Grow g.F0 g.G0 F' H' → RB g g.F0 g.G0 F' H' v b → E.rt v H'
  | .exc c => ∀ F' H', Grow g.F0 g.G0 F' H' → g.E c H'
  | .bad => False
def tFS (g : G) (f : Env → Out) : TS := fun E σ H => ∃ F ρ, St g F H σ ρ ∧ PostS g E (f ρ)
theorem PS.imp {X : Cx} {st : Stmt} {t t' : TS} (h : PS X st t) (i : ∀ E σ H, t' E σ H → t E σ H) : PS X st t' := ⟨fun pins s σ H E I w => h.run pins s σ H E I (i E σ H w)⟩
theorem PSs.imp {X : Cx} {st : List Stmt} {t t' : TS} (h : PSs X st t) (i : ∀ E σ H, t' E σ H → t E σ H) : PSs X st t' := ⟨fun pins s σ H E I w => h.run pins s σ H E I (i E σ H w)⟩
def seqS (f h : Env → Out) : Env → Out := fun ρ => match f ρ with
  | .nx ρ' => h ρ'
  | o => o
section
variable {X : Cx} {g : G} {a b c : Expr} {pos : Pos} {fa fb fc : Env → Res B} {st : Stmt} {rest : List Stmt} {f h : Env → Out}
theorem fs_nil : PSs X [] (tFS g fun ρ => .nx ρ) := PSs.imp pss_nil fun E σ H ⟨F, ρ, s, p⟩ => p σ F H s
theorem fs_cons (h1 : PS X st (tFS g f)) (h2 : PSs X rest (tFS g h)) : PSs X (st :: rest) (tFS g (seqS f h)) := by
  refine PSs.imp (pss_cons h1 h2) fun E σ H ⟨F, ρ, s, p⟩ => ⟨F, ρ, s, ?_⟩
  unfold seqS at p
  cases e : f ρ with
  | nx ρ' =>
    rw [e] at p
    exact fun σ' F' H' s' => ⟨F', ρ', s', p⟩
  | rt b => rw [e] at p; exact p
  | bk ρ' => rw [e] at p; exact p
  | ct ρ' => rw [e] at p; exact p
  | exc k => rw [e] at p; exact p
  | bad => rw [e] at p; exact p
theorem fs_one (h1 : PS X st (tFS g f)) : PSs X [st] (tFS g f) := PSs.imp (pss_one h1) fun _ _ _ h => h
/-- an expression, then what is done with its value (as it came) -/
def thenS (fa : Env → Res B) (k : B → Env → Out) : Env → Out := fun ρ => match fa ρ with
  | .ok b => k b ρ
  | .exc c => .exc c
  | .bad => .bad
theorem then_run {k : B → Env → Out} {E : Ends} {σ : L2.St} {H : Hp} {Q : VK} (h : tFS g (thenS fa k) E σ H)
    (hk : ∀ F ρ b v F1 H1, St g F H σ ρ → Grow F H F1 H1 → RB g F H F1 H1 v b → PostS g E (k b ρ) → Q v H1) : tF g fa σ H Q := by
  obtain ⟨F, ρ, s, p⟩ := h
  refine ⟨F, ρ, s, ?_⟩
  unfold thenS at p
  cases e : fa ρ with
  | ok b =>
    rw [e] at p
    exact fun v F1 H1 g1 r1 => hk F ρ b v F1 H1 s g1 r1 p
  | exc c =>
    rw [e] at p
    exact fun F' H' g1 => p F' H' (s.gr.trans g1)
  | bad =>
    rw [e] at p
    exact p
/-- what a name may take: no look at another name's own object -/
def okV : B → Bool
  | .vw _ => false
  | _ => true
theorem okV_ne {b : B} (h : okV b = true) : ∀ m, b ≠ .vw m := by
  rintro m rfl
  cases h
def setV (i : Nat) (b : B) (ρ : Env) : Out := if okV b = true then .nx (ρ.set i (some b)) else .bad
theorem fs_asg {i : Nat} {x : Str} {e : Expr} {pos' : Pos} (hN : X.N.Nodup) (hi : X.N[i]? = some x) (hx : Loc X.env.scope x) (he : PE X e (tF g fa)) (hs : swapsWith e (some (.Name x pos')) pos.line X.env = pure false) (hf : X.fn x = true ∨ X.env.scope.names.lookup x = some .local) :
    PS X (.Assign [.Name x pos'] e pos) (tFS g (thenS fa (setV i))) := by
  refine PS.imp (ps_set hN hi hx he hs hf) fun E σ H h => ?_
  refine then_run (k := setV i) (E := E) (Q := fun v H1 => E.nx (σ.set i (some v)) H1) h fun F ρ b v F1 H1 s g1 r1 p => ?_
  unfold setV at p
  split at p
  · rename_i nb
    exact p _ F1 H1 (s.put g1 r1 i (okV_ne nb))
  · exact p.elim
theorem fs_asgLc {t : Tg} {it : Env → Res (List D)} {cnd : Env → Res Bool} {fe : Env → Res B} {i : Nat} {y : Str} {py : Pos} {elt tg iter : Expr} {ifs : List Expr} {scope : Scope} {own : List (Str × Nat)} {pos spos : Pos} (hc : X.calm = true) (hN : X.N.Nodup) (hy : X.N[i]? = some y) (hyl : X.env.scope.names.lookup y = some .local)
    (hsw : swapsWith (.ListComp elt [⟨tg, iter, ifs, 0⟩] scope pos) (some (.Name y py)) spos.line X.env = pure true) (hi : PI X tg iter (tFI g true it)) (ok : BlkOk X.N X.env.scope scope own)
    (hsl : ∀ i ∈ t.slots, i ∈ own.map (·.2))
    (hg : ∀ (s : Shared) (H : Hp) (C : Addr) (cl : List (Str × Addr)) (fp : List Addr), PG (X.blk s H scope (compEnvC scope cl C X.env) fp) tg (tFG g.mute t)) (ht : ∀ (s : Shared) (H : Hp) (C : Addr) (cl : List (Str × Addr)) (fp : List Addr), PTs (X.blk s H scope (compEnvC scope cl C X.env) fp) ifs (tFT g.mute cnd))
    (he : ∀ (s : Shared) (H : Hp) (C : Addr) (cl : List (Str × Addr)) (fp : List Addr), PE (X.blk s H scope (compEnvC scope cl C X.env) fp) elt (tF g.mute fe)) (hs : ∀ x, foldedSetIterable iter X.env x = pure x) :
    PS X (.Assign [.Name y py] (.ListComp elt [⟨tg, iter, ifs, 0⟩] scope pos) spos) (tFS g (thenS (compV t it cnd fe (own.map (·.2))) (setV i))) := by
  refine PS.imp (ps_setLc hc hN hy hyl hsw hi ok hg ht he hs) fun E σ H h => ?_
  refine fe_comp (pos := pos) (Q := fun v H1 => E.nx (σ.set i (some v)) H1) hc hN hi ok hsl hg ht he hs ?_
  refine then_run (k := setV i) (E := E) (Q := fun v H1 => E.nx (σ.set i (some v)) H1) h fun F ρ b v F1 H1 s g1 r1 p => ?_
  unfold setV at p
  split at p
  · rename_i nb
    exact p _ F1 H1 (s.put g1 r1 i (okV_ne nb))
  · exact p.elim
/-- a, b = (something that is data) -/
def bindV (t : Tg) (b : B) (ρ : Env) : Out := match rd b with
  | .dat d => (match bindT t d ρ with | some ρ' => .nx ρ' | none => .bad)
  | _ => .bad
theorem fs_asgT {t : Tg} {tg e : Expr} (he : PE X e (tF g fa)) (hg : PG X tg (tFG g t)) (hs : swapsWithSole [tg] e pos.line X.env = pure false) (hw : swappedStores [tg] e X.env = pure none) (h1 : (assignEach [tg] X.env).map (·.2) = [assign tg X.env]) :
    PS X (.Assign [tg] e pos) (tFS g (thenS fa (bindV t))) := by
  refine PS.imp (ps_asg he hg hs hw h1) fun E σ H h => ?_
  refine then_run (k := bindV t) (E := E) (Q := fun v H1 => tFG g t v σ H1 E.nx) h fun F ρ b v F1 H1 s g1 r1 p => ?_
  unfold bindV at p
  obtain ⟨F2, g2, r2⟩ := r1.rd g1
  split at p
  · rename_i d hd
    split at p
    · rename_i ρ' hb
      rw [hd] at r2
      exact ⟨F2, ρ, d, ρ', s.grow g2, r2, hb, fun σ' s' _ => p σ' F2 H1 s'⟩
    · exact p.elim
  · exact p.elim
/-- a, b = x, y stored one by one -/
def par2 (i j : Nat) (fa fb : Env → Res B) : Env → Out := fun ρ => match fa ρ with
  | .ok x => (match fb ρ with
    | .ok y => if (okV x && okV y) = true then .nx ((ρ.set i (some x)).set j (some y)) else .bad
    | .exc c => .exc c
    | .bad => .bad)
  | .exc c => .exc c
  | .bad => .bad
theorem RB.over {F H F1 H1 F2 H2 : Hp} {v : V} {b : B} (r : RB g F H F1 H1 v b) (e : Grow F1 H1 F2 H2) : RB g F H F2 H2 v b := by
  cases b with
  | dat d => exact Rp.mono e.fh r
  | own m =>
    obtain ⟨p, o, rfl, h, ho, f, q⟩ := r
    exact ⟨p, o, rfl, h, e.hh _ _ ho, e.new p o ho q.notTup f, q.mono e.fh⟩
  | vw m =>
    obtain ⟨p, o, rfl, h, q⟩ := r
    exact ⟨p, o, rfl, e.hh _ _ h, q.mono e.fh⟩
  | bor m =>
    obtain ⟨p, o, rfl, h, q⟩ := r
    exact ⟨p, o, rfl, h, q.mono e.fh⟩
  | scr ns => exact r
theorem fs_par2 {i j : Nat} {x y : Str} {px py pt : Pos} {kt k2 pt2} (hc : X.calm = true) (hN : X.N.Nodup) (hi : X.N[i]? = some x) (hj : X.N[j]? = some y) (hij : i ≠ j)
    (hx : X.env.scope.names.lookup x = some .local) (hy : X.env.scope.names.lookup y = some .local) (hna : nst a = true) (hnb : nst b = true) (ha : PE X a (tF g fa)) (hb : PE X b (tF g fb))
    (hw : swappedStores [.Tuple [.Name x px, .Name y py] kt pt] (.Tuple [a, b] k2 pt2) X.env = pure (some [x, y])) (hs : swapsWithSole [.Tuple [.Name x px, .Name y py] kt pt] (.Tuple [a, b] k2 pt2) pos.line X.env = pure false) :
    PS X (.Assign [.Tuple [.Name x px, .Name y py] kt pt] (.Tuple [a, b] k2 pt2) pos) (tFS g (par2 i j fa fb)) := by
  refine PS.imp (ps_par hc hN hi hj hij hx hy (pa_cons ha (pa_cons hb pa_nil (star_cons hnb)) (star_cons hna)) hw hs) fun E σ H ⟨F, ρ, s, p⟩ => ?_
  unfold par2 at p
  show tF g fa σ H _
  refine ⟨F, ρ, s, ?_⟩
  cases e1 : fa ρ with
  | exc c => rw [e1] at p; exact fun F' H' g1 => p F' H' (s.gr.trans g1)
  | bad => rw [e1] at p; exact p
  | ok x =>
    rw [e1] at p
    intro v F1 H1 g1 r1
    have s1 := s.grow g1
    refine ⟨F1, ρ, s1, ?_⟩
    dsimp only at p
    cases e2 : fb ρ with
    | exc c => rw [e2] at p; exact fun F' H' g2 => p F' H' (s1.gr.trans g2)
    | bad => rw [e2] at p; exact p
    | ok y =>
      rw [e2] at p
      intro w F2 H2 g2 r2
      refine ⟨v, w, rfl, ?_⟩
      dsimp only at p
      split at p
      · rename_i ok
        rw [Bool.and_eq_true] at ok
        exact p _ F2 H2 ((s.put g1 r1 i (okV_ne ok.1)).put g2 r2 j (okV_ne ok.2))
      · exact p.elim
/-- a change of an owned object at a name -/
def ownAt (ρ : Env) (i : Nat) : Option M := match ρ[i]? with
  | some (some (.own m)) => some m
  | _ => none
theorem ownAt_ok {ρ : Env} {i : Nat} {m : M} (h : ownAt ρ i = some m) : ρ[i]? = some (some (.own m)) := by
  unfold ownAt at h
  split at h
  · cases h
    assumption
  · cases h
def appV (i : Nat) (fa : Env → Res B) : Env → Out := fun ρ => match ownAt ρ i with
  | some (.l ds) => (match fa ρ with
    | .ok b => (match rd b with
      | .dat d => if ds.length < sizeLine then .nx (ρ.set i (some (.own (.l (ds ++ [d]))))) else .bad
      | _ => .bad)
    | .exc c => .exc c
    | .bad => .bad)
  | _ => .bad
theorem fs_append {i : Nat} {x : Str} {e : Expr} {p1 p2 p3 p4 : Pos} (hi : X.N[i]? = some x) (hv : Vis X.env.scope x) (hd : (x == ("__debug__" : Str)) = false) (hcd : (x == ("__classdict__" : Str)) = false) (hn : nst e = true) (hl : (p2.endLine == p3.line) = true) (he : PE X e (tF g fa)) :
    PS X (.Expr (.Call (.Attribute (.Name x p1) "append" p2) [e] [] p3) p4) (tFS g (appV i fa)) := by
  refine PS.imp (ps_expr (pe_bm PySem.F.plainAttrs_list PySem.F.slot_list_append PySem.F.type_list_append mt_append (pe_var hi hv hd hcd) (pa_cons he pa_nil (star_cons hn)) (by rfl) (by cases e <;> first | rfl | cases hn) hl (star_cons hn) (by rfl))) fun E σ H h => ?_
  show tVar i σ H fun v H1 => tyV X.K "list" v H1 ∧ tF g fa σ H1 fun w H2 => rAppend v [w] H2 fun _ H1 => E.nx σ H1
  obtain ⟨F, ρ, s, p⟩ := h
  unfold appV at p
  split at p
  · rename_i ds ho
    obtain ⟨q, o, a1, a2, a3, a4, a5⟩ := s.own_none (ownAt_ok ho)
    cases a5 with
    | l rl =>
      refine ⟨_, a1, Or.inl ⟨rfl, _, SqL.of a2⟩, ?_⟩
      refine run1 s (fun b v F1 H1 e2 g1 r1 => ?_) (fun c e => ?_) (fun e => ?_)
      · rw [e2] at p
        dsimp only at p
        split at p
        · rename_i d hd
          rw [hd] at r1
          split at p
          · rename_i hz
            refine ⟨q, _, v, rfl, rfl, g1.hh _ _ a2, by rw [rl.len]; exact hz, ?_⟩
            exact p σ F1 _ ((s.grow g1).change (ownAt_ok ho) a1 (.l ((rl.mono g1.fh).app (.cons r1 .nil))))
          · exact p.elim
        · exact p.elim
      · rw [e] at p
        exact fun F' H' g1 => p F' H' (s.gr.trans g1)
      · rw [e] at p
        exact p
  · exact p.elim
/-! ### name[index] = value -/
theorem PS.or {t u : TS} (h : PS X st t) (h' : PS X st u) : PS X st (fun E σ H => t E σ H ∨ u E σ H) := ⟨fun pins s σ H E I w => w.elim (h.run pins s σ H E I) (h'.run pins s σ H E I)⟩
def storeM (m : M) (k : B) (d : D) : Option M := match m with
  | .k kvs => (match keyD (datOf k) with
    | some q => if kvs.length < sizeLine then some (.k (putD kvs q d)) else none
    | none => none)
  | .t kvs => (match tkey k with
    | some q => if kvs.length < sizeLine then some (.t (putD kvs q d)) else none
    | none => none)
  | .l xs => (match k with
    | .dat (.int j) => (match ixN xs.length j with
      | some n => some (.l (xs.set n d))
      | none => none)
    | _ => none)
def putS (i : Nat) (fk fv : Env → Res B) : Env → Out := fun ρ => match fv ρ with
  | .ok b => (match rd b, ownAt ρ i, fk ρ with
    | .dat d, some m, .ok k => (match storeM m (rd k) d with
      | some m' => .nx (ρ.set i (some (.own m')))
      | none => .bad)
    | .dat _, some _, .exc c => .exc c
    | _, _, _ => .bad)
  | .exc c => .exc c
  | .bad => .bad
theorem fs_store {i : Nat} {x : Str} {k v : Expr} {fk fv : Env → Res B} {p1 p2 : Pos} (hu : X.A.units + 1 < cLine) (hi : X.N[i]? = some x) (hv : Vis X.env.scope x) (hd : (x == ("__debug__" : Str)) = false) (hcd : (x == ("__classdict__" : Str)) = false) (hns : nsl k = true)
    (hk : PE X k (tF g fk)) (hval : PE X v (tF g fv)) (hs : swapsWith v (some (.Subscript (.Name x p1) k p2)) pos.line X.env = pure false) :
    PS X (.Assign [.Subscript (.Name x p1) k p2] v pos) (tFS g (putS i fk fv)) := by
  refine PS.imp (PS.or (ps_dput hu (pe_var hi hv hd hcd) hk hval hs) (ps_asg hval (pg_sub (pos := p2) (pe_var hi hv hd hcd) hk set_list (by intro v; cases k <;> first | rfl | cases hns)) (by cases v <;> first | rfl | exact hs) (by cases v <;> rfl) (by rfl))) fun E σ H h => ?_
  show (tF g fv σ H fun v H1 => tVar i σ H1 fun x H2 => tF g fk σ H2 fun y H3 => ∃ a H4, x = .ref a ∧ DPut H3 a y v H4 ∧ E.nx σ H4) ∨
    tF g fv σ H fun v H1 => tVar i σ H1 fun o H2 => tF g fk σ H2 fun j H3 => rSetL o j v H3 fun H4 => E.nx σ H4
  obtain ⟨F, ρ, s, p⟩ := h
  unfold putS at p
  -- the three shapes
  have run : ∀ {R : V → V → V → Hp → Prop}, (∀ b m, fv ρ = .ok b → ownAt ρ i = some m → ∀ (F3 H3 : Hp) (q : Addr) (o : HO) (w y : V) (k : B) (d : D) (m' : M), rd b = .dat d → fk ρ = .ok k → storeM m (rd k) d = some m' → St g F3 H3 σ ρ → Rp g.K g.fa F3 w d → RR g F3 H3 y (rd k) → σ[i]? = some (some (.ref q)) → H3 q = some o → RpM g.K g.fa F3 o m → PostS g E (.nx (ρ.set i (some (.own m')))) → R (.ref q) y w H3) →
      tF g fv σ H fun v H1 => tVar i σ H1 fun o H2 => tF g fk σ H2 fun j H3 => R o j v H3 := by
    intro R hR
    refine run1 s (fun b v F1 H1 e1 g1 r1 => ?_) (fun c e => ?_) (fun e => ?_)
    · rw [e1] at p
      dsimp only at p
      have s1 := s.grow g1
      cases hd : rd b with
      | dat d =>
        rw [hd] at p r1
        cases ho : ownAt ρ i with
        | none => rw [ho] at p; exact p.elim
        | some m =>
          rw [ho] at p
          obtain ⟨q, o, a1, a2, a3, a4, a5⟩ := s1.own_none (ownAt_ok ho)
          refine ⟨_, a1, ?_⟩
          refine run1 s1 (fun k y F2 H2 e2 g2 r2 => ?_) (fun c e => ?_) (fun e => ?_)
          · rw [e2] at p
            dsimp only at p
            split at p
            · rename_i m' hm
              exact hR b m e1 ho F2 H2 q o v y k d m' hd e2 hm (s1.grow g2) (Rp.mono g2.fh r1) r2 a1 (g2.hh _ _ a2) (a5.mono g2.fh) p
            · exact p.elim
          · rw [e] at p
            exact fun F' H' g2 => p F' H' (s1.gr.trans g2)
          · rw [e] at p
            exact p
      | own _ => rw [hd] at p; exact p.elim
      | vw _ => rw [hd] at p; exact p.elim
      | bor _ => rw [hd] at p; exact p.elim
      | scr _ => rw [hd] at p; exact p.elim
    · rw [e] at p
      exact fun F' H' g1 => p F' H' (s.gr.trans g1)
    · rw [e] at p
      exact p
  cases ho : ownAt ρ i with
  | none =>
    refine .inl (run (R := fun o y w H3 => ∃ a H4, o = .ref a ∧ DPut H3 a y w H4 ∧ E.nx σ H4) fun b m e1 e2 => ?_)
    rw [ho] at e2
    cases e2
  | some m0 =>
    cases m0 with
    | k kvs =>
      refine .inl (run (R := fun o y w H3 => ∃ a H4, o = .ref a ∧ DPut H3 a y w H4 ∧ E.nx σ H4) fun b m e1 e2 F3 H3 q o w y k d m' hd ek hm s3 rw_ ry hq hH ro post => ?_)
      rw [ho] at e2
      cases e2
      unfold storeM at hm
      dsimp only at hm
      split at hm
      · rename_i kk hkk
        split at hm
        · rename_i hz
          cases hm
          cases ro with
          | k q1 q2 =>
            have hy := rr_key ry hkk
            subst hy
            refine ⟨q, _, rfl, DPut.k hH ?_, post σ F3 _ (s3.change (ownAt_ok ho) hq (.k (put_keys q1 kk w d) (put_rel q1 q2 rw_)))⟩
            have := congrArg List.length q1
            rw [List.length_map, List.length_map] at this
            omega
        · cases hm
      · cases hm
    | t kvs =>
      refine .inl (run (R := fun o y w H3 => ∃ a H4, o = .ref a ∧ DPut H3 a y w H4 ∧ E.nx σ H4) fun b m e1 e2 F3 H3 q o w y k d m' hd ek hm s3 rw_ ry hq hH ro post => ?_)
      rw [ho] at e2
      cases e2
      unfold storeM at hm
      dsimp only at hm
      split at hm
      · rename_i kk hkk
        split at hm
        · rename_i hz
          cases hm
          cases ro with
          | t q1 q2 =>
            obtain ⟨b2, rfl, hb2⟩ := tkey_ok s3.sm ry hkk
            refine ⟨q, _, rfl, DPut.t hH hb2 ?_, post σ F3 _ (s3.change (ownAt_ok ho) hq (.t (put_keys q1 kk w d) (put_rel q1 q2 rw_)))⟩
            have := congrArg List.length q1
            rw [List.length_map, List.length_map] at this
            omega
        · cases hm
      · cases hm
    | l xs =>
      refine .inr (run (R := fun o y w H3 => rSetL o y w H3 fun H4 => E.nx σ H4) fun b m e1 e2 F3 H3 q o w y k d m' hd ek hm s3 rw_ ry hq hH ro post => ?_)
      rw [ho] at e2
      cases e2
      unfold storeM at hm
      dsimp only at hm
      split at hm
      · rename_i j hj
        rw [hj] at ry
        split at hm
        · rename_i n hn
          cases hm
          cases ro with
          | l q1 =>
            cases ry
            exact ⟨q, _, _, n, rfl, rfl, hH, by rw [q1.len]; exact hn, post σ F3 _ (s3.change (ownAt_ok ho) hq (.l (q1.set n rw_)))⟩
        · cases hm
      · cases hm
/-! ### if, for, while, return -/
def iteS (t : Env → Res Bool) (f h : Env → Out) : Env → Out := fun ρ => match t ρ with
  | .ok k => if k = true then f ρ else h ρ
  | .exc c => .exc c
  | .bad => .bad
theorem fs_if {t : Env → Res Bool} {p q : List Stmt} (hc : PT X c (tFT g t)) (ha : PSs X p (tFS g f)) (hb : PSs X q (tFS g h)) : PS X (.If c p q pos) (tFS g (iteS t f h)) := by
  refine PS.imp (ps_if hc ha hb) fun E σ H ⟨F, ρ, s, w⟩ => ?_
  unfold iteS at w
  refine runT s (fun k F1 H1 e1 g1 => ?_) (fun c e => ?_) (fun e => ?_)
  · rw [e1] at w
    dsimp only at w
    split
    · rename_i hk
      rw [if_pos hk] at w
      exact ⟨F1, ρ, s.grow g1, w⟩
    · rename_i hk
      rw [if_neg hk] at w
      exact ⟨F1, ρ, s.grow g1, w⟩
  · rw [e] at w
    exact fun F' H' g1 => w F' H' (s.gr.trans g1)
  · rw [e] at w
    exact w
theorem fs_never : PS X st (tFS g fun _ => .bad) := PS.imp ps_never fun _ _ _ ⟨_, _, _, p⟩ => p
theorem fs_pass : PS X (.Pass pos) (tFS g fun ρ => .nx ρ) := PS.imp ps_pass fun E σ H ⟨F, ρ, s, p⟩ => p σ F H s
theorem fs_break : PS X (.Break pos) (tFS g fun ρ => .bk ρ) := PS.imp ps_break fun E σ H ⟨F, ρ, s, p⟩ => p σ F H s
theorem fs_cont : PS X (.Continue pos) (tFS g fun ρ => .ct ρ) := PS.imp ps_continue fun E σ H ⟨F, ρ, s, p⟩ => p σ F H s
def okRet : B → Bool
  | .dat _ => true
  | .own _ => true
  | _ => false
def retV (b : B) (_ : Env) : Out := if okRet b = true then .rt b else .bad
theorem fs_ret {e : Expr} (he : PE X e (tF g fa)) : PS X (.Return (some e) pos) (tFS g (thenS fa retV)) := by
  refine PS.imp (ps_ret he) fun E σ H h => then_run (k := retV) h fun F ρ b v F1 H1 s g1 r1 p => ?_
  unfold retV at p
  split at p
  · exact p v F1 H1 (s.gr.trans g1) (r1.later s.gr)
  · exact p.elim
/-- return name -/
def retN (i : Nat) (ρ : Env) : Out := match ρ[i]? with
  | some (some (.dat d)) => .rt (.dat d)
  | some (some (.own m)) => .rt (.own m)
  | _ => .bad
theorem fs_retN {i : Nat} {x : Str} {p1 : Pos} (hi : X.N[i]? = some x) (hv : Vis X.env.scope x) (hd : (x == ("__debug__" : Str)) = false) (hcd : (x == ("__classdict__" : Str)) = false) : PS X (.Return (some (.Name x p1)) pos) (tFS g (retN i)) := by
  refine PS.imp (ps_ret (pe_var hi hv hd hcd)) fun E σ H ⟨F, ρ, s, p⟩ => ?_
  unfold retN at p
  split at p
  · rename_i d e
    obtain ⟨v, h1, h2⟩ := s.at_ i _ e
    exact ⟨v, h1, p v F H s.gr h2⟩
  · rename_i m e
    obtain ⟨q, o, a1, a2, a3, a4, a5⟩ := s.own_none e
    exact ⟨_, a1, p _ F H s.gr ⟨q, o, rfl, a4, a2, a3, a5⟩⟩
  · exact p.elim
theorem fs_retNone : PS X (.Return none pos) (tFS g fun _ => .rt (.dat .non)) := PS.imp ps_retN fun E σ H ⟨F, ρ, s, p⟩ => p .non F H s.gr .non
/-- an owned object is locked: no code -/
def lockE (i : Nat) (ρ : Env) : Env := match ownAt ρ i with
  | some m => ρ.set i (some (.dat (frzM m)))
  | none => ρ
theorem fs_lock {sts : List Stmt} (i : Nat) (h1 : PSs X sts (tFS g f)) : PSs X sts (tFS g fun ρ => f (lockE i ρ)) := by
  refine PSs.imp h1 fun E σ H ⟨F, ρ, s, p⟩ => ?_
  dsimp only at p
  unfold lockE at p
  split at p
  · rename_i m e
    obtain ⟨F', _, _, s'⟩ := s.lock (ownAt_ok e)
    exact ⟨F', _, s', p⟩
  · exact ⟨F, ρ, s, p⟩
/-! ### while -/
def whileN (t : Env → Res Bool) (body : Env → Out) : Nat → Env → Out
  | 0, _ => .bad
  | n + 1, ρ => match t ρ with
    | .ok false => .nx ρ
    | .ok true => (match body ρ with
      | .nx ρ2 => whileN t body n ρ2
      | .ct ρ2 => whileN t body n ρ2
      | .bk ρ2 => .nx ρ2
      | .rt b => .rt b
      | .exc c => .exc c
      | .bad => .bad)
    | .exc c => .exc c
    | .bad => .bad
/-- a loop's turns, bounded by what the proof says -/
def whileS (m : Env → Nat) (t : Env → Res Bool) (body : Env → Out) : Env → Out := fun ρ => whileN t body (m ρ) ρ
theorem fs_while {t : Env → Res Bool} {body : List Stmt} (m : Env → Nat) (hp : PassesOwn (model X.prog X.w) X.A X.env X.xe) (hc : PT X c (tFT g t)) (hb : PSs X body (tFS g f)) : PS X (.While c body [] pos) (tFS g (whileS m t f)) := by
  refine PS.imp (ps_while hp hc hb) fun E σ H ⟨F, ρ, s, p⟩ => ?_
  refine ⟨fun n σ H => ∃ F ρ, St g F H σ ρ ∧ PostS g E (whileN t f n ρ), ⟨m ρ, F, ρ, s, p⟩, ?_⟩
  rintro n σ H ⟨F, ρ, s, p⟩
  cases n with
  | zero => exact p.elim
  | succ n =>
    unfold whileN at p
    refine runT s (fun k F1 H1 e1 g1 => ?_) (fun c e => ?_) (fun e => ?_)
    · rw [e1] at p
      cases k with
      | false => exact p σ F1 H1 (s.grow g1)
      | true =>
        dsimp only at p
        refine ⟨fun σ2 H2 => ∃ F2 ρ2, St g F2 H2 σ2 ρ2 ∧ PostS g E (whileN t f n ρ2), fun σ2 H2 h => ⟨n, Nat.lt_succ_self n, h⟩, F1, ρ, s.grow g1, ?_⟩
        cases eb : f ρ with
        | nx ρ2 => rw [eb] at p; exact fun σ4 F4 H4 s4 => ⟨F4, ρ2, s4, p⟩
        | ct ρ2 => rw [eb] at p; exact fun σ4 F4 H4 s4 => ⟨F4, ρ2, s4, p⟩
        | bk ρ2 => rw [eb] at p; exact p
        | rt b => rw [eb] at p; exact p
        | exc c => rw [eb] at p; exact p
        | bad => rw [eb] at p; exact p
    · rw [e] at p
      exact fun F' H' g1 => p F' H' (s.gr.trans g1)
    · rw [e] at p
      exact p
/-! ### for -/
def loopF (t : Tg) (body : Env → Out) : List D → Env → Out
  | [], ρ => .nx ρ
  | d :: ds, ρ => match bindT t d ρ with
    | none => .bad
    | some ρ1 => match body ρ1 with
      | .nx ρ2 => loopF t body ds ρ2
      | .ct ρ2 => loopF t body ds ρ2
      | .bk ρ2 => .nx ρ2
      | .rt b => .rt b
      | .exc c => .exc c
      | .bad => .bad
def forV (t : Tg) (it : Env → Res (List D)) (body : Env → Out) : Env → Out := fun ρ => match it ρ with
  | .ok ds => loopF t body ds ρ
  | .exc c => .exc c
  | .bad => .bad
/-- another floor: what is locked by now -/
abbrev G.fl (g : G) (F0 : Hp) : G := { g with F0 := F0 }
theorem Grow.up {F H F1 H1 F2 H2 : Hp} (a : Grow F H F1 H1) (b : Grow F1 H F2 H2) : Grow F H F2 H2 := ⟨a.fh.trans b.fh, b.hh, b.sub, fun c o h n e => b.new c o h n (a.new c o h n e)⟩
theorem Grow.down {F H F1 F2 H2 : Hp} (a : Grow F H F2 H2) (e : Same F F1) (e' : Same F1 F2) : Grow F1 H F2 H2 := ⟨e', a.hh, a.sub, fun c o h n z => a.new c o h n (e.free z)⟩
theorem St.up {F1 H1 F H : Hp} {σ : L2.St} {ρ : Env} (a : Grow g.F0 g.G0 F1 H1) (s : St (g.fl F1) F H σ ρ) : St g F H σ ρ := ⟨a.up s.gr, s.len, fun i b h => let ⟨v, h1, h2⟩ := s.at_ i b h; ⟨v, h1, by cases b <;> exact h2⟩, s.apart⟩
theorem St.down {F1 F H : Hp} {σ : L2.St} {ρ : Env} (s : St g F H σ ρ) (e : Same g.F0 F1) (e' : Same F1 F) : St (g.fl F1) F H σ ρ := ⟨s.gr.down e e', s.len, fun i b h => let ⟨v, h1, h2⟩ := s.at_ i b h; ⟨v, h1, by cases b <;> exact h2⟩, s.apart⟩
theorem fs_for {t : Tg} {tg iter : Expr} {it : Env → Res (List D)} {body : List Stmt} (hp : PassesOwn (model X.prog X.w) X.A X.env X.xe) (hc : X.calm = true) (hi : PI X tg iter (tFI g false it)) (hg : PG X tg (tFG g t)) (hb : ∀ F0, PSs X body (tFS (g.fl F0) f))
    (hs : ∀ x, foldedSetIterable iter X.env x = pure x) : PS X (.For tg iter body [] pos) (tFS g (forV t it f)) := by
  have hb' : PSs X body (fun E σ H => ∃ F0, tFS (g.fl F0) f E σ H) := ⟨fun pins s σ H E I ⟨F0, w⟩ => (hb F0).run pins s σ H E I w⟩
  refine PS.imp (ps_for hp hc hi hg hb' hs) fun E σ H ⟨F, ρ, s, p⟩ => ⟨F, ρ, s, ?_⟩
  unfold forV at p
  cases e : it ρ with
  | exc c =>
    rw [e] at p
    exact fun F' H' g1 => p F' H' (s.gr.trans g1)
  | bad =>
    rw [e] at p
    exact p
  | ok ds =>
    rw [e] at p
    intro F1 H1 J g1 ok
    refine ⟨fun i m σ' H' => m = ds.length - i ∧ i ≤ ds.length ∧ ∃ F' ρ', St g F' H' σ' ρ' ∧ PP g false F1 H1 F' H' ∧ PostS g E (loopF t f (ds.drop i) ρ'), ⟨_, rfl, Nat.zero_le _, F1, ρ, s.grow g1, ⟨Same.refl _, g1.sub, (s.gr.trans g1).hh, (fun z => by cases z)⟩, p⟩, ?_⟩
    rintro i m σ' H' ⟨rfl, hle, F', ρ', s', pp, q⟩
    by_cases hlt : i < ds.length
    · refine .inr ⟨ok.go i F' H' pp hlt, fun σ2 H2 => ∃ F2 ρ2, St g F2 H2 σ2 ρ2 ∧ PP g false F1 H1 F2 H2 ∧ PostS g E (loopF t f (ds.drop (i + 1)) ρ2), fun σ2 H2 ⟨F2, ρ2, s2, p2, q2⟩ => ⟨_, ?_, rfl, hlt, F2, ρ2, s2, p2, q2⟩, fun x H2 hy => ?_⟩
      · omega
      · have hd : ds[i]? = some ds[i] := List.getElem?_eq_getElem hlt
        obtain ⟨F2, g2, r2⟩ := ok.yld i F' H' x H2 _ pp hd hy
        have s2 := s'.grow g2
        rw [List.drop_eq_getElem_cons hlt] at q
        unfold loopF at q
        split at q
        · exact q.elim
        · rename_i ρ1 hb1
          have e01 : Same g.F0 F1 := s.gr.fh.trans g1.fh
          have a1 : Grow g.F0 g.G0 F1 H1 := s.gr.trans g1
          refine ⟨F2, ρ', _, ρ1, s2, r2, hb1, fun σ3 s3 _ => ⟨F1, F2, ρ1, s3.down e01 (pp.1.trans g2.fh), ?_⟩⟩
          cases eb : f ρ1 with
          | nx ρ2 =>
            rw [eb] at q
            exact fun σ4 F4 H4 s4 => ⟨F4, ρ2, s4.up a1, ⟨s4.gr.fh, s4.sub, s4.gr.hh, fun z => by cases z⟩, q⟩
          | ct ρ2 =>
            rw [eb] at q
            exact fun σ4 F4 H4 s4 => ⟨F4, ρ2, s4.up a1, ⟨s4.gr.fh, s4.sub, s4.gr.hh, fun z => by cases z⟩, q⟩
          | bk ρ2 =>
            rw [eb] at q
            exact fun σ4 F4 H4 s4 => q σ4 F4 H4 (s4.up a1)
          | rt b =>
            rw [eb] at q
            exact fun v F4 H4 g4 r4 => q v F4 H4 (a1.up g4) (by cases b <;> exact r4)
          | exc c =>
            rw [eb] at q
            exact fun F4 H4 g4 => q F4 H4 (a1.up g4)
          | bad =>
            rw [eb] at q
            exact q
    · have he : i = ds.length := by omega
      subst he
      rw [List.drop_length] at q
      exact .inl ⟨ok.stop _ F' H' pp (Nat.le_refl _), q _ _ _ s'⟩
end
end Fn
namespace Fn
open PySem PySem.Spec PyProof.Rows L2
/-! ### what a body's context gives -/
/-- names that the text reads beside its defs: builtins, and constants of the top with their values -/
structure Bt where
  bi : List Str
  cs : List (Str × D)
structure BiOk (K : PySem.W.Frag) (fa : Nat → Option Addr) (mg : Str → Option Value) (bt : Bt) : Prop where
  bi : ∀ x ∈ bt.bi, mg x = none
  cs : ∀ p ∈ bt.cs, ∃ v u, mg p.1 = some u ∧ RelV v u ∧ ∀ F, Rp K fa F v p.2
structure CT (X : Cx) (g : G) (cls : Nat → Value) (k : Nat) (tab : List En) (N : List Str) (sc : Scope) (bt : Bt) : Prop where
  hK : g.K = X.K
  calm : X.calm = true
  hN : X.N = N
  nd : N.Nodup
  hS : X.env.scope = sc
  room : Room k X.A
  tab : TabOk X g.fa cls k tab
  pz : Pz X g cls
  bi : BiOk X.K g.fa X.mg bt
def nmOk (x : Str) : Bool := !(x == ("__debug__" : Str)) && !(x == ("__classdict__" : Str)) && !(x == ("__name__" : Str))
def visC (sc : Scope) (x : Str) : Bool := match sc.names.lookup x with
  | some .local => true
  | some .cell => true
  | some .free => true
  | _ => false
def vOk (N : List Str) (sc : Scope) (i : Nat) (x : Str) : Bool := decide (N[i]? = some x) && visC sc x && nmOk x
def lOk (N : List Str) (sc : Scope) (i : Nat) (x : Str) : Bool := decide (N[i]? = some x) && decide (sc.names.lookup x = some .local)
def gOk (sc : Scope) (bt : Bt) (x : Str) : Bool := decide (sc.names.lookup x = some .globalImplicit) && decide (x ∈ bt.bi)
def dOk (sc : Scope) (x : Str) : Bool := decide (sc.names.lookup x = some .globalImplicit) && nmOk x
theorem nmOk_ok {x : Str} (h : nmOk x = true) : (x == ("__debug__" : Str)) = false ∧ (x == ("__classdict__" : Str)) = false ∧ (x == ("__name__" : Str)) = false := by
  unfold nmOk at h
  simp only [Bool.and_eq_true, Bool.not_eq_true'] at h
  exact ⟨h.1.1, h.1.2, h.2⟩
theorem visC_ok {sc : Scope} {x : Str} (h : visC sc x = true) : Vis sc x := by
  unfold visC at h
  split at h
  · rename_i e; exact .inl e
  · rename_i e; exact .inr (.inl e)
  · rename_i e; exact .inr (.inr e)
  · cases h
section
variable {X : Cx} {g : G} {cls : Nat → Value} {k : Nat} {tab : List En} {N : List Str} {sc : Scope} {bt : Bt} {a b c : Expr} {pos : Pos} {fa fb fc : Env → Res B}
theorem CT.fl (C : CT X g cls k tab N sc bt) (F0 : Hp) : CT X (g.fl F0) cls k tab N sc bt := ⟨C.hK, C.calm, C.hN, C.nd, C.hS, C.room, C.tab, C.pz, C.bi⟩
theorem CT.hu (C : CT X g cls k tab N sc bt) : X.A.units + 200 < cLine := by have := C.room.un; omega
theorem CT.gl (C : CT X g cls k tab N sc bt) {x : Str} (h : sc.names.lookup x = some .globalImplicit) : Gl X x := by
  show X.env.scope.names.lookup x = _
  rw [C.hS]
  exact h
theorem CT.bl (C : CT X g cls k tab N sc bt) {x : Str} (h : gOk sc bt x = true) : Gl X x ∧ X.mg x = none := by
  unfold gOk at h
  rw [Bool.and_eq_true, decide_eq_true_eq, decide_eq_true_eq] at h
  exact ⟨C.gl h.1, C.bi.bi x h.2⟩
theorem CT.vo (C : CT X g cls k tab N sc bt) {i : Nat} {x : Str} (h : vOk N sc i x = true) : X.N[i]? = some x ∧ Vis X.env.scope x ∧ (x == ("__debug__" : Str)) = false ∧ (x == ("__classdict__" : Str)) = false := by
  unfold vOk at h
  simp only [Bool.and_eq_true, decide_eq_true_eq] at h
  obtain ⟨⟨h1, h2⟩, h3⟩ := h
  exact ⟨by rw [C.hN]; exact h1, by rw [C.hS]; exact visC_ok h2, (nmOk_ok h3).1, (nmOk_ok h3).2.1⟩
theorem CT.lo (C : CT X g cls k tab N sc bt) {i : Nat} {x : Str} (h : lOk N sc i x = true) : X.N[i]? = some x ∧ X.env.scope.names.lookup x = some .local := by
  unfold lOk at h
  simp only [Bool.and_eq_true, decide_eq_true_eq] at h
  exact ⟨by rw [C.hN]; exact h.1, by rw [C.hS]; exact h.2⟩
theorem CT.nd' (C : CT X g cls k tab N sc bt) : X.N.Nodup := by rw [C.hN]; exact C.nd
theorem CT.var (C : CT X g cls k tab N sc bt) (i : Nat) {x : Str} (h : vOk N sc i x = true) : PE X (.Name x pos) (tF g (varB i)) := by
  obtain ⟨h1, h2, h3, h4⟩ := C.vo h
  exact PE.imp (pe_var h1 h2 h3 h4) fun _ _ _ q => var_run q
theorem fe_int {i : Int} {j} : PE X (.Constant (.int i) j pos) (tF g fun _ => .ok (.dat (.int i))) := PE.imp pe_int fun _ _ _ q => con_run (fun _ => .int i) q
theorem fe_bl {i : Bool} {j} : PE X (.Constant (.bool i) j pos) (tF g fun _ => .ok (.dat (.bl i))) := PE.imp pe_bl fun _ _ _ q => con_run (fun _ => .bl i) q
theorem fe_str {i : Str} {j} : PE X (.Constant (.str i) j pos) (tF g fun _ => .ok (.dat (.str i))) := PE.imp pe_str fun _ _ _ q => con_run (fun _ => .str i) q
theorem fe_non {j} : PE X (.Constant .none j pos) (tF g fun _ => .ok (.dat .non)) := PE.imp pe_non fun _ _ _ q => con_run (fun _ => .non) q
theorem CT.con (C : CT X g cls k tab N sc bt) (j : Nat) {x : Str} {d : D} (h : bt.cs[j]? = some (x, d)) (hg : dOk sc x = true) : PE X (.Name x pos) (tF g fun _ => .ok (.dat d)) := by
  unfold dOk at hg
  rw [Bool.and_eq_true, decide_eq_true_eq] at hg
  obtain ⟨v, u, h1, h2, h3⟩ := C.bi.cs (x, d) (List.mem_of_getElem? h)
  exact PE.imp (pe_glob (v := v) (C.gl hg.1) h1 h2 (nmOk_ok hg.2).1) fun _ _ _ q => con_run (fun F => by rw [C.hK]; exact h3 F) q
/-! operators -/
theorem CT.add (C : CT X g cls k tab N sc bt) (ha : PE X a (tF g fa)) (hb : PE X b (tF g fb)) : PE X (.BinOp a .Add b pos) (tF g (bin2 addB fa fb)) := fe_bin op_addF (g_add C.hK) ha hb
theorem CT.sub (C : CT X g cls k tab N sc bt) (ha : PE X a (tF g fa)) (hb : PE X b (tF g fb)) : PE X (.BinOp a .Sub b pos) (tF g (bin2 subB fa fb)) := fe_bin op_sub g_sub ha hb
theorem CT.mul (C : CT X g cls k tab N sc bt) (ha : PE X a (tF g fa)) (hb : PE X b (tF g fb)) : PE X (.BinOp a .Mult b pos) (tF g (bin2 mulB fa fb)) := fe_bin op_mulF g_mul ha hb
theorem CT.div (C : CT X g cls k tab N sc bt) (ha : PE X a (tF g fa)) (hb : PE X b (tF g fb)) : PE X (.BinOp a .FloorDiv b pos) (tF g (bin2 divB fa fb)) := fe_bin op_fdivG g_div ha hb
theorem CT.mod (C : CT X g cls k tab N sc bt) (ha : PE X a (tF g fa)) (hb : PE X b (tF g fb)) : PE X (.BinOp a .Mod b pos) (tF g (bin2 modB fa fb)) := fe_bin op_modG g_mod ha hb
theorem CT.shl (C : CT X g cls k tab N sc bt) (ha : PE X a (tF g fa)) (hb : PE X b (tF g fb)) : PE X (.BinOp a .LShift b pos) (tF g (bin2 shlB fa fb)) := fe_bin op_shl g_shl ha hb
theorem CT.shr (C : CT X g cls k tab N sc bt) (ha : PE X a (tF g fa)) (hb : PE X b (tF g fb)) : PE X (.BinOp a .RShift b pos) (tF g (bin2 shrB fa fb)) := fe_bin op_shr g_shr ha hb
theorem CT.band (C : CT X g cls k tab N sc bt) (ha : PE X a (tF g fa)) (hb : PE X b (tF g fb)) : PE X (.BinOp a .BitAnd b pos) (tF g (bin2 andB fa fb)) := fe_bin op_and g_and ha hb
theorem CT.pow (C : CT X g cls k tab N sc bt) (ha : PE X a (tF g fa)) (hb : PE X b (tF g fb)) : PE X (.BinOp a .Pow b pos) (tF g (bin2 powB fa fb)) := fe_bin op_pow g_pow ha hb
/-- a compare, as a pair of rule and reading -/
structure CmpW (X : Cx) (g : G) (op : CmpOp) (f : B → B → Res B) : Prop where
  ex : ∃ r, OpR X (compareOp op) r ∧ OpG g r f
theorem CT.hu64 (C : CT X g cls k tab N sc bt) : X.A.units + 64 < cLine := by have := C.hu; omega
theorem CT.hu100 (C : CT X g cls k tab N sc bt) : X.A.units + 100 < cLine := by have := C.hu; omega
theorem CT.hu1 (C : CT X g cls k tab N sc bt) : X.A.units + 1 < cLine := by have := C.hu; omega
def leF : B → B → Res B := cmpI fun i j => decide (i ≤ j)
def gtF : B → B → Res B := cmpI fun i j => decide (j < i)
def geF : B → B → Res B := cmpI fun i j => decide (j ≤ i)
theorem CT.eq (C : CT X g cls k tab N sc bt) : CmpW X g .Eq eqB := ⟨_, op_eqD C.hu64, g_eq C.hK⟩
theorem CT.ne (C : CT X g cls k tab N sc bt) : CmpW X g .NotEq neB := ⟨_, op_neD C.hu64, g_ne C.hK⟩
theorem CT.lt (C : CT X g cls k tab N sc bt) : CmpW X g .Lt ltB := ⟨_, op_ltF C.hu64, g_lt C.hK⟩
theorem CT.le (C : CT X g cls k tab N sc bt) : CmpW X g .LtE leF := ⟨_, op_le, g_cmpI⟩
theorem CT.gt (C : CT X g cls k tab N sc bt) : CmpW X g .Gt gtF := ⟨_, op_gt, g_cmpI⟩
theorem CT.ge (C : CT X g cls k tab N sc bt) : CmpW X g .GtE geF := ⟨_, op_ge, g_cmpI⟩
theorem CT.is (C : CT X g cls k tab N sc bt) : CmpW X g .Is (isB false) := ⟨_, op_isF, g_is⟩
theorem CT.isn (C : CT X g cls k tab N sc bt) : CmpW X g .IsNot (isB true) := ⟨_, op_isNotF, g_isNot⟩
theorem CT.inn (C : CT X g cls k tab N sc bt) : CmpW X g .In (inB false) := ⟨_, op_inF C.hu100, g_in C.hK⟩
theorem CT.nin (C : CT X g cls k tab N sc bt) : CmpW X g .NotIn (inB true) := ⟨_, op_notInF C.hu100, g_in C.hK⟩
theorem cmpE {op : CmpOp} {f : B → B → Res B} (w : CmpW X g op f) (ha : PE X a (tF g fa)) (hb : PE X b (tF g fb)) (hm : nset b = true) : PE X (.Compare a [op] [b] pos) (tF g (bin2 f fa fb)) := by
  obtain ⟨r, h1, h2⟩ := w.ex
  exact fe_cmp h1 h2 ha hb (nset_mark hm)
theorem cmpT {op : CmpOp} {f : B → B → Res B} (w : CmpW X g op f) (ha : PE X a (tF g fa)) (hb : PE X b (tF g fb)) (hm : nset b = true) : PT X (.Compare a [op] [b] pos) (tFT g fun ρ => (bin2 f fa fb ρ).bind tstB) := by
  obtain ⟨r, h1, h2⟩ := w.ex
  exact ft_cmp h1 h2 ha hb (nset_mark hm)
theorem chainE {op op' : CmpOp} {f f' : B → B → Res B} (w : CmpW X g op f) (w' : CmpW X g op' f') (ha : PE X a (tF g fa)) (hb : PE X b (tF g fb)) (hc : PE X c (tF g fc)) (hm : nset c = true) : PE X (.Compare a [op, op'] [b, c] pos) (tF g (chn f f' fa fb fc)) := by
  obtain ⟨r, h1, h2⟩ := w.ex
  obtain ⟨r', h1', h2'⟩ := w'.ex
  exact fe_chain h1 h2 h1' h2' ha hb hc hm
theorem chainT {op op' : CmpOp} {f f' : B → B → Res B} (w : CmpW X g op f) (w' : CmpW X g op' f') (ha : PE X a (tF g fa)) (hb : PE X b (tF g fb)) (hc : PE X c (tF g fc)) (hm : nset c = true) : PT X (.Compare a [op, op'] [b, c] pos) (tFT g fun ρ => (chn f f' fa fb fc ρ).bind tstB) := by
  obtain ⟨r, h1, h2⟩ := w.ex
  obtain ⟨r', h1', h2'⟩ := w'.ex
  exact ft_chain h1 h2 h1' h2' ha hb hc hm
theorem CT.val (C : CT X g cls k tab N sc bt) (ha : PE X a (tF g fa)) (hp : plainT a = true) : PT X a (tFT g (testV fa)) := ft_val C.hK hp ha
theorem CT.idx (C : CT X g cls k tab N sc bt) (ha : PE X a (tF g fa)) (hb : PE X b (tF g fb)) (hp : nsl b = true) : PE X (.Subscript a b pos) (tF g (bin2 idxB fa fb)) := fe_idx C.hu100 C.hK (nsl_ix hp) ha hb
theorem CT.slc (C : CT X g cls k tab N sc bt) {lo hi : Option Expr} {fl fh : Env → Res (Option Int)} {p2 : Pos} (ha : PE X a (tF g fa)) (hl : PO X lo (tFO g fl)) (hh : PO X hi (tFO g fh)) : PE X (.Subscript a (.Slice lo hi none p2) pos) (tF g (slcV fa fl fh)) := fe_slice C.hK ha hl hh
/-! builtins -/
variable {x : Str} {p : Pos} {e : Expr} {es : List Expr} {fs : Env → Res (List B)}
/-- a builtin, with what it reads as -/
structure BiW (X : Cx) (g : G) (x : Str) (f : List B → Res B) : Prop where
  ex : (∃ id r, CallR X (.builtin id) r ∧ bootBuiltins x = some (.builtin id) ∧ CallG g r f) ∨ ∃ T r, CallR X (.type T) r ∧ bootBuiltins x = some (.type T) ∧ CallG g r f
theorem CT.len (C : CT X g cls k tab N sc bt) : BiW X g "len" lenB := ⟨.inl ⟨_, _, c_len, PySem.boot_len, g_len C.hK⟩⟩
theorem CT.call (C : CT X g cls k tab N sc bt) {f : List B → Res B} (w : BiW X g x f) (ha : PA X (e :: es) (tFA g fs)) (hg : gOk sc bt x = true) (hn : nmOk x = true) (hst : (e :: es).all nst = true) : PE X (.Call (.Name x p) (e :: es) [] pos) (tF g fun ρ => (fs ρ).bind f) := by
  obtain ⟨h1, h2⟩ := C.bl hg
  obtain ⟨n1, _, n2⟩ := nmOk_ok hn
  have n3 : x ≠ "__name__" := fun z => by rw [z] at n2; revert n2; decide
  rcases w.ex with ⟨id, r, c1, c2, c3⟩ | ⟨T, r, c1, c2, c3⟩
  · exact fe_callB c1 h1 h2 c2 c3 ha n3 n1 hst
  · exact fe_callTy c1 h1 h2 c2 c3 ha n3 n1 hst
theorem CT.own (C : CT X g cls k tab N sc bt) (j : Nat) {en : En} (ha : PA X (e :: es) (tFA g fs)) (hk : tab[j]? = some en) (hx : x = en.name) (hg : dOk sc x = true) (hst : (e :: es).all nst = true) : PE X (.Call (.Name x p) (e :: es) [] pos) (tF g fun ρ => (fs ρ).bind fun bs => (lenA en.n bs).bind (callV en)) := by
  unfold dOk at hg
  rw [Bool.and_eq_true, decide_eq_true_eq] at hg
  exact fe_call C.tab C.room C.pz hk hx C.hK (C.gl hg.1) ha (nmOk_ok hg.2).1 hst
theorem CT.isi (C : CT X g cls k tab N sc bt) (t : Ty) {p2 : Pos} (ha : PE X a (tF g fa)) (hx : x = Str.ofString t.nm) (h1 : gOk sc bt "isinstance" = true) (h2 : gOk sc bt x = true) (hb : bootBuiltins x = some (.type t.nm)) (hn : nst a = true) :
    PE X (.Call (.Name "isinstance" p) [a, .Name x p2] [] pos) (tF g (one1 (isiB t) fa)) := fe_isi C.hK (C.bl h1).1 (C.bl h1).2 hx (C.bl h2).1 (C.bl h2).2 hb hn ha
/-! comprehensions -/
theorem iter_plain {iter : Expr} (h : nset iter = true) (env : PySem.Env) : ∀ x, foldedSetIterable iter env x = pure x := by
  intro x
  cases iter <;> first | rfl | cases h
theorem pass0L {X : Cx} : Passes (L2.CX X.prog X.w) X (fun _ _ _ => False) := L2.passL
theorem CT.blk (C : CT X g cls k tab N sc bt) {scope : Scope} (s : Shared) (H : Hp) (A : Addr) (cl : List (Str × Addr)) (fp : List Addr) : CT (X.blk s H scope (compEnvC scope cl A X.env) fp) g.mute cls k tab N (relS scope sc) bt :=
  ⟨C.hK, C.calm, C.hN, C.nd, by rw [← C.hS]; rfl, C.room, ⟨fun j en h => C.tab.at_ j en h⟩, ⟨_, pass0L, fun _ _ h => h⟩, C.bi⟩
structure Inn (X : Cx) (g : G) (tg : Expr) (ifs : List Expr) (elt : Expr) (t : Tg) (c : Env → Res Bool) (fe : Env → Res B) : Prop where
  tg : PG X tg (tFG g t)
  ifs : PTs X ifs (tFT g c)
  elt : PE X elt (tF g fe)
def lcOk (N : List Str) (sc scope : Scope) (own : List (Str × Nat)) (t : Tg) (iter : Expr) : Bool := blkC N sc scope own && (t.slots.all fun i => decide (i ∈ own.map (·.2))) && nset iter
theorem CT.lc (C : CT X g cls k tab N sc bt) {t : Tg} {it : Env → Res (List D)} {c : Env → Res Bool} {fe : Env → Res B} {elt tg iter : Expr} {ifs : List Expr} {scope : Scope} (own : List (Str × Nat)) (hi : PI X tg iter (tFI g true it))
    (inn : ∀ {X' : Cx} {g' : G}, CT X' g' cls k tab N (relS scope sc) bt → Inn X' g' tg ifs elt t c fe) (ok : lcOk N sc scope own t iter = true) : PE X (.ListComp elt [⟨tg, iter, ifs, 0⟩] scope pos) (tF g (compV t it c fe (own.map (·.2)))) := by
  unfold lcOk at ok
  simp only [Bool.and_eq_true, List.all_eq_true, decide_eq_true_eq] at ok
  obtain ⟨⟨h1, h2⟩, h3⟩ := ok
  exact fe_lc C.calm C.nd' hi (by rw [C.hN, C.hS]; exact blkOk_by h1) h2 (fun s H A cl fp => (inn (C.blk s H A cl fp)).tg) (fun s H A cl fp => (inn (C.blk s H A cl fp)).ifs) (fun s H A cl fp => (inn (C.blk s H A cl fp)).elt) (iter_plain h3 _)
theorem ifs0 : PTs X [] (tFT g fun _ => .ok true) := ⟨fun pins s σ H Q I ⟨F, ρ, st, q⟩ => pts_nil.run pins s σ H Q I (q F H (Grow.refl st.sub))⟩
theorem ifs1 {t : Env → Res Bool} (h : PT X a (tFT g t)) : PTs X [a] (tFT g t) := pts_one h
theorem CT.g1 (C : CT X g cls k tab N sc bt) (i : Nat) (h : lOk N sc i x = true) : PG X (.Name x pos) (tFG g (.one i)) := fg_one C.nd' (C.lo h).1 (.inl (C.lo h).2) (.inr (C.lo h).2)
def namesOf : List Expr → Option (List Str)
  | [] => some []
  | .Name x _ :: r => (namesOf r).map (x :: ·)
  | _ => none
theorem CT.gs (C : CT X g cls k tab N sc bt) : ∀ (is : List Nat) (es : List Expr) (xs : List Str), namesOf es = some xs → xs.length = is.length → ((is.zip xs).all fun p => lOk N sc p.1 p.2) = true →
    PGs X es (gPut is) ∧ (assignEach es X.env).length = is.length ∧ (assignEach es X.env).findIdx? (·.1) = none
  | [], [], [], _, _, _ => ⟨pgs_nil, rfl, rfl⟩
  | i :: is, .Name x p :: es, xs, h, hl, ha => by
    unfold namesOf at h
    cases e : namesOf es with
    | none => rw [e] at h; cases h
    | some ys =>
      rw [e] at h
      cases h
      simp only [List.zip_cons_cons, List.all_cons, Bool.and_eq_true] at ha
      obtain ⟨q1, q2, q3⟩ := C.gs is es ys e (by simpa using hl) ha.2
      refine ⟨pgs_cons (pg_name C.nd' (C.lo ha.1).1 (.inl (C.lo ha.1).2) (.inr (C.lo ha.1).2)) q1, ?_, ?_⟩
      · show (_ :: assignEach es X.env).length = _
        rw [List.length_cons, q2, List.length_cons]
      · show List.findIdx? _ ((false, _) :: assignEach es X.env) = none
        rw [List.findIdx?_cons, q3]
        rfl
  | [], .Name _ _ :: _, xs, h, hl, _ => by
    unfold namesOf at h
    cases e : namesOf _ with
    | none => rw [e] at h; cases h
    | some ys => rw [e] at h; cases h; cases hl
  | _ :: _, [], xs, h, hl, _ => by cases h; cases hl
def gsOk (N : List Str) (sc : Scope) (is : List Nat) (es : List Expr) : Bool := match namesOf es with
  | some xs => decide (xs.length = is.length) && (is.zip xs).all fun p => lOk N sc p.1 p.2
  | none => false
theorem CT.gm (C : CT X g cls k tab N sc bt) (is : List Nat) {n : Nat} (h : gsOk N sc is es = true) : PG X (.Tuple es n pos) (tFG g (.many is)) := by
  unfold gsOk at h
  split at h
  · rename_i xs e
    rw [Bool.and_eq_true, decide_eq_true_eq] at h
    obtain ⟨h1, h2, h3⟩ := C.gs is es xs e h.1 h.2
    exact fg_many C.calm C.hK h1 h2 h3
  · cases h
theorem CT.it (C : CT X g cls k tab N sc bt) {lk : Bool} {tg : Expr} (ha : PE X a (tF g fa)) : PI X tg a (tFI g lk fun ρ => (fa ρ).bind fun x => itemsB lk (rd x)) := fi_seq C.hK ha
theorem CT.rg1 (C : CT X g cls k tab N sc bt) {lk : Bool} {tg : Expr} (ha : PE X a (tF g fa)) (hg : gOk sc bt "range" = true) (hn : nst a = true) : PI X tg (.Call (.Name "range" p) [a] [] pos) (tFI g lk fun ρ => (consA fa (fun _ => .ok []) ρ).bind rngA) := by
  refine fi_range1 (C.bl hg).1 (C.bl hg).2 hn (fa_cons hn ha fa_nil) fun ρ bs h => ?_
  unfold consA at h
  cases e : fa ρ with
  | ok b => rw [e] at h; cases h; rfl
  | exc c => rw [e] at h; cases h
  | bad => rw [e] at h; cases h
theorem CT.rg2 (C : CT X g cls k tab N sc bt) {lk : Bool} {tg : Expr} (ha : PE X a (tF g fa)) (hb : PE X b (tF g fb)) (hg : gOk sc bt "range" = true) (hn : nst a = true) (hn2 : nst b = true) : PI X tg (.Call (.Name "range" p) [a, b] [] pos) (tFI g lk fun ρ => (consA fa (consA fb fun _ => .ok []) ρ).bind rngA) := by
  refine fi_range2 (C.bl hg).1 (C.bl hg).2 hn hn2 (fa_cons hn ha (fa_cons hn2 hb fa_nil)) fun ρ bs h => ?_
  unfold consA at h
  cases e : fa ρ with
  | ok b =>
    rw [e] at h
    cases e2 : fb ρ with
    | ok b2 => rw [Res.ok_bind, e2] at h; cases h; rfl
    | exc c => rw [Res.ok_bind, e2] at h; cases h
    | bad => rw [Res.ok_bind, e2] at h; cases h
  | exc c => rw [e] at h; cases h
  | bad => rw [e] at h; cases h
end
end Fn
namespace Fn
open PySem PySem.Spec PyProof.Rows L2
theorem boot_abs : bootBuiltins "abs" = some (.builtin "abs") := by decide +kernel
theorem boot_any : bootBuiltins "any" = some (.builtin "any") := by decide +kernel
theorem boot_all : bootBuiltins "all" = some (.builtin "all") := by decide +kernel
theorem boot_min : bootBuiltins "min" = some (.builtin "min") := by decide +kernel
theorem boot_max : bootBuiltins "max" = some (.builtin "max") := by decide +kernel
theorem boot_sum : bootBuiltins "sum" = some (.builtin "sum") := by decide +kernel
theorem boot_sorted : bootBuiltins "sorted" = some (.builtin "sorted") := by decide +kernel
theorem boot_int : bootBuiltins "int" = some (.type "int") := by decide +kernel
theorem boot_str : bootBuiltins "str" = some (.type "str") := by decide +kernel
theorem boot_tuple : bootBuiltins "tuple" = some (.type "tuple") := by decide +kernel
theorem boot_list : bootBuiltins "list" = some (.type "list") := by decide +kernel
theorem boot_dict : bootBuiltins "dict" = some (.type "dict") := by decide +kernel
theorem boot_bool : bootBuiltins "bool" = some (.type "bool") := by decide +kernel
section
variable {X : Cx} {g : G} {cls : Nat → Value} {k : Nat} {tab : List En} {N : List Str} {sc : Scope} {bt : Bt} {a b c : Expr} {pos : Pos} {fa fb fc : Env → Res B} {f h : Env → Out} {x : Str} {e : Expr} {st : Stmt} {rest body : List Stmt}
theorem CT.abs (C : CT X g cls k tab N sc bt) : BiW X g "abs" absF := ⟨.inl ⟨_, _, call_abs, boot_abs, g_abs⟩⟩
theorem CT.min (C : CT X g cls k tab N sc bt) : BiW X g "min" minF := ⟨.inl ⟨_, _, c_min C.calm, boot_min, g_min C.hK⟩⟩
theorem CT.max (C : CT X g cls k tab N sc bt) : BiW X g "max" maxF := ⟨.inl ⟨_, _, c_max C.calm, boot_max, g_max C.hK⟩⟩
theorem CT.sum (C : CT X g cls k tab N sc bt) : BiW X g "sum" sumF := ⟨.inl ⟨_, _, cr_sum C.calm, boot_sum, g_sum C.hK⟩⟩
theorem CT.any (C : CT X g cls k tab N sc bt) : BiW X g "any" anyF := ⟨.inl ⟨_, _, cr_any C.calm, boot_any, g_any C.hK⟩⟩
theorem CT.all (C : CT X g cls k tab N sc bt) : BiW X g "all" allF := ⟨.inl ⟨_, _, cr_all C.calm, boot_all, g_all C.hK⟩⟩
theorem CT.int (C : CT X g cls k tab N sc bt) : BiW X g "int" intF := ⟨.inr ⟨_, _, call_int1, boot_int, g_int⟩⟩
theorem CT.str (C : CT X g cls k tab N sc bt) : BiW X g "str" strF := ⟨.inr ⟨_, _, call_str_int, boot_str, g_str⟩⟩
theorem CT.tup (C : CT X g cls k tab N sc bt) : BiW X g "tuple" tupF := ⟨.inr ⟨_, _, call_tuple_of, boot_tuple, g_tupF C.hK⟩⟩
theorem CT.lst (C : CT X g cls k tab N sc bt) : BiW X g "list" lstF := ⟨.inr ⟨_, _, call_list_of, boot_list, g_lstF C.hK⟩⟩
theorem CT.sort (C : CT X g cls k tab N sc bt) : BiW X g "sorted" sortF := ⟨.inl ⟨_, _, c_sort C.calm C.hu, boot_sorted, g_sort C.hK⟩⟩
end
/-! ### statements -/
def dropS (_ : B) (ρ : Env) : Out := .nx ρ
theorem fs_expr {X : Cx} {g : G} {e : Expr} {fa : Env → Res B} {pos : Pos} (he : PE X e (tF g fa)) (hs : swapsWith e none pos.line X.env = pure false) : PS X (.Expr e pos) (tFS g (thenS fa dropS)) := by
  refine PS.imp (ps_expr he hs) fun E σ H h => ?_
  exact then_run (k := dropS) (E := E) (Q := fun _ H1 => E.nx σ H1) h fun F ρ b v F1 H1 s g1 r1 p => p σ F1 H1 (s.grow g1)
structure CS (X : Cx) (g : G) (cls : Nat → Value) (k : Nat) (tab : List En) (N : List Str) (sc : Scope) (bt : Bt) : Prop where
  ct : CT X g cls k tab N sc bt
  po : PassesOwn (model X.prog X.w) X.A X.env X.xe
  fn : ∀ x, X.fn x = true
def nlc : Expr → Bool
  | .ListComp .. => false
  | .SetComp .. => false
  | .DictComp .. => false
  | _ => true
theorem sw_no {e : Expr} {t : Option Expr} {l : Nat} {env : PySem.Env} (h : nlc e = true) : swapsWith e t l env = pure false := by
  cases e <;> first | rfl | cases h
theorem sw_sub {e : Expr} {o i : Expr} {p : Pos} {l : Nat} {env : PySem.Env} : swapsWith e (some (.Subscript o i p)) l env = pure false := by
  cases e <;> rfl
def swC (sc scope : Scope) (t : Str) (l1 l2 : Nat) : Bool :=
  ((if sc.kind.isAnnotationScope then ScopeKind.function else sc.kind) == .function && sc.names.lookup t == some .local && l1 == l2) && !(scope.names.any fun (n, k) => n == t && (k == .local || k == .cell))
theorem sw_lc {elt : Expr} {gs : List Comprehension} {scope : Scope} {pos : Pos} {t : Str} {p : Pos} {l : Nat} {env : PySem.Env} {sc : Scope} (h : env.scope = sc) : swapsWith (.ListComp elt gs scope pos) (some (.Name t p)) l env = pure (swC sc scope t p.line pos.line) := by
  subst h
  rfl
def aOk (N : List Str) (sc : Scope) (i : Nat) (x : Str) : Bool := decide (N[i]? = some x) && (match sc.names.lookup x with
  | some .local => true
  | some .cell => true
  | _ => false)
section
variable {X : Cx} {g : G} {cls : Nat → Value} {k : Nat} {tab : List En} {N : List Str} {sc : Scope} {bt : Bt} {a b c : Expr} {pos : Pos} {fa fb fc : Env → Res B} {f h : Env → Out} {x y : Str} {e : Expr} {st : Stmt} {rest body : List Stmt} {i j : Nat} {t : Tg}
theorem CS.fl (C : CS X g cls k tab N sc bt) (F0 : Hp) : CS X (g.fl F0) cls k tab N sc bt := ⟨C.ct.fl F0, C.po, C.fn⟩
theorem CS.ao (C : CS X g cls k tab N sc bt) {i : Nat} {x : Str} (h : aOk N sc i x = true) : X.N[i]? = some x ∧ Loc X.env.scope x := by
  unfold aOk at h
  rw [Bool.and_eq_true, decide_eq_true_eq] at h
  refine ⟨by rw [C.ct.hN]; exact h.1, ?_⟩
  rw [C.ct.hS]
  have h2 := h.2
  split at h2
  · rename_i e; exact .inl e
  · rename_i e; exact .inr e
  · cases h2
theorem CS.asg (C : CS X g cls k tab N sc bt) (i : Nat) {p : Pos} (he : PE X e (tF g fa)) (h : aOk N sc i x = true) (hl : nlc e = true) : PS X (.Assign [.Name x p] e pos) (tFS g (thenS fa (setV i))) :=
  fs_asg C.ct.nd' (C.ao h).1 (C.ao h).2 he (sw_no hl) (.inl (C.fn x))
theorem CS.asgLc (C : CS X g cls k tab N sc bt) (i : Nat) {it : Env → Res (List D)} {c : Env → Res Bool} {fe : Env → Res B} {elt tg iter : Expr} {ifs : List Expr} {scope : Scope} {p spos : Pos} (own : List (Str × Nat)) (hi : PI X tg iter (tFI g true it))
    (inn : ∀ {X' : Cx} {g' : G}, CT X' g' cls k tab N (relS scope sc) bt → Inn X' g' tg ifs elt t c fe) (ok : lcOk N sc scope own t iter = true) (h : aOk N sc i x = true) : PS X (.Assign [.Name x p] (.ListComp elt [⟨tg, iter, ifs, 0⟩] scope pos) spos) (tFS g (thenS (compV t it c fe (own.map (·.2))) (setV i))) := by
  cases hs : swC sc scope x p.line pos.line with
  | false => exact fs_asg C.ct.nd' (C.ao h).1 (C.ao h).2 (C.ct.lc own hi inn ok) (by rw [sw_lc C.ct.hS, hs]) (.inl (C.fn x))
  | true =>
    have hl : X.env.scope.names.lookup x = some .local := by
      unfold swC at hs
      simp only [Bool.and_eq_true, beq_iff_eq] at hs
      rw [C.ct.hS]
      exact hs.1.1.2
    unfold lcOk at ok
    simp only [Bool.and_eq_true, List.all_eq_true, decide_eq_true_eq] at ok
    obtain ⟨⟨h1, h2⟩, h3⟩ := ok
    exact fs_asgLc C.ct.calm C.ct.nd' (C.ao h).1 hl (by rw [sw_lc C.ct.hS, hs]) hi (by rw [C.ct.hN, C.ct.hS]; exact blkOk_by h1) h2 (fun s H A cl fp => (inn (C.ct.blk s H A cl fp)).tg) (fun s H A cl fp => (inn (C.ct.blk s H A cl fp)).ifs) (fun s H A cl fp => (inn (C.ct.blk s H A cl fp)).elt) (iter_plain h3 _)
theorem CS.g1 (C : CS X g cls k tab N sc bt) (i : Nat) (h : aOk N sc i x = true) : PG X (.Name x pos) (tFG g (.one i)) := fg_one C.ct.nd' (C.ao h).1 (C.ao h).2 (.inl (C.fn x))
theorem CS.gs (C : CS X g cls k tab N sc bt) : ∀ (is : List Nat) (es : List Expr) (xs : List Str), namesOf es = some xs → xs.length = is.length → ((is.zip xs).all fun p => aOk N sc p.1 p.2) = true →
    PGs X es (gPut is) ∧ (assignEach es X.env).length = is.length ∧ (assignEach es X.env).findIdx? (·.1) = none
  | [], [], [], _, _, _ => ⟨pgs_nil, rfl, rfl⟩
  | i :: is, .Name x p :: es, xs, h, hl, ha => by
    unfold namesOf at h
    cases e : namesOf es with
    | none => rw [e] at h; cases h
    | some ys =>
      rw [e] at h
      cases h
      simp only [List.zip_cons_cons, List.all_cons, Bool.and_eq_true] at ha
      obtain ⟨q1, q2, q3⟩ := C.gs is es ys e (by simpa using hl) ha.2
      refine ⟨pgs_cons (pg_name C.ct.nd' (C.ao ha.1).1 (C.ao ha.1).2 (.inl (C.fn _))) q1, ?_, ?_⟩
      · show (_ :: assignEach es X.env).length = _
        rw [List.length_cons, q2, List.length_cons]
      · show List.findIdx? _ ((false, _) :: assignEach es X.env) = none
        rw [List.findIdx?_cons, q3]
        rfl
  | [], .Name _ _ :: _, xs, h, hl, _ => by
    unfold namesOf at h
    cases e : namesOf _ with
    | none => rw [e] at h; cases h
    | some ys => rw [e] at h; cases h; cases hl
  | _ :: _, [], xs, h, hl, _ => by cases h; cases hl
def gsOkS (N : List Str) (sc : Scope) (is : List Nat) (es : List Expr) : Bool := match namesOf es with
  | some xs => decide (xs.length = is.length) && (is.zip xs).all fun p => aOk N sc p.1 p.2
  | none => false
theorem CS.gm (C : CS X g cls k tab N sc bt) (is : List Nat) {es : List Expr} {n : Nat} (h : gsOkS N sc is es = true) : PG X (.Tuple es n pos) (tFG g (.many is)) := by
  unfold gsOkS at h
  split at h
  · rename_i xs e
    rw [Bool.and_eq_true, decide_eq_true_eq] at h
    obtain ⟨h1, h2, h3⟩ := C.gs is es xs e h.1 h.2
    exact fg_many C.ct.calm C.ct.hK h1 h2 h3
  · cases h
/-- not a display of a tuple -/
def ntu : Expr → Bool
  | .Tuple .. => false
  | _ => true
theorem CS.asgT (C : CS X g cls k tab N sc bt) {es : List Expr} {n : Nat} {p : Pos} (he : PE X e (tF g fa)) (hg : PG X (.Tuple es n p) (tFG g t)) (hl : nlc e = true) (ht : ntu e = true) : PS X (.Assign [.Tuple es n p] e pos) (tFS g (thenS fa (bindV t))) :=
  fs_asgT he hg (by cases e <;> first | rfl | cases hl) (by cases e <;> first | rfl | cases ht) rfl
def parC (sc : Scope) (x y : Str) (l1 l2 : Nat) (a b : Expr) : Bool :=
  ((if sc.kind.isAnnotationScope then ScopeKind.function else sc.kind) == .function) && (nst a && nst b) && (sc.names.lookup x == some .local && sc.names.lookup y == some .local) && (l2 == l1) && ([x, y].eraseDups.length == 2) && !([a, b].all (foldedForSure 8)) && !([a, b].all (constantsAlone 8))
theorem sw_par {x y : Str} {px py pt pt2 : Pos} {kt k2 : Nat} {env : PySem.Env} {sc : Scope} (h : env.scope = sc) (hc : parC sc x y px.line py.line a b = true) : swappedStores [.Tuple [.Name x px, .Name y py] kt pt] (.Tuple [a, b] k2 pt2) env = pure (some [x, y]) := by
  subst h
  unfold parC at hc
  simp only [Bool.and_eq_true, Bool.not_eq_true'] at hc
  obtain ⟨⟨⟨⟨⟨⟨c1, c2, c3⟩, c4, c5⟩, c6⟩, c7⟩, c8⟩, c9⟩ := hc
  have nsa : ∀ {e : Expr}, nst e = true → (match e with | .Starred .. => true | _ => false) = false := fun {e} h => by cases e <;> first | rfl | cases h
  have e1 : (env.blockKind != .function) = false := by
    show (!(env.blockKind == .function)) = false
    rw [show (env.blockKind == .function) = true from c1]
    rfl
  unfold swappedStores
  have q1 : (env.kindOf x == some .local) = true := c4
  have q2 : (env.kindOf y == some .local) = true := c5
  have q3 : (px.line == px.line) = true := by simp
  simp only [e1, List.length_cons, List.length_nil, List.any_cons, List.any_nil, nsa c2, nsa c3, List.filterMap_cons, List.filterMap_nil, List.head?_cons, Option.map_some, Option.getD_some, Expr.pos, q1, q2, q3, c6, c8, c9]
  simp at c7 ⊢
  refine (if_neg ?_).trans (if_pos c7)
  intro h
  rcases h with h | h
  · cases a <;> first | (cases h; done) | (cases c2; done)
  · cases b <;> first | (cases h; done) | (cases c3; done)
theorem CS.par2 (C : CS X g cls k tab N sc bt) (i j : Nat) {px py pt pt2 : Pos} {kt k2 : Nat} (ha : PE X a (tF g fa)) (hb : PE X b (tF g fb)) (h1 : lOk N sc i x = true) (h2 : lOk N sc j y = true) (hij : i ≠ j) (hc : parC sc x y px.line py.line a b = true) :
    PS X (.Assign [.Tuple [.Name x px, .Name y py] kt pt] (.Tuple [a, b] k2 pt2) pos) (tFS g (Fn.par2 i j fa fb)) := by
  have hc' := hc
  unfold parC at hc'
  simp only [Bool.and_eq_true] at hc'
  exact fs_par2 C.ct.calm C.ct.nd' (C.ct.lo h1).1 (C.ct.lo h2).1 hij (C.ct.lo h1).2 (C.ct.lo h2).2 hc'.1.1.1.1.1.2.1 hc'.1.1.1.1.1.2.2 ha hb (sw_par C.ct.hS hc) rfl
theorem CS.app (C : CS X g cls k tab N sc bt) (i : Nat) {p1 p2 p3 p4 : Pos} (he : PE X e (tF g fa)) (h : vOk N sc i x = true) (hn : (nst e && (p2.endLine == p3.line)) = true) : PS X (.Expr (.Call (.Attribute (.Name x p1) "append" p2) [e] [] p3) p4) (tFS g (appV i fa)) := by
  obtain ⟨h1, h2, h3, h4⟩ := C.ct.vo h
  rw [Bool.and_eq_true] at hn
  exact fs_append h1 h2 h3 h4 hn.1 hn.2 he
theorem CS.sto (C : CS X g cls k tab N sc bt) (i : Nat) {fk fv : Env → Res B} {p1 p2 : Pos} (hk : PE X a (tF g fk)) (hv : PE X b (tF g fv)) (h : vOk N sc i x = true) (hn : nsl a = true) : PS X (.Assign [.Subscript (.Name x p1) a p2] b pos) (tFS g (putS i fk fv)) := by
  obtain ⟨h1, h2, h3, h4⟩ := C.ct.vo h
  exact fs_store C.ct.hu1 h1 h2 h3 h4 hn hk hv sw_sub
theorem CS.ex (C : CS X g cls k tab N sc bt) {p : Pos} (he : PE X e (tF g fa)) (hl : nlc e = true) : PS X (.Expr e p) (tFS g (thenS fa dropS)) := fs_expr he (sw_no hl)
theorem CS.fo (C : CS X g cls k tab N sc bt) {tg iter : Expr} {it : Env → Res (List D)} (hi : PI X tg iter (tFI g false it)) (hg : PG X tg (tFG g t)) (hb : ∀ g', CS X g' cls k tab N sc bt → PSs X body (tFS g' f)) (hs : nset iter = true) : PS X (.For tg iter body [] pos) (tFS g (forV t it f)) :=
  fs_for C.po C.ct.calm hi hg (fun F0 => hb _ (C.fl F0)) (iter_plain hs _)
theorem CS.wh (C : CS X g cls k tab N sc bt) (m : Env → Nat) {t : Env → Res Bool} (hc : PT X c (tFT g t)) (hb : PSs X body (tFS g f)) : PS X (.While c body [] pos) (tFS g (whileS m t f)) := fs_while m C.po hc hb
theorem CS.rn (C : CS X g cls k tab N sc bt) (i : Nat) {p1 : Pos} (h : vOk N sc i x = true) : PS X (.Return (some (.Name x p1)) pos) (tFS g (retN i)) := by
  obtain ⟨h1, h2, h3, h4⟩ := C.ct.vo h
  exact fs_retN h1 h2 h3 h4
end
/-! ### defs -/
def outR (o : Out) : Res B := match o with
  | .nx _ => .ok (.dat .non)
  | .rt b => .ok b
  | .exc c => .exc c
  | _ => .bad
def okArg : B → Bool
  | .own _ => false
  | .vw _ => false
  | _ => true
def envS (n : Nat) (bs : List B) : Env := bs.map some ++ List.replicate (n - bs.length) none
def defF (n : Nat) (body : Env → Out) (bs : List B) : Res B := if bs.all okArg = true then outR (body (envS n bs)) else .bad
theorem paired_get {α β : Type} {R : α → β → Prop} : ∀ {vs : List α} {bs : List β} {i : Nat} {b : β}, Paired R vs bs → bs[i]? = some b → ∃ v, vs[i]? = some v ∧ R v b
  | _, _, 0, _, .cons r _, h => by cases h; exact ⟨_, rfl, r⟩
  | _, _, i + 1, _, .cons _ rs, h => paired_get (i := i) rs h
theorem no_own {n : Nat} {bs : List B} {i : Nat} {m : M} (ok : bs.all okArg = true) (h : (envS n bs)[i]? = some (some (.own m))) : False := by
  unfold envS at h
  by_cases hi : i < bs.length
  · rw [List.getElem?_append_left (by simpa using hi), List.getElem?_map] at h
    cases hb : bs[i]? with
    | none => rw [hb] at h; cases h
    | some b' =>
      rw [hb] at h
      cases h
      have := List.all_eq_true.mp ok _ (List.mem_of_getElem? hb)
      cases this
  · rw [List.getElem?_append_right (by simpa using hi), List.getElem?_replicate] at h
    split at h <;> cases h
theorem start_st {K : PySem.W.Frag} {fa : Nat → Option Addr} {cls : Nat → Value} {F H : Hp} {E : XK} {N : List Str} {vs : List V} {bs : List B} (s : Same F H) (r : Paired (RR (gOf K fa cls F H E) F H) vs bs) (ok : bs.all okArg = true) :
    St (gOf K fa cls F H E) F H (L2.start N vs) (envS N.length bs) := by
  have hl := r.length
  refine ⟨Grow.refl s, by unfold L2.start envS; simp [hl], fun i b h => ?_, fun i j m m' hij h1 h2 => ?_⟩
  · unfold envS at h
    by_cases hi : i < bs.length
    · rw [List.getElem?_append_left (by simpa using hi), List.getElem?_map] at h
      cases hb : bs[i]? with
      | none => rw [hb] at h; cases h
      | some b' =>
        rw [hb] at h
        cases h
        obtain ⟨v, hv, rv⟩ := paired_get r hb
        refine ⟨v, by unfold L2.start; rw [List.getElem?_append_left (by rw [List.length_map, hl]; exact hi), List.getElem?_map, hv]; rfl, ?_⟩
        have ob := List.all_eq_true.mp ok b (List.mem_of_getElem? hb)
        cases b with
        | dat d => exact rv
        | own m => cases ob
        | vw m => cases ob
        | bor m => exact rv
        | scr ns => exact rv
    · rw [List.getElem?_append_right (by simpa using hi), List.getElem?_replicate] at h
      split at h <;> cases h
  · have := no_own ok h1
    exact this.elim
/-- THE RULE for a def: its body's reading -/
theorem def_ok {P : Program} {w : World} {K : PySem.W.Frag} {mg : Str → Option Value} {base : Heap} {fa : Nat → Option Addr} {cls : Nat → Value} {q : Str} {st : Stmt} {f : Addr} {fd : FuncData} {N ps : List Str} {k n : Nat} {body : Env → Out} {tab : List En} {bt : Bt} (Fu : Fun K q q st f fd)
    (S : FnScope N ps (defScope st)) (hn : ps.length = n) (hbi : BiOk K fa mg bt) (T : ∀ X : Cx, X.prog = P → X.w = w → X.K = K → X.mg = mg → X.base = base → TabOk X fa cls k tab)
    (hb : ∀ (X : Cx) (g : G), g.fa = fa → CS X g cls k tab N (defScope st) bt → PSs X (defBody st) (tFS g body)) : FnOk P w K mg base (L2.CX P w) (k + 1) f fd ps (spF K fa cls n (defF N.length body)) := by
  refine Fu.okX S (fun vs H Q E h => h.1.trans hn.symm) fun cdv A outer s H vs Q E hr ⟨h1, F, bs, h2, h3, h4⟩ => ?_
  let X := cxOf (L2.CX P w) P w K mg base N q (defScope st) f cdv A outer s H E
  have tk : Takes X (fun cls d _ H => E cls d H) := takes_of (X := X) rfl rfl rfl rfl
  have C : CS X (gOf K fa cls F H E) cls k tab N (defScope st) bt :=
    ⟨⟨rfl, rfl, rfl, S.nd, rfl, hr, T X rfl rfl rfl rfl rfl, ⟨E, passes_call tk (fun _ _ _ _ h => h), fun _ _ h => h⟩, hbi⟩, passes_of (X := X) (E₁ := fun e' s'' => L2.CX P w outer H s E e' s'') rfl, fun _ => rfl⟩
  refine ⟨_, hb X _ rfl C, F, envS N.length bs, ?_, ?_⟩
  · unfold defF at h4
    split at h4
    · rename_i ok
      exact start_st h2 h3 ok
    · exact h4.elim
  · unfold defF at h4
    split at h4
    · rename_i ok
      cases e : body (envS N.length bs) with
      | nx ρ =>
        rw [e] at h4
        exact fun σ' F' H' s' => h4 .non F' H' s'.gr .non
      | rt b =>
        rw [e] at h4
        exact fun v F' H' g1 r1 => h4 v F' H' g1 r1
      | bk ρ => rw [e] at h4; exact h4.elim
      | ct ρ => rw [e] at h4; exact h4.elim
      | exc c =>
        rw [e] at h4
        exact fun F' H' g1 => h4 F' H' g1
      | bad => rw [e] at h4; exact h4.elim
    · exact h4.elim
end Fn
namespace Fn
open PySem PySem.Spec PyProof.Rows L2
/-! ### short names of readings -/
def nilA : Env → Res (List B) := fun _ => .ok []
def litI (i : Int) : Env → Res B := fun _ => .ok (.dat (.int i))
def litS (x : Str) : Env → Res B := fun _ => .ok (.dat (.str x))
def litB (b : Bool) : Env → Res B := fun _ => .ok (.dat (.bl b))
def litN : Env → Res B := fun _ => .ok (.dat .non)
def newK : Env → Res B := fun _ => .ok (.own (.k []))
def newT : Env → Res B := fun _ => .ok (.own (.t []))
def callF (f : List B → Res B) (fs : Env → Res (List B)) : Env → Res B := fun ρ => (fs ρ).bind f
def ownF (en : En) (fs : Env → Res (List B)) : Env → Res B := fun ρ => (fs ρ).bind fun bs => (lenA en.n bs).bind (callV en)
def tstF (f : Env → Res B) : Env → Res Bool := fun ρ => (f ρ).bind tstB
def yesF : Env → Res Bool := fun _ => .ok true
def itF (lk : Bool) (f : Env → Res B) : Env → Res (List D) := fun ρ => (f ρ).bind fun x => itemsB lk (rd x)
def rgF (fs : Env → Res (List B)) : Env → Res (List D) := fun ρ => (fs ρ).bind rngA
def noP : Env → Res (Option Int) := fun _ => .ok none
def atP (f : Env → Res B) : Env → Res (Option Int) := fun ρ => (f ρ).bind fun x => partB x
def nxS : Env → Out := fun ρ => .nx ρ
def bkS : Env → Out := fun ρ => .bk ρ
def ctS : Env → Out := fun ρ => .ct ρ
def badS : Env → Out := fun _ => .bad
def rtN : Env → Out := fun _ => .rt (.dat .non)
def litD (d : D) : Env → Res B := fun _ => .ok (.dat d)
def lockS (i : Nat) (f : Env → Out) : Env → Out := fun ρ => f (lockE i ρ)
/-! ### while, its turns found by the end -/
theorem whileN_mono {t : Env → Res Bool} {body : Env → Out} : ∀ (n m : Nat) (ρ : Env), whileN t body n ρ ≠ .bad → n ≤ m → whileN t body m ρ = whileN t body n ρ
  | 0, _, _, h, _ => absurd rfl h
  | n + 1, 0, _, _, h => absurd h (Nat.not_succ_le_zero n)
  | n + 1, m + 1, ρ, h, hm => by
    unfold whileN at h ⊢
    cases e : t ρ with
    | ok k =>
      rw [e] at h
      cases k with
      | false => rfl
      | true =>
        dsimp only at h ⊢
        cases e2 : body ρ with
        | nx ρ2 => rw [e2] at h; exact whileN_mono n m ρ2 h (Nat.le_of_succ_le_succ hm)
        | ct ρ2 => rw [e2] at h; exact whileN_mono n m ρ2 h (Nat.le_of_succ_le_succ hm)
        | bk ρ2 => rfl
        | rt b => rfl
        | exc c => rfl
        | bad => rfl
    | exc c => rfl
    | bad => rfl
open Classical in
noncomputable def mW (t : Env → Res Bool) (body : Env → Out) (ρ : Env) : Nat := if h : ∃ n, whileN t body n ρ ≠ .bad then Classical.choose h else 0
noncomputable def whileC (t : Env → Res Bool) (body : Env → Out) : Env → Out := whileS (mW t body) t body
theorem whileC_eq {t : Env → Res Bool} {body : Env → Out} {ρ : Env} {n : Nat} (h : whileN t body n ρ ≠ .bad) : whileC t body ρ = whileN t body n ρ := by
  have ex : ∃ n, whileN t body n ρ ≠ .bad := ⟨n, h⟩
  unfold whileC whileS mW
  rw [dif_pos ex]
  have hc := Classical.choose_spec ex
  rcases Nat.le_total n (Classical.choose ex) with q | q
  · exact whileN_mono _ _ ρ h q
  · exact (whileN_mono _ _ ρ hc q).symm
theorem whileC_stop {t : Env → Res Bool} {body : Env → Out} {ρ : Env} (h : t ρ = .ok false) : whileC t body ρ = .nx ρ := by
  have e : whileN t body 1 ρ = .nx ρ := by unfold whileN; rw [h]
  rw [whileC_eq (n := 1) (by rw [e]; intro z; cases z), e]
theorem whileC_nx {t : Env → Res Bool} {body : Env → Out} {ρ ρ2 : Env} (h : t ρ = .ok true) (hb : body ρ = .nx ρ2) : whileC t body ρ = whileC t body ρ2 := by
  by_cases ex : ∃ n, whileN t body n ρ2 ≠ .bad
  · obtain ⟨n, hn⟩ := ex
    have e : whileN t body (n + 1) ρ = whileN t body n ρ2 := by
      rw [whileN, h]
      dsimp only
      rw [hb]
    rw [whileC_eq hn, whileC_eq (n := n + 1) (by rw [e]; exact hn), e]
  · have no : ¬ ∃ n, whileN t body n ρ ≠ .bad := by
      rintro ⟨n, hn⟩
      cases n with
      | zero => exact hn rfl
      | succ n =>
        rw [whileN, h] at hn
        dsimp only at hn
        rw [hb] at hn
        exact ex ⟨n, hn⟩
    unfold whileC whileS mW
    rw [dif_neg ex, dif_neg no]
    rfl
section
variable {X : Cx} {g : G} {cls : Nat → Value} {k : Nat} {tab : List En} {N : List Str} {sc : Scope} {bt : Bt} {c : Expr} {pos : Pos} {f : Env → Out} {body : List Stmt}
theorem CS.wc (C : CS X g cls k tab N sc bt) {t : Env → Res Bool} (hc : PT X c (tFT g t)) (hb : PSs X body (tFS g f)) : PS X (.While c body [] pos) (tFS g (whileC t f)) := C.wh _ hc hb
end
/-! ### the table of the text's defs -/
structure TabW (P : Program) (w : World) (K : PySem.W.Frag) (mg : Str → Option Value) (base : Heap) (fa : Nat → Option Addr) (cls : Nat → Value) (lv : Nat) (tab : List En) : Prop where
  at_ : ∀ (k : Nat) (en : En), tab[k]? = some en → ∃ f fd ps, mg en.name = some (.ref f) ∧ fa k = some f ∧ PySem.W.keepIn K (.ref f) = true ∧ Binds K fd ps [] ∧ FnOk P w K mg base (L2.CX P w) lv f fd ps (spF K fa cls en.n en.F)
section
variable {P : Program} {w : World} {K : PySem.W.Frag} {mg : Str → Option Value} {base : Heap} {fa : Nat → Option Addr} {cls : Nat → Value} {lv : Nat} {tab : List En}
theorem TabW.nil : TabW P w K mg base fa cls 0 [] := ⟨fun k en h => by cases h⟩
theorem TabW.snoc (T : TabW P w K mg base fa cls lv tab) {en : En} {f : Addr} {fd : FuncData} {ps : List Str} (F : FnOk P w K mg base (L2.CX P w) (lv + 1) f fd ps (spF K fa cls en.n en.F)) (hm : mg en.name = some (.ref f)) (hfa : fa tab.length = some f) (hk : PySem.W.keepIn K (.ref f) = true) (hb : Binds K fd ps []) :
    TabW P w K mg base fa cls (lv + 1) (tab ++ [en]) := ⟨fun k en' h => by
  by_cases hl : k < tab.length
  · rw [List.getElem?_append_left hl] at h
    obtain ⟨f', fd', ps', a1, a2, a3, a4, a5⟩ := T.at_ k en' h
    exact ⟨f', fd', ps', a1, a2, a3, a4, a5.mono (Nat.le_succ lv)⟩
  · rw [List.getElem?_append_right (Nat.le_of_not_lt hl)] at h
    have e : k = tab.length := by
      by_cases z : k - tab.length = 0
      · omega
      · obtain ⟨m, hm2⟩ := Nat.exists_eq_succ_of_ne_zero z
        rw [hm2] at h
        cases h
    subst e
    rw [Nat.sub_self] at h
    cases h
    exact ⟨f, fd, ps, hm, hfa, hk, hb, F⟩⟩
theorem TabW.use (T : TabW P w K mg base fa cls lv tab) : ∀ X : Cx, X.prog = P → X.w = w → X.K = K → X.mg = mg → X.base = base → TabOk X fa cls lv tab := fun X h1 h2 h3 h4 h5 => by
  subst h1 h2 h3 h4 h5
  exact ⟨T.at_⟩
/-- one def more -/
theorem TabW.more (T : TabW P w K mg base fa cls lv tab) {en : En} {q : Str} {st : Stmt} {f : Addr} {fd : FuncData} {N ps : List Str} {body : Env → Out} {bt : Bt} (Fu : Fun K q q st f fd) (S : FnScope N ps (defScope st)) (hbi : BiOk K fa mg bt)
    (he : en = ⟨q, ps.length, defF N.length body⟩) (hb : ∀ (X : Cx) (g : G), CS X g cls lv tab N (defScope st) bt → PSs X (defBody st) (tFS g body)) (hm : mg q = some (.ref f)) (hfa : fa tab.length = some f) (hbd : Binds K fd ps []) : TabW P w K mg base fa cls (lv + 1) (tab ++ [en]) := by
  subst he
  refine T.snoc (en := ⟨q, ps.length, defF N.length body⟩) ?_ hm hfa Fu.kp hbd
  exact def_ok Fu S rfl hbi T.use fun X g _ C => hb X g C
end
/-! ### law -/
def spLaw (K : PySem.W.Frag) : Sp := fun vs H Q _ => ∃ (a : Addr) (ns : List Int), vs = [.ref a] ∧ SqL K H a (ns.map V.int) ∧ ns.length ≤ 63 ∧ ∀ H', Q (.bl true) H'
theorem spLaw_of {K : PySem.W.Frag} {fa : Nat → Option Addr} {cls : Nat → Value} {L : List B → Res B} (h : ∀ ns : List Int, ns.length ≤ 63 → L [.scr ns] = .ok (.dat (.bl true))) : ∀ vs H Q E, spLaw K vs H Q E → spF K fa cls 1 L vs H Q E := by
  rintro vs H Q E ⟨a, ns, rfl, hS, hl, q⟩
  refine ⟨rfl, fun _ => none, [.scr ns], (fun _ _ z => by cases z), .cons ⟨a, rfl, hS⟩ .nil, ?_⟩
  rw [h ns hl]
  intro v F' H' g1 r1
  cases r1
  exact q H'
theorem no_exc {P : Program} {w : World} (H : Hp) (s : Shared) (e : Value) (s' : Shared) (z : L2.CX P w [] H s (fun _ _ _ => False) e s') : False := by
  obtain ⟨_, _, _, _, _, _, _, _, _, _, _, _, z⟩ := z
  exact z.elim
theorem walk {l : PySem.W.OpenLaw} {q : Program} {loose : List Str} {XP : (Str → Option Value) → Heap → Prop} {YP : World → Heap → Prop} {d : DefRec} {K : Params → PySem.W.Frag} {x : Str} (n : Nat) (hr : Room n callerA) (hn : l.most = some 63) (hdf : d.params.defaults = [])
    (hY : ∀ (w : World) (h : Heap), YP w h → (K w.params).In h)
    (F : ∀ (w : World) (mg : Str → Option Value) (fa : Addr) (h : Heap), (K w.params).In h → h.Ns mainGlobals mg → mg d.name = some (.ref fa) →
      ∃ fd : FuncData, (∀ (s : Shared) (u : Value), BindsTo s fd ⟨[u], []⟩ [(x, u)]) ∧ ∀ base : Heap, (K w.params).In base → base.Ns mainGlobals mg → FnOk l.prog w (K w.params) mg base (L2.CX l.prog w) n fa fd [x] (spLaw (K w.params))) :
    PySem.W.WalkO q loose XP YP l.row.toRowW d [] (fun f vs => PySem.call f vs) :=
  L2.walk_of (n := 63) (k := n) (x := x) (CX := fun w => L2.CX l.prog w) (sp := fun w => spLaw (K w.params)) hn (by decide) hdf hr hY F (fun _ _ a ns hl _ hS => ⟨a, ns, rfl, hS, hl, fun _ => rfl⟩) fun _ H s e s' z => no_exc H s e s' z
end Fn
namespace Fn
open PySem PySem.Spec PyProof.Rows L2
/-! ### what the readings' operators answer -/
theorem sz0 : (0 ≤ sizeLine) = True := eq_true (by decide)
theorem sz1 : (1 ≤ sizeLine) = True := eq_true (by decide)
theorem sz2 : (2 ≤ sizeLine) = True := eq_true (by decide)
theorem sz3 : (3 ≤ sizeLine) = True := eq_true (by decide)
theorem sz4 : (4 ≤ sizeLine) = True := eq_true (by decide)
theorem sz5 : (5 ≤ sizeLine) = True := eq_true (by decide)
theorem sz6 : (6 ≤ sizeLine) = True := eq_true (by decide)
abbrev Sm64 (i : Int) : Prop := i.natAbs < 2 ^ 64
theorem log2_lt {n : Nat} (h : n < 2 ^ 64) : n.log2 < 64 := by
  by_cases z : n = 0
  · subst z; decide
  · exact (Nat.log2_lt z).mpr h
theorem mul_ok {i j : Int} (hi : Sm64 i) (hj : Sm64 j) : mulB (.dat (.int i)) (.dat (.int j)) = .ok (.dat (.int (i * j))) := by
  unfold mulB
  dsimp only
  rw [if_pos (by have := log2_lt hi; have := log2_lt hj; omega)]
theorem mod_ok {i j : Int} (h : j ≠ 0) : modB (.dat (.int i)) (.dat (.int j)) = .ok (.dat (.int (i.fmod j))) := by
  unfold modB int2
  dsimp only
  rw [if_pos (decide_eq_true h)]
theorem mod_pos {i j : Int} (h : 0 < j) : modB (.dat (.int i)) (.dat (.int j)) = .ok (.dat (.int (i % j))) := by
  rw [mod_ok (by omega), Int.fmod_eq_emod_of_nonneg _ (by omega)]
theorem div_pos {i j : Int} (h : 0 < j) (hj : Sm64 j) : divB (.dat (.int i)) (.dat (.int j)) = .ok (.dat (.int (i / j))) := by
  unfold divB int2
  dsimp only
  rw [if_pos (by rw [Bool.and_eq_true, decide_eq_true_eq, decide_eq_true_eq]; exact ⟨by omega, by have := log2_lt hj; omega⟩), Int.fdiv_eq_ediv_of_nonneg _ (by omega)]
theorem add_ii {i j : Int} : addB (.dat (.int i)) (.dat (.int j)) = .ok (.dat (.int (i + j))) := rfl
theorem sub_ii {i j : Int} : subB (.dat (.int i)) (.dat (.int j)) = .ok (.dat (.int (i - j))) := rfl
theorem and_ii {i j : Int} : andB (.dat (.int i)) (.dat (.int j)) = .ok (.dat (.int (Builtin.bitAnd i j))) := rfl
theorem shr_ok {i j : Int} (h : 0 ≤ j) : shrB (.dat (.int i)) (.dat (.int j)) = .ok (.dat (.int (i / 2 ^ j.toNat))) := by
  unfold shrB int2
  dsimp only
  rw [if_pos (decide_eq_true h)]
theorem shl_ok {i j : Int} (h : 0 ≤ j) (h2 : j ≤ 1000000) (hi : Sm64 i) : shlB (.dat (.int i)) (.dat (.int j)) = .ok (.dat (.int (i * 2 ^ j.toNat))) := by
  unfold shlB int2
  dsimp only
  rw [if_pos (by rw [Bool.and_eq_true, Bool.and_eq_true, decide_eq_true_eq, decide_eq_true_eq, decide_eq_true_eq]; exact ⟨⟨h, h2⟩, hi⟩)]
theorem pow_ok {i j : Int} (h : 0 ≤ j) (h2 : j ≤ 1000000) (hi : Sm64 i) : powB (.dat (.int i)) (.dat (.int j)) = .ok (.dat (.int (i ^ j.toNat))) := by
  unfold powB int2
  dsimp only
  rw [if_pos (by rw [Bool.and_eq_true, Bool.and_eq_true, decide_eq_true_eq, decide_eq_true_eq, decide_eq_true_eq]; exact ⟨⟨h, h2⟩, hi⟩)]
theorem lt_ii {i j : Int} : ltB (.dat (.int i)) (.dat (.int j)) = .ok (.dat (.bl (decide (i < j)))) := rfl
theorem gt_ii {i j : Int} : gtF (.dat (.int i)) (.dat (.int j)) = .ok (.dat (.bl (decide (j < i)))) := rfl
theorem le_ii {i j : Int} : leF (.dat (.int i)) (.dat (.int j)) = .ok (.dat (.bl (decide (i ≤ j)))) := rfl
theorem ge_ii {i j : Int} : geF (.dat (.int i)) (.dat (.int j)) = .ok (.dat (.bl (decide (j ≤ i)))) := rfl
theorem beq_dec {i j : Int} : (i == j) = decide (i = j) := rfl
theorem eq_ii {i j : Int} : eqB (.dat (.int i)) (.dat (.int j)) = .ok (.dat (.bl (decide (i = j)))) := by
  show Res.ok (B.dat (D.bl (PyData.eqv (.int i) (.int j)))) = _
  simp [PyData.eqv, Bool.beq_eq_decide_eq]
theorem ne_ii {i j : Int} : neB (.dat (.int i)) (.dat (.int j)) = .ok (.dat (.bl (!decide (i = j)))) := by
  show Res.ok (B.dat (D.bl (!PyData.eqv (.int i) (.int j)))) = _
  simp [PyData.eqv, Bool.beq_eq_decide_eq]
theorem abs_nat {n : Nat} : absF [.dat (.int (n : Int))] = .ok (.dat (.int (n : Int))) := by
  show Res.ok (B.dat (D.int (if (n : Int) < 0 then _ else _))) = _
  rw [if_neg (by omega)]
theorem abs_i {i : Int} : absF [.dat (.int i)] = .ok (.dat (.int (i.natAbs : Int))) := by
  show Res.ok (B.dat (D.int (if i < 0 then _ else _))) = _
  split <;> (congr; omega)
theorem min_ii {i j : Int} : minF [.dat (.int i), .dat (.int j)] = .ok (.dat (.int (min i j))) := by
  show Res.ok (B.dat (D.int (if j < i then j else i))) = _
  rw [Int.min_def]
  split <;> split <;> first | rfl | (congr; omega)
theorem max_ii {i j : Int} : maxF [.dat (.int i), .dat (.int j)] = .ok (.dat (.int (max i j))) := by
  show Res.ok (B.dat (D.int (if j > i then j else i))) = _
  rw [Int.max_def]
  split <;> split <;> first | rfl | (congr; omega)
theorem int_bl {b : Bool} : intF [.dat (.bl b)] = .ok (.dat (.int (if b = true then 1 else 0))) := rfl
theorem len_tup {ds : List D} : lenB [.dat (.tup ds)] = .ok (.dat (.int ds.length)) := rfl
theorem len_lst {ds : List D} : lenB [.dat (.lst ds)] = .ok (.dat (.int ds.length)) := rfl
theorem len_vw {ds : List D} : lenB [.vw (.l ds)] = .ok (.dat (.int ds.length)) := rfl
theorem len_bor {ds : List D} : lenB [.bor (.l ds)] = .ok (.dat (.int ds.length)) := rfl
theorem len_vt {kvs : List (List Key × D)} : lenB [.vw (.t kvs)] = .ok (.dat (.int kvs.length)) := rfl
theorem len_vk {kvs : List (Key × D)} : lenB [.vw (.k kvs)] = .ok (.dat (.int kvs.length)) := rfl
theorem len_scr {ns : List Int} : lenB [.scr ns] = .ok (.dat (.int ns.length)) := by
  show Res.ok (B.dat (D.int ((ns.map D.int).length : Int))) = _
  rw [List.length_map]
theorem idx_tup {ds : List D} {k : Int} {d : D} (h : atI ds k = some d) : idxB (.dat (.tup ds)) (.dat (.int k)) = .ok (.dat d) := by
  show (match atI ds k with | some d => (.ok (.dat d) : Res B) | none => .bad) = _
  rw [h]
theorem idx_lst {ds : List D} {k : Int} {d : D} (h : atI ds k = some d) : idxB (.dat (.lst ds)) (.dat (.int k)) = .ok (.dat d) := by
  show (match atI ds k with | some d => (.ok (.dat d) : Res B) | none => .bad) = _
  rw [h]
theorem idx_vw {ds : List D} {k : Int} {d : D} (h : atI ds k = some d) : idxB (.vw (.l ds)) (.dat (.int k)) = .ok (.dat d) := by
  show (match atI ds k with | some d => (.ok (.dat d) : Res B) | none => .bad) = _
  rw [h]
theorem idx_bor {ds : List D} {k : Int} {d : D} (h : atI ds k = some d) : idxB (.bor (.l ds)) (.dat (.int k)) = .ok (.dat d) := by
  show (match atI ds k with | some d => (.ok (.dat d) : Res B) | none => .bad) = _
  rw [h]
theorem atI_map {α β : Type} (f : α → β) {xs : List α} {k : Int} {d : α} (h : atI xs k = some d) : atI (xs.map f) k = some (f d) := by
  unfold atI at h ⊢
  rw [List.length_map]
  cases e : ixN xs.length k with
  | none => rw [e] at h; cases h
  | some j =>
    rw [e] at h
    show (xs.map f)[j]? = _
    rw [List.getElem?_map, show xs[j]? = some d from h]
    rfl
theorem idx_scr {ns : List Int} {k d : Int} (h : atI ns k = some d) : idxB (.scr ns) (.dat (.int k)) = .ok (.dat (.int d)) := by
  show (match atI (ns.map D.int) k with | some d => (.ok (.dat d) : Res B) | none => .bad) = _
  rw [atI_map D.int h]
theorem atI_lt {α : Type} {xs : List α} {k : Int} (h0 : 0 ≤ k) (h : k < xs.length) : atI xs k = some (xs[k.toNat]'(by omega)) := by
  have e : k = ((k.toNat : Nat) : Int) := by omega
  have q : xs[k.toNat]? = some (xs[k.toNat]'(by omega)) := List.getElem?_eq_getElem (by omega)
  have := atI_nat q
  rw [← e] at this
  exact this
theorem def_rt {n : Nat} {body : Env → Out} {bs : List B} {r : Res B} (h1 : bs.all okArg = true) (h : outR (body (envS n bs)) = r) : defF n body bs = r := by
  unfold defF
  rw [if_pos h1, h]
/-- a def's answer at a call -/
theorem own_ok {en : En} {fs : Env → Res (List B)} {ρ : Env} {bs : List B} {r : B} (h1 : fs ρ = .ok bs) (h2 : bs.length = en.n) (h3 : en.F (bs.map toArg) = .ok r) (h4 : retB r = .ok r) : ownF en fs ρ = .ok r := by
  unfold ownF callV lenA
  rw [h1, Res.ok_bind, if_pos h2, Res.ok_bind, h3, Res.ok_bind, h4]
theorem le_sz {n : Nat} (h : n ≤ 1000) : n ≤ sizeLine := Nat.le_of_lt (small1000 h)
theorem lst_ok {bs : List B} {ds : List D} (h : dats bs = some ds) (hl : ds.length ≤ 1000) : lstB bs = .ok (.own (.l ds)) := by
  unfold lstB
  rw [h]
  exact if_pos (le_sz hl)
theorem tup_ok {bs : List B} {ds : List D} (h : dats bs = some ds) (hl : ds.length ≤ 1000) : tupB bs = .ok (.dat (.tup ds)) := by
  unfold tupB
  rw [h]
  exact if_pos (le_sz hl)
theorem lstB0 : lstB [] = .ok (.own (.l [])) := lst_ok rfl (by show 0 ≤ 1000; decide)
theorem tupB0 : tupB [] = .ok (.dat (.tup [])) := tup_ok rfl (by show 0 ≤ 1000; decide)
theorem lstB1 {d0 : D} : lstB [.dat d0] = .ok (.own (.l [d0])) := lst_ok rfl (by show 1 ≤ 1000; decide)
theorem tupB1 {d0 : D} : tupB [.dat d0] = .ok (.dat (.tup [d0])) := tup_ok rfl (by show 1 ≤ 1000; decide)
theorem lstB2 {d0 d1 : D} : lstB [.dat d0, .dat d1] = .ok (.own (.l [d0, d1])) := lst_ok rfl (by show 2 ≤ 1000; decide)
theorem tupB2 {d0 d1 : D} : tupB [.dat d0, .dat d1] = .ok (.dat (.tup [d0, d1])) := tup_ok rfl (by show 2 ≤ 1000; decide)
theorem lstB3 {d0 d1 d2 : D} : lstB [.dat d0, .dat d1, .dat d2] = .ok (.own (.l [d0, d1, d2])) := lst_ok rfl (by show 3 ≤ 1000; decide)
theorem tupB3 {d0 d1 d2 : D} : tupB [.dat d0, .dat d1, .dat d2] = .ok (.dat (.tup [d0, d1, d2])) := tup_ok rfl (by show 3 ≤ 1000; decide)
theorem lstB4 {d0 d1 d2 d3 : D} : lstB [.dat d0, .dat d1, .dat d2, .dat d3] = .ok (.own (.l [d0, d1, d2, d3])) := lst_ok rfl (by show 4 ≤ 1000; decide)
theorem tupB4 {d0 d1 d2 d3 : D} : tupB [.dat d0, .dat d1, .dat d2, .dat d3] = .ok (.dat (.tup [d0, d1, d2, d3])) := tup_ok rfl (by show 4 ≤ 1000; decide)
theorem lstB5 {d0 d1 d2 d3 d4 : D} : lstB [.dat d0, .dat d1, .dat d2, .dat d3, .dat d4] = .ok (.own (.l [d0, d1, d2, d3, d4])) := lst_ok rfl (by show 5 ≤ 1000; decide)
theorem tupB5 {d0 d1 d2 d3 d4 : D} : tupB [.dat d0, .dat d1, .dat d2, .dat d3, .dat d4] = .ok (.dat (.tup [d0, d1, d2, d3, d4])) := tup_ok rfl (by show 5 ≤ 1000; decide)
theorem lstB6 {d0 d1 d2 d3 d4 d5 : D} : lstB [.dat d0, .dat d1, .dat d2, .dat d3, .dat d4, .dat d5] = .ok (.own (.l [d0, d1, d2, d3, d4, d5])) := lst_ok rfl (by show 6 ≤ 1000; decide)
theorem tupB6 {d0 d1 d2 d3 d4 d5 : D} : tupB [.dat d0, .dat d1, .dat d2, .dat d3, .dat d4, .dat d5] = .ok (.dat (.tup [d0, d1, d2, d3, d4, d5])) := tup_ok rfl (by show 6 ≤ 1000; decide)
theorem seq_nx {f h : Env → Out} {ρ ρ' : Env} (e : f ρ = .nx ρ') : seqS f h ρ = h ρ' := by
  unfold seqS
  rw [e]
theorem seq_rt {f h : Env → Out} {ρ : Env} {b : B} (e : f ρ = .rt b) : seqS f h ρ = .rt b := by
  unfold seqS
  rw [e]
theorem for_ok {t : Tg} {it : Env → Res (List D)} {body : Env → Out} {ρ : Env} {ds : List D} (h : it ρ = .ok ds) : forV t it body ρ = loopF t body ds ρ := by
  unfold forV
  rw [h]
theorem rg_ok {fs : Env → Res (List B)} {ρ : Env} {bs : List B} {ds : List D} (h1 : fs ρ = .ok bs) (h2 : rngA bs = .ok ds) : rgF fs ρ = .ok ds := by
  unfold rgF
  rw [h1, Res.ok_bind, h2]
theorem call_ok {f : List B → Res B} {fs : Env → Res (List B)} {ρ : Env} {bs : List B} {b : Res B} (h1 : fs ρ = .ok bs) (h2 : f bs = b) : callF f fs ρ = b := by
  unfold callF
  rw [h1, Res.ok_bind, h2]
theorem it_ok {lk : Bool} {f : Env → Res B} {ρ : Env} {b : B} {ds : List D} (h1 : f ρ = .ok b) (h2 : itemsB lk (rd b) = .ok ds) : itF lk f ρ = .ok ds := by
  unfold itF
  rw [h1, Res.ok_bind, h2]
theorem set_ok {fa : Env → Res B} {i : Nat} {b : B} {ρ : Env} (h : fa ρ = .ok b) (hv : okV b = true) : thenS fa (setV i) ρ = .nx (ρ.set i (some b)) := by
  unfold thenS setV
  rw [h]
  exact if_pos hv
theorem ret_ok {fa : Env → Res B} {b : B} {ρ : Env} (h : fa ρ = .ok b) (hv : okRet b = true) : thenS fa retV ρ = .rt b := by
  unfold thenS retV
  rw [h]
  exact if_pos hv
theorem bind_ok {fa : Env → Res B} {b : B} {t : Tg} {ρ ρ' : Env} {d : D} (h : fa ρ = .ok b) (hr : rd b = .dat d) (hb : bindT t d ρ = some ρ') : thenS fa (bindV t) ρ = .nx ρ' := by
  unfold thenS bindV
  rw [h]
  dsimp only
  rw [hr]
  dsimp only
  rw [hb]
theorem bin_ok {f : B → B → Res B} {fa fb : Env → Res B} {x y : B} {r : Res B} {ρ : Env} (h1 : fa ρ = .ok x) (h2 : fb ρ = .ok y) (h3 : f (rd x) (rd y) = r) : bin2 f fa fb ρ = r := by
  unfold bin2
  rw [h1, Res.ok_bind, h2, Res.ok_bind, h3]
theorem cons_ok {fa : Env → Res B} {fs : Env → Res (List B)} {x : B} {xs : List B} {ρ : Env} (h1 : fa ρ = .ok x) (h2 : fs ρ = .ok xs) : consA fa fs ρ = .ok (rd x :: xs) := by
  unfold consA
  rw [h1, Res.ok_bind, h2, Res.ok_bind]
theorem nil_ok {ρ : Env} : nilA ρ = .ok [] := rfl
theorem one_ok {f : B → Res B} {fa : Env → Res B} {x : B} {r : Res B} {ρ : Env} (h1 : fa ρ = .ok x) (h2 : f (rd x) = r) : one1 f fa ρ = r := by
  unfold one1
  rw [h1, Res.ok_bind, h2]
theorem tst_ok {f : Env → Res B} {k : Bool} {ρ : Env} (h : f ρ = .ok (.dat (.bl k))) : tstF f ρ = .ok k := by
  unfold tstF
  rw [h]
  rfl
theorem tv_ok {f : Env → Res B} {b : B} {k : Bool} {ρ : Env} (h : f ρ = .ok b) (ht : truB (rd b) = .ok k) : testV f ρ = .ok k := by
  unfold testV
  rw [h, Res.ok_bind, ht]
theorem not_ok {t : Env → Res Bool} {k : Bool} {ρ : Env} (h : t ρ = .ok k) : notT t ρ = .ok !k := by
  unfold notT
  rw [h]
  rfl
theorem and_ok {t u : Env → Res Bool} {k j : Bool} {ρ : Env} (h : t ρ = .ok k) (h2 : k = true → u ρ = .ok j) : andT t u ρ = .ok (k && j) := by
  unfold andT
  rw [h, Res.ok_bind]
  cases k with
  | true => exact h2 rfl
  | false => rfl
theorem or_ok {t u : Env → Res Bool} {k j : Bool} {ρ : Env} (h : t ρ = .ok k) (h2 : k = false → u ρ = .ok j) : orT t u ρ = .ok (k || j) := by
  unfold orT
  rw [h, Res.ok_bind]
  cases k with
  | true => rfl
  | false => exact h2 rfl
theorem if_t {t : Env → Res Bool} {f h : Env → Out} {ρ : Env} (e : t ρ = .ok true) : iteS t f h ρ = f ρ := by
  unfold iteS
  rw [e]
  rfl
theorem if_f {t : Env → Res Bool} {f h : Env → Out} {ρ : Env} (e : t ρ = .ok false) : iteS t f h ρ = h ρ := by
  unfold iteS
  rw [e]
  rfl
theorem app_ok {i : Nat} {fa : Env → Res B} {ds : List D} {b : B} {d : D} {ρ : Env} (h1 : ownAt ρ i = some (.l ds)) (h2 : fa ρ = .ok b) (h3 : rd b = .dat d) (h4 : ds.length < sizeLine) : appV i fa ρ = .nx (ρ.set i (some (.own (.l (ds ++ [d]))))) := by
  unfold appV
  rw [h1]
  dsimp only
  rw [h2]
  dsimp only
  rw [h3]
  exact if_pos h4
theorem put_ok {i : Nat} {fk fv : Env → Res B} {ρ : Env} {b kb : B} {d : D} {m m' : M} (hv : fv ρ = .ok b) (hb : rd b = .dat d) (ho : ownAt ρ i = some m) (hk : fk ρ = .ok kb) (hm : storeM m (rd kb) d = some m') : putS i fk fv ρ = .nx (ρ.set i (some (.own m'))) := by
  unfold putS
  rw [hv]
  dsimp only
  rw [hb, ho, hk]
  dsimp only
  rw [hm]
/-! ### loops -/
theorem loop_nx {t : Tg} {body : Env → Out} (I : Nat → Env → Prop) {ds : List D} : ∀ (n : Nat) {ρ : Env}, n ≤ ds.length → I n ρ →
    (∀ i d ρ, ds[i]? = some d → I i ρ → ∃ ρ1 ρ2, bindT t d ρ = some ρ1 ∧ (body ρ1 = .nx ρ2 ∨ body ρ1 = .ct ρ2) ∧ I (i + 1) ρ2) → ∃ ρ', loopF t body (ds.drop n) ρ = .nx ρ' ∧ I ds.length ρ' := by
  intro n
  generalize hk : ds.length - n = k
  induction k generalizing n with
  | zero =>
    intro ρ hn h st
    have e : n = ds.length := by omega
    subst e
    rw [List.drop_length]
    exact ⟨ρ, rfl, h⟩
  | succ k ih =>
    intro ρ hn h st
    have hlt : n < ds.length := by omega
    obtain ⟨ρ1, ρ2, h1, h2, h3⟩ := st n ds[n] ρ (List.getElem?_eq_getElem hlt) h
    obtain ⟨ρ', h4, h5⟩ := ih (n + 1) (by omega) hlt h3 st
    refine ⟨ρ', ?_, h5⟩
    rw [List.drop_eq_getElem_cons hlt]
    unfold loopF
    rw [h1]
    dsimp only
    rcases h2 with h2 | h2 <;> (rw [h2]; exact h4)
theorem loop_all {t : Tg} {body : Env → Out} (I : Nat → Env → Prop) {ds : List D} {ρ : Env} (h : I 0 ρ) (st : ∀ i d ρ, ds[i]? = some d → I i ρ → ∃ ρ1 ρ2, bindT t d ρ = some ρ1 ∧ (body ρ1 = .nx ρ2 ∨ body ρ1 = .ct ρ2) ∧ I (i + 1) ρ2) :
    ∃ ρ', loopF t body ds ρ = .nx ρ' ∧ I ds.length ρ' := loop_nx I 0 (Nat.zero_le _) h st
theorem rng_get {lo hi : Int} {i : Nat} {d : D} (h : (rng lo hi)[i]? = some d) : d = .int (lo + (i : Int)) ∧ i < (hi - lo).toNat := by
  unfold rng at h
  rw [List.getElem?_map] at h
  cases e : (List.range (hi - lo).toNat)[i]? with
  | none => rw [e] at h; cases h
  | some j =>
    rw [e] at h
    obtain ⟨h1, h2⟩ := List.getElem?_eq_some_iff.mp e
    rw [List.getElem_range] at h2
    subst h2
    cases h
    exact ⟨rfl, by simpa using h1⟩
theorem rng_1 {n : Int} (h1 : -2 ^ 62 ≤ n) (h2 : n < 2 ^ 62) : rngA [.dat (.int n)] = .ok (rng 0 n) := by
  unfold rngA
  dsimp only
  rw [if_pos ⟨h1, h2⟩]
theorem rng_nat {n : Nat} (h : n < 2 ^ 62) : rngA [.dat (.int (n : Int))] = .ok (rng 0 (n : Int)) := rng_1 (by omega) (by omega)
theorem rng_len {lo hi : Int} : (rng lo hi).length = (hi - lo).toNat := by unfold rng; simp
theorem slc_lst {ds : List D} {lo hi : Option Int} : sliceB (.dat (.lst ds)) lo hi = .ok (.own (.l (cutL ds lo hi))) := by
  unfold sliceB
  rfl
theorem cut_tail {α : Type} (x : α) (xs : List α) : cutL (x :: xs) (some 1) none = xs := by
  have e : HT.sIx (x :: xs).length 0 (some 1) = 1 := by
    have := HT.sIx_nat (x :: xs).length 0 1
    rw [List.length_cons] at this ⊢
    rw [Nat.min_eq_left (by omega)] at this
    exact this
  unfold cutL
  rw [e, HT.sIx_none, List.drop_one, List.tail_cons, List.take_of_length_le (by rw [List.length_cons]; omega)]
/-! ### comprehensions -/
theorem mapC_ok {f : D → Res (Option D)} (o : D → Option D) : ∀ {ds : List D}, (∀ d ∈ ds, f d = .ok (o d)) → mapC f ds = .ok (ds.filterMap o)
  | [], _ => rfl
  | d :: ds, h => by
    unfold mapC
    rw [h d List.mem_cons_self, Res.ok_bind, mapC_ok o (fun e he => h e (List.mem_cons_of_mem _ he)), Res.ok_bind, List.filterMap_cons]
    cases o d <;> rfl
theorem comp_ok {t : Tg} {it : Env → Res (List D)} {c : Env → Res Bool} {fe : Env → Res B} {vs : List Nat} {ρ : Env} {ds : List D} (o : D → Option D) (h1 : it ρ = .ok ds) (hl : ds.length ≤ sizeLine) (h2 : ∀ d ∈ ds, stepC t c fe (wipeE ρ vs) d = .ok (o d)) :
    compV t it c fe vs ρ = .ok (.own (.l (ds.filterMap o))) := by
  unfold compV
  rw [h1, Res.ok_bind, if_pos hl, mapC_ok o h2, Res.ok_bind]
theorem step_yes {t : Tg} {c : Env → Res Bool} {fe : Env → Res B} {ρ ρ1 : Env} {d r : D} {b : B} (h1 : bindT t d ρ = some ρ1) (h2 : c ρ1 = .ok true) (h3 : fe ρ1 = .ok b) (h4 : rd b = .dat r) : stepC t c fe ρ d = .ok (some r) := by
  unfold stepC
  rw [h1]
  dsimp only
  rw [h2]
  dsimp only
  rw [h3]
  dsimp only
  rw [h4]
  rfl
theorem step_no {t : Tg} {c : Env → Res Bool} {fe : Env → Res B} {ρ ρ1 : Env} {d : D} (h1 : bindT t d ρ = some ρ1) (h2 : c ρ1 = .ok false) : stepC t c fe ρ d = .ok none := by
  unfold stepC
  rw [h1]
  dsimp only
  rw [h2]
theorem comp_map {t : Tg} {it : Env → Res (List D)} {c : Env → Res Bool} {fe : Env → Res B} {vs : List Nat} {ρ : Env} {α : Type} {as : List α} {f : α → D} (k : α → Bool) (h : α → D) (h1 : it ρ = .ok (as.map f)) (hl : as.length ≤ 1000) (h2 : ∀ a ∈ as, stepC t c fe (wipeE ρ vs) (f a) = .ok (if k a = true then some (h a) else none)) :
    compV t it c fe vs ρ = .ok (.own (.l ((as.filter k).map h))) := by
  unfold compV
  rw [h1, Res.ok_bind, if_pos (le_sz (by rw [List.length_map]; exact hl))]
  have : ∀ as : List α, (∀ a ∈ as, stepC t c fe (wipeE ρ vs) (f a) = .ok (if k a = true then some (h a) else none)) → mapC (stepC t c fe (wipeE ρ vs)) (as.map f) = .ok ((as.filter k).map h) := by
    intro as
    induction as with
    | nil => intro _; rfl
    | cons a as ih =>
      intro h2
      rw [List.map_cons]
      unfold mapC
      rw [h2 a List.mem_cons_self, Res.ok_bind, ih fun b hb => h2 b (List.mem_cons_of_mem _ hb), Res.ok_bind, List.filter_cons]
      cases k a <;> rfl
  rw [this as h2, Res.ok_bind]
theorem cat_tt {P Q : List D} (h : P.length + Q.length ≤ 1000) : addB (.dat (.tup P)) (.dat (.tup Q)) = .ok (.dat (.tup (P ++ Q))) := by
  show (if P.length + Q.length ≤ sizeLine then (.ok (.dat (.tup (P ++ Q))) : Res B) else .bad) = _
  exact if_pos (le_sz h)
theorem cat_vl {P Q : List D} (h : P.length + Q.length ≤ 1000) : addB (.vw (.l P)) (.dat (.lst Q)) = .ok (.own (.l (P ++ Q))) := by
  show (if P.length + Q.length ≤ sizeLine then (.ok (.own (.l (P ++ Q))) : Res B) else .bad) = _
  exact if_pos (le_sz h)
theorem slc_ok {fa : Env → Res B} {fl fh : Env → Res (Option Int)} {ρ : Env} {x : B} {l h : Option Int} {r : Res B} (h1 : fa ρ = .ok x) (h2 : fl ρ = .ok l) (h3 : fh ρ = .ok h) (h4 : sliceB (rd x) l h = r) : slcV fa fl fh ρ = r := by
  unfold slcV
  rw [h1, Res.ok_bind, h2, Res.ok_bind, h3, Res.ok_bind, h4]
theorem cut_take {α : Type} (xs : List α) (n : Nat) : cutL xs none (some (n : Int)) = xs.take n := by
  unfold cutL
  rw [HT.sIx_none, HT.sIx_nat, List.drop_zero, Nat.sub_zero, ← List.take_take, List.take_length]
/-! ### texts as data -/
abbrev txs (xs : List Str) : List D := xs.map D.str
abbrev Lays (xs : List Str) : Prop := ∀ x ∈ xs, PyData.strOk x = true
theorem lay_strs : ∀ {xs : List Str}, Lays xs → PyData.canLayAll0 (toPys (txs xs)) = true ∧ PyData.depthAll (toPys (txs xs)) = 0
  | [], _ => ⟨rfl, rfl⟩
  | x :: xs, h => by
    obtain ⟨h1, h2⟩ := lay_strs (xs := xs) fun y hy => h y (List.mem_cons_of_mem _ hy)
    show (PyData.canLay0 (.str x) && PyData.canLayAll0 (toPys (txs xs))) = true ∧ Nat.max (PyData.depth (.str x)) (PyData.depthAll (toPys (txs xs))) = 0
    rw [h1, h2]
    simp only [PyData.canLay0, PyData.depth, h x List.mem_cons_self]
    exact ⟨rfl, rfl⟩
theorem shaped_str {x : Str} (h : PyData.strOk x = true) : SeqAt.shaped (toPy (.str x)) = true := by
  show (PyData.canLay0 (.str x) && decide (PyData.depth (.str x) ≤ 64)) = true
  simp only [PyData.canLay0, PyData.depth, h]
  rfl
theorem shaped_strs {xs : List Str} (h : Lays xs) : SeqAt.shaped (.tuple (toPys (txs xs))) = true ∧ SeqAt.shaped (.list (toPys (txs xs))) = true := by
  obtain ⟨h1, h2⟩ := lay_strs h
  constructor
  · show (PyData.canLay0 (.tuple _) && decide (PyData.depth (.tuple _) ≤ 64)) = true
    simp only [PyData.canLay0, PyData.depth, h1, h2]
    rfl
  · show (PyData.canLay0 (.list _) && decide (PyData.depth (.list _) ≤ 64)) = true
    simp only [PyData.canLay0, PyData.depth, h1, h2]
    rfl
theorem eqv_strs : ∀ {xs ys : List Str}, PyData.eqvAll (toPys (txs xs)) (toPys (txs ys)) = decide (xs = ys)
  | [], [] => by simp [toPys, PyData.eqvAll]
  | [], _ :: _ => by simp [toPys, PyData.eqvAll]
  | _ :: _, [] => by simp [toPys, PyData.eqvAll]
  | x :: xs, y :: ys => by
    show (PyData.eqv (.str x) (.str y) && PyData.eqvAll (toPys (txs xs)) (toPys (txs ys))) = _
    rw [eqv_strs]
    simp [PyData.eqv, Bool.beq_eq_decide_eq]
/-- a text among texts -/
theorem in_strs {x : Str} {xs : List Str} (hx : PyData.strOk x = true) (h : Lays xs) : inB false (.dat (.str x)) (.dat (.tup (txs xs))) = .ok (.dat (.bl (decide (x ∈ xs)))) := by
  show ((inSeq (.str x) (txs xs) true).bind fun k => (.ok (.dat (.bl (k != false))) : Res B)) = _
  unfold inSeq
  rw [if_pos (by rw [Bool.and_eq_true]; exact ⟨shaped_str hx, (shaped_strs h).2⟩), Res.ok_bind]
  congr 3
  rw [Bool.bne_false]
  induction xs with
  | nil => rfl
  | cons y ys ih =>
    show (PyData.eqv (.str y) (.str x) || (txs ys).any _) = _
    rw [ih fun z hz => h z (List.mem_cons_of_mem _ hz)]
    simp only [PyData.eqv, List.mem_cons]
    by_cases e : y = x
    · subst e; simp
    · have e' : ¬ x = y := fun z => e z.symm
      simp [e, e']
/-! ### the order of data -/
theorem leD_law : PySem.W.TotalLe leD := PySem.W.sortLe_total (PyProof.Rows.listOrd PyProof.Rows.itemOrd) false fun b : D => PySem.W.keyToks (toPy b)
theorem leD_iff {a b : D} : leD a b = true ↔ PyProof.Rows.lexLt PyProof.Rows.itemOrd (PySem.W.keyToks (toPy b)) (PySem.W.keyToks (toPy a)) = false := by
  show (!PyProof.Rows.lexLt PyProof.Rows.itemOrd _ _) = true ↔ _
  rw [Bool.not_eq_true']
theorem leD_anti {a b : D} (h1 : leD a b = true) (h2 : leD b a = true) : PySem.W.keyToks (toPy a) = PySem.W.keyToks (toPy b) :=
  PyProof.Rows.lex_total _ _ (leD_iff.mp h2) (leD_iff.mp h1)
theorem sortD_pair (ds : List D) : (ds.mergeSort leD).Pairwise fun a b => leD a b = true :=
  List.pairwise_mergeSort leD_law.trans (fun a b => by rw [Bool.or_eq_true]; exact leD_law.total a b) ds
theorem leD_str {x y : Str} (h1 : leD (.str x) (.str y) = true) (h2 : leD (.str y) (.str x) = true) : x = y := by
  have e := leD_anti h1 h2
  simp only [toPy, PySem.W.keyToks, List.cons.injEq, Sum.inr.injEq, and_true] at e
  exact PySem.W.str_of_cps e
/-- texts that are the same, sorted, are the same list -/
theorem txs_sorted {xs ys : List Str} (h1 : (txs xs).Pairwise fun a b => leD a b = true) (h2 : (txs ys).Pairwise fun a b => leD a b = true) (hp : xs.Perm ys) : xs = ys := by
  have e : txs xs = txs ys := List.Perm.eq_of_pairwise (le := fun a b => leD a b = true) (fun a b ha hb l1 l2 => by
    obtain ⟨x, _, rfl⟩ := List.mem_map.mp ha
    obtain ⟨y, _, rfl⟩ := List.mem_map.mp hb
    rw [leD_str l1 l2]) h1 h2 (hp.map _)
  exact List.map_inj_right (fun a b h => by cases h; rfl) |>.mp e
theorem txs_of : ∀ {ds : List D}, (∀ d ∈ ds, ∃ x, d = .str x) → ∃ xs, ds = txs xs
  | [], _ => ⟨[], rfl⟩
  | d :: ds, h => by
    obtain ⟨x, rfl⟩ := h d List.mem_cons_self
    obtain ⟨xs, rfl⟩ := txs_of fun e he => h e (List.mem_cons_of_mem _ he)
    exact ⟨x :: xs, rfl⟩
def unS : D → Str
  | .str x => x
  | _ => Str.empty
theorem unS_txs (xs : List Str) : (txs xs).map unS = xs := by
  rw [List.map_map]
  exact List.map_id' xs
theorem txs_perm {xs ys : List Str} (h : (txs xs).Perm (txs ys)) : xs.Perm ys := by
  have := h.map unS
  rw [unS_txs, unS_txs] at this
  exact this
theorem alike_txs : ∀ (xs ys : List Str), PySem.W.alikeAll (toPys (txs xs)) (toPys (txs ys)) = true
  | [], _ => by simp [toPys, PySem.W.alikeAll]
  | _ :: _, [] => by simp [toPys, PySem.W.alikeAll]
  | x :: xs, y :: ys => by
    show (PySem.W.alike (.str x) (.str y) && PySem.W.alikeAll (toPys (txs xs)) (toPys (txs ys))) = true
    rw [alike_txs]
    simp [PySem.W.alike]
theorem sortOk_txs {xs : List Str} (h : Lays xs) : sortOk (txs xs) = true := by
  unfold sortOk
  rw [toPys_map]
  simp only [Bool.and_eq_true, Bool.or_eq_true, List.all_eq_true, List.mem_map]
  refine ⟨?_, ?_, .inr ?_⟩
  · rintro _ ⟨_, ⟨x, hx, rfl⟩, rfl⟩
    exact shaped_str (h x hx)
  · rintro _ ⟨_, ⟨x, hx, rfl⟩, rfl⟩ _ ⟨_, ⟨y, hy, rfl⟩, rfl⟩
    simp [toPy, PySem.W.alike]
  · rintro _ ⟨_, ⟨x, hx, rfl⟩, rfl⟩
    rfl
end Fn
namespace K08
open PySem L2 Fn
def top (i : Nat) : Stmt := PySem.Challenge.pw_cutstairs_k08_lines_and_worths.main.body.getD i (.Pass ⟨0, 0, 0, 0⟩)
def bt : Bt := ⟨["abs", "all", "bool", "int", "isinstance", "len", "max", "range", "sorted", "str", "tuple"], [("NOUGHT", (.ctup [.int 0, .int 1]))]⟩
noncomputable def T0 : List En := []
/-! ### _law_numbers -/
abbrev S0 : Stmt := top 27
def N0 : List Str := ["_law_cell_here", "_law_many", "_law_found", "_law_state", "_law_digits", "_law_k"]
noncomputable def B0_1 : Fn.Env → Out := (seqS (thenS (bin2 modB (bin2 addB (bin2 addB (bin2 mulB (varB 3) (bin2 addB (bin2 modB (varB 3) (litI 65521)) (litI 40487))) (bin2 mulB (litI 7) (varB 5))) (litI 5)) (litI 1999999973)) (setV 3)) (seqS (appV 2 (bin2 idxB (callF lstB (consA (varB 3) (consA (bin2 modB (varB 4) (litI 1000000)) nilA))) (callF intF (consA (bin2 gtF (varB 4) (litI 0)) nilA)))) (thenS (bin2 divB (varB 4) (litI 1000000)) (setV 4))))
noncomputable def B0 : Fn.Env → Out := (seqS (thenS (callF lstB nilA) (setV 2)) (seqS (thenS (bin2 modB (bin2 mulB (bin2 addB (bin2 modB (varB 0) (litI 1999999973)) (litI 31)) (litI 765432101)) (litI 1999999973)) (setV 3)) (seqS (thenS (litI 0) (setV 4)) (seqS (iteS (orT (tstF (bin2 ltB (varB 0) (litI 0))) (tstF (bin2 geF (varB 0) (bin2 powB (litI 10) (litI 18))))) (thenS (callF absF (consA (varB 0) nilA)) (setV 4)) nxS) (seqS (forV (.one 5) (rgF (consA (varB 1) nilA)) B0_1) (retN 2))))))
noncomputable def E0 : En := ⟨"_law_numbers", 2, defF 6 B0⟩
noncomputable def T1 : List En := T0 ++ [E0]
theorem sc0 : FnScope N0 ["_law_cell_here", "_law_many"] (defScope S0) := ⟨rfl, rfl, rfl, by decide +kernel, rfl, by decide +kernel, by decide +kernel⟩
theorem ok0 {X : Cx} {g : G} {cls : Nat → Value} (C : CS X g cls 0 T0 N0 (defScope S0) bt) : PSs X (defBody S0) (tFS g B0) :=
  (fs_cons (C.asg 2 (fe_lst fa_nil) (by decide +kernel) rfl) (fs_cons (C.asg 3 (C.ct.mod (C.ct.mul (C.ct.add (C.ct.mod (C.ct.var 0 (by decide +kernel)) fe_int) fe_int) fe_int) fe_int) (by decide +kernel) rfl) (fs_cons (C.asg 4 fe_int (by decide +kernel) rfl) (fs_cons (fs_if (ft_or (cmpT C.ct.lt (C.ct.var 0 (by decide +kernel)) fe_int rfl) (pw_or1 (cmpT C.ct.ge (C.ct.var 0 (by decide +kernel)) (C.ct.pow fe_int fe_int) rfl))).pt (fs_one (C.asg 4 (C.ct.call C.ct.abs (fa_cons rfl (C.ct.var 0 (by decide +kernel)) fa_nil) (by decide +kernel) (by decide +kernel) rfl) (by decide +kernel) rfl)) fs_nil) (fs_cons (C.fo (C.ct.rg1 (C.ct.var 1 (by decide +kernel)) (by decide +kernel) rfl) (C.g1 5 (by decide +kernel)) (fun _ C => (fs_cons (C.asg 3 (C.ct.mod (C.ct.add (C.ct.add (C.ct.mul (C.ct.var 3 (by decide +kernel)) (C.ct.add (C.ct.mod (C.ct.var 3 (by decide +kernel)) fe_int) fe_int)) (C.ct.mul fe_int (C.ct.var 5 (by decide +kernel)))) fe_int) fe_int) (by decide +kernel) rfl) (fs_cons (C.app 2 (C.ct.idx (fe_lst (fa_cons rfl (C.ct.var 3 (by decide +kernel)) (fa_cons rfl (C.ct.mod (C.ct.var 4 (by decide +kernel)) fe_int) fa_nil))) (C.ct.call C.ct.int (fa_cons rfl (cmpE C.ct.gt (C.ct.var 4 (by decide +kernel)) fe_int rfl) fa_nil) (by decide +kernel) (by decide +kernel) rfl) rfl) (by decide +kernel) rfl) (fs_one (C.asg 4 (C.ct.div (C.ct.var 4 (by decide +kernel)) fe_int) (by decide +kernel) rfl))))) rfl) (fs_one (C.rn 2 (by decide +kernel))))))))
/-! ### _law_names -/
abbrev S1 : Stmt := top 28
def N1 : List Str := ["_law_xs", "_law_many", "_law_letters", "_law_found", "_law_k", "_law_name", "_law_middle"]
noncomputable def B1_1 : Fn.Env → Out := (seqS (thenS (bin2 mulB (bin2 idxB (varB 2) (bin2 modB (bin2 addB (bin2 idxB (varB 0) (litI 0)) (bin2 mulB (litI 7) (varB 4))) (litI 26))) (bin2 addB (litI 1) (bin2 modB (bin2 addB (bin2 idxB (varB 0) (litI 2)) (bin2 mulB (litI 3) (varB 4))) (bin2 idxB (callF lstB (consA (litI 1) (consA (litI 5) nilA))) (bin2 modB (bin2 idxB (varB 0) (litI 3)) (litI 2)))))) (setV 5)) (seqS (iteS (tstF (bin2 eqB (bin2 modB (bin2 idxB (varB 0) (litI 1)) (litI 4)) (litI 1))) (thenS (bin2 addB (bin2 idxB (litS "abcdefgh") (varB 4)) (bin2 mulB (bin2 idxB (varB 2) (bin2 modB (bin2 idxB (varB 0) (litI 2)) (litI 26))) (bin2 modB (bin2 idxB (varB 0) (litI 3)) (litI 8)))) (setV 5)) nxS) (seqS (iteS (tstF (bin2 eqB (bin2 modB (bin2 idxB (varB 0) (litI 1)) (litI 4)) (litI 2))) (thenS (bin2 mulB (bin2 idxB (varB 2) (bin2 modB (bin2 idxB (varB 0) (litI 2)) (litI 26))) (bin2 addB (litI 1) (varB 4))) (setV 5)) nxS) (seqS (iteS (tstF (bin2 eqB (bin2 modB (bin2 idxB (varB 0) (litI 1)) (litI 4)) (litI 3))) (seqS (thenS (bin2 idxB (varB 2) (bin2 modB (bin2 addB (bin2 idxB (varB 0) (litI 3)) (bin2 mulB (litI 5) (varB 4))) (litI 26))) (setV 6)) (thenS (bin2 addB (bin2 addB (bin2 idxB (varB 2) (bin2 modB (bin2 idxB (varB 0) (litI 2)) (litI 26))) (varB 6)) (bin2 idxB (varB 2) (bin2 modB (bin2 idxB (varB 0) (litI 0)) (litI 26)))) (setV 5))) nxS) (appV 3 (varB 5))))))
noncomputable def B1 : Fn.Env → Out := (seqS (thenS (litS "abcdefghijklmnopqrstuvwxyz") (setV 2)) (seqS (thenS (callF lstB nilA) (setV 3)) (seqS (forV (.one 4) (rgF (consA (varB 1) nilA)) B1_1) (thenS (callF sortF (consA (varB 3) nilA)) retV))))
noncomputable def E1 : En := ⟨"_law_names", 2, defF 7 B1⟩
noncomputable def T2 : List En := T1 ++ [E1]
theorem sc1 : FnScope N1 ["_law_xs", "_law_many"] (defScope S1) := ⟨rfl, rfl, rfl, by decide +kernel, rfl, by decide +kernel, by decide +kernel⟩
theorem ok1 {X : Cx} {g : G} {cls : Nat → Value} (C : CS X g cls 1 T1 N1 (defScope S1) bt) : PSs X (defBody S1) (tFS g B1) :=
  (fs_cons (C.asg 2 fe_str (by decide +kernel) rfl) (fs_cons (C.asg 3 (fe_lst fa_nil) (by decide +kernel) rfl) (fs_cons (C.fo (C.ct.rg1 (C.ct.var 1 (by decide +kernel)) (by decide +kernel) rfl) (C.g1 4 (by decide +kernel)) (fun _ C => (fs_cons (C.asg 5 (C.ct.mul (C.ct.idx (C.ct.var 2 (by decide +kernel)) (C.ct.mod (C.ct.add (C.ct.idx (C.ct.var 0 (by decide +kernel)) fe_int rfl) (C.ct.mul fe_int (C.ct.var 4 (by decide +kernel)))) fe_int) rfl) (C.ct.add fe_int (C.ct.mod (C.ct.add (C.ct.idx (C.ct.var 0 (by decide +kernel)) fe_int rfl) (C.ct.mul fe_int (C.ct.var 4 (by decide +kernel)))) (C.ct.idx (fe_lst (fa_cons rfl fe_int (fa_cons rfl fe_int fa_nil))) (C.ct.mod (C.ct.idx (C.ct.var 0 (by decide +kernel)) fe_int rfl) fe_int) rfl)))) (by decide +kernel) rfl) (fs_cons (fs_if (cmpT C.ct.eq (C.ct.mod (C.ct.idx (C.ct.var 0 (by decide +kernel)) fe_int rfl) fe_int) fe_int rfl) (fs_one (C.asg 5 (C.ct.add (C.ct.idx fe_str (C.ct.var 4 (by decide +kernel)) rfl) (C.ct.mul (C.ct.idx (C.ct.var 2 (by decide +kernel)) (C.ct.mod (C.ct.idx (C.ct.var 0 (by decide +kernel)) fe_int rfl) fe_int) rfl) (C.ct.mod (C.ct.idx (C.ct.var 0 (by decide +kernel)) fe_int rfl) fe_int))) (by decide +kernel) rfl)) fs_nil) (fs_cons (fs_if (cmpT C.ct.eq (C.ct.mod (C.ct.idx (C.ct.var 0 (by decide +kernel)) fe_int rfl) fe_int) fe_int rfl) (fs_one (C.asg 5 (C.ct.mul (C.ct.idx (C.ct.var 2 (by decide +kernel)) (C.ct.mod (C.ct.idx (C.ct.var 0 (by decide +kernel)) fe_int rfl) fe_int) rfl) (C.ct.add fe_int (C.ct.var 4 (by decide +kernel)))) (by decide +kernel) rfl)) fs_nil) (fs_cons (fs_if (cmpT C.ct.eq (C.ct.mod (C.ct.idx (C.ct.var 0 (by decide +kernel)) fe_int rfl) fe_int) fe_int rfl) (fs_cons (C.asg 6 (C.ct.idx (C.ct.var 2 (by decide +kernel)) (C.ct.mod (C.ct.add (C.ct.idx (C.ct.var 0 (by decide +kernel)) fe_int rfl) (C.ct.mul fe_int (C.ct.var 4 (by decide +kernel)))) fe_int) rfl) (by decide +kernel) rfl) (fs_one (C.asg 5 (C.ct.add (C.ct.add (C.ct.idx (C.ct.var 2 (by decide +kernel)) (C.ct.mod (C.ct.idx (C.ct.var 0 (by decide +kernel)) fe_int rfl) fe_int) rfl) (C.ct.var 6 (by decide +kernel))) (C.ct.idx (C.ct.var 2 (by decide +kernel)) (C.ct.mod (C.ct.idx (C.ct.var 0 (by decide +kernel)) fe_int rfl) fe_int) rfl)) (by decide +kernel) rfl))) fs_nil) (fs_one (C.app 3 (C.ct.var 5 (by decide +kernel)) (by decide +kernel) rfl))))))) rfl) (fs_one (fs_ret (C.ct.call C.ct.sort (fa_cons rfl (C.ct.var 3 (by decide +kernel)) fa_nil) (by decide +kernel) (by decide +kernel) rfl))))))
/-! ### _law_cell -/
abbrev S2 : Stmt := top 26
def N2 : List Str := ["_law_script", "_law_k", "_law_state", "_law_cell_here"]
noncomputable def B2_1 : Fn.Env → Out := (thenS (bin2 modB (bin2 addB (bin2 mulB (varB 2) (litI 69621)) (varB 3)) (litI 2147483647)) (setV 2))
noncomputable def B2 : Fn.Env → Out := (seqS (iteS (tstF (bin2 ltB (varB 1) (callF lenB (consA (varB 0) nilA)))) (thenS (bin2 idxB (varB 0) (varB 1)) retV) nxS) (seqS (thenS (bin2 modB (bin2 mulB (litI 48271) (bin2 addB (bin2 addB (bin2 mulB (varB 1) (varB 1)) (bin2 mulB (litI 7) (varB 1))) (litI 11))) (litI 2147483647)) (setV 2)) (seqS (forV (.one 3) (itF false (slcV (varB 0) noP (atP (litI 3)))) B2_1) (retN 2))))
noncomputable def E2 : En := ⟨"_law_cell", 2, defF 4 B2⟩
noncomputable def T3 : List En := T2 ++ [E2]
theorem sc2 : FnScope N2 ["_law_script", "_law_k"] (defScope S2) := ⟨rfl, rfl, rfl, by decide +kernel, rfl, by decide +kernel, by decide +kernel⟩
theorem ok2 {X : Cx} {g : G} {cls : Nat → Value} (C : CS X g cls 2 T2 N2 (defScope S2) bt) : PSs X (defBody S2) (tFS g B2) :=
  (fs_cons (fs_if (cmpT C.ct.lt (C.ct.var 1 (by decide +kernel)) (C.ct.call C.ct.len (fa_cons rfl (C.ct.var 0 (by decide +kernel)) fa_nil) (by decide +kernel) (by decide +kernel) rfl) rfl) (fs_one (fs_ret (C.ct.idx (C.ct.var 0 (by decide +kernel)) (C.ct.var 1 (by decide +kernel)) rfl))) fs_nil) (fs_cons (C.asg 2 (C.ct.mod (C.ct.mul fe_int (C.ct.add (C.ct.add (C.ct.mul (C.ct.var 1 (by decide +kernel)) (C.ct.var 1 (by decide +kernel))) (C.ct.mul fe_int (C.ct.var 1 (by decide +kernel)))) fe_int)) fe_int) (by decide +kernel) rfl) (fs_cons (C.fo (C.ct.it (C.ct.slc (C.ct.var 0 (by decide +kernel)) fo_none (fo_some fe_int))) (C.g1 3 (by decide +kernel)) (fun _ C => (fs_one (C.asg 2 (C.ct.mod (C.ct.add (C.ct.mul (C.ct.var 2 (by decide +kernel)) fe_int) (C.ct.var 3 (by decide +kernel))) fe_int) (by decide +kernel) rfl))) rfl) (fs_one (C.rn 2 (by decide +kernel))))))
/-! ### _law_ties -/
abbrev S3 : Stmt := top 30
def N3 : List Str := ["_law_names_here", "_law_script", "_law_at", "_law_many", "_law_wide", "_law_found", "_law_k", "_law_xs", "_law_one", "_law_other", "_law_size", "_law_pair"]
noncomputable def B3_1 : Fn.Env → Out := (seqS (thenS (ownF E0 (consA (ownF E2 (consA (varB 1) (consA (bin2 addB (varB 2) (varB 6)) nilA))) (consA (litI 5) nilA))) (setV 7)) (seqS (thenS (bin2 modB (bin2 idxB (varB 7) (litI 0)) (callF lenB (consA (varB 0) nilA))) (setV 8)) (seqS (thenS (bin2 modB (bin2 addB (bin2 addB (varB 8) (litI 1)) (bin2 modB (bin2 idxB (varB 7) (litI 1)) (callF maxF (consA (litI 1) (consA (bin2 subB (callF lenB (consA (varB 0) nilA)) (litI 1)) nilA))))) (callF lenB (consA (varB 0) nilA))) (setV 9)) (seqS (thenS (bin2 idxB (callF lstB (consA (bin2 addB (litI 1) (bin2 modB (bin2 idxB (varB 7) (litI 2)) (litI 4))) (consA (bin2 addB (litI 1) (bin2 modB (bin2 idxB (varB 7) (litI 2)) (litI 30))) (consA (bin2 addB (litI 1) (bin2 modB (bin2 idxB (varB 7) (litI 2)) (litI 999))) (consA (bin2 addB (litI 1) (bin2 modB (bin2 idxB (varB 7) (litI 2)) (litI 999))) nilA))))) (varB 4)) (setV 10)) (iteS (tstF (bin2 neB (varB 8) (varB 9))) (seqS (putS 5 (callF tupB (consA (bin2 idxB (varB 0) (varB 8)) (consA (bin2 idxB (varB 0) (varB 9)) nilA))) (varB 10)) (iteS (andT (tstF (bin2 eqB (bin2 modB (bin2 idxB (varB 7) (litI 3)) (litI 3)) (litI 1))) (tstF (bin2 ltB (callF lenB (consA (varB 5) nilA)) (litI 16)))) (putS 5 (callF tupB (consA (bin2 idxB (varB 0) (varB 9)) (consA (bin2 idxB (varB 0) (varB 8)) nilA))) (bin2 addB (litI 1) (bin2 modB (bin2 idxB (varB 7) (litI 4)) (litI 9)))) nxS)) nxS)))))
noncomputable def B3 : Fn.Env → Out := (seqS (thenS newT (setV 5)) (seqS (forV (.one 6) (rgF (consA (varB 3) nilA)) B3_1) (thenS (callF tupF (consA (slcV (compV (.one 11) (itF true (callF sortF (consA (varB 5) nilA))) yesF (bin2 addB (varB 11) (callF tupB (consA (bin2 idxB (varB 5) (varB 11)) nilA))) [11]) noP (atP (litI 16))) nilA)) retV)))
noncomputable def E3 : En := ⟨"_law_ties", 5, defF 12 B3⟩
noncomputable def T4 : List En := T3 ++ [E3]
theorem sc3 : FnScope N3 ["_law_names_here", "_law_script", "_law_at", "_law_many", "_law_wide"] (defScope S3) := ⟨rfl, rfl, rfl, by decide +kernel, rfl, by decide +kernel, by decide +kernel⟩
theorem ok3 {X : Cx} {g : G} {cls : Nat → Value} (C : CS X g cls 3 T3 N3 (defScope S3) bt) : PSs X (defBody S3) (tFS g B3) :=
  (fs_cons (C.asg 5 fe_dicT (by decide +kernel) rfl) (fs_cons (C.fo (C.ct.rg1 (C.ct.var 3 (by decide +kernel)) (by decide +kernel) rfl) (C.g1 6 (by decide +kernel)) (fun _ C => (fs_cons (C.asg 7 (C.ct.own 0 (fa_cons rfl (C.ct.own 2 (fa_cons rfl (C.ct.var 1 (by decide +kernel)) (fa_cons rfl (C.ct.add (C.ct.var 2 (by decide +kernel)) (C.ct.var 6 (by decide +kernel))) fa_nil)) rfl rfl (by decide +kernel) rfl) (fa_cons rfl fe_int fa_nil)) rfl rfl (by decide +kernel) rfl) (by decide +kernel) rfl) (fs_cons (C.asg 8 (C.ct.mod (C.ct.idx (C.ct.var 7 (by decide +kernel)) fe_int rfl) (C.ct.call C.ct.len (fa_cons rfl (C.ct.var 0 (by decide +kernel)) fa_nil) (by decide +kernel) (by decide +kernel) rfl)) (by decide +kernel) rfl) (fs_cons (C.asg 9 (C.ct.mod (C.ct.add (C.ct.add (C.ct.var 8 (by decide +kernel)) fe_int) (C.ct.mod (C.ct.idx (C.ct.var 7 (by decide +kernel)) fe_int rfl) (C.ct.call C.ct.max (fa_cons rfl fe_int (fa_cons rfl (C.ct.sub (C.ct.call C.ct.len (fa_cons rfl (C.ct.var 0 (by decide +kernel)) fa_nil) (by decide +kernel) (by decide +kernel) rfl) fe_int) fa_nil)) (by decide +kernel) (by decide +kernel) rfl))) (C.ct.call C.ct.len (fa_cons rfl (C.ct.var 0 (by decide +kernel)) fa_nil) (by decide +kernel) (by decide +kernel) rfl)) (by decide +kernel) rfl) (fs_cons (C.asg 10 (C.ct.idx (fe_lst (fa_cons rfl (C.ct.add fe_int (C.ct.mod (C.ct.idx (C.ct.var 7 (by decide +kernel)) fe_int rfl) fe_int)) (fa_cons rfl (C.ct.add fe_int (C.ct.mod (C.ct.idx (C.ct.var 7 (by decide +kernel)) fe_int rfl) fe_int)) (fa_cons rfl (C.ct.add fe_int (C.ct.mod (C.ct.idx (C.ct.var 7 (by decide +kernel)) fe_int rfl) fe_int)) (fa_cons rfl (C.ct.add fe_int (C.ct.mod (C.ct.idx (C.ct.var 7 (by decide +kernel)) fe_int rfl) fe_int)) fa_nil))))) (C.ct.var 4 (by decide +kernel)) rfl) (by decide +kernel) rfl) (fs_one (fs_if (cmpT C.ct.ne (C.ct.var 8 (by decide +kernel)) (C.ct.var 9 (by decide +kernel)) rfl) (fs_cons (C.sto 5 (fe_tup (fa_cons rfl (C.ct.idx (C.ct.var 0 (by decide +kernel)) (C.ct.var 8 (by decide +kernel)) rfl) (fa_cons rfl (C.ct.idx (C.ct.var 0 (by decide +kernel)) (C.ct.var 9 (by decide +kernel)) rfl) fa_nil))) (C.ct.var 10 (by decide +kernel)) (by decide +kernel) rfl) (fs_one (fs_if (ft_and (cmpT C.ct.eq (C.ct.mod (C.ct.idx (C.ct.var 7 (by decide +kernel)) fe_int rfl) fe_int) fe_int rfl) (pw_and1 (cmpT C.ct.lt (C.ct.call C.ct.len (fa_cons rfl (C.ct.var 5 (by decide +kernel)) fa_nil) (by decide +kernel) (by decide +kernel) rfl) fe_int rfl))).pt (fs_one (C.sto 5 (fe_tup (fa_cons rfl (C.ct.idx (C.ct.var 0 (by decide +kernel)) (C.ct.var 9 (by decide +kernel)) rfl) (fa_cons rfl (C.ct.idx (C.ct.var 0 (by decide +kernel)) (C.ct.var 8 (by decide +kernel)) rfl) fa_nil))) (C.ct.add fe_int (C.ct.mod (C.ct.idx (C.ct.var 7 (by decide +kernel)) fe_int rfl) fe_int)) (by decide +kernel) rfl)) fs_nil))) fs_nil))))))) rfl) (fs_one (fs_ret (C.ct.call C.ct.tup (fa_cons rfl (C.ct.slc (C.ct.lc [("_law_pair", 11)] (C.ct.it (C.ct.call C.ct.sort (fa_cons rfl (C.ct.var 5 (by decide +kernel)) fa_nil) (by decide +kernel) (by decide +kernel) rfl)) (fun C1 => ⟨(C1.g1 11 (by decide +kernel)), ifs0, (C1.add (C1.var 11 (by decide +kernel)) (fe_tup (fa_cons rfl (C1.idx (C1.var 5 (by decide +kernel)) (C1.var 11 (by decide +kernel)) rfl) fa_nil)))⟩) (by decide +kernel)) fo_none (fo_some fe_int)) fa_nil) (by decide +kernel) (by decide +kernel) rfl)))))
/-! ### _law_place -/
abbrev S4 : Stmt := top 29
def N4 : List Str := ["_law_name", "_law_xs", "_law_top", "_law_wide", "_law_a", "_law_b", "_law_d", "_law_c"]
noncomputable def B4 : Fn.Env → Out := (seqS (thenS (bin2 modB (bin2 idxB (varB 1) (litI 0)) (bin2 idxB (callF lstB (consA (litI 4) (consA (litI 10) (consA (litI 100) (consA (litI 100) nilA))))) (varB 3))) (setV 4)) (seqS (thenS (bin2 modB (bin2 idxB (varB 1) (litI 1)) (bin2 idxB (callF lstB (consA (litI 3) (consA (litI 5) (consA (litI 100) (consA (litI 100) nilA))))) (varB 3))) (setV 5)) (seqS (thenS (bin2 modB (bin2 idxB (varB 1) (litI 2)) (bin2 idxB (callF lstB (consA (litI 2) (consA (litI 4) (consA (litI 100) (consA (litI 100) nilA))))) (varB 3))) (setV 6)) (seqS (thenS (bin2 addB (bin2 mulB (varB 6) (varB 2)) (bin2 modB (bin2 idxB (varB 1) (litI 3)) (bin2 idxB (callF lstB (consA (litI 5) (consA (litI 20) (consA (litI 100) (consA (litI 100) nilA))))) (varB 3)))) (setV 7)) (seqS (iteS (tstF (bin2 eqB (bin2 modB (bin2 idxB (varB 1) (litI 4)) (litI 5)) (litI 1))) (par2 4 5 (litI 0) (bin2 modB (bin2 divB (bin2 idxB (varB 1) (litI 1)) (litI 8)) (litI 3))) nxS) (seqS (iteS (tstF (bin2 eqB (bin2 modB (bin2 idxB (varB 1) (litI 4)) (litI 5)) (litI 2))) (seqS (thenS (litI 0) (setV 6)) (thenS (bin2 modB (bin2 idxB (varB 1) (litI 3)) (bin2 idxB (callF lstB (consA (litI 5) (consA (litI 20) (consA (litI 1000) (consA (litI 1000) nilA))))) (varB 3))) (setV 7))) nxS) (thenS (callF tupB (consA (varB 0) (consA (varB 4) (consA (varB 5) (consA (varB 7) (consA (varB 6) nilA)))))) retV)))))))
noncomputable def E4 : En := ⟨"_law_place", 4, defF 8 B4⟩
noncomputable def T5 : List En := T4 ++ [E4]
theorem sc4 : FnScope N4 ["_law_name", "_law_xs", "_law_top", "_law_wide"] (defScope S4) := ⟨rfl, rfl, rfl, by decide +kernel, rfl, by decide +kernel, by decide +kernel⟩
theorem ok4 {X : Cx} {g : G} {cls : Nat → Value} (C : CS X g cls 4 T4 N4 (defScope S4) bt) : PSs X (defBody S4) (tFS g B4) :=
  (fs_cons (C.asg 4 (C.ct.mod (C.ct.idx (C.ct.var 1 (by decide +kernel)) fe_int rfl) (C.ct.idx (fe_lst (fa_cons rfl fe_int (fa_cons rfl fe_int (fa_cons rfl fe_int (fa_cons rfl fe_int fa_nil))))) (C.ct.var 3 (by decide +kernel)) rfl)) (by decide +kernel) rfl) (fs_cons (C.asg 5 (C.ct.mod (C.ct.idx (C.ct.var 1 (by decide +kernel)) fe_int rfl) (C.ct.idx (fe_lst (fa_cons rfl fe_int (fa_cons rfl fe_int (fa_cons rfl fe_int (fa_cons rfl fe_int fa_nil))))) (C.ct.var 3 (by decide +kernel)) rfl)) (by decide +kernel) rfl) (fs_cons (C.asg 6 (C.ct.mod (C.ct.idx (C.ct.var 1 (by decide +kernel)) fe_int rfl) (C.ct.idx (fe_lst (fa_cons rfl fe_int (fa_cons rfl fe_int (fa_cons rfl fe_int (fa_cons rfl fe_int fa_nil))))) (C.ct.var 3 (by decide +kernel)) rfl)) (by decide +kernel) rfl) (fs_cons (C.asg 7 (C.ct.add (C.ct.mul (C.ct.var 6 (by decide +kernel)) (C.ct.var 2 (by decide +kernel))) (C.ct.mod (C.ct.idx (C.ct.var 1 (by decide +kernel)) fe_int rfl) (C.ct.idx (fe_lst (fa_cons rfl fe_int (fa_cons rfl fe_int (fa_cons rfl fe_int (fa_cons rfl fe_int fa_nil))))) (C.ct.var 3 (by decide +kernel)) rfl))) (by decide +kernel) rfl) (fs_cons (fs_if (cmpT C.ct.eq (C.ct.mod (C.ct.idx (C.ct.var 1 (by decide +kernel)) fe_int rfl) fe_int) fe_int rfl) (fs_one (C.par2 4 5 fe_int (C.ct.mod (C.ct.div (C.ct.idx (C.ct.var 1 (by decide +kernel)) fe_int rfl) fe_int) fe_int) (by decide +kernel) (by decide +kernel) (by decide) (by decide +kernel))) fs_nil) (fs_cons (fs_if (cmpT C.ct.eq (C.ct.mod (C.ct.idx (C.ct.var 1 (by decide +kernel)) fe_int rfl) fe_int) fe_int rfl) (fs_cons (C.asg 6 fe_int (by decide +kernel) rfl) (fs_one (C.asg 7 (C.ct.mod (C.ct.idx (C.ct.var 1 (by decide +kernel)) fe_int rfl) (C.ct.idx (fe_lst (fa_cons rfl fe_int (fa_cons rfl fe_int (fa_cons rfl fe_int (fa_cons rfl fe_int fa_nil))))) (C.ct.var 3 (by decide +kernel)) rfl)) (by decide +kernel) rfl))) fs_nil) (fs_one (fs_ret (fe_tup (fa_cons rfl (C.ct.var 0 (by decide +kernel)) (fa_cons rfl (C.ct.var 4 (by decide +kernel)) (fa_cons rfl (C.ct.var 5 (by decide +kernel)) (fa_cons rfl (C.ct.var 7 (by decide +kernel)) (fa_cons rfl (C.ct.var 6 (by decide +kernel)) fa_nil))))))))))))))
/-! ### _law_web -/
abbrev S5 : Stmt := top 31
def N5 : List Str := ["_law_script", "_law_at", "_law_most", "_law_head", "_law_top", "_law_many", "_law_wide", "_law_names_here", "_law_places", "_law_k", "_law_ties_here"]
noncomputable def B5_1 : Fn.Env → Out := (appV 8 (ownF E4 (consA (bin2 idxB (varB 7) (varB 9)) (consA (ownF E0 (consA (ownF E2 (consA (varB 0) (consA (bin2 addB (bin2 addB (varB 1) (litI 1)) (varB 9)) nilA))) (consA (litI 5) nilA))) (consA (varB 4) (consA (varB 6) nilA))))))
noncomputable def B5 : Fn.Env → Out := (seqS (thenS (ownF E0 (consA (ownF E2 (consA (varB 0) (consA (varB 1) nilA))) (consA (litI 12) nilA))) (setV 3)) (seqS (thenS (bin2 addB (litI 1) (bin2 modB (bin2 idxB (varB 3) (litI 4)) (litI 9))) (setV 4)) (seqS (thenS (bin2 addB (litI 1) (bin2 modB (bin2 idxB (varB 3) (litI 5)) (varB 2))) (setV 5)) (seqS (thenS (bin2 idxB (callF lstB (consA (litI 0) (consA (litI 1) (consA (litI 0) (consA (litI 1) (consA (litI 2) nilA)))))) (bin2 modB (bin2 idxB (varB 3) (litI 6)) (litI 5))) (setV 6)) (seqS (thenS (ownF E1 (consA (varB 3) (consA (varB 5) nilA))) (setV 7)) (seqS (thenS (callF lstB nilA) (setV 8)) (seqS (forV (.one 9) (rgF (consA (varB 5) nilA)) B5_1) (seqS (thenS (ownF E3 (consA (varB 7) (consA (varB 0) (consA (bin2 addB (bin2 addB (varB 1) (litI 1)) (varB 5)) (consA (bin2 modB (bin2 idxB (varB 3) (litI 7)) (bin2 addB (bin2 mulB (litI 2) (varB 5)) (litI 1))) (consA (varB 6) nilA)))))) (setV 10)) (thenS (callF tupB (consA (varB 4) (consA (callF tupF (consA (varB 8) nilA)) (consA (varB 10) nilA)))) retV)))))))))
noncomputable def E5 : En := ⟨"_law_web", 3, defF 11 B5⟩
noncomputable def T6 : List En := T5 ++ [E5]
theorem sc5 : FnScope N5 ["_law_script", "_law_at", "_law_most"] (defScope S5) := ⟨rfl, rfl, rfl, by decide +kernel, rfl, by decide +kernel, by decide +kernel⟩
theorem ok5 {X : Cx} {g : G} {cls : Nat → Value} (C : CS X g cls 5 T5 N5 (defScope S5) bt) : PSs X (defBody S5) (tFS g B5) :=
  (fs_cons (C.asg 3 (C.ct.own 0 (fa_cons rfl (C.ct.own 2 (fa_cons rfl (C.ct.var 0 (by decide +kernel)) (fa_cons rfl (C.ct.var 1 (by decide +kernel)) fa_nil)) rfl rfl (by decide +kernel) rfl) (fa_cons rfl fe_int fa_nil)) rfl rfl (by decide +kernel) rfl) (by decide +kernel) rfl) (fs_cons (C.asg 4 (C.ct.add fe_int (C.ct.mod (C.ct.idx (C.ct.var 3 (by decide +kernel)) fe_int rfl) fe_int)) (by decide +kernel) rfl) (fs_cons (C.asg 5 (C.ct.add fe_int (C.ct.mod (C.ct.idx (C.ct.var 3 (by decide +kernel)) fe_int rfl) (C.ct.var 2 (by decide +kernel)))) (by decide +kernel) rfl) (fs_cons (C.asg 6 (C.ct.idx (fe_lst (fa_cons rfl fe_int (fa_cons rfl fe_int (fa_cons rfl fe_int (fa_cons rfl fe_int (fa_cons rfl fe_int fa_nil)))))) (C.ct.mod (C.ct.idx (C.ct.var 3 (by decide +kernel)) fe_int rfl) fe_int) rfl) (by decide +kernel) rfl) (fs_cons (C.asg 7 (C.ct.own 1 (fa_cons rfl (C.ct.var 3 (by decide +kernel)) (fa_cons rfl (C.ct.var 5 (by decide +kernel)) fa_nil)) rfl rfl (by decide +kernel) rfl) (by decide +kernel) rfl) (fs_cons (C.asg 8 (fe_lst fa_nil) (by decide +kernel) rfl) (fs_cons (C.fo (C.ct.rg1 (C.ct.var 5 (by decide +kernel)) (by decide +kernel) rfl) (C.g1 9 (by decide +kernel)) (fun _ C => (fs_one (C.app 8 (C.ct.own 4 (fa_cons rfl (C.ct.idx (C.ct.var 7 (by decide +kernel)) (C.ct.var 9 (by decide +kernel)) rfl) (fa_cons rfl (C.ct.own 0 (fa_cons rfl (C.ct.own 2 (fa_cons rfl (C.ct.var 0 (by decide +kernel)) (fa_cons rfl (C.ct.add (C.ct.add (C.ct.var 1 (by decide +kernel)) fe_int) (C.ct.var 9 (by decide +kernel))) fa_nil)) rfl rfl (by decide +kernel) rfl) (fa_cons rfl fe_int fa_nil)) rfl rfl (by decide +kernel) rfl) (fa_cons rfl (C.ct.var 4 (by decide +kernel)) (fa_cons rfl (C.ct.var 6 (by decide +kernel)) fa_nil)))) rfl rfl (by decide +kernel) rfl) (by decide +kernel) rfl))) rfl) (fs_cons (C.asg 10 (C.ct.own 3 (fa_cons rfl (C.ct.var 7 (by decide +kernel)) (fa_cons rfl (C.ct.var 0 (by decide +kernel)) (fa_cons rfl (C.ct.add (C.ct.add (C.ct.var 1 (by decide +kernel)) fe_int) (C.ct.var 5 (by decide +kernel))) (fa_cons rfl (C.ct.mod (C.ct.idx (C.ct.var 3 (by decide +kernel)) fe_int rfl) (C.ct.add (C.ct.mul fe_int (C.ct.var 5 (by decide +kernel))) fe_int)) (fa_cons rfl (C.ct.var 6 (by decide +kernel)) fa_nil))))) rfl rfl (by decide +kernel) rfl) (by decide +kernel) rfl) (fs_one (fs_ret (fe_tup (fa_cons rfl (C.ct.var 4 (by decide +kernel)) (fa_cons rfl (C.ct.call C.ct.tup (fa_cons rfl (C.ct.var 8 (by decide +kernel)) fa_nil) (by decide +kernel) (by decide +kernel) rfl) (fa_cons rfl (C.ct.var 10 (by decide +kernel)) fa_nil))))))))))))))
/-! ### _law_names_of -/
abbrev S6 : Stmt := top 36
def N6 : List Str := ["_law_web_here", "_law_place_here"]
noncomputable def B6 : Fn.Env → Out := (thenS (compV (.one 1) (itF true (bin2 idxB (varB 0) (litI 1))) yesF (bin2 idxB (varB 1) (litI 0)) [1]) retV)
noncomputable def E6 : En := ⟨"_law_names_of", 1, defF 2 B6⟩
noncomputable def T7 : List En := T6 ++ [E6]
theorem sc6 : FnScope N6 ["_law_web_here"] (defScope S6) := ⟨rfl, rfl, rfl, by decide +kernel, rfl, by decide +kernel, by decide +kernel⟩
theorem ok6 {X : Cx} {g : G} {cls : Nat → Value} (C : CS X g cls 6 T6 N6 (defScope S6) bt) : PSs X (defBody S6) (tFS g B6) :=
  (fs_one (fs_ret (C.ct.lc [("_law_place_here", 1)] (C.ct.it (C.ct.idx (C.ct.var 0 (by decide +kernel)) fe_int rfl)) (fun C1 => ⟨(C1.g1 1 (by decide +kernel)), ifs0, (C1.idx (C1.var 1 (by decide +kernel)) fe_int rfl)⟩) (by decide +kernel))))
/-! ### _law_low -/
abbrev S7 : Stmt := top 32
def N7 : List Str := ["_law_top", "_law_bottom", "_law_high", "_law_low_here"]
noncomputable def B7_1 : Fn.Env → Res Bool := (tstF (bin2 gtF (varB 3) (litI 0)))
noncomputable def B7_2 : Fn.Env → Out := (par2 2 3 (varB 3) (bin2 modB (varB 2) (varB 3)))
noncomputable def B7 : Fn.Env → Out := (seqS (par2 2 3 (callF absF (consA (varB 0) nilA)) (callF absF (consA (varB 1) nilA))) (seqS (whileC B7_1 B7_2) (seqS (iteS (tstF (bin2 ltB (varB 1) (litI 0))) (thenS (bin2 subB (litI 0) (varB 2)) (setV 2)) nxS) (thenS (callF tupB (consA (bin2 divB (varB 0) (varB 2)) (consA (bin2 divB (varB 1) (varB 2)) nilA))) retV))))
noncomputable def E7 : En := ⟨"_law_low", 2, defF 4 B7⟩
noncomputable def T8 : List En := T7 ++ [E7]
theorem sc7 : FnScope N7 ["_law_top", "_law_bottom"] (defScope S7) := ⟨rfl, rfl, rfl, by decide +kernel, rfl, by decide +kernel, by decide +kernel⟩
theorem ok7 {X : Cx} {g : G} {cls : Nat → Value} (C : CS X g cls 7 T7 N7 (defScope S7) bt) : PSs X (defBody S7) (tFS g B7) :=
  (fs_cons (C.par2 2 3 (C.ct.call C.ct.abs (fa_cons rfl (C.ct.var 0 (by decide +kernel)) fa_nil) (by decide +kernel) (by decide +kernel) rfl) (C.ct.call C.ct.abs (fa_cons rfl (C.ct.var 1 (by decide +kernel)) fa_nil) (by decide +kernel) (by decide +kernel) rfl) (by decide +kernel) (by decide +kernel) (by decide) (by decide +kernel)) (fs_cons (C.wc (cmpT C.ct.gt (C.ct.var 3 (by decide +kernel)) fe_int rfl) (fs_one (C.par2 2 3 (C.ct.var 3 (by decide +kernel)) (C.ct.mod (C.ct.var 2 (by decide +kernel)) (C.ct.var 3 (by decide +kernel))) (by decide +kernel) (by decide +kernel) (by decide) (by decide +kernel)))) (fs_cons (fs_if (cmpT C.ct.lt (C.ct.var 1 (by decide +kernel)) fe_int rfl) (fs_one (C.asg 2 (C.ct.sub fe_int (C.ct.var 2 (by decide +kernel))) (by decide +kernel) rfl)) fs_nil) (fs_one (fs_ret (fe_tup (fa_cons rfl (C.ct.div (C.ct.var 0 (by decide +kernel)) (C.ct.var 2 (by decide +kernel))) (fa_cons rfl (C.ct.div (C.ct.var 1 (by decide +kernel)) (C.ct.var 2 (by decide +kernel))) fa_nil))))))))
/-! ### names_of -/
abbrev S8 : Stmt := top 16
def N8 : List Str := ["web", "place"]
noncomputable def B8 : Fn.Env → Out := (thenS (callF tupF (consA (compV (.one 1) (itF true (bin2 idxB (varB 0) (litI 1))) yesF (bin2 idxB (varB 1) (litI 0)) [1]) nilA)) retV)
noncomputable def E8 : En := ⟨"names_of", 1, defF 2 B8⟩
noncomputable def T9 : List En := T8 ++ [E8]
theorem sc8 : FnScope N8 ["web"] (defScope S8) := ⟨rfl, rfl, rfl, by decide +kernel, rfl, by decide +kernel, by decide +kernel⟩
theorem ok8 {X : Cx} {g : G} {cls : Nat → Value} (C : CS X g cls 8 T8 N8 (defScope S8) bt) : PSs X (defBody S8) (tFS g B8) :=
  (fs_one (fs_ret (C.ct.call C.ct.tup (fa_cons rfl (C.ct.lc [("place", 1)] (C.ct.it (C.ct.idx (C.ct.var 0 (by decide +kernel)) fe_int rfl)) (fun C1 => ⟨(C1.g1 1 (by decide +kernel)), ifs0, (C1.idx (C1.var 1 (by decide +kernel)) fe_int rfl)⟩) (by decide +kernel)) fa_nil) (by decide +kernel) (by decide +kernel) rfl)))
/-! ### is_cut -/
abbrev S9 : Stmt := top 21
def N9 : List Str := ["web", "thing", "name", "k"]
noncomputable def B9 : Fn.Env → Out := (seqS (iteS (orT (notT (testV (one1 (isiB .tuple) (varB 1)))) (notT (testV (callF allF (consA (compV (.one 2) (itF true (varB 1)) yesF (one1 (isiB .str) (varB 2)) [2]) nilA))))) (thenS (litB false) retV) nxS) (seqS (iteS (notT (testV (callF allF (consA (compV (.one 2) (itF true (varB 1)) yesF (bin2 (inB false) (varB 2) (ownF E8 (consA (varB 0) nilA))) [2]) nilA)))) (thenS (litB false) retV) nxS) (thenS (callF allF (consA (compV (.one 3) (rgF (consA (bin2 subB (callF lenB (consA (varB 1) nilA)) (litI 1)) nilA)) yesF (bin2 ltB (bin2 idxB (varB 1) (varB 3)) (bin2 idxB (varB 1) (bin2 addB (varB 3) (litI 1)))) [3]) nilA)) retV)))
noncomputable def E9 : En := ⟨"is_cut", 2, defF 4 B9⟩
noncomputable def T10 : List En := T9 ++ [E9]
theorem sc9 : FnScope N9 ["web", "thing"] (defScope S9) := ⟨rfl, rfl, rfl, by decide +kernel, rfl, by decide +kernel, by decide +kernel⟩
theorem ok9 {X : Cx} {g : G} {cls : Nat → Value} (C : CS X g cls 9 T9 N9 (defScope S9) bt) : PSs X (defBody S9) (tFS g B9) :=
  (fs_cons (fs_if (ft_or (ft_not (C.ct.val (C.ct.isi .tuple (C.ct.var 1 (by decide +kernel)) rfl (by decide +kernel) (by decide +kernel) boot_tuple rfl) rfl)) (pw_or1 (ft_not (C.ct.val (C.ct.call C.ct.all (fa_cons rfl (C.ct.lc [("name", 2)] (C.ct.it (C.ct.var 1 (by decide +kernel))) (fun C1 => ⟨(C1.g1 2 (by decide +kernel)), ifs0, (C1.isi .str (C1.var 2 (by decide +kernel)) rfl (by decide +kernel) (by decide +kernel) boot_str rfl)⟩) (by decide +kernel)) fa_nil) (by decide +kernel) (by decide +kernel) rfl) rfl)))).pt (fs_one (fs_ret fe_bl)) fs_nil) (fs_cons (fs_if (ft_not (C.ct.val (C.ct.call C.ct.all (fa_cons rfl (C.ct.lc [("name", 2)] (C.ct.it (C.ct.var 1 (by decide +kernel))) (fun C2 => ⟨(C2.g1 2 (by decide +kernel)), ifs0, (cmpE C2.inn (C2.var 2 (by decide +kernel)) (C2.own 8 (fa_cons rfl (C2.var 0 (by decide +kernel)) fa_nil) rfl rfl (by decide +kernel) rfl) rfl)⟩) (by decide +kernel)) fa_nil) (by decide +kernel) (by decide +kernel) rfl) rfl)) (fs_one (fs_ret fe_bl)) fs_nil) (fs_one (fs_ret (C.ct.call C.ct.all (fa_cons rfl (C.ct.lc [("k", 3)] (C.ct.rg1 (C.ct.sub (C.ct.call C.ct.len (fa_cons rfl (C.ct.var 1 (by decide +kernel)) fa_nil) (by decide +kernel) (by decide +kernel) rfl) fe_int) (by decide +kernel) rfl) (fun C3 => ⟨(C3.g1 3 (by decide +kernel)), ifs0, (cmpE C3.lt (C3.idx (C3.var 1 (by decide +kernel)) (C3.var 3 (by decide +kernel)) rfl) (C3.idx (C3.var 1 (by decide +kernel)) (C3.add (C3.var 3 (by decide +kernel)) fe_int) rfl) rfl)⟩) (by decide +kernel)) fa_nil) (by decide +kernel) (by decide +kernel) rfl)))))
/-! ### line_of -/
abbrev S10 : Stmt := top 22
def N10 : List Str := ["web", "cut", "top", "places", "ties", "base", "lean", "name", "first", "grows", "last", "falls", "one", "other", "size"]
noncomputable def B10_1 : Fn.Env → Out := (iteS (tstF (bin2 (inB false) (varB 7) (varB 1))) (seqS (thenS (bin2 addB (varB 5) (varB 10)) (setV 5)) (thenS (bin2 subB (varB 6) (varB 11)) (setV 6))) (seqS (thenS (bin2 addB (varB 5) (varB 8)) (setV 5)) (thenS (bin2 addB (varB 6) (varB 9)) (setV 6))))
noncomputable def B10_2 : Fn.Env → Out := (iteS (andT (tstF (bin2 (inB false) (varB 12) (varB 1))) (tstF (bin2 (inB true) (varB 13) (varB 1)))) (thenS (bin2 addB (varB 5) (varB 14)) (setV 5)) nxS)
noncomputable def B10 : Fn.Env → Out := (seqS (iteS (notT (testV (ownF E9 (consA (varB 0) (consA (varB 1) nilA))))) badS nxS) (seqS (thenS (varB 0) (bindV (.many [2, 3, 4]))) (seqS (thenS (litI 0) (setV 5)) (seqS (thenS (litI 0) (setV 6)) (seqS (forV (.many [7, 8, 9, 10, 11]) (itF false (varB 3)) B10_1) (seqS (forV (.many [12, 13, 14]) (itF false (varB 4)) B10_2) (thenS (callF tupB (consA (varB 5) (consA (varB 6) nilA))) retV)))))))
noncomputable def E10 : En := ⟨"line_of", 2, defF 15 B10⟩
noncomputable def T11 : List En := T10 ++ [E10]
theorem sc10 : FnScope N10 ["web", "cut"] (defScope S10) := ⟨rfl, rfl, rfl, by decide +kernel, rfl, by decide +kernel, by decide +kernel⟩
theorem ok10 {X : Cx} {g : G} {cls : Nat → Value} (C : CS X g cls 10 T10 N10 (defScope S10) bt) : PSs X (defBody S10) (tFS g B10) :=
  (fs_cons (fs_if (ft_not (C.ct.val (C.ct.own 9 (fa_cons rfl (C.ct.var 0 (by decide +kernel)) (fa_cons rfl (C.ct.var 1 (by decide +kernel)) fa_nil)) rfl rfl (by decide +kernel) rfl) rfl)) (fs_one fs_never) fs_nil) (fs_cons (C.asgT (C.ct.var 0 (by decide +kernel)) (C.gm [2, 3, 4] (by decide +kernel)) rfl rfl) (fs_cons (C.asg 5 fe_int (by decide +kernel) rfl) (fs_cons (C.asg 6 fe_int (by decide +kernel) rfl) (fs_cons (C.fo (C.ct.it (C.ct.var 3 (by decide +kernel))) (C.gm [7, 8, 9, 10, 11] (by decide +kernel)) (fun _ C => (fs_one (fs_if (cmpT C.ct.inn (C.ct.var 7 (by decide +kernel)) (C.ct.var 1 (by decide +kernel)) rfl) (fs_cons (C.asg 5 (C.ct.add (C.ct.var 5 (by decide +kernel)) (C.ct.var 10 (by decide +kernel))) (by decide +kernel) rfl) (fs_one (C.asg 6 (C.ct.sub (C.ct.var 6 (by decide +kernel)) (C.ct.var 11 (by decide +kernel))) (by decide +kernel) rfl))) (fs_cons (C.asg 5 (C.ct.add (C.ct.var 5 (by decide +kernel)) (C.ct.var 8 (by decide +kernel))) (by decide +kernel) rfl) (fs_one (C.asg 6 (C.ct.add (C.ct.var 6 (by decide +kernel)) (C.ct.var 9 (by decide +kernel))) (by decide +kernel) rfl)))))) rfl) (fs_cons (C.fo (C.ct.it (C.ct.var 4 (by decide +kernel))) (C.gm [12, 13, 14] (by decide +kernel)) (fun _ C => (fs_one (fs_if (ft_and (cmpT C.ct.inn (C.ct.var 12 (by decide +kernel)) (C.ct.var 1 (by decide +kernel)) rfl) (pw_and1 (cmpT C.ct.nin (C.ct.var 13 (by decide +kernel)) (C.ct.var 1 (by decide +kernel)) rfl))).pt (fs_one (C.asg 5 (C.ct.add (C.ct.var 5 (by decide +kernel)) (C.ct.var 14 (by decide +kernel))) (by decide +kernel) rfl)) fs_nil))) rfl) (fs_one (fs_ret (fe_tup (fa_cons rfl (C.ct.var 5 (by decide +kernel)) (fa_cons rfl (C.ct.var 6 (by decide +kernel)) fa_nil)))))))))))
/-! ### shared_part -/
abbrev S11 : Stmt := top 7
def N11 : List Str := ["one", "other", "high", "low"]
noncomputable def B11_1 : Fn.Env → Res Bool := (tstF (bin2 gtF (varB 3) (litI 0)))
noncomputable def B11_2 : Fn.Env → Out := (par2 2 3 (varB 3) (bin2 modB (varB 2) (varB 3)))
noncomputable def B11 : Fn.Env → Out := (seqS (par2 2 3 (callF absF (consA (varB 0) nilA)) (callF absF (consA (varB 1) nilA))) (seqS (whileC B11_1 B11_2) (retN 2)))
noncomputable def E11 : En := ⟨"shared_part", 2, defF 4 B11⟩
noncomputable def T12 : List En := T11 ++ [E11]
theorem sc11 : FnScope N11 ["one", "other"] (defScope S11) := ⟨rfl, rfl, rfl, by decide +kernel, rfl, by decide +kernel, by decide +kernel⟩
theorem ok11 {X : Cx} {g : G} {cls : Nat → Value} (C : CS X g cls 11 T11 N11 (defScope S11) bt) : PSs X (defBody S11) (tFS g B11) :=
  (fs_cons (C.par2 2 3 (C.ct.call C.ct.abs (fa_cons rfl (C.ct.var 0 (by decide +kernel)) fa_nil) (by decide +kernel) (by decide +kernel) rfl) (C.ct.call C.ct.abs (fa_cons rfl (C.ct.var 1 (by decide +kernel)) fa_nil) (by decide +kernel) (by decide +kernel) rfl) (by decide +kernel) (by decide +kernel) (by decide) (by decide +kernel)) (fs_cons (C.wc (cmpT C.ct.gt (C.ct.var 3 (by decide +kernel)) fe_int rfl) (fs_one (C.par2 2 3 (C.ct.var 3 (by decide +kernel)) (C.ct.mod (C.ct.var 2 (by decide +kernel)) (C.ct.var 3 (by decide +kernel))) (by decide +kernel) (by decide +kernel) (by decide) (by decide +kernel)))) (fs_one (C.rn 2 (by decide +kernel)))))
/-! ### fraction -/
abbrev S12 : Stmt := top 9
def N12 : List Str := ["top", "bottom", "part"]
noncomputable def B12 : Fn.Env → Out := (seqS (iteS (tstF (bin2 eqB (varB 1) (litI 0))) badS nxS) (seqS (thenS (ownF E11 (consA (varB 0) (consA (varB 1) nilA))) (setV 2)) (seqS (iteS (tstF (bin2 ltB (varB 1) (litI 0))) (thenS (bin2 subB (litI 0) (varB 2)) (setV 2)) nxS) (thenS (callF tupB (consA (bin2 divB (varB 0) (varB 2)) (consA (bin2 divB (varB 1) (varB 2)) nilA))) retV))))
noncomputable def E12 : En := ⟨"fraction", 2, defF 3 B12⟩
noncomputable def T13 : List En := T12 ++ [E12]
theorem sc12 : FnScope N12 ["top", "bottom"] (defScope S12) := ⟨rfl, rfl, rfl, by decide +kernel, rfl, by decide +kernel, by decide +kernel⟩
theorem ok12 {X : Cx} {g : G} {cls : Nat → Value} (C : CS X g cls 12 T12 N12 (defScope S12) bt) : PSs X (defBody S12) (tFS g B12) :=
  (fs_cons (fs_if (cmpT C.ct.eq (C.ct.var 1 (by decide +kernel)) fe_int rfl) (fs_one fs_never) fs_nil) (fs_cons (C.asg 2 (C.ct.own 11 (fa_cons rfl (C.ct.var 0 (by decide +kernel)) (fa_cons rfl (C.ct.var 1 (by decide +kernel)) fa_nil)) rfl rfl (by decide +kernel) rfl) (by decide +kernel) rfl) (fs_cons (fs_if (cmpT C.ct.lt (C.ct.var 1 (by decide +kernel)) fe_int rfl) (fs_one (C.asg 2 (C.ct.sub fe_int (C.ct.var 2 (by decide +kernel))) (by decide +kernel) rfl)) fs_nil) (fs_one (fs_ret (fe_tup (fa_cons rfl (C.ct.div (C.ct.var 0 (by decide +kernel)) (C.ct.var 2 (by decide +kernel))) (fa_cons rfl (C.ct.div (C.ct.var 1 (by decide +kernel)) (C.ct.var 2 (by decide +kernel))) fa_nil))))))))
/-! ### plus -/
abbrev S13 : Stmt := top 10
def N13 : List Str := ["a", "b"]
noncomputable def B13 : Fn.Env → Out := (thenS (ownF E12 (consA (bin2 addB (bin2 mulB (bin2 idxB (varB 0) (litI 0)) (bin2 idxB (varB 1) (litI 1))) (bin2 mulB (bin2 idxB (varB 1) (litI 0)) (bin2 idxB (varB 0) (litI 1)))) (consA (bin2 mulB (bin2 idxB (varB 0) (litI 1)) (bin2 idxB (varB 1) (litI 1))) nilA))) retV)
noncomputable def E13 : En := ⟨"plus", 2, defF 2 B13⟩
noncomputable def T14 : List En := T13 ++ [E13]
theorem sc13 : FnScope N13 ["a", "b"] (defScope S13) := ⟨rfl, rfl, rfl, by decide +kernel, rfl, by decide +kernel, by decide +kernel⟩
theorem ok13 {X : Cx} {g : G} {cls : Nat → Value} (C : CS X g cls 13 T13 N13 (defScope S13) bt) : PSs X (defBody S13) (tFS g B13) :=
  (fs_one (fs_ret (C.ct.own 12 (fa_cons rfl (C.ct.add (C.ct.mul (C.ct.idx (C.ct.var 0 (by decide +kernel)) fe_int rfl) (C.ct.idx (C.ct.var 1 (by decide +kernel)) fe_int rfl)) (C.ct.mul (C.ct.idx (C.ct.var 1 (by decide +kernel)) fe_int rfl) (C.ct.idx (C.ct.var 0 (by decide +kernel)) fe_int rfl))) (fa_cons rfl (C.ct.mul (C.ct.idx (C.ct.var 0 (by decide +kernel)) fe_int rfl) (C.ct.idx (C.ct.var 1 (by decide +kernel)) fe_int rfl)) fa_nil)) rfl rfl (by decide +kernel) rfl)))
/-! ### times -/
abbrev S14 : Stmt := top 12
def N14 : List Str := ["a", "b"]
noncomputable def B14 : Fn.Env → Out := (thenS (ownF E12 (consA (bin2 mulB (bin2 idxB (varB 0) (litI 0)) (bin2 idxB (varB 1) (litI 0))) (consA (bin2 mulB (bin2 idxB (varB 0) (litI 1)) (bin2 idxB (varB 1) (litI 1))) nilA))) retV)
noncomputable def E14 : En := ⟨"times", 2, defF 2 B14⟩
noncomputable def T15 : List En := T14 ++ [E14]
theorem sc14 : FnScope N14 ["a", "b"] (defScope S14) := ⟨rfl, rfl, rfl, by decide +kernel, rfl, by decide +kernel, by decide +kernel⟩
theorem ok14 {X : Cx} {g : G} {cls : Nat → Value} (C : CS X g cls 14 T14 N14 (defScope S14) bt) : PSs X (defBody S14) (tFS g B14) :=
  (fs_one (fs_ret (C.ct.own 12 (fa_cons rfl (C.ct.mul (C.ct.idx (C.ct.var 0 (by decide +kernel)) fe_int rfl) (C.ct.idx (C.ct.var 1 (by decide +kernel)) fe_int rfl)) (fa_cons rfl (C.ct.mul (C.ct.idx (C.ct.var 0 (by decide +kernel)) fe_int rfl) (C.ct.idx (C.ct.var 1 (by decide +kernel)) fe_int rfl)) fa_nil)) rfl rfl (by decide +kernel) rfl)))
/-! ### line_at -/
abbrev S15 : Stmt := top 23
def N15 : List Str := ["line", "price", "base", "lean"]
noncomputable def B15 : Fn.Env → Out := (seqS (thenS (varB 0) (bindV (.many [2, 3]))) (thenS (ownF E13 (consA (ownF E12 (consA (varB 2) (consA (litI 1) nilA))) (consA (ownF E14 (consA (ownF E12 (consA (varB 3) (consA (litI 1) nilA))) (consA (varB 1) nilA))) nilA))) retV))
noncomputable def E15 : En := ⟨"line_at", 2, defF 4 B15⟩
noncomputable def T16 : List En := T15 ++ [E15]
theorem sc15 : FnScope N15 ["line", "price"] (defScope S15) := ⟨rfl, rfl, rfl, by decide +kernel, rfl, by decide +kernel, by decide +kernel⟩
theorem ok15 {X : Cx} {g : G} {cls : Nat → Value} (C : CS X g cls 15 T15 N15 (defScope S15) bt) : PSs X (defBody S15) (tFS g B15) :=
  (fs_cons (C.asgT (C.ct.var 0 (by decide +kernel)) (C.gm [2, 3] (by decide +kernel)) rfl rfl) (fs_one (fs_ret (C.ct.own 13 (fa_cons rfl (C.ct.own 12 (fa_cons rfl (C.ct.var 2 (by decide +kernel)) (fa_cons rfl fe_int fa_nil)) rfl rfl (by decide +kernel) rfl) (fa_cons rfl (C.ct.own 14 (fa_cons rfl (C.ct.own 12 (fa_cons rfl (C.ct.var 3 (by decide +kernel)) (fa_cons rfl fe_int fa_nil)) rfl rfl (by decide +kernel) rfl) (fa_cons rfl (C.ct.var 1 (by decide +kernel)) fa_nil)) rfl rfl (by decide +kernel) rfl) fa_nil)) rfl rfl (by decide +kernel) rfl))))
/-! ### is_whole -/
abbrev S16 : Stmt := top 6
def N16 : List Str := ["thing"]
noncomputable def B16 : Fn.Env → Out := (thenS (andV (one1 (isiB .int) (varB 0)) (one1 notB (one1 (isiB .bool) (varB 0)))) retV)
noncomputable def E16 : En := ⟨"is_whole", 1, defF 1 B16⟩
noncomputable def T17 : List En := T16 ++ [E16]
theorem sc16 : FnScope N16 ["thing"] (defScope S16) := ⟨rfl, rfl, rfl, by decide +kernel, rfl, by decide +kernel, by decide +kernel⟩
theorem ok16 {X : Cx} {g : G} {cls : Nat → Value} (C : CS X g cls 16 T16 N16 (defScope S16) bt) : PSs X (defBody S16) (tFS g B16) :=
  (fs_one (fs_ret (fe_and (C.ct.isi .int (C.ct.var 0 (by decide +kernel)) rfl (by decide +kernel) (by decide +kernel) boot_int rfl) (pe_one (fe_not (C.ct.isi .bool (C.ct.var 0 (by decide +kernel)) rfl (by decide +kernel) (by decide +kernel) boot_bool rfl))))))
/-! ### is_fraction -/
abbrev S17 : Stmt := top 8
def N17 : List Str := ["thing"]
noncomputable def B17 : Fn.Env → Out := (seqS (iteS (orT (notT (testV (one1 (isiB .tuple) (varB 0)))) (orT (tstF (bin2 neB (callF lenB (consA (varB 0) nilA)) (litI 2))) (orT (notT (testV (ownF E16 (consA (bin2 idxB (varB 0) (litI 0)) nilA)))) (notT (testV (ownF E16 (consA (bin2 idxB (varB 0) (litI 1)) nilA))))))) (thenS (litB false) retV) nxS) (thenS (andV (bin2 gtF (bin2 idxB (varB 0) (litI 1)) (litI 0)) (bin2 eqB (ownF E11 (consA (bin2 idxB (varB 0) (litI 0)) (consA (bin2 idxB (varB 0) (litI 1)) nilA))) (litI 1))) retV))
noncomputable def E17 : En := ⟨"is_fraction", 1, defF 1 B17⟩
noncomputable def T18 : List En := T17 ++ [E17]
theorem sc17 : FnScope N17 ["thing"] (defScope S17) := ⟨rfl, rfl, rfl, by decide +kernel, rfl, by decide +kernel, by decide +kernel⟩
theorem ok17 {X : Cx} {g : G} {cls : Nat → Value} (C : CS X g cls 17 T17 N17 (defScope S17) bt) : PSs X (defBody S17) (tFS g B17) :=
  (fs_cons (fs_if (ft_or (ft_not (C.ct.val (C.ct.isi .tuple (C.ct.var 0 (by decide +kernel)) rfl (by decide +kernel) (by decide +kernel) boot_tuple rfl) rfl)) (ft_or (cmpT C.ct.ne (C.ct.call C.ct.len (fa_cons rfl (C.ct.var 0 (by decide +kernel)) fa_nil) (by decide +kernel) (by decide +kernel) rfl) fe_int rfl) (ft_or (ft_not (C.ct.val (C.ct.own 16 (fa_cons rfl (C.ct.idx (C.ct.var 0 (by decide +kernel)) fe_int rfl) fa_nil) rfl rfl (by decide +kernel) rfl) rfl)) (pw_or1 (ft_not (C.ct.val (C.ct.own 16 (fa_cons rfl (C.ct.idx (C.ct.var 0 (by decide +kernel)) fe_int rfl) fa_nil) rfl rfl (by decide +kernel) rfl) rfl)))))).pt (fs_one (fs_ret fe_bl)) fs_nil) (fs_one (fs_ret (fe_and (cmpE C.ct.gt (C.ct.idx (C.ct.var 0 (by decide +kernel)) fe_int rfl) fe_int rfl) (pe_one (cmpE C.ct.eq (C.ct.own 11 (fa_cons rfl (C.ct.idx (C.ct.var 0 (by decide +kernel)) fe_int rfl) (fa_cons rfl (C.ct.idx (C.ct.var 0 (by decide +kernel)) fe_int rfl) fa_nil)) rfl rfl (by decide +kernel) rfl) fe_int rfl))))))
/-! ### below -/
abbrev S18 : Stmt := top 13
def N18 : List Str := ["a", "b"]
noncomputable def B18 : Fn.Env → Out := (thenS (bin2 ltB (bin2 mulB (bin2 idxB (varB 0) (litI 0)) (bin2 idxB (varB 1) (litI 1))) (bin2 mulB (bin2 idxB (varB 1) (litI 0)) (bin2 idxB (varB 0) (litI 1)))) retV)
noncomputable def E18 : En := ⟨"below", 2, defF 2 B18⟩
noncomputable def T19 : List En := T18 ++ [E18]
theorem sc18 : FnScope N18 ["a", "b"] (defScope S18) := ⟨rfl, rfl, rfl, by decide +kernel, rfl, by decide +kernel, by decide +kernel⟩
theorem ok18 {X : Cx} {g : G} {cls : Nat → Value} (C : CS X g cls 18 T18 N18 (defScope S18) bt) : PSs X (defBody S18) (tFS g B18) :=
  (fs_one (fs_ret (cmpE C.ct.lt (C.ct.mul (C.ct.idx (C.ct.var 0 (by decide +kernel)) fe_int rfl) (C.ct.idx (C.ct.var 1 (by decide +kernel)) fe_int rfl)) (C.ct.mul (C.ct.idx (C.ct.var 1 (by decide +kernel)) fe_int rfl) (C.ct.idx (C.ct.var 0 (by decide +kernel)) fe_int rfl)) rfl)))
/-! ### is_price -/
abbrev S19 : Stmt := top 17
def N19 : List Str := ["web", "thing"]
noncomputable def B19 : Fn.Env → Out := (seqS (iteS (notT (testV (ownF E17 (consA (varB 1) nilA)))) (thenS (litB false) retV) nxS) (thenS (andV (one1 notB (ownF E18 (consA (varB 1) (consA (litD (.ctup [.int 0, .int 1])) nilA)))) (one1 notB (ownF E18 (consA (callF tupB (consA (bin2 idxB (varB 0) (litI 0)) (consA (litI 1) nilA))) (consA (varB 1) nilA))))) retV))
noncomputable def E19 : En := ⟨"is_price", 2, defF 2 B19⟩
noncomputable def T20 : List En := T19 ++ [E19]
theorem sc19 : FnScope N19 ["web", "thing"] (defScope S19) := ⟨rfl, rfl, rfl, by decide +kernel, rfl, by decide +kernel, by decide +kernel⟩
theorem ok19 {X : Cx} {g : G} {cls : Nat → Value} (C : CS X g cls 19 T19 N19 (defScope S19) bt) : PSs X (defBody S19) (tFS g B19) :=
  (fs_cons (fs_if (ft_not (C.ct.val (C.ct.own 17 (fa_cons rfl (C.ct.var 1 (by decide +kernel)) fa_nil) rfl rfl (by decide +kernel) rfl) rfl)) (fs_one (fs_ret fe_bl)) fs_nil) (fs_one (fs_ret (fe_and (fe_not (C.ct.own 18 (fa_cons rfl (C.ct.var 1 (by decide +kernel)) (fa_cons rfl (C.ct.con 0 rfl (by decide +kernel)) fa_nil)) rfl rfl (by decide +kernel) rfl)) (pe_one (fe_not (C.ct.own 18 (fa_cons rfl (fe_tup (fa_cons rfl (C.ct.idx (C.ct.var 0 (by decide +kernel)) fe_int rfl) (fa_cons rfl fe_int fa_nil))) (fa_cons rfl (C.ct.var 1 (by decide +kernel)) fa_nil)) rfl rfl (by decide +kernel) rfl)))))))
/-! ### worth_of -/
abbrev S20 : Stmt := top 24
def N20 : List Str := ["web", "cut", "price", "line"]
noncomputable def B20 : Fn.Env → Out := (seqS (thenS (ownF E10 (consA (varB 0) (consA (varB 1) nilA))) (setV 3)) (seqS (iteS (notT (testV (ownF E19 (consA (varB 0) (consA (varB 2) nilA))))) badS nxS) (thenS (ownF E15 (consA (varB 3) (consA (varB 2) nilA))) retV)))
noncomputable def E20 : En := ⟨"worth_of", 3, defF 4 B20⟩
noncomputable def T21 : List En := T20 ++ [E20]
theorem sc20 : FnScope N20 ["web", "cut", "price"] (defScope S20) := ⟨rfl, rfl, rfl, by decide +kernel, rfl, by decide +kernel, by decide +kernel⟩
theorem ok20 {X : Cx} {g : G} {cls : Nat → Value} (C : CS X g cls 20 T20 N20 (defScope S20) bt) : PSs X (defBody S20) (tFS g B20) :=
  (fs_cons (C.asg 3 (C.ct.own 10 (fa_cons rfl (C.ct.var 0 (by decide +kernel)) (fa_cons rfl (C.ct.var 1 (by decide +kernel)) fa_nil)) rfl rfl (by decide +kernel) rfl) (by decide +kernel) rfl) (fs_cons (fs_if (ft_not (C.ct.val (C.ct.own 19 (fa_cons rfl (C.ct.var 0 (by decide +kernel)) (fa_cons rfl (C.ct.var 2 (by decide +kernel)) fa_nil)) rfl rfl (by decide +kernel) rfl) rfl)) (fs_one fs_never) fs_nil) (fs_one (fs_ret (C.ct.own 15 (fa_cons rfl (C.ct.var 3 (by decide +kernel)) (fa_cons rfl (C.ct.var 2 (by decide +kernel)) fa_nil)) rfl rfl (by decide +kernel) rfl)))))
/-! ### _law_plus -/
abbrev S21 : Stmt := top 33
def N21 : List Str := ["_law_one", "_law_other"]
noncomputable def B21 : Fn.Env → Out := (thenS (ownF E7 (consA (bin2 addB (bin2 mulB (bin2 idxB (varB 0) (litI 0)) (bin2 idxB (varB 1) (litI 1))) (bin2 mulB (bin2 idxB (varB 1) (litI 0)) (bin2 idxB (varB 0) (litI 1)))) (consA (bin2 mulB (bin2 idxB (varB 0) (litI 1)) (bin2 idxB (varB 1) (litI 1))) nilA))) retV)
noncomputable def E21 : En := ⟨"_law_plus", 2, defF 2 B21⟩
noncomputable def T22 : List En := T21 ++ [E21]
theorem sc21 : FnScope N21 ["_law_one", "_law_other"] (defScope S21) := ⟨rfl, rfl, rfl, by decide +kernel, rfl, by decide +kernel, by decide +kernel⟩
theorem ok21 {X : Cx} {g : G} {cls : Nat → Value} (C : CS X g cls 21 T21 N21 (defScope S21) bt) : PSs X (defBody S21) (tFS g B21) :=
  (fs_one (fs_ret (C.ct.own 7 (fa_cons rfl (C.ct.add (C.ct.mul (C.ct.idx (C.ct.var 0 (by decide +kernel)) fe_int rfl) (C.ct.idx (C.ct.var 1 (by decide +kernel)) fe_int rfl)) (C.ct.mul (C.ct.idx (C.ct.var 1 (by decide +kernel)) fe_int rfl) (C.ct.idx (C.ct.var 0 (by decide +kernel)) fe_int rfl))) (fa_cons rfl (C.ct.mul (C.ct.idx (C.ct.var 0 (by decide +kernel)) fe_int rfl) (C.ct.idx (C.ct.var 1 (by decide +kernel)) fe_int rfl)) fa_nil)) rfl rfl (by decide +kernel) rfl)))
/-! ### _law_times -/
abbrev S22 : Stmt := top 34
def N22 : List Str := ["_law_one", "_law_other"]
noncomputable def B22 : Fn.Env → Out := (thenS (ownF E7 (consA (bin2 mulB (bin2 idxB (varB 0) (litI 0)) (bin2 idxB (varB 1) (litI 0))) (consA (bin2 mulB (bin2 idxB (varB 0) (litI 1)) (bin2 idxB (varB 1) (litI 1))) nilA))) retV)
noncomputable def E22 : En := ⟨"_law_times", 2, defF 2 B22⟩
noncomputable def T23 : List En := T22 ++ [E22]
theorem sc22 : FnScope N22 ["_law_one", "_law_other"] (defScope S22) := ⟨rfl, rfl, rfl, by decide +kernel, rfl, by decide +kernel, by decide +kernel⟩
theorem ok22 {X : Cx} {g : G} {cls : Nat → Value} (C : CS X g cls 22 T22 N22 (defScope S22) bt) : PSs X (defBody S22) (tFS g B22) :=
  (fs_one (fs_ret (C.ct.own 7 (fa_cons rfl (C.ct.mul (C.ct.idx (C.ct.var 0 (by decide +kernel)) fe_int rfl) (C.ct.idx (C.ct.var 1 (by decide +kernel)) fe_int rfl)) (fa_cons rfl (C.ct.mul (C.ct.idx (C.ct.var 0 (by decide +kernel)) fe_int rfl) (C.ct.idx (C.ct.var 1 (by decide +kernel)) fe_int rfl)) fa_nil)) rfl rfl (by decide +kernel) rfl)))
/-! ### _law_sizes -/
abbrev S23 : Stmt := top 37
def N23 : List Str := ["_law_web_here", "_law_price_here", "_law_into", "_law_out", "_law_name", "_law_a", "_law_b", "_law_c", "_law_d", "_law_one", "_law_other", "_law_size"]
noncomputable def B23 : Fn.Env → Out := (seqS (thenS (callF tupF (consA (compV (.many [4, 5, 6, 7, 8]) (itF true (bin2 idxB (varB 0) (litI 1))) yesF (ownF E21 (consA (callF tupB (consA (varB 5) (consA (litI 1) nilA))) (consA (ownF E22 (consA (callF tupB (consA (varB 6) (consA (litI 1) nilA))) (consA (varB 1) nilA))) nilA))) [4, 5, 6, 7, 8]) nilA)) (setV 2)) (seqS (thenS (callF tupF (consA (compV (.many [4, 5, 6, 7, 8]) (itF true (bin2 idxB (varB 0) (litI 1))) yesF (ownF E21 (consA (callF tupB (consA (varB 7) (consA (litI 1) nilA))) (consA (ownF E22 (consA (callF tupB (consA (bin2 subB (litI 0) (varB 8)) (consA (litI 1) nilA))) (consA (varB 1) nilA))) nilA))) [4, 5, 6, 7, 8]) nilA)) (setV 3)) (thenS (callF tupB (consA (varB 2) (consA (callF tupF (consA (compV (.many [9, 10, 11]) (itF true (bin2 idxB (varB 0) (litI 2))) yesF (callF tupB (consA (varB 11) (consA (litI 1) nilA))) [9, 10, 11]) nilA)) (consA (varB 3) nilA)))) retV)))
noncomputable def E23 : En := ⟨"_law_sizes", 2, defF 12 B23⟩
noncomputable def T24 : List En := T23 ++ [E23]
theorem sc23 : FnScope N23 ["_law_web_here", "_law_price_here"] (defScope S23) := ⟨rfl, rfl, rfl, by decide +kernel, rfl, by decide +kernel, by decide +kernel⟩
theorem ok23 {X : Cx} {g : G} {cls : Nat → Value} (C : CS X g cls 23 T23 N23 (defScope S23) bt) : PSs X (defBody S23) (tFS g B23) :=
  (fs_cons (C.asg 2 (C.ct.call C.ct.tup (fa_cons rfl (C.ct.lc [("_law_name", 4), ("_law_a", 5), ("_law_b", 6), ("_law_c", 7), ("_law_d", 8)] (C.ct.it (C.ct.idx (C.ct.var 0 (by decide +kernel)) fe_int rfl)) (fun C1 => ⟨(C1.gm [4, 5, 6, 7, 8] (by decide +kernel)), ifs0, (C1.own 21 (fa_cons rfl (fe_tup (fa_cons rfl (C1.var 5 (by decide +kernel)) (fa_cons rfl fe_int fa_nil))) (fa_cons rfl (C1.own 22 (fa_cons rfl (fe_tup (fa_cons rfl (C1.var 6 (by decide +kernel)) (fa_cons rfl fe_int fa_nil))) (fa_cons rfl (C1.var 1 (by decide +kernel)) fa_nil)) rfl rfl (by decide +kernel) rfl) fa_nil)) rfl rfl (by decide +kernel) rfl)⟩) (by decide +kernel)) fa_nil) (by decide +kernel) (by decide +kernel) rfl) (by decide +kernel) rfl) (fs_cons (C.asg 3 (C.ct.call C.ct.tup (fa_cons rfl (C.ct.lc [("_law_name", 4), ("_law_a", 5), ("_law_b", 6), ("_law_c", 7), ("_law_d", 8)] (C.ct.it (C.ct.idx (C.ct.var 0 (by decide +kernel)) fe_int rfl)) (fun C2 => ⟨(C2.gm [4, 5, 6, 7, 8] (by decide +kernel)), ifs0, (C2.own 21 (fa_cons rfl (fe_tup (fa_cons rfl (C2.var 7 (by decide +kernel)) (fa_cons rfl fe_int fa_nil))) (fa_cons rfl (C2.own 22 (fa_cons rfl (fe_tup (fa_cons rfl (C2.sub fe_int (C2.var 8 (by decide +kernel))) (fa_cons rfl fe_int fa_nil))) (fa_cons rfl (C2.var 1 (by decide +kernel)) fa_nil)) rfl rfl (by decide +kernel) rfl) fa_nil)) rfl rfl (by decide +kernel) rfl)⟩) (by decide +kernel)) fa_nil) (by decide +kernel) (by decide +kernel) rfl) (by decide +kernel) rfl) (fs_one (fs_ret (fe_tup (fa_cons rfl (C.ct.var 2 (by decide +kernel)) (fa_cons rfl (C.ct.call C.ct.tup (fa_cons rfl (C.ct.lc [("_law_one", 9), ("_law_other", 10), ("_law_size", 11)] (C.ct.it (C.ct.idx (C.ct.var 0 (by decide +kernel)) fe_int rfl)) (fun C3 => ⟨(C3.gm [9, 10, 11] (by decide +kernel)), ifs0, (fe_tup (fa_cons rfl (C3.var 11 (by decide +kernel)) (fa_cons rfl fe_int fa_nil)))⟩) (by decide +kernel)) fa_nil) (by decide +kernel) (by decide +kernel) rfl) (fa_cons rfl (C.ct.var 3 (by decide +kernel)) fa_nil))))))))
/-! ### _law_held -/
abbrev S24 : Stmt := top 38
def N24 : List Str := ["_law_web_here", "_law_cut", "_law_price_here", "_law_into", "_law_through", "_law_out", "_law_names_here", "_law_found", "_law_k"]
noncomputable def B24_1 : Fn.Env → Out := (thenS (ownF E21 (consA (varB 7) (consA (bin2 idxB (callF lstB (consA (bin2 idxB (varB 3) (varB 8)) (consA (bin2 idxB (varB 5) (varB 8)) nilA))) (callF intF (consA (bin2 (inB false) (bin2 idxB (varB 6) (varB 8)) (varB 1)) nilA))) nilA))) (setV 7))
noncomputable def B24_2 : Fn.Env → Out := (iteS (andT (tstF (bin2 (inB false) (bin2 idxB (bin2 idxB (bin2 idxB (varB 0) (litI 2)) (varB 8)) (litI 0)) (varB 1))) (tstF (bin2 (inB true) (bin2 idxB (bin2 idxB (bin2 idxB (varB 0) (litI 2)) (varB 8)) (litI 1)) (varB 1)))) (thenS (ownF E21 (consA (varB 7) (consA (bin2 idxB (varB 4) (varB 8)) nilA))) (setV 7)) nxS)
noncomputable def B24 : Fn.Env → Out := (seqS (thenS (ownF E23 (consA (varB 0) (consA (varB 2) nilA))) (bindV (.many [3, 4, 5]))) (seqS (thenS (ownF E6 (consA (varB 0) nilA)) (setV 6)) (seqS (thenS (callF tupB (consA (litI 0) (consA (litI 1) nilA))) (setV 7)) (seqS (forV (.one 8) (rgF (consA (callF lenB (consA (varB 6) nilA)) nilA)) B24_1) (seqS (forV (.one 8) (rgF (consA (callF lenB (consA (bin2 idxB (varB 0) (litI 2)) nilA)) nilA)) B24_2) (retN 7))))))
noncomputable def E24 : En := ⟨"_law_held", 3, defF 9 B24⟩
noncomputable def T25 : List En := T24 ++ [E24]
theorem sc24 : FnScope N24 ["_law_web_here", "_law_cut", "_law_price_here"] (defScope S24) := ⟨rfl, rfl, rfl, by decide +kernel, rfl, by decide +kernel, by decide +kernel⟩
theorem ok24 {X : Cx} {g : G} {cls : Nat → Value} (C : CS X g cls 24 T24 N24 (defScope S24) bt) : PSs X (defBody S24) (tFS g B24) :=
  (fs_cons (C.asgT (C.ct.own 23 (fa_cons rfl (C.ct.var 0 (by decide +kernel)) (fa_cons rfl (C.ct.var 2 (by decide +kernel)) fa_nil)) rfl rfl (by decide +kernel) rfl) (C.gm [3, 4, 5] (by decide +kernel)) rfl rfl) (fs_cons (C.asg 6 (C.ct.own 6 (fa_cons rfl (C.ct.var 0 (by decide +kernel)) fa_nil) rfl rfl (by decide +kernel) rfl) (by decide +kernel) rfl) (fs_cons (C.asg 7 (fe_tup (fa_cons rfl fe_int (fa_cons rfl fe_int fa_nil))) (by decide +kernel) rfl) (fs_cons (C.fo (C.ct.rg1 (C.ct.call C.ct.len (fa_cons rfl (C.ct.var 6 (by decide +kernel)) fa_nil) (by decide +kernel) (by decide +kernel) rfl) (by decide +kernel) rfl) (C.g1 8 (by decide +kernel)) (fun _ C => (fs_one (C.asg 7 (C.ct.own 21 (fa_cons rfl (C.ct.var 7 (by decide +kernel)) (fa_cons rfl (C.ct.idx (fe_lst (fa_cons rfl (C.ct.idx (C.ct.var 3 (by decide +kernel)) (C.ct.var 8 (by decide +kernel)) rfl) (fa_cons rfl (C.ct.idx (C.ct.var 5 (by decide +kernel)) (C.ct.var 8 (by decide +kernel)) rfl) fa_nil))) (C.ct.call C.ct.int (fa_cons rfl (cmpE C.ct.inn (C.ct.idx (C.ct.var 6 (by decide +kernel)) (C.ct.var 8 (by decide +kernel)) rfl) (C.ct.var 1 (by decide +kernel)) rfl) fa_nil) (by decide +kernel) (by decide +kernel) rfl) rfl) fa_nil)) rfl rfl (by decide +kernel) rfl) (by decide +kernel) rfl))) rfl) (fs_cons (C.fo (C.ct.rg1 (C.ct.call C.ct.len (fa_cons rfl (C.ct.idx (C.ct.var 0 (by decide +kernel)) fe_int rfl) fa_nil) (by decide +kernel) (by decide +kernel) rfl) (by decide +kernel) rfl) (C.g1 8 (by decide +kernel)) (fun _ C => (fs_one (fs_if (ft_and (cmpT C.ct.inn (C.ct.idx (C.ct.idx (C.ct.idx (C.ct.var 0 (by decide +kernel)) fe_int rfl) (C.ct.var 8 (by decide +kernel)) rfl) fe_int rfl) (C.ct.var 1 (by decide +kernel)) rfl) (pw_and1 (cmpT C.ct.nin (C.ct.idx (C.ct.idx (C.ct.idx (C.ct.var 0 (by decide +kernel)) fe_int rfl) (C.ct.var 8 (by decide +kernel)) rfl) fe_int rfl) (C.ct.var 1 (by decide +kernel)) rfl))).pt (fs_one (C.asg 7 (C.ct.own 21 (fa_cons rfl (C.ct.var 7 (by decide +kernel)) (fa_cons rfl (C.ct.idx (C.ct.var 4 (by decide +kernel)) (C.ct.var 8 (by decide +kernel)) rfl) fa_nil)) rfl rfl (by decide +kernel) rfl) (by decide +kernel) rfl)) fs_nil))) rfl) (fs_one (C.rn 7 (by decide +kernel))))))))
/-! ### check_price -/
abbrev S25 : Stmt := top 18
def N25 : List Str := ["web", "price"]
noncomputable def B25 : Fn.Env → Out := (iteS (notT (testV (ownF E19 (consA (varB 0) (consA (varB 1) nilA))))) badS nxS)
noncomputable def E25 : En := ⟨"check_price", 2, defF 2 B25⟩
noncomputable def T26 : List En := T25 ++ [E25]
theorem sc25 : FnScope N25 ["web", "price"] (defScope S25) := ⟨rfl, rfl, rfl, by decide +kernel, rfl, by decide +kernel, by decide +kernel⟩
theorem ok25 {X : Cx} {g : G} {cls : Nat → Value} (C : CS X g cls 25 T25 N25 (defScope S25) bt) : PSs X (defBody S25) (tFS g B25) :=
  (fs_one (fs_if (ft_not (C.ct.val (C.ct.own 19 (fa_cons rfl (C.ct.var 0 (by decide +kernel)) (fa_cons rfl (C.ct.var 1 (by decide +kernel)) fa_nil)) rfl rfl (by decide +kernel) rfl) rfl)) (fs_one fs_never) fs_nil))
/-! ### minus -/
abbrev S26 : Stmt := top 11
def N26 : List Str := ["a", "b"]
noncomputable def B26 : Fn.Env → Out := (thenS (ownF E12 (consA (bin2 subB (bin2 mulB (bin2 idxB (varB 0) (litI 0)) (bin2 idxB (varB 1) (litI 1))) (bin2 mulB (bin2 idxB (varB 1) (litI 0)) (bin2 idxB (varB 0) (litI 1)))) (consA (bin2 mulB (bin2 idxB (varB 0) (litI 1)) (bin2 idxB (varB 1) (litI 1))) nilA))) retV)
noncomputable def E26 : En := ⟨"minus", 2, defF 2 B26⟩
noncomputable def T27 : List En := T26 ++ [E26]
theorem sc26 : FnScope N26 ["a", "b"] (defScope S26) := ⟨rfl, rfl, rfl, by decide +kernel, rfl, by decide +kernel, by decide +kernel⟩
theorem ok26 {X : Cx} {g : G} {cls : Nat → Value} (C : CS X g cls 26 T26 N26 (defScope S26) bt) : PSs X (defBody S26) (tFS g B26) :=
  (fs_one (fs_ret (C.ct.own 12 (fa_cons rfl (C.ct.sub (C.ct.mul (C.ct.idx (C.ct.var 0 (by decide +kernel)) fe_int rfl) (C.ct.idx (C.ct.var 1 (by decide +kernel)) fe_int rfl)) (C.ct.mul (C.ct.idx (C.ct.var 1 (by decide +kernel)) fe_int rfl) (C.ct.idx (C.ct.var 0 (by decide +kernel)) fe_int rfl))) (fa_cons rfl (C.ct.mul (C.ct.idx (C.ct.var 0 (by decide +kernel)) fe_int rfl) (C.ct.idx (C.ct.var 1 (by decide +kernel)) fe_int rfl)) fa_nil)) rfl rfl (by decide +kernel) rfl)))
/-! ### sizes_at -/
abbrev S27 : Stmt := top 19
def N27 : List Str := ["web", "price", "into", "out", "name", "one", "grows", "other", "falls", "size"]
noncomputable def B27_1 : Fn.Env → Out := (seqS (appV 2 (ownF E13 (consA (ownF E12 (consA (varB 5) (consA (litI 1) nilA))) (consA (ownF E14 (consA (ownF E12 (consA (varB 6) (consA (litI 1) nilA))) (consA (varB 1) nilA))) nilA)))) (appV 3 (ownF E26 (consA (ownF E12 (consA (varB 7) (consA (litI 1) nilA))) (consA (ownF E14 (consA (ownF E12 (consA (varB 8) (consA (litI 1) nilA))) (consA (varB 1) nilA))) nilA)))))
noncomputable def B27 : Fn.Env → Out := (seqS (thenS (ownF E25 (consA (varB 0) (consA (varB 1) nilA))) dropS) (seqS (thenS (callF lstB nilA) (setV 2)) (seqS (thenS (callF lstB nilA) (setV 3)) (seqS (forV (.many [4, 5, 6, 7, 8]) (itF false (bin2 idxB (varB 0) (litI 1))) B27_1) (thenS (callF tupB (consA (callF tupF (consA (varB 2) nilA)) (consA (callF tupF (consA (compV (.many [5, 7, 9]) (itF true (bin2 idxB (varB 0) (litI 2))) yesF (callF tupB (consA (varB 9) (consA (litI 1) nilA))) [5, 7, 9]) nilA)) (consA (callF tupF (consA (varB 3) nilA)) nilA)))) retV)))))
noncomputable def E27 : En := ⟨"sizes_at", 2, defF 10 B27⟩
noncomputable def T28 : List En := T27 ++ [E27]
theorem sc27 : FnScope N27 ["web", "price"] (defScope S27) := ⟨rfl, rfl, rfl, by decide +kernel, rfl, by decide +kernel, by decide +kernel⟩
theorem ok27 {X : Cx} {g : G} {cls : Nat → Value} (C : CS X g cls 27 T27 N27 (defScope S27) bt) : PSs X (defBody S27) (tFS g B27) :=
  (fs_cons (C.ex (C.ct.own 25 (fa_cons rfl (C.ct.var 0 (by decide +kernel)) (fa_cons rfl (C.ct.var 1 (by decide +kernel)) fa_nil)) rfl rfl (by decide +kernel) rfl) rfl) (fs_cons (C.asg 2 (fe_lst fa_nil) (by decide +kernel) rfl) (fs_cons (C.asg 3 (fe_lst fa_nil) (by decide +kernel) rfl) (fs_cons (C.fo (C.ct.it (C.ct.idx (C.ct.var 0 (by decide +kernel)) fe_int rfl)) (C.gm [4, 5, 6, 7, 8] (by decide +kernel)) (fun _ C => (fs_cons (C.app 2 (C.ct.own 13 (fa_cons rfl (C.ct.own 12 (fa_cons rfl (C.ct.var 5 (by decide +kernel)) (fa_cons rfl fe_int fa_nil)) rfl rfl (by decide +kernel) rfl) (fa_cons rfl (C.ct.own 14 (fa_cons rfl (C.ct.own 12 (fa_cons rfl (C.ct.var 6 (by decide +kernel)) (fa_cons rfl fe_int fa_nil)) rfl rfl (by decide +kernel) rfl) (fa_cons rfl (C.ct.var 1 (by decide +kernel)) fa_nil)) rfl rfl (by decide +kernel) rfl) fa_nil)) rfl rfl (by decide +kernel) rfl) (by decide +kernel) rfl) (fs_one (C.app 3 (C.ct.own 26 (fa_cons rfl (C.ct.own 12 (fa_cons rfl (C.ct.var 7 (by decide +kernel)) (fa_cons rfl fe_int fa_nil)) rfl rfl (by decide +kernel) rfl) (fa_cons rfl (C.ct.own 14 (fa_cons rfl (C.ct.own 12 (fa_cons rfl (C.ct.var 8 (by decide +kernel)) (fa_cons rfl fe_int fa_nil)) rfl rfl (by decide +kernel) rfl) (fa_cons rfl (C.ct.var 1 (by decide +kernel)) fa_nil)) rfl rfl (by decide +kernel) rfl) fa_nil)) rfl rfl (by decide +kernel) rfl) (by decide +kernel) rfl)))) rfl) (fs_one (fs_ret (fe_tup (fa_cons rfl (C.ct.call C.ct.tup (fa_cons rfl (C.ct.var 2 (by decide +kernel)) fa_nil) (by decide +kernel) (by decide +kernel) rfl) (fa_cons rfl (C.ct.call C.ct.tup (fa_cons rfl (C.ct.lc [("one", 5), ("other", 7), ("size", 9)] (C.ct.it (C.ct.idx (C.ct.var 0 (by decide +kernel)) fe_int rfl)) (fun C1 => ⟨(C1.gm [5, 7, 9] (by decide +kernel)), ifs0, (fe_tup (fa_cons rfl (C1.var 9 (by decide +kernel)) (fa_cons rfl fe_int fa_nil)))⟩) (by decide +kernel)) fa_nil) (by decide +kernel) (by decide +kernel) rfl) (fa_cons rfl (C.ct.call C.ct.tup (fa_cons rfl (C.ct.var 3 (by decide +kernel)) fa_nil) (by decide +kernel) (by decide +kernel) rfl) fa_nil))))))))))
/-! ### _law_right -/
abbrev S28 : Stmt := top 39
def N28 : List Str := ["_law_web_here", "_law_cut", "_law_price_here", "_law_line", "_law_end", "_law_found", "_law_due", "_law_number"]
noncomputable def B28_1 : Fn.Env → Out := (seqS (thenS (ownF E20 (consA (varB 0) (consA (varB 1) (consA (varB 4) nilA)))) (setV 5)) (seqS (thenS (ownF E24 (consA (varB 0) (consA (varB 1) (consA (varB 4) nilA)))) (setV 6)) (seqS (iteS (orT (notT (testV (one1 (isiB .tuple) (varB 5)))) (tstF (bin2 neB (varB 5) (varB 6)))) (thenS (litB false) retV) nxS) (iteS (tstF (bin2 neB (ownF E21 (consA (callF tupB (consA (bin2 idxB (varB 3) (litI 0)) (consA (litI 1) nilA))) (consA (ownF E22 (consA (callF tupB (consA (bin2 idxB (varB 3) (litI 1)) (consA (litI 1) nilA))) (consA (varB 4) nilA))) nilA))) (varB 6))) (thenS (litB false) retV) nxS))))
noncomputable def B28 : Fn.Env → Out := (seqS (thenS (ownF E10 (consA (varB 0) (consA (varB 1) nilA))) (setV 3)) (seqS (iteS (orT (notT (testV (one1 (isiB .tuple) (varB 3)))) (tstF (bin2 neB (callF lenB (consA (varB 3) nilA)) (litI 2)))) (thenS (litB false) retV) nxS) (seqS (iteS (notT (testV (callF allF (consA (compV (.one 7) (itF true (varB 3)) yesF (andV (one1 (isiB .int) (varB 7)) (one1 notB (one1 (isiB .bool) (varB 7)))) [7]) nilA)))) (thenS (litB false) retV) nxS) (seqS (forV (.one 4) (itF false (callF lstB (consA (callF tupB (consA (litI 0) (consA (litI 1) nilA))) (consA (callF tupB (consA (bin2 idxB (varB 0) (litI 0)) (consA (litI 1) nilA))) (consA (varB 2) nilA))))) B28_1) (thenS (bin2 eqB (ownF E27 (consA (varB 0) (consA (varB 2) nilA))) (ownF E23 (consA (varB 0) (consA (varB 2) nilA)))) retV)))))
noncomputable def E28 : En := ⟨"_law_right", 3, defF 8 B28⟩
noncomputable def T29 : List En := T28 ++ [E28]
theorem sc28 : FnScope N28 ["_law_web_here", "_law_cut", "_law_price_here"] (defScope S28) := ⟨rfl, rfl, rfl, by decide +kernel, rfl, by decide +kernel, by decide +kernel⟩
theorem ok28 {X : Cx} {g : G} {cls : Nat → Value} (C : CS X g cls 28 T28 N28 (defScope S28) bt) : PSs X (defBody S28) (tFS g B28) :=
  (fs_cons (C.asg 3 (C.ct.own 10 (fa_cons rfl (C.ct.var 0 (by decide +kernel)) (fa_cons rfl (C.ct.var 1 (by decide +kernel)) fa_nil)) rfl rfl (by decide +kernel) rfl) (by decide +kernel) rfl) (fs_cons (fs_if (ft_or (ft_not (C.ct.val (C.ct.isi .tuple (C.ct.var 3 (by decide +kernel)) rfl (by decide +kernel) (by decide +kernel) boot_tuple rfl) rfl)) (pw_or1 (cmpT C.ct.ne (C.ct.call C.ct.len (fa_cons rfl (C.ct.var 3 (by decide +kernel)) fa_nil) (by decide +kernel) (by decide +kernel) rfl) fe_int rfl))).pt (fs_one (fs_ret fe_bl)) fs_nil) (fs_cons (fs_if (ft_not (C.ct.val (C.ct.call C.ct.all (fa_cons rfl (C.ct.lc [("_law_number", 7)] (C.ct.it (C.ct.var 3 (by decide +kernel))) (fun C1 => ⟨(C1.g1 7 (by decide +kernel)), ifs0, (fe_and (C1.isi .int (C1.var 7 (by decide +kernel)) rfl (by decide +kernel) (by decide +kernel) boot_int rfl) (pe_one (fe_not (C1.isi .bool (C1.var 7 (by decide +kernel)) rfl (by decide +kernel) (by decide +kernel) boot_bool rfl))))⟩) (by decide +kernel)) fa_nil) (by decide +kernel) (by decide +kernel) rfl) rfl)) (fs_one (fs_ret fe_bl)) fs_nil) (fs_cons (C.fo (C.ct.it (fe_lst (fa_cons rfl (fe_tup (fa_cons rfl fe_int (fa_cons rfl fe_int fa_nil))) (fa_cons rfl (fe_tup (fa_cons rfl (C.ct.idx (C.ct.var 0 (by decide +kernel)) fe_int rfl) (fa_cons rfl fe_int fa_nil))) (fa_cons rfl (C.ct.var 2 (by decide +kernel)) fa_nil))))) (C.g1 4 (by decide +kernel)) (fun _ C => (fs_cons (C.asg 5 (C.ct.own 20 (fa_cons rfl (C.ct.var 0 (by decide +kernel)) (fa_cons rfl (C.ct.var 1 (by decide +kernel)) (fa_cons rfl (C.ct.var 4 (by decide +kernel)) fa_nil))) rfl rfl (by decide +kernel) rfl) (by decide +kernel) rfl) (fs_cons (C.asg 6 (C.ct.own 24 (fa_cons rfl (C.ct.var 0 (by decide +kernel)) (fa_cons rfl (C.ct.var 1 (by decide +kernel)) (fa_cons rfl (C.ct.var 4 (by decide +kernel)) fa_nil))) rfl rfl (by decide +kernel) rfl) (by decide +kernel) rfl) (fs_cons (fs_if (ft_or (ft_not (C.ct.val (C.ct.isi .tuple (C.ct.var 5 (by decide +kernel)) rfl (by decide +kernel) (by decide +kernel) boot_tuple rfl) rfl)) (pw_or1 (cmpT C.ct.ne (C.ct.var 5 (by decide +kernel)) (C.ct.var 6 (by decide +kernel)) rfl))).pt (fs_one (fs_ret fe_bl)) fs_nil) (fs_one (fs_if (cmpT C.ct.ne (C.ct.own 21 (fa_cons rfl (fe_tup (fa_cons rfl (C.ct.idx (C.ct.var 3 (by decide +kernel)) fe_int rfl) (fa_cons rfl fe_int fa_nil))) (fa_cons rfl (C.ct.own 22 (fa_cons rfl (fe_tup (fa_cons rfl (C.ct.idx (C.ct.var 3 (by decide +kernel)) fe_int rfl) (fa_cons rfl fe_int fa_nil))) (fa_cons rfl (C.ct.var 4 (by decide +kernel)) fa_nil)) rfl rfl (by decide +kernel) rfl) fa_nil)) rfl rfl (by decide +kernel) rfl) (C.ct.var 6 (by decide +kernel)) rfl) (fs_one (fs_ret fe_bl)) fs_nil)))))) rfl) (fs_one (fs_ret (cmpE C.ct.eq (C.ct.own 27 (fa_cons rfl (C.ct.var 0 (by decide +kernel)) (fa_cons rfl (C.ct.var 2 (by decide +kernel)) fa_nil)) rfl rfl (by decide +kernel) rfl) (C.ct.own 23 (fa_cons rfl (C.ct.var 0 (by decide +kernel)) (fa_cons rfl (C.ct.var 2 (by decide +kernel)) fa_nil)) rfl rfl (by decide +kernel) rfl) rfl)))))))
/-! ### _law_price -/
abbrev S29 : Stmt := top 35
def N29 : List Str := ["_law_web_here", "_law_x", "_law_y", "_law_bottom"]
noncomputable def B29 : Fn.Env → Out := (seqS (thenS (bin2 addB (litI 1) (bin2 modB (varB 2) (bin2 idxB (callF lstB (consA (litI 1) (consA (litI 2) (consA (litI 3) (consA (litI 7) (consA (litI 12) (consA (litI 60) (consA (litI 999983) (consA (litI 99999999977) nilA))))))))) (bin2 modB (bin2 divB (varB 2) (litI 64)) (litI 8))))) (setV 3)) (thenS (ownF E7 (consA (bin2 modB (varB 1) (bin2 addB (bin2 mulB (bin2 idxB (varB 0) (litI 0)) (varB 3)) (litI 1))) (consA (varB 3) nilA))) retV))
noncomputable def E29 : En := ⟨"_law_price", 3, defF 4 B29⟩
noncomputable def T30 : List En := T29 ++ [E29]
theorem sc29 : FnScope N29 ["_law_web_here", "_law_x", "_law_y"] (defScope S29) := ⟨rfl, rfl, rfl, by decide +kernel, rfl, by decide +kernel, by decide +kernel⟩
theorem ok29 {X : Cx} {g : G} {cls : Nat → Value} (C : CS X g cls 29 T29 N29 (defScope S29) bt) : PSs X (defBody S29) (tFS g B29) :=
  (fs_cons (C.asg 3 (C.ct.add fe_int (C.ct.mod (C.ct.var 2 (by decide +kernel)) (C.ct.idx (fe_lst (fa_cons rfl fe_int (fa_cons rfl fe_int (fa_cons rfl fe_int (fa_cons rfl fe_int (fa_cons rfl fe_int (fa_cons rfl fe_int (fa_cons rfl fe_int (fa_cons rfl fe_int fa_nil))))))))) (C.ct.mod (C.ct.div (C.ct.var 2 (by decide +kernel)) fe_int) fe_int) rfl))) (by decide +kernel) rfl) (fs_one (fs_ret (C.ct.own 7 (fa_cons rfl (C.ct.mod (C.ct.var 1 (by decide +kernel)) (C.ct.add (C.ct.mul (C.ct.idx (C.ct.var 0 (by decide +kernel)) fe_int rfl) (C.ct.var 3 (by decide +kernel))) fe_int)) (fa_cons rfl (C.ct.var 3 (by decide +kernel)) fa_nil)) rfl rfl (by decide +kernel) rfl))))
/-! ### law -/
abbrev S30 : Stmt := top 40
def N30 : List Str := ["_law_script", "_law_web_here", "_law_names_here", "_law_cell_here", "_law_xs", "_law_cut", "_law_bottom", "_law_fine", "_law_k"]
noncomputable def B30_1 : Fn.Env → Out := (seqS (thenS (ownF E0 (consA (varB 3) (consA (litI 3) nilA))) (setV 4)) (seqS (thenS (callF tupF (consA (compV (.one 8) (rgF (consA (callF lenB (consA (varB 2) nilA)) nilA)) (tstF (bin2 eqB (bin2 andB (bin2 shrB (bin2 idxB (varB 4) (litI 2)) (varB 8)) (litI 1)) (litI 1))) (bin2 idxB (varB 2) (varB 8)) [8]) nilA)) (setV 5)) (seqS (iteS (notT (testV (ownF E28 (consA (varB 1) (consA (varB 5) (consA (ownF E29 (consA (varB 1) (consA (bin2 idxB (varB 4) (litI 0)) (consA (bin2 idxB (varB 4) (litI 1)) nilA)))) nilA)))))) (thenS (litB false) retV) nxS) (seqS (thenS (bin2 addB (litI 1) (bin2 modB (bin2 mulB (bin2 idxB (varB 4) (litI 1)) (litI 1000003)) (litI 99999999977))) (setV 6)) (seqS (thenS (ownF E7 (consA (bin2 modB (bin2 addB (bin2 mulB (bin2 idxB (varB 4) (litI 0)) (litI 1000003)) (bin2 idxB (varB 4) (litI 2))) (bin2 addB (bin2 mulB (bin2 idxB (varB 1) (litI 0)) (varB 6)) (litI 1))) (consA (varB 6) nilA))) (setV 7)) (iteS (notT (testV (ownF E28 (consA (varB 1) (consA (varB 5) (consA (varB 7) nilA)))))) (thenS (litB false) retV) nxS))))))
noncomputable def B30 : Fn.Env → Out := (seqS (thenS (ownF E5 (consA (varB 0) (consA (litI 0) (consA (litI 8) nilA)))) (setV 1)) (seqS (thenS (ownF E6 (consA (varB 1) nilA)) (setV 2)) (seqS (forV (.one 3) (itF false (bin2 addB (callF lstB (consA (ownF E2 (consA (varB 0) (consA (litI 26) nilA))) nilA)) (slcV (varB 0) (atP (litI 27)) (atP (litI 56))))) B30_1) (thenS (andV (ownF E28 (consA (varB 1) (consA (callF tupB nilA) (consA (callF tupB (consA (bin2 idxB (varB 1) (litI 0)) (consA (litI 1) nilA))) nilA)))) (ownF E28 (consA (varB 1) (consA (callF tupF (consA (varB 2) nilA)) (consA (callF tupB (consA (litI 0) (consA (litI 1) nilA))) nilA))))) retV))))
noncomputable def E30 : En := ⟨"law", 1, defF 9 B30⟩
noncomputable def T31 : List En := T30 ++ [E30]
theorem sc30 : FnScope N30 ["_law_script"] (defScope S30) := ⟨rfl, rfl, rfl, by decide +kernel, rfl, by decide +kernel, by decide +kernel⟩
theorem ok30 {X : Cx} {g : G} {cls : Nat → Value} (C : CS X g cls 30 T30 N30 (defScope S30) bt) : PSs X (defBody S30) (tFS g B30) :=
  (fs_cons (C.asg 1 (C.ct.own 5 (fa_cons rfl (C.ct.var 0 (by decide +kernel)) (fa_cons rfl fe_int (fa_cons rfl fe_int fa_nil))) rfl rfl (by decide +kernel) rfl) (by decide +kernel) rfl) (fs_cons (C.asg 2 (C.ct.own 6 (fa_cons rfl (C.ct.var 1 (by decide +kernel)) fa_nil) rfl rfl (by decide +kernel) rfl) (by decide +kernel) rfl) (fs_cons (C.fo (C.ct.it (C.ct.add (fe_lst (fa_cons rfl (C.ct.own 2 (fa_cons rfl (C.ct.var 0 (by decide +kernel)) (fa_cons rfl fe_int fa_nil)) rfl rfl (by decide +kernel) rfl) fa_nil)) (C.ct.slc (C.ct.var 0 (by decide +kernel)) (fo_some fe_int) (fo_some fe_int)))) (C.g1 3 (by decide +kernel)) (fun _ C => (fs_cons (C.asg 4 (C.ct.own 0 (fa_cons rfl (C.ct.var 3 (by decide +kernel)) (fa_cons rfl fe_int fa_nil)) rfl rfl (by decide +kernel) rfl) (by decide +kernel) rfl) (fs_cons (C.asg 5 (C.ct.call C.ct.tup (fa_cons rfl (C.ct.lc [("_law_k", 8)] (C.ct.rg1 (C.ct.call C.ct.len (fa_cons rfl (C.ct.var 2 (by decide +kernel)) fa_nil) (by decide +kernel) (by decide +kernel) rfl) (by decide +kernel) rfl) (fun C1 => ⟨(C1.g1 8 (by decide +kernel)), (ifs1 (cmpT C1.eq (C1.band (C1.shr (C1.idx (C1.var 4 (by decide +kernel)) fe_int rfl) (C1.var 8 (by decide +kernel))) fe_int) fe_int rfl)), (C1.idx (C1.var 2 (by decide +kernel)) (C1.var 8 (by decide +kernel)) rfl)⟩) (by decide +kernel)) fa_nil) (by decide +kernel) (by decide +kernel) rfl) (by decide +kernel) rfl) (fs_cons (fs_if (ft_not (C.ct.val (C.ct.own 28 (fa_cons rfl (C.ct.var 1 (by decide +kernel)) (fa_cons rfl (C.ct.var 5 (by decide +kernel)) (fa_cons rfl (C.ct.own 29 (fa_cons rfl (C.ct.var 1 (by decide +kernel)) (fa_cons rfl (C.ct.idx (C.ct.var 4 (by decide +kernel)) fe_int rfl) (fa_cons rfl (C.ct.idx (C.ct.var 4 (by decide +kernel)) fe_int rfl) fa_nil))) rfl rfl (by decide +kernel) rfl) fa_nil))) rfl rfl (by decide +kernel) rfl) rfl)) (fs_one (fs_ret fe_bl)) fs_nil) (fs_cons (C.asg 6 (C.ct.add fe_int (C.ct.mod (C.ct.mul (C.ct.idx (C.ct.var 4 (by decide +kernel)) fe_int rfl) fe_int) fe_int)) (by decide +kernel) rfl) (fs_cons (C.asg 7 (C.ct.own 7 (fa_cons rfl (C.ct.mod (C.ct.add (C.ct.mul (C.ct.idx (C.ct.var 4 (by decide +kernel)) fe_int rfl) fe_int) (C.ct.idx (C.ct.var 4 (by decide +kernel)) fe_int rfl)) (C.ct.add (C.ct.mul (C.ct.idx (C.ct.var 1 (by decide +kernel)) fe_int rfl) (C.ct.var 6 (by decide +kernel))) fe_int)) (fa_cons rfl (C.ct.var 6 (by decide +kernel)) fa_nil)) rfl rfl (by decide +kernel) rfl) (by decide +kernel) rfl) (fs_one (fs_if (ft_not (C.ct.val (C.ct.own 28 (fa_cons rfl (C.ct.var 1 (by decide +kernel)) (fa_cons rfl (C.ct.var 5 (by decide +kernel)) (fa_cons rfl (C.ct.var 7 (by decide +kernel)) fa_nil))) rfl rfl (by decide +kernel) rfl) rfl)) (fs_one (fs_ret fe_bl)) fs_nil)))))))) rfl) (fs_one (fs_ret (fe_and (C.ct.own 28 (fa_cons rfl (C.ct.var 1 (by decide +kernel)) (fa_cons rfl (fe_tup fa_nil) (fa_cons rfl (fe_tup (fa_cons rfl (C.ct.idx (C.ct.var 1 (by decide +kernel)) fe_int rfl) (fa_cons rfl fe_int fa_nil))) fa_nil))) rfl rfl (by decide +kernel) rfl) (pe_one (C.ct.own 28 (fa_cons rfl (C.ct.var 1 (by decide +kernel)) (fa_cons rfl (C.ct.call C.ct.tup (fa_cons rfl (C.ct.var 2 (by decide +kernel)) fa_nil) (by decide +kernel) (by decide +kernel) rfl) (fa_cons rfl (fe_tup (fa_cons rfl fe_int (fa_cons rfl fe_int fa_nil))) fa_nil))) rfl rfl (by decide +kernel) rfl))))))))
end K08
namespace K08
open PySem L2 Fn
abbrev nms (xs : List Int) : List D := xs.map D.int
theorem cell_ok (ns : List Int) (k : Nat) (hk : k < 64) : ∃ c : Int, E2.F [.scr ns, .dat (.int (k : Int))] = .ok (.dat (.int c)) := by
  rw [show E2.F = defF 4 B2 from rfl]
  by_cases hl : (k : Int) < (ns.length : Int)
  · refine ⟨ns[k]'(by omega), ?_⟩
    rw [def_rt (by rfl) rfl]
    show outR (B2 [some _, some _, none, none]) = _
    have e := idx_scr (ns := ns) (atI_nat (List.getElem?_eq_getElem (show k < ns.length by omega)))
    simp only [B2, seqS, thenS, bin2, consA, nilA, callF, ownF, tstF, litI, litS, litB, litN, newK, newT, itF, noP, atP, nxS, bkS, ctS, badS, rtN, lockS, one1, testV, notT, andT, orT, iteV, iteS, forV, Res.ok_bind, varB, rd, setV, okV, retV, okRet, retN, bindV, par2, List.getElem?_cons_zero, List.getElem?_cons_succ, List.set_cons_zero, List.set_cons_succ, outR, callV, lenA, toArg, List.map_cons, List.map_nil, retB, List.length_cons, List.length_nil, tstB, truB, Bool.and_self, reduceIte, reduceCtorEq, Bool.false_eq_true, Nat.reduceAdd, Nat.reduceEqDiff, Bool.true_eq_false, Bool.not_true, Bool.not_false, if_true, if_false, lstB0, tupB0, lstB1, tupB1, lstB2, tupB2, lstB3, tupB3, lstB4, tupB4, lstB5, tupB5, lstB6, tupB6, len_scr, lt_ii, decide_eq_true hl, e]
  · have e1 : ∀ s : Int, Sm64 s → ∃ s2 : Int, ∃ r, loopF (.one 3) B2_1 (cutL (nms ns) none (some 3)) [some (.scr ns), some (.dat (.int (k : Int))), some (.dat (.int s)), none] = .nx [some (.scr ns), some (.dat (.int (k : Int))), some (.dat (.int s2)), r] := by
      intro s hs
      obtain ⟨ρ', h1, s2, r, rfl, _⟩ := loop_all (t := .one 3) (body := B2_1) (ds := cutL (nms ns) none (some 3)) (fun _ ρ => ∃ (s2 : Int) (r : Option B), ρ = [some (.scr ns), some (.dat (.int (k : Int))), some (.dat (.int s2)), r] ∧ Sm64 s2) ⟨s, none, rfl, hs⟩ (by
        rintro i d ρ hd ⟨s2, r, rfl, h2⟩
        have hmem : d ∈ nms ns := by
          have := List.mem_of_getElem? hd
          unfold cutL at this
          exact List.mem_of_mem_drop (List.mem_of_mem_take this)
        obtain ⟨z, _, rfl⟩ := List.mem_map.mp hmem
        refine ⟨_, _, rfl, .inl ?_, (s2 * 69621 + z) % 2147483647, some (.dat (.int z)), rfl, ?_⟩
        · show B2_1 [some _, some _, some _, some _] = _
          simp only [B2_1, seqS, thenS, bin2, consA, nilA, callF, ownF, tstF, litI, litS, litB, litN, newK, newT, itF, noP, atP, nxS, bkS, ctS, badS, rtN, lockS, one1, testV, notT, andT, orT, iteV, iteS, forV, Res.ok_bind, varB, rd, setV, okV, retV, okRet, retN, bindV, par2, List.getElem?_cons_zero, List.getElem?_cons_succ, List.set_cons_zero, List.set_cons_succ, outR, callV, lenA, toArg, List.map_cons, List.map_nil, retB, List.length_cons, List.length_nil, tstB, truB, Bool.and_self, reduceIte, reduceCtorEq, Bool.false_eq_true, Nat.reduceAdd, Nat.reduceEqDiff, Bool.true_eq_false, Bool.not_true, Bool.not_false, if_true, if_false, lstB0, tupB0, lstB1, tupB1, lstB2, tupB2, lstB3, tupB3, lstB4, tupB4, lstB5, tupB5, lstB6, tupB6, mul_ok h2 (show Sm64 69621 by decide), add_ii, mod_pos (show (0 : Int) < 2147483647 by decide)]
        · show Int.natAbs _ < _
          omega)
      exact ⟨s2, r, h1⟩
    obtain ⟨s2, r, h2⟩ := e1 (48271 * ((k : Int) * k + 7 * k + 11) % 2147483647) (by show Int.natAbs _ < _; omega)
    refine ⟨s2, ?_⟩
    rw [def_rt (by rfl) rfl]
    show outR (B2 [some _, some _, none, none]) = _
    have kk : (k : Int) * k < 4096 ∧ 0 ≤ (k : Int) * k := by
      have : k * k ≤ 63 * 63 := Nat.mul_le_mul (by omega) (by omega)
      constructor
      · exact_mod_cast (by omega : k * k < 4096)
      · exact_mod_cast Nat.zero_le _
    have sl : sliceB (.scr ns) none (some 3) = .ok (.own (.l (cutL (nms ns) none (some 3)))) := by rfl
    simp only [B2, seqS, thenS, bin2, consA, nilA, callF, ownF, tstF, litI, litS, litB, litN, newK, newT, itF, noP, atP, nxS, bkS, ctS, badS, rtN, lockS, one1, testV, notT, andT, orT, iteV, iteS, forV, Res.ok_bind, varB, rd, setV, okV, retV, okRet, retN, bindV, par2, List.getElem?_cons_zero, List.getElem?_cons_succ, List.set_cons_zero, List.set_cons_succ, outR, callV, lenA, toArg, List.map_cons, List.map_nil, retB, List.length_cons, List.length_nil, tstB, truB, Bool.and_self, reduceIte, reduceCtorEq, Bool.false_eq_true, Nat.reduceAdd, Nat.reduceEqDiff, Bool.true_eq_false, Bool.not_true, Bool.not_false, if_true, if_false, lstB0, tupB0, lstB1, tupB1, lstB2, tupB2, lstB3, tupB3, lstB4, tupB4, lstB5, tupB5, lstB6, tupB6, len_scr, lt_ii, decide_eq_false hl, mul_ok (show Sm64 (k : Int) by show Int.natAbs _ < _; omega) (show Sm64 (k : Int) by show Int.natAbs _ < _; omega), mul_ok (show Sm64 7 by decide) (show Sm64 (k : Int) by show Int.natAbs _ < _; omega), add_ii,
      mul_ok (show Sm64 48271 by decide) (show Sm64 ((k : Int) * k + 7 * k + 11) by show Int.natAbs _ < _; omega), mod_pos (show (0 : Int) < 2147483647 by decide), slcV, partB, sl, frzM, itemsB, seqI, h2]
theorem num_step (c n : Int) (xs : List Int) (s2 d2 i : Int) (hx : xs.length < 1000) (q3 : 0 ≤ s2) (q4 : s2 < 1999999973) (i0 : 0 ≤ i) (i1 : i < 100) : B0_1 [some (.dat (.int c)), some (.dat (.int n)), some (.own (.l (nms xs))), some (.dat (.int s2)), some (.dat (.int d2)), some (.dat (.int i))] =
    .nx [some (.dat (.int c)), some (.dat (.int n)), some (.own (.l (nms (xs ++ [if 0 < d2 then d2 % 1000000 else (s2 * (s2 % 65521 + 40487) + 7 * i + 5) % 1999999973])))), some (.dat (.int ((s2 * (s2 % 65521 + 40487) + 7 * i + 5) % 1999999973))), some (.dat (.int (d2 / 1000000))), some (.dat (.int i))] := by
  have x1 : ∀ a b : Int, idxB (.dat (.lst [.int a, .int b])) (.dat (.int (if decide (0 < d2) = true then 1 else 0))) = .ok (.dat (.int (if 0 < d2 then b else a))) := by
    intro a b
    by_cases z : 0 < d2
    · rw [if_pos (decide_eq_true z), if_pos z]; rfl
    · rw [if_neg (by rw [decide_eq_false z]; decide), if_neg z]; rfl
  have m1 := mul_ok (show Sm64 s2 by show Int.natAbs _ < _; omega) (show Sm64 (s2 % 65521 + 40487) by show Int.natAbs _ < _; omega)
  have m2 := mul_ok (show Sm64 7 by decide) (show Sm64 i by show Int.natAbs _ < _; omega)
  have hz : (nms xs).length < sizeLine := by rw [List.length_map]; exact small1000 (by omega)
  have p1 : ∀ z : Int, modB (.dat (.int z)) (.dat (.int 65521)) = .ok (.dat (.int (z % 65521))) := fun z => mod_pos (by decide)
  have p2 : ∀ z : Int, modB (.dat (.int z)) (.dat (.int 1999999973)) = .ok (.dat (.int (z % 1999999973))) := fun z => mod_pos (by decide)
  have p3 : ∀ z : Int, modB (.dat (.int z)) (.dat (.int 1000000)) = .ok (.dat (.int (z % 1000000))) := fun z => mod_pos (by decide)
  have p4 : ∀ z : Int, divB (.dat (.int z)) (.dat (.int 1000000)) = .ok (.dat (.int (z / 1000000))) := fun z => div_pos (by decide) (by decide)
  simp only [B0_1, seqS, thenS, bin2, consA, nilA, callF, ownF, tstF, litI, litS, litB, litN, newK, newT, itF, noP, atP, nxS, bkS, ctS, badS, rtN, lockS, one1, testV, notT, andT, orT, iteV, iteS, forV, Res.ok_bind, varB, rd, setV, okV, retV, okRet, retN, bindV, par2, List.getElem?_cons_zero, List.getElem?_cons_succ, List.set_cons_zero, List.set_cons_succ, outR, callV, lenA, toArg, List.map_cons, List.map_nil, retB, List.length_cons, List.length_nil, tstB, truB, Bool.and_self, reduceIte, reduceCtorEq, Bool.false_eq_true, Nat.reduceAdd, Nat.reduceEqDiff, Bool.true_eq_false, Bool.not_true, Bool.not_false, if_true, if_false, lstB0, tupB0, lstB1, tupB1, lstB2, tupB2, lstB3, tupB3, lstB4, tupB4, lstB5, tupB5, lstB6, tupB6, m1, m2, p1, p2, p3, p4, add_ii, gt_ii, int_bl, frzM, x1, appV, ownAt, if_pos hz, List.map_append]
theorem num_loop (c : Int) (n : Nat) (hn : n < 100) (s d : Int) (h1 : 0 ≤ s) (h2 : s < 1999999973) : ∃ (xs : List Int) (s2 d2 r : Option B), (xs.length = n ∧ ∀ x ∈ xs, 0 ≤ x ∧ x < 2000000000) ∧ loopF (.one 5) B0_1 (rng 0 n) [some (.dat (.int c)), some (.dat (.int (n : Int))), some (.own (.l [])), some (.dat (.int s)), some (.dat (.int d)), none] =
      .nx [some (.dat (.int c)), some (.dat (.int (n : Int))), some (.own (.l (nms xs))), s2, d2, r] := by
  have el : (rng 0 n).length = n := by rw [rng_len]; omega
  obtain ⟨ρ', q1, xs, s2, d2, r, rfl, q2, _⟩ := loop_all (t := .one 5) (body := B0_1) (ds := rng 0 n) (fun i ρ => ∃ (xs : List Int) (s2 d2 : Int) (r : Option B), ρ = [some (.dat (.int c)), some (.dat (.int (n : Int))), some (.own (.l (nms xs))), some (.dat (.int s2)), some (.dat (.int d2)), r] ∧ (xs.length = i ∧ ∀ x ∈ xs, 0 ≤ x ∧ x < 2000000000) ∧ 0 ≤ s2 ∧ s2 < 1999999973)
    (ρ := [some (.dat (.int c)), some (.dat (.int (n : Int))), some (.own (.l [])), some (.dat (.int s)), some (.dat (.int d)), none]) ⟨[], s, d, none, rfl, ⟨rfl, fun x hx => by cases hx⟩, h1, h2⟩ (by
    rintro i e ρ hd ⟨xs, s2, d2, r, rfl, ⟨q2, qb⟩, q3, q4⟩
    obtain ⟨rfl, hi⟩ := rng_get hd
    exact ⟨_, _, rfl, .inl (num_step c n xs s2 d2 (0 + (i : Int)) (by omega) q3 q4 (by omega) (by omega)), _, _, _, _, rfl, ⟨by rw [List.length_append, q2]; rfl, fun x hx => by
      rcases List.mem_append.mp hx with h | h
      · exact qb x h
      · rw [List.mem_singleton.mp h]
        split <;> omega⟩, by omega, by omega⟩)
  exact ⟨xs, _, _, r, ⟨by rw [q2.1, el], q2.2⟩, q1⟩
theorem num_a (c n : Int) : thenS (bin2 modB (bin2 mulB (bin2 addB (bin2 modB (varB 0) (litI 1999999973)) (litI 31)) (litI 765432101)) (litI 1999999973)) (setV 3) [some (.dat (.int c)), some (.dat (.int n)), some (.own (.l [])), none, none, none] =
   .nx [some (.dat (.int c)), some (.dat (.int n)), some (.own (.l [])), some (.dat (.int ((c % 1999999973 + 31) * 765432101 % 1999999973))), none, none] := by
  have p2 : ∀ z : Int, modB (.dat (.int z)) (.dat (.int 1999999973)) = .ok (.dat (.int (z % 1999999973))) := fun z => mod_pos (by decide)
  have m1 := mul_ok (show Sm64 (c % 1999999973 + 31) by show Int.natAbs _ < _; omega) (show Sm64 765432101 by decide)
  simp only [seqS, thenS, bin2, consA, nilA, callF, ownF, tstF, litI, litS, litB, litN, newK, newT, itF, noP, atP, nxS, bkS, ctS, badS, rtN, lockS, one1, testV, notT, andT, orT, iteV, iteS, forV, Res.ok_bind, varB, rd, setV, okV, retV, okRet, retN, bindV, par2, List.getElem?_cons_zero, List.getElem?_cons_succ, List.set_cons_zero, List.set_cons_succ, outR, callV, lenA, toArg, List.map_cons, List.map_nil, retB, List.length_cons, List.length_nil, tstB, truB, Bool.and_self, reduceIte, reduceCtorEq, Bool.false_eq_true, Nat.reduceAdd, Nat.reduceEqDiff, Bool.true_eq_false, Bool.not_true, Bool.not_false, if_true, if_false, lstB0, tupB0, lstB1, tupB1, lstB2, tupB2, lstB3, tupB3, lstB4, tupB4, lstB5, tupB5, lstB6, tupB6, p2, add_ii, m1]
theorem num_b (c n x : Int) : ∃ d : Int, iteS (orT (tstF (bin2 ltB (varB 0) (litI 0))) (tstF (bin2 geF (varB 0) (bin2 powB (litI 10) (litI 18))))) (thenS (callF absF (consA (varB 0) nilA)) (setV 4)) nxS [some (.dat (.int c)), some (.dat (.int n)), some (.own (.l [])), some (.dat (.int x)), some (.dat (.int 0)), none] =
   .nx [some (.dat (.int c)), some (.dat (.int n)), some (.own (.l [])), some (.dat (.int x)), some (.dat (.int d)), none] := by
  obtain ⟨big, pw⟩ : ∃ big : Int, powB (.dat (.int 10)) (.dat (.int 18)) = .ok (.dat (.int big)) := ⟨_, pow_ok (by omega) (by omega) (by decide)⟩
  cases h1 : decide (c < 0) with
  | true => exact ⟨(c.natAbs : Int), by simp only [seqS, thenS, bin2, consA, nilA, callF, ownF, tstF, litI, litS, litB, litN, newK, newT, itF, noP, atP, nxS, bkS, ctS, badS, rtN, lockS, one1, testV, notT, andT, orT, iteV, iteS, forV, Res.ok_bind, varB, rd, setV, okV, retV, okRet, retN, bindV, par2, List.getElem?_cons_zero, List.getElem?_cons_succ, List.set_cons_zero, List.set_cons_succ, outR, callV, lenA, toArg, List.map_cons, List.map_nil, retB, List.length_cons, List.length_nil, tstB, truB, Bool.and_self, reduceIte, reduceCtorEq, Bool.false_eq_true, Nat.reduceAdd, Nat.reduceEqDiff, Bool.true_eq_false, Bool.not_true, Bool.not_false, if_true, if_false, lstB0, tupB0, lstB1, tupB1, lstB2, tupB2, lstB3, tupB3, lstB4, tupB4, lstB5, tupB5, lstB6, tupB6, lt_ii, h1, abs_i]⟩
  | false =>
    cases h3 : decide (big ≤ c) with
    | true => exact ⟨(c.natAbs : Int), by simp only [seqS, thenS, bin2, consA, nilA, callF, ownF, tstF, litI, litS, litB, litN, newK, newT, itF, noP, atP, nxS, bkS, ctS, badS, rtN, lockS, one1, testV, notT, andT, orT, iteV, iteS, forV, Res.ok_bind, varB, rd, setV, okV, retV, okRet, retN, bindV, par2, List.getElem?_cons_zero, List.getElem?_cons_succ, List.set_cons_zero, List.set_cons_succ, outR, callV, lenA, toArg, List.map_cons, List.map_nil, retB, List.length_cons, List.length_nil, tstB, truB, Bool.and_self, reduceIte, reduceCtorEq, Bool.false_eq_true, Nat.reduceAdd, Nat.reduceEqDiff, Bool.true_eq_false, Bool.not_true, Bool.not_false, if_true, if_false, lstB0, tupB0, lstB1, tupB1, lstB2, tupB2, lstB3, tupB3, lstB4, tupB4, lstB5, tupB5, lstB6, tupB6, lt_ii, h1, pw, ge_ii, h3, abs_i]⟩
    | false => exact ⟨0, by simp only [seqS, thenS, bin2, consA, nilA, callF, ownF, tstF, litI, litS, litB, litN, newK, newT, itF, noP, atP, nxS, bkS, ctS, badS, rtN, lockS, one1, testV, notT, andT, orT, iteV, iteS, forV, Res.ok_bind, varB, rd, setV, okV, retV, okRet, retN, bindV, par2, List.getElem?_cons_zero, List.getElem?_cons_succ, List.set_cons_zero, List.set_cons_succ, outR, callV, lenA, toArg, List.map_cons, List.map_nil, retB, List.length_cons, List.length_nil, tstB, truB, Bool.and_self, reduceIte, reduceCtorEq, Bool.false_eq_true, Nat.reduceAdd, Nat.reduceEqDiff, Bool.true_eq_false, Bool.not_true, Bool.not_false, if_true, if_false, lstB0, tupB0, lstB1, tupB1, lstB2, tupB2, lstB3, tupB3, lstB4, tupB4, lstB5, tupB5, lstB6, tupB6, lt_ii, h1, pw, ge_ii, h3]⟩
theorem numbers_okB (c : Int) (n : Nat) (hn : n < 100) : ∃ xs : List Int, (xs.length = n ∧ ∀ x ∈ xs, 0 ≤ x ∧ x < 2000000000) ∧ E0.F [.dat (.int c), .dat (.int (n : Int))] = .ok (.own (.l (nms xs))) := by
  rw [show E0.F = defF 6 B0 from rfl]
  obtain ⟨d, hd⟩ := num_b c n ((c % 1999999973 + 31) * 765432101 % 1999999973)
  obtain ⟨xs, s2, d2, r, hx, h2⟩ := num_loop c n hn ((c % 1999999973 + 31) * 765432101 % 1999999973) d (by omega) (by omega)
  refine ⟨xs, hx, def_rt (by rfl) ?_⟩
  show outR (B0 [some _, some _, none, none, none, none]) = _
  unfold B0
  have q1 := num_a c n
  generalize (c % 1999999973 + 31) * 765432101 % 1999999973 = z at *
  refine (congrArg outR (seq_nx (ρ' := [some (.dat (.int c)), some (.dat (.int (n : Int))), some (.own (.l [])), none, none, none]) (by simp only [seqS, thenS, bin2, consA, nilA, callF, ownF, tstF, litI, litS, litB, litN, newK, newT, itF, noP, atP, nxS, bkS, ctS, badS, rtN, lockS, one1, testV, notT, andT, orT, iteV, iteS, forV, Res.ok_bind, varB, rd, setV, okV, retV, okRet, retN, bindV, par2, List.getElem?_cons_zero, List.getElem?_cons_succ, List.set_cons_zero, List.set_cons_succ, outR, callV, lenA, toArg, List.map_cons, List.map_nil, retB, List.length_cons, List.length_nil, tstB, truB, Bool.and_self, reduceIte, reduceCtorEq, Bool.false_eq_true, Nat.reduceAdd, Nat.reduceEqDiff, Bool.true_eq_false, Bool.not_true, Bool.not_false, if_true, if_false, lstB0, tupB0, lstB1, tupB1, lstB2, tupB2, lstB3, tupB3, lstB4, tupB4, lstB5, tupB5, lstB6, tupB6]))).trans ?_
  refine (congrArg outR (seq_nx q1)).trans ?_
  refine (congrArg outR (seq_nx (ρ' := [some (.dat (.int c)), some (.dat (.int (n : Int))), some (.own (.l [])), some (.dat (.int z)), some (.dat (.int 0)), none]) (by simp only [seqS, thenS, bin2, consA, nilA, callF, ownF, tstF, litI, litS, litB, litN, newK, newT, itF, noP, atP, nxS, bkS, ctS, badS, rtN, lockS, one1, testV, notT, andT, orT, iteV, iteS, forV, Res.ok_bind, varB, rd, setV, okV, retV, okRet, retN, bindV, par2, List.getElem?_cons_zero, List.getElem?_cons_succ, List.set_cons_zero, List.set_cons_succ, outR, callV, lenA, toArg, List.map_cons, List.map_nil, retB, List.length_cons, List.length_nil, tstB, truB, Bool.and_self, reduceIte, reduceCtorEq, Bool.false_eq_true, Nat.reduceAdd, Nat.reduceEqDiff, Bool.true_eq_false, Bool.not_true, Bool.not_false, if_true, if_false, lstB0, tupB0, lstB1, tupB1, lstB2, tupB2, lstB3, tupB3, lstB4, tupB4, lstB5, tupB5, lstB6, tupB6]))).trans ?_
  refine (congrArg outR (seq_nx hd)).trans ?_
  have e3 : rgF (consA (varB 1) nilA) [some (.dat (.int c)), some (.dat (.int (n : Int))), some (.own (.l [])), some (.dat (.int z)), some (.dat (.int d)), none] = .ok (rng 0 n) :=
    rg_ok (by simp only [seqS, thenS, bin2, consA, nilA, callF, ownF, tstF, litI, litS, litB, litN, newK, newT, itF, noP, atP, nxS, bkS, ctS, badS, rtN, lockS, one1, testV, notT, andT, orT, iteV, iteS, forV, Res.ok_bind, varB, rd, setV, okV, retV, okRet, retN, bindV, par2, List.getElem?_cons_zero, List.getElem?_cons_succ, List.set_cons_zero, List.set_cons_succ, outR, callV, lenA, toArg, List.map_cons, List.map_nil, retB, List.length_cons, List.length_nil, tstB, truB, Bool.and_self, reduceIte, reduceCtorEq, Bool.false_eq_true, Nat.reduceAdd, Nat.reduceEqDiff, Bool.true_eq_false, Bool.not_true, Bool.not_false, if_true, if_false, lstB0, tupB0, lstB1, tupB1, lstB2, tupB2, lstB3, tupB3, lstB4, tupB4, lstB5, tupB5, lstB6, tupB6]) (rng_nat (by omega))
  refine (congrArg outR (seq_nx ((for_ok e3).trans h2))).trans ?_
  simp only [seqS, thenS, bin2, consA, nilA, callF, ownF, tstF, litI, litS, litB, litN, newK, newT, itF, noP, atP, nxS, bkS, ctS, badS, rtN, lockS, one1, testV, notT, andT, orT, iteV, iteS, forV, Res.ok_bind, varB, rd, setV, okV, retV, okRet, retN, bindV, par2, List.getElem?_cons_zero, List.getElem?_cons_succ, List.set_cons_zero, List.set_cons_succ, outR, callV, lenA, toArg, List.map_cons, List.map_nil, retB, List.length_cons, List.length_nil, tstB, truB, Bool.and_self, reduceIte, reduceCtorEq, Bool.false_eq_true, Nat.reduceAdd, Nat.reduceEqDiff, Bool.true_eq_false, Bool.not_true, Bool.not_false, if_true, if_false, lstB0, tupB0, lstB1, tupB1, lstB2, tupB2, lstB3, tupB3, lstB4, tupB4, lstB5, tupB5, lstB6, tupB6]
theorem numbers_ok (c : Int) (n : Nat) (hn : n < 100) : ∃ xs : List Int, xs.length = n ∧ E0.F [.dat (.int c), .dat (.int (n : Int))] = .ok (.own (.l (nms xs))) := by
  obtain ⟨xs, h1, h2⟩ := numbers_okB c n hn
  exact ⟨xs, h1.1, h2⟩
end K08
namespace K08
open PySem L2 Fn
/-- a text by its signs -/
abbrev sC (l : List Nat) : Str := ⟨l.toArray⟩
theorem sC_inj {a b : List Nat} (h : sC a = sC b) : a = b := by
  injection h with h
  simpa using h
theorem idx_str {x : Str} {k : Int} {c : Nat} (h : atI x.cps.toList k = some c) (hl : x.length ≤ 1000) : idxB (.dat (.str x)) (.dat (.int k)) = .ok (.dat (.str (sC [c]))) := by
  show (match atI x.cps.toList k with | some c => (if x.length ≤ sizeLine then (.ok (.dat (.str ⟨#[c]⟩)) : Res B) else .bad) | none => .bad) = _
  rw [h]
  exact if_pos (le_sz hl)
theorem idxL {ds : List D} {n : Nat} {d : D} (k : Int) (hk : k = (n : Int)) (h : ds[n]? = some d) : idxB (.dat (.lst ds)) (.dat (.int k)) = .ok (.dat d) := by
  subst hk
  exact idx_lst (atI_nat h)
theorem rep_ok {c : Nat} {m : Int} (h1 : 0 ≤ m) (h2 : m ≤ 1000) : mulB (.dat (.str (sC [c]))) (.dat (.int m)) = .ok (.dat (.str (sC (List.replicate m.toNat c)))) := by
  show (if -1000 ≤ m ∧ m ≤ 1000 ∧ (sC [c]).length ≤ 1000 then (.ok (.dat (.str (repS (sC [c]) m))) : Res B) else .bad) = _
  rw [if_pos ⟨by omega, h2, by show 1 ≤ 1000; decide⟩]
  unfold repS
  congr 4
  simp
theorem cat_ok {a b : List Nat} (h : a.length + b.length ≤ 1000) : addB (.dat (.str (sC a))) (.dat (.str (sC b))) = .ok (.dat (.str (sC (a ++ b)))) := by
  show (if (sC a).length + (sC b).length ≤ sizeLine then (.ok (.dat (.str (sC a ++ sC b))) : Res B) else .bad) = _
  rw [if_pos (le_sz (by show a.toArray.size + b.toArray.size ≤ 1000; simpa using h))]
  congr 3
  show (⟨a.toArray ++ b.toArray⟩ : Str) = _
  simp
def abc : Str := "abcdefghijklmnopqrstuvwxyz"
theorem abc_cps : abc.cps.toList = (List.range 26).map (97 + ·) := by decide +kernel
theorem letter {j : Int} (h0 : 0 ≤ j) (h1 : j < 26) : idxB (.dat (.str abc)) (.dat (.int j)) = .ok (.dat (.str (sC [97 + j.toNat]))) := by
  refine idx_str ?_ (by decide +kernel)
  rw [abc_cps]
  have e : j = ((j.toNat : Nat) : Int) := by omega
  have q : ((List.range 26).map (97 + ·))[j.toNat]? = some (97 + j.toNat) := by
    rw [List.getElem?_map, List.getElem?_range (by omega)]
    rfl
  have := atI_nat q
  rw [← e] at this
  exact this
def abc8 : Str := "abcdefgh"
theorem abc8_cps : abc8.cps.toList = (List.range 8).map (97 + ·) := by decide +kernel
theorem letter8 {k : Nat} (h1 : k < 8) : idxB (.dat (.str abc8)) (.dat (.int (k : Int))) = .ok (.dat (.str (sC [97 + k]))) := by
  refine idx_str ?_ (by decide +kernel)
  rw [abc8_cps]
  exact atI_nat (by rw [List.getElem?_map, List.getElem?_range (by omega)]; rfl)
def nmC (x0 x1 x2 x3 : Int) (k : Nat) : List Nat :=
  if x1 % 4 = 1 then (97 + k) :: List.replicate (x3 % 8).toNat (97 + (x2 % 26).toNat)
  else if x1 % 4 = 2 then List.replicate (1 + k) (97 + (x2 % 26).toNat)
  else if x1 % 4 = 3 then [97 + (x2 % 26).toNat, 97 + ((x3 + 5 * (k : Int)) % 26).toNat, 97 + (x0 % 26).toNat]
  else List.replicate (1 + (x2 + 3 * (k : Int)) % (if x3 % 2 = 0 then 1 else 5)).toNat (97 + ((x0 + 7 * (k : Int)) % 26).toNat)
theorem repl_head {n m a b : Nat} (h : List.replicate n a = List.replicate m b) (hn : 0 < n) : a = b := by
  cases n with
  | zero => omega
  | succ n =>
    cases m with
    | zero => simp at h
    | succ m =>
      rw [List.replicate_succ, List.replicate_succ] at h
      injection h
theorem nmC_inj {x0 x1 x2 x3 : Int} {k j : Nat} (hk : k < 8) (hj : j < 8) (h : nmC x0 x1 x2 x3 k = nmC x0 x1 x2 x3 j) : k = j := by
  unfold nmC at h
  split at h
  · injection h with h _
    omega
  · split at h
    · have := congrArg List.length h
      rw [List.length_replicate, List.length_replicate] at this
      omega
    · split at h
      · injection h with _ h
        injection h with h _
        omega
      · have := repl_head h (by split <;> omega)
        omega
theorem nmC_lay (x0 x1 x2 x3 : Int) {k : Nat} (hk : k < 8) : PyData.strOk (sC (nmC x0 x1 x2 x3 k)) = true := by
  have all : ∀ c ∈ nmC x0 x1 x2 x3 k, c < 0x110000 := by
    intro c hc
    unfold nmC at hc
    split at hc
    · rcases List.mem_cons.mp hc with rfl | hc
      · omega
      · have := List.eq_of_mem_replicate hc
        omega
    · split at hc
      · have := List.eq_of_mem_replicate hc
        omega
      · split at hc
        · simp only [List.mem_cons, List.not_mem_nil, or_false] at hc
          rcases hc with rfl | rfl | rfl <;> omega
        · have := List.eq_of_mem_replicate hc
          omega
  show (nmC x0 x1 x2 x3 k).toArray.all (fun c => decide (c < 0x110000)) = true
  rw [List.all_toArray, List.all_eq_true]
  exact fun c hc => decide_eq_true (all c hc)
theorem name_step (x0 x1 x2 x3 n : Int) (r : List D) (found : List D) (hf : found.length < 1000) (k : Nat) (hk : k < 8) (r5 r6 : Option B) : ∃ q5 q6, B1_1 [some (.dat (.lst (.int x0 :: .int x1 :: .int x2 :: .int x3 :: r))), some (.dat (.int n)), some (.dat (.str abc)), some (.own (.l found)), some (.dat (.int (k : Int))), r5, r6] =
    .nx [some (.dat (.lst (.int x0 :: .int x1 :: .int x2 :: .int x3 :: r))), some (.dat (.int n)), some (.dat (.str abc)), some (.own (.l (found ++ [.str (sC (nmC x0 x1 x2 x3 k))]))), some (.dat (.int (k : Int))), q5, q6] := by
  have i0 : idxB (.dat (.lst (.int x0 :: .int x1 :: .int x2 :: .int x3 :: r))) (.dat (.int 0)) = .ok (.dat (.int x0)) := idxL (n := 0) _ rfl rfl
  have i1 : idxB (.dat (.lst (.int x0 :: .int x1 :: .int x2 :: .int x3 :: r))) (.dat (.int 1)) = .ok (.dat (.int x1)) := idxL (n := 1) _ rfl rfl
  have i2 : idxB (.dat (.lst (.int x0 :: .int x1 :: .int x2 :: .int x3 :: r))) (.dat (.int 2)) = .ok (.dat (.int x2)) := idxL (n := 2) _ rfl rfl
  have i3 : idxB (.dat (.lst (.int x0 :: .int x1 :: .int x2 :: .int x3 :: r))) (.dat (.int 3)) = .ok (.dat (.int x3)) := idxL (n := 3) _ rfl rfl
  have m26 : ∀ z : Int, modB (.dat (.int z)) (.dat (.int 26)) = .ok (.dat (.int (z % 26))) := fun z => mod_pos (by decide)
  have m2 : ∀ z : Int, modB (.dat (.int z)) (.dat (.int 2)) = .ok (.dat (.int (z % 2))) := fun z => mod_pos (by decide)
  have m4 : ∀ z : Int, modB (.dat (.int z)) (.dat (.int 4)) = .ok (.dat (.int (z % 4))) := fun z => mod_pos (by decide)
  have m8 : ∀ z : Int, modB (.dat (.int z)) (.dat (.int 8)) = .ok (.dat (.int (z % 8))) := fun z => mod_pos (by decide)
  have mm : ∀ z w : Int, modB (.dat (.int z)) (.dat (.int (if w % 2 = 0 then 1 else 5))) = .ok (.dat (.int (z % (if w % 2 = 0 then 1 else 5)))) := fun z w => mod_pos (by split <;> omega)
  have l5 : ∀ w : Int, idxB (.dat (.lst [.int 1, .int 5])) (.dat (.int (w % 2))) = .ok (.dat (.int (if w % 2 = 0 then 1 else 5))) := by
    intro w
    by_cases z : w % 2 = 0
    · rw [z, if_pos rfl]; exact idxL (n := 0) _ rfl rfl
    · rw [show w % 2 = 1 by omega, if_neg (by decide)]; exact idxL (n := 1) _ rfl rfl
  have k7 := mul_ok (show Sm64 7 by decide) (show Sm64 (k : Int) by show Int.natAbs _ < _; omega)
  have k3 := mul_ok (show Sm64 3 by decide) (show Sm64 (k : Int) by show Int.natAbs _ < _; omega)
  have k5 := mul_ok (show Sm64 5 by decide) (show Sm64 (k : Int) by show Int.natAbs _ < _; omega)
  have lt : ∀ z : Int, idxB (.dat (.str abc)) (.dat (.int (z % 26))) = .ok (.dat (.str (sC [97 + (z % 26).toNat]))) := fun z => letter (by omega) (by omega)
  have r0 : mulB (.dat (.str (sC [97 + ((x0 + 7 * (k : Int)) % 26).toNat]))) (.dat (.int (1 + (x2 + 3 * (k : Int)) % (if x3 % 2 = 0 then 1 else 5)))) = .ok (.dat (.str (sC (List.replicate (1 + (x2 + 3 * (k : Int)) % (if x3 % 2 = 0 then 1 else 5)).toNat (97 + ((x0 + 7 * (k : Int)) % 26).toNat))))) := rep_ok (by split <;> omega) (by split <;> omega)
  have r1 : mulB (.dat (.str (sC [97 + (x2 % 26).toNat]))) (.dat (.int (x3 % 8))) = .ok (.dat (.str (sC (List.replicate (x3 % 8).toNat (97 + (x2 % 26).toNat))))) := rep_ok (by omega) (by omega)
  have r2 : mulB (.dat (.str (sC [97 + (x2 % 26).toNat]))) (.dat (.int (1 + (k : Int)))) = .ok (.dat (.str (sC (List.replicate (1 + (k : Int)).toNat (97 + (x2 % 26).toNat))))) := rep_ok (by omega) (by omega)
  have c1 := cat_ok (a := [97 + k]) (b := List.replicate (x3 % 8).toNat (97 + (x2 % 26).toNat)) (by rw [List.length_replicate]; show 1 + _ ≤ 1000; omega)
  have c3 : ∀ a b c : Nat, addB (.dat (.str (sC [a]))) (.dat (.str (sC [b]))) = .ok (.dat (.str (sC [a, b]))) := fun a b c => cat_ok (by show 2 ≤ 1000; decide)
  have c4 : ∀ a b c : Nat, addB (.dat (.str (sC [a, b]))) (.dat (.str (sC [c]))) = .ok (.dat (.str (sC [a, b, c]))) := fun a b c => cat_ok (by show 3 ≤ 1000; decide)
  have hz : found.length < sizeLine := small1000 (by omega)
  have l8 : idxB (.dat (.str "abcdefgh")) (.dat (.int (k : Int))) = .ok (.dat (.str (sC [97 + k]))) := letter8 hk
  unfold nmC
  by_cases h1 : x1 % 4 = 1
  · have d1 : decide (x1 % 4 = 1) = true := decide_eq_true h1
    have d2 : decide (x1 % 4 = 2) = false := decide_eq_false (by omega)
    have d3 : decide (x1 % 4 = 3) = false := decide_eq_false (by omega)
    rw [if_pos h1]
    exact ⟨_, _, by simp only [B1_1, seqS, thenS, bin2, consA, nilA, callF, ownF, tstF, litI, litS, litB, litN, newK, newT, itF, noP, atP, nxS, bkS, ctS, badS, rtN, lockS, one1, testV, notT, andT, orT, iteV, iteS, forV, Res.ok_bind, varB, rd, setV, okV, retV, okRet, retN, bindV, par2, List.getElem?_cons_zero, List.getElem?_cons_succ, List.set_cons_zero, List.set_cons_succ, outR, callV, lenA, toArg, List.map_cons, List.map_nil, retB, List.length_cons, List.length_nil, tstB, truB, Bool.and_self, reduceIte, reduceCtorEq, Bool.false_eq_true, Nat.reduceAdd, Nat.reduceEqDiff, Bool.true_eq_false, Bool.not_true, Bool.not_false, if_true, if_false, lstB0, tupB0, lstB1, tupB1, lstB2, tupB2, lstB3, tupB3, lstB4, tupB4, lstB5, tupB5, lstB6, tupB6, i0, i1, i2, i3, m26, m2, m4, m8, l5, mm, k7, k3, k5, add_ii, lt, r0, eq_ii, d1, d2, d3, r1, l8, c1, appV, ownAt, if_pos hz, frzM]; rfl⟩
  · rw [if_neg h1]
    have d1 : decide (x1 % 4 = 1) = false := decide_eq_false h1
    by_cases h2 : x1 % 4 = 2
    · have d2 : decide (x1 % 4 = 2) = true := decide_eq_true h2
      have d3 : decide (x1 % 4 = 3) = false := decide_eq_false (by omega)
      rw [if_pos h2]
      have ek : (1 + (k : Int)).toNat = 1 + k := by omega
      rw [ek] at r2
      exact ⟨_, _, by simp only [B1_1, seqS, thenS, bin2, consA, nilA, callF, ownF, tstF, litI, litS, litB, litN, newK, newT, itF, noP, atP, nxS, bkS, ctS, badS, rtN, lockS, one1, testV, notT, andT, orT, iteV, iteS, forV, Res.ok_bind, varB, rd, setV, okV, retV, okRet, retN, bindV, par2, List.getElem?_cons_zero, List.getElem?_cons_succ, List.set_cons_zero, List.set_cons_succ, outR, callV, lenA, toArg, List.map_cons, List.map_nil, retB, List.length_cons, List.length_nil, tstB, truB, Bool.and_self, reduceIte, reduceCtorEq, Bool.false_eq_true, Nat.reduceAdd, Nat.reduceEqDiff, Bool.true_eq_false, Bool.not_true, Bool.not_false, if_true, if_false, lstB0, tupB0, lstB1, tupB1, lstB2, tupB2, lstB3, tupB3, lstB4, tupB4, lstB5, tupB5, lstB6, tupB6, i0, i1, i2, i3, m26, m2, m4, m8, l5, mm, k7, k3, k5, add_ii, lt, r0, eq_ii, d1, d2, d3, r2, appV, ownAt, if_pos hz, frzM]; rfl⟩
    · rw [if_neg h2]
      have d2 : decide (x1 % 4 = 2) = false := decide_eq_false h2
      by_cases h3 : x1 % 4 = 3
      · have d3 : decide (x1 % 4 = 3) = true := decide_eq_true h3
        rw [if_pos h3]
        have c3' := fun a b => c3 a b 0
        exact ⟨_, _, by simp only [B1_1, seqS, thenS, bin2, consA, nilA, callF, ownF, tstF, litI, litS, litB, litN, newK, newT, itF, noP, atP, nxS, bkS, ctS, badS, rtN, lockS, one1, testV, notT, andT, orT, iteV, iteS, forV, Res.ok_bind, varB, rd, setV, okV, retV, okRet, retN, bindV, par2, List.getElem?_cons_zero, List.getElem?_cons_succ, List.set_cons_zero, List.set_cons_succ, outR, callV, lenA, toArg, List.map_cons, List.map_nil, retB, List.length_cons, List.length_nil, tstB, truB, Bool.and_self, reduceIte, reduceCtorEq, Bool.false_eq_true, Nat.reduceAdd, Nat.reduceEqDiff, Bool.true_eq_false, Bool.not_true, Bool.not_false, if_true, if_false, lstB0, tupB0, lstB1, tupB1, lstB2, tupB2, lstB3, tupB3, lstB4, tupB4, lstB5, tupB5, lstB6, tupB6, i0, i1, i2, i3, m26, m2, m4, m8, l5, mm, k7, k3, k5, add_ii, lt, r0, eq_ii, d1, d2, d3, c3', c4, appV, ownAt, if_pos hz, frzM]; rfl⟩
      · have d3 : decide (x1 % 4 = 3) = false := decide_eq_false h3
        rw [if_neg h3]
        exact ⟨_, _, by simp only [B1_1, seqS, thenS, bin2, consA, nilA, callF, ownF, tstF, litI, litS, litB, litN, newK, newT, itF, noP, atP, nxS, bkS, ctS, badS, rtN, lockS, one1, testV, notT, andT, orT, iteV, iteS, forV, Res.ok_bind, varB, rd, setV, okV, retV, okRet, retN, bindV, par2, List.getElem?_cons_zero, List.getElem?_cons_succ, List.set_cons_zero, List.set_cons_succ, outR, callV, lenA, toArg, List.map_cons, List.map_nil, retB, List.length_cons, List.length_nil, tstB, truB, Bool.and_self, reduceIte, reduceCtorEq, Bool.false_eq_true, Nat.reduceAdd, Nat.reduceEqDiff, Bool.true_eq_false, Bool.not_true, Bool.not_false, if_true, if_false, lstB0, tupB0, lstB1, tupB1, lstB2, tupB2, lstB3, tupB3, lstB4, tupB4, lstB5, tupB5, lstB6, tupB6, i0, i1, i2, i3, m26, m2, m4, m8, l5, mm, k7, k3, k5, add_ii, lt, r0, eq_ii, d1, d2, d3, appV, ownAt, if_pos hz, frzM]; rfl⟩
/-- the names: n texts, sorted, no two alike -/
structure Nms (ns : List Str) (n : Nat) : Prop where
  len : ns.length = n
  lay : Lays ns
  nd : ns.Nodup
  srt : (txs ns).Pairwise fun a b => leD a b = true
theorem names_ok (x0 x1 x2 x3 : Int) (r : List Int) (n : Nat) (hn : n ≤ 8) : ∃ ns : List Str, Nms ns n ∧ E1.F [.dat (.lst (nms (x0 :: x1 :: x2 :: x3 :: r))), .dat (.int (n : Int))] = .ok (.own (.l (txs ns))) := by
  rw [show E1.F = defF 7 B1 from rfl]
  have el : (rng 0 n).length = n := by rw [rng_len]; omega
  obtain ⟨ρ', q1, r4, r5, r6, rfl⟩ := loop_all (t := .one 4) (body := B1_1) (ds := rng 0 n) (fun i ρ => ∃ (r4 r5 r6 : Option B), ρ = [some (.dat (.lst (.int x0 :: .int x1 :: .int x2 :: .int x3 :: nms r))), some (.dat (.int (n : Int))), some (.dat (.str abc)), some (.own (.l ((List.range i).map fun k => D.str (sC (nmC x0 x1 x2 x3 k))))), r4, r5, r6])
    (ρ := [some (.dat (.lst (.int x0 :: .int x1 :: .int x2 :: .int x3 :: nms r))), some (.dat (.int (n : Int))), some (.dat (.str abc)), some (.own (.l [])), none, none, none]) ⟨none, none, none, rfl⟩ (by
    rintro i e ρ hd ⟨r4, r5, r6, rfl⟩
    obtain ⟨rfl, hi⟩ := rng_get hd
    obtain ⟨q5, q6, hs⟩ := name_step x0 x1 x2 x3 n (nms r) ((List.range i).map fun k => D.str (sC (nmC x0 x1 x2 x3 k))) (by simp; omega) i (by omega) r5 r6
    refine ⟨[some (.dat (.lst (.int x0 :: .int x1 :: .int x2 :: .int x3 :: nms r))), some (.dat (.int (n : Int))), some (.dat (.str abc)), some (.own (.l ((List.range i).map fun k => D.str (sC (nmC x0 x1 x2 x3 k))))), some (.dat (.int (i : Int))), r5, r6], _, ?_, .inl hs, some (.dat (.int (i : Int))), q5, q6, ?_⟩
    · show some _ = some _
      rw [Int.zero_add]
      rfl
    · rw [List.range_succ, List.map_append]
      rfl)
  rw [el] at q1
  let ns0 : List Str := (List.range n).map fun k => sC (nmC x0 x1 x2 x3 k)
  have e0 : ((List.range n).map fun k => D.str (sC (nmC x0 x1 x2 x3 k))) = txs ns0 := by simp [ns0, txs]
  have lay0 : Lays ns0 := by
    intro x hx
    obtain ⟨k, hk, rfl⟩ := List.mem_map.mp hx
    exact nmC_lay _ _ _ _ (by have := List.mem_range.mp hk; omega)
  have nd0 : ns0.Nodup := by
    refine List.pairwise_map.mpr (List.Pairwise.imp_of_mem (fun {a b} ha hb hne h => ?_) (List.nodup_range (n := n)))
    have := List.mem_range.mp ha
    have := List.mem_range.mp hb
    exact hne (nmC_inj (by omega) (by omega) (sC_inj h))
  have pm := List.mergeSort_perm (txs ns0) leD
  obtain ⟨ns, hns, hp⟩ : ∃ ns : List Str, (txs ns0).mergeSort leD = txs ns ∧ ns.Perm ns0 := by
    have all : ∀ d ∈ (txs ns0).mergeSort leD, ∃ x, d = .str x := fun d hd => by
      obtain ⟨x, _, rfl⟩ := List.mem_map.mp (List.mem_mergeSort.mp hd)
      exact ⟨x, rfl⟩
    obtain ⟨ns, hns⟩ := txs_of all
    exact ⟨ns, hns, txs_perm (by rw [← hns]; exact pm)⟩
  refine ⟨ns, ⟨?_, fun x hx => lay0 x (hp.mem_iff.mp hx), hp.nodup_iff.mpr nd0, by rw [← hns]; exact sortD_pair _⟩, def_rt (by rfl) ?_⟩
  · rw [hp.length_eq]; simp [ns0]
  · show outR (B1 [some _, some _, none, none, none, none, none]) = _
    unfold B1
    refine (congrArg outR (seq_nx (ρ' := [some (.dat (.lst (nms (x0 :: x1 :: x2 :: x3 :: r)))), some (.dat (.int (n : Int))), some (.dat (.str abc)), none, none, none, none]) (by simp only [seqS, thenS, bin2, consA, nilA, callF, ownF, tstF, litI, litS, litB, litN, newK, newT, itF, noP, atP, nxS, bkS, ctS, badS, rtN, lockS, one1, testV, notT, andT, orT, iteV, iteS, forV, Res.ok_bind, varB, rd, setV, okV, retV, okRet, retN, bindV, par2, List.getElem?_cons_zero, List.getElem?_cons_succ, List.set_cons_zero, List.set_cons_succ, outR, callV, lenA, toArg, List.map_cons, List.map_nil, retB, List.length_cons, List.length_nil, tstB, truB, Bool.and_self, reduceIte, reduceCtorEq, Bool.false_eq_true, Nat.reduceAdd, Nat.reduceEqDiff, Bool.true_eq_false, Bool.not_true, Bool.not_false, if_true, if_false, lstB0, tupB0, lstB1, tupB1, lstB2, tupB2, lstB3, tupB3, lstB4, tupB4, lstB5, tupB5, lstB6, tupB6]; rfl))).trans ?_
    refine (congrArg outR (seq_nx (ρ' := [some (.dat (.lst (nms (x0 :: x1 :: x2 :: x3 :: r)))), some (.dat (.int (n : Int))), some (.dat (.str abc)), some (.own (.l [])), none, none, none]) (by simp only [seqS, thenS, bin2, consA, nilA, callF, ownF, tstF, litI, litS, litB, litN, newK, newT, itF, noP, atP, nxS, bkS, ctS, badS, rtN, lockS, one1, testV, notT, andT, orT, iteV, iteS, forV, Res.ok_bind, varB, rd, setV, okV, retV, okRet, retN, bindV, par2, List.getElem?_cons_zero, List.getElem?_cons_succ, List.set_cons_zero, List.set_cons_succ, outR, callV, lenA, toArg, List.map_cons, List.map_nil, retB, List.length_cons, List.length_nil, tstB, truB, Bool.and_self, reduceIte, reduceCtorEq, Bool.false_eq_true, Nat.reduceAdd, Nat.reduceEqDiff, Bool.true_eq_false, Bool.not_true, Bool.not_false, if_true, if_false, lstB0, tupB0, lstB1, tupB1, lstB2, tupB2, lstB3, tupB3, lstB4, tupB4, lstB5, tupB5, lstB6, tupB6]))).trans ?_
    refine (congrArg outR (seq_nx ((for_ok (rg_ok (bs := [.dat (.int (n : Int))]) (by simp only [seqS, thenS, bin2, consA, nilA, callF, ownF, tstF, litI, litS, litB, litN, newK, newT, itF, noP, atP, nxS, bkS, ctS, badS, rtN, lockS, one1, testV, notT, andT, orT, iteV, iteS, forV, Res.ok_bind, varB, rd, setV, okV, retV, okRet, retN, bindV, par2, List.getElem?_cons_zero, List.getElem?_cons_succ, List.set_cons_zero, List.set_cons_succ, outR, callV, lenA, toArg, List.map_cons, List.map_nil, retB, List.length_cons, List.length_nil, tstB, truB, Bool.and_self, reduceIte, reduceCtorEq, Bool.false_eq_true, Nat.reduceAdd, Nat.reduceEqDiff, Bool.true_eq_false, Bool.not_true, Bool.not_false, if_true, if_false, lstB0, tupB0, lstB1, tupB1, lstB2, tupB2, lstB3, tupB3, lstB4, tupB4, lstB5, tupB5, lstB6, tupB6]) (rng_nat (by omega)))).trans q1))).trans ?_
    have so : sortF [.vw (.l (txs ns0))] = .ok (.own (.l (txs ns))) := by
      show (if sortOk (txs ns0) = true then (.ok (.own (.l ((txs ns0).mergeSort leD))) : Res B) else .bad) = _
      rw [if_pos (sortOk_txs lay0), hns]
    rw [e0]
    simp only [seqS, thenS, bin2, consA, nilA, callF, ownF, tstF, litI, litS, litB, litN, newK, newT, itF, noP, atP, nxS, bkS, ctS, badS, rtN, lockS, one1, testV, notT, andT, orT, iteV, iteS, forV, Res.ok_bind, varB, rd, setV, okV, retV, okRet, retN, bindV, par2, List.getElem?_cons_zero, List.getElem?_cons_succ, List.set_cons_zero, List.set_cons_succ, outR, callV, lenA, toArg, List.map_cons, List.map_nil, retB, List.length_cons, List.length_nil, tstB, truB, Bool.and_self, reduceIte, reduceCtorEq, Bool.false_eq_true, Nat.reduceAdd, Nat.reduceEqDiff, Bool.true_eq_false, Bool.not_true, Bool.not_false, if_true, if_false, lstB0, tupB0, lstB1, tupB1, lstB2, tupB2, lstB3, tupB3, lstB4, tupB4, lstB5, tupB5, lstB6, tupB6, so]
theorem idxLb {ds : List D} {n : Nat} {d : D} (k : Int) (hk : k = (n : Int)) (h : ds[n]? = some d) : idxB (.bor (.l ds)) (.dat (.int k)) = .ok (.dat d) := by
  subst hk
  exact idx_bor (atI_nat h)
theorem name_stepB (x0 x1 x2 x3 n : Int) (r : List D) (found : List D) (hf : found.length < 1000) (k : Nat) (hk : k < 8) (r5 r6 : Option B) : ∃ q5 q6, B1_1 [some (.bor (.l (.int x0 :: .int x1 :: .int x2 :: .int x3 :: r))), some (.dat (.int n)), some (.dat (.str abc)), some (.own (.l found)), some (.dat (.int (k : Int))), r5, r6] =
    .nx [some (.bor (.l (.int x0 :: .int x1 :: .int x2 :: .int x3 :: r))), some (.dat (.int n)), some (.dat (.str abc)), some (.own (.l (found ++ [.str (sC (nmC x0 x1 x2 x3 k))]))), some (.dat (.int (k : Int))), q5, q6] := by
  have i0 : idxB (.bor (.l (.int x0 :: .int x1 :: .int x2 :: .int x3 :: r))) (.dat (.int 0)) = .ok (.dat (.int x0)) := idxLb (n := 0) _ rfl rfl
  have i1 : idxB (.bor (.l (.int x0 :: .int x1 :: .int x2 :: .int x3 :: r))) (.dat (.int 1)) = .ok (.dat (.int x1)) := idxLb (n := 1) _ rfl rfl
  have i2 : idxB (.bor (.l (.int x0 :: .int x1 :: .int x2 :: .int x3 :: r))) (.dat (.int 2)) = .ok (.dat (.int x2)) := idxLb (n := 2) _ rfl rfl
  have i3 : idxB (.bor (.l (.int x0 :: .int x1 :: .int x2 :: .int x3 :: r))) (.dat (.int 3)) = .ok (.dat (.int x3)) := idxLb (n := 3) _ rfl rfl
  have m26 : ∀ z : Int, modB (.dat (.int z)) (.dat (.int 26)) = .ok (.dat (.int (z % 26))) := fun z => mod_pos (by decide)
  have m2 : ∀ z : Int, modB (.dat (.int z)) (.dat (.int 2)) = .ok (.dat (.int (z % 2))) := fun z => mod_pos (by decide)
  have m4 : ∀ z : Int, modB (.dat (.int z)) (.dat (.int 4)) = .ok (.dat (.int (z % 4))) := fun z => mod_pos (by decide)
  have m8 : ∀ z : Int, modB (.dat (.int z)) (.dat (.int 8)) = .ok (.dat (.int (z % 8))) := fun z => mod_pos (by decide)
  have mm : ∀ z w : Int, modB (.dat (.int z)) (.dat (.int (if w % 2 = 0 then 1 else 5))) = .ok (.dat (.int (z % (if w % 2 = 0 then 1 else 5)))) := fun z w => mod_pos (by split <;> omega)
  have l5 : ∀ w : Int, idxB (.dat (.lst [.int 1, .int 5])) (.dat (.int (w % 2))) = .ok (.dat (.int (if w % 2 = 0 then 1 else 5))) := by
    intro w
    by_cases z : w % 2 = 0
    · rw [z, if_pos rfl]; exact idxL (n := 0) _ rfl rfl
    · rw [show w % 2 = 1 by omega, if_neg (by decide)]; exact idxL (n := 1) _ rfl rfl
  have k7 := mul_ok (show Sm64 7 by decide) (show Sm64 (k : Int) by show Int.natAbs _ < _; omega)
  have k3 := mul_ok (show Sm64 3 by decide) (show Sm64 (k : Int) by show Int.natAbs _ < _; omega)
  have k5 := mul_ok (show Sm64 5 by decide) (show Sm64 (k : Int) by show Int.natAbs _ < _; omega)
  have lt : ∀ z : Int, idxB (.dat (.str abc)) (.dat (.int (z % 26))) = .ok (.dat (.str (sC [97 + (z % 26).toNat]))) := fun z => letter (by omega) (by omega)
  have r0 : mulB (.dat (.str (sC [97 + ((x0 + 7 * (k : Int)) % 26).toNat]))) (.dat (.int (1 + (x2 + 3 * (k : Int)) % (if x3 % 2 = 0 then 1 else 5)))) = .ok (.dat (.str (sC (List.replicate (1 + (x2 + 3 * (k : Int)) % (if x3 % 2 = 0 then 1 else 5)).toNat (97 + ((x0 + 7 * (k : Int)) % 26).toNat))))) := rep_ok (by split <;> omega) (by split <;> omega)
  have r1 : mulB (.dat (.str (sC [97 + (x2 % 26).toNat]))) (.dat (.int (x3 % 8))) = .ok (.dat (.str (sC (List.replicate (x3 % 8).toNat (97 + (x2 % 26).toNat))))) := rep_ok (by omega) (by omega)
  have r2 : mulB (.dat (.str (sC [97 + (x2 % 26).toNat]))) (.dat (.int (1 + (k : Int)))) = .ok (.dat (.str (sC (List.replicate (1 + (k : Int)).toNat (97 + (x2 % 26).toNat))))) := rep_ok (by omega) (by omega)
  have c1 := cat_ok (a := [97 + k]) (b := List.replicate (x3 % 8).toNat (97 + (x2 % 26).toNat)) (by rw [List.length_replicate]; show 1 + _ ≤ 1000; omega)
  have c3 : ∀ a b c : Nat, addB (.dat (.str (sC [a]))) (.dat (.str (sC [b]))) = .ok (.dat (.str (sC [a, b]))) := fun a b c => cat_ok (by show 2 ≤ 1000; decide)
  have c4 : ∀ a b c : Nat, addB (.dat (.str (sC [a, b]))) (.dat (.str (sC [c]))) = .ok (.dat (.str (sC [a, b, c]))) := fun a b c => cat_ok (by show 3 ≤ 1000; decide)
  have hz : found.length < sizeLine := small1000 (by omega)
  have l8 : idxB (.dat (.str "abcdefgh")) (.dat (.int (k : Int))) = .ok (.dat (.str (sC [97 + k]))) := letter8 hk
  unfold nmC
  by_cases h1 : x1 % 4 = 1
  · have d1 : decide (x1 % 4 = 1) = true := decide_eq_true h1
    have d2 : decide (x1 % 4 = 2) = false := decide_eq_false (by omega)
    have d3 : decide (x1 % 4 = 3) = false := decide_eq_false (by omega)
    rw [if_pos h1]
    exact ⟨_, _, by simp only [B1_1, seqS, thenS, bin2, consA, nilA, callF, ownF, tstF, litI, litS, litB, litN, newK, newT, itF, noP, atP, nxS, bkS, ctS, badS, rtN, lockS, one1, testV, notT, andT, orT, iteV, iteS, forV, Res.ok_bind, varB, rd, setV, okV, retV, okRet, retN, bindV, par2, List.getElem?_cons_zero, List.getElem?_cons_succ, List.set_cons_zero, List.set_cons_succ, outR, callV, lenA, toArg, List.map_cons, List.map_nil, retB, List.length_cons, List.length_nil, tstB, truB, Bool.and_self, reduceIte, reduceCtorEq, Bool.false_eq_true, Nat.reduceAdd, Nat.reduceEqDiff, Bool.true_eq_false, Bool.not_true, Bool.not_false, if_true, if_false, lstB0, tupB0, lstB1, tupB1, lstB2, tupB2, lstB3, tupB3, lstB4, tupB4, lstB5, tupB5, lstB6, tupB6, i0, i1, i2, i3, m26, m2, m4, m8, l5, mm, k7, k3, k5, add_ii, lt, r0, eq_ii, d1, d2, d3, r1, l8, c1, appV, ownAt, if_pos hz, frzM]; rfl⟩
  · rw [if_neg h1]
    have d1 : decide (x1 % 4 = 1) = false := decide_eq_false h1
    by_cases h2 : x1 % 4 = 2
    · have d2 : decide (x1 % 4 = 2) = true := decide_eq_true h2
      have d3 : decide (x1 % 4 = 3) = false := decide_eq_false (by omega)
      rw [if_pos h2]
      have ek : (1 + (k : Int)).toNat = 1 + k := by omega
      rw [ek] at r2
      exact ⟨_, _, by simp only [B1_1, seqS, thenS, bin2, consA, nilA, callF, ownF, tstF, litI, litS, litB, litN, newK, newT, itF, noP, atP, nxS, bkS, ctS, badS, rtN, lockS, one1, testV, notT, andT, orT, iteV, iteS, forV, Res.ok_bind, varB, rd, setV, okV, retV, okRet, retN, bindV, par2, List.getElem?_cons_zero, List.getElem?_cons_succ, List.set_cons_zero, List.set_cons_succ, outR, callV, lenA, toArg, List.map_cons, List.map_nil, retB, List.length_cons, List.length_nil, tstB, truB, Bool.and_self, reduceIte, reduceCtorEq, Bool.false_eq_true, Nat.reduceAdd, Nat.reduceEqDiff, Bool.true_eq_false, Bool.not_true, Bool.not_false, if_true, if_false, lstB0, tupB0, lstB1, tupB1, lstB2, tupB2, lstB3, tupB3, lstB4, tupB4, lstB5, tupB5, lstB6, tupB6, i0, i1, i2, i3, m26, m2, m4, m8, l5, mm, k7, k3, k5, add_ii, lt, r0, eq_ii, d1, d2, d3, r2, appV, ownAt, if_pos hz, frzM]; rfl⟩
    · rw [if_neg h2]
      have d2 : decide (x1 % 4 = 2) = false := decide_eq_false h2
      by_cases h3 : x1 % 4 = 3
      · have d3 : decide (x1 % 4 = 3) = true := decide_eq_true h3
        rw [if_pos h3]
        have c3' := fun a b => c3 a b 0
        exact ⟨_, _, by simp only [B1_1, seqS, thenS, bin2, consA, nilA, callF, ownF, tstF, litI, litS, litB, litN, newK, newT, itF, noP, atP, nxS, bkS, ctS, badS, rtN, lockS, one1, testV, notT, andT, orT, iteV, iteS, forV, Res.ok_bind, varB, rd, setV, okV, retV, okRet, retN, bindV, par2, List.getElem?_cons_zero, List.getElem?_cons_succ, List.set_cons_zero, List.set_cons_succ, outR, callV, lenA, toArg, List.map_cons, List.map_nil, retB, List.length_cons, List.length_nil, tstB, truB, Bool.and_self, reduceIte, reduceCtorEq, Bool.false_eq_true, Nat.reduceAdd, Nat.reduceEqDiff, Bool.true_eq_false, Bool.not_true, Bool.not_false, if_true, if_false, lstB0, tupB0, lstB1, tupB1, lstB2, tupB2, lstB3, tupB3, lstB4, tupB4, lstB5, tupB5, lstB6, tupB6, i0, i1, i2, i3, m26, m2, m4, m8, l5, mm, k7, k3, k5, add_ii, lt, r0, eq_ii, d1, d2, d3, c3', c4, appV, ownAt, if_pos hz, frzM]; rfl⟩
      · have d3 : decide (x1 % 4 = 3) = false := decide_eq_false h3
        rw [if_neg h3]
        exact ⟨_, _, by simp only [B1_1, seqS, thenS, bin2, consA, nilA, callF, ownF, tstF, litI, litS, litB, litN, newK, newT, itF, noP, atP, nxS, bkS, ctS, badS, rtN, lockS, one1, testV, notT, andT, orT, iteV, iteS, forV, Res.ok_bind, varB, rd, setV, okV, retV, okRet, retN, bindV, par2, List.getElem?_cons_zero, List.getElem?_cons_succ, List.set_cons_zero, List.set_cons_succ, outR, callV, lenA, toArg, List.map_cons, List.map_nil, retB, List.length_cons, List.length_nil, tstB, truB, Bool.and_self, reduceIte, reduceCtorEq, Bool.false_eq_true, Nat.reduceAdd, Nat.reduceEqDiff, Bool.true_eq_false, Bool.not_true, Bool.not_false, if_true, if_false, lstB0, tupB0, lstB1, tupB1, lstB2, tupB2, lstB3, tupB3, lstB4, tupB4, lstB5, tupB5, lstB6, tupB6, i0, i1, i2, i3, m26, m2, m4, m8, l5, mm, k7, k3, k5, add_ii, lt, r0, eq_ii, d1, d2, d3, appV, ownAt, if_pos hz, frzM]; rfl⟩
theorem names_okB (x0 x1 x2 x3 : Int) (r : List Int) (n : Nat) (hn : n ≤ 8) : ∃ ns : List Str, Nms ns n ∧ E1.F [.bor (.l (nms (x0 :: x1 :: x2 :: x3 :: r))), .dat (.int (n : Int))] = .ok (.own (.l (txs ns))) := by
  rw [show E1.F = defF 7 B1 from rfl]
  have el : (rng 0 n).length = n := by rw [rng_len]; omega
  obtain ⟨ρ', q1, r4, r5, r6, rfl⟩ := loop_all (t := .one 4) (body := B1_1) (ds := rng 0 n) (fun i ρ => ∃ (r4 r5 r6 : Option B), ρ = [some (.bor (.l (.int x0 :: .int x1 :: .int x2 :: .int x3 :: nms r))), some (.dat (.int (n : Int))), some (.dat (.str abc)), some (.own (.l ((List.range i).map fun k => D.str (sC (nmC x0 x1 x2 x3 k))))), r4, r5, r6])
    (ρ := [some (.bor (.l (.int x0 :: .int x1 :: .int x2 :: .int x3 :: nms r))), some (.dat (.int (n : Int))), some (.dat (.str abc)), some (.own (.l [])), none, none, none]) ⟨none, none, none, rfl⟩ (by
    rintro i e ρ hd ⟨r4, r5, r6, rfl⟩
    obtain ⟨rfl, hi⟩ := rng_get hd
    obtain ⟨q5, q6, hs⟩ := name_stepB x0 x1 x2 x3 n (nms r) ((List.range i).map fun k => D.str (sC (nmC x0 x1 x2 x3 k))) (by simp; omega) i (by omega) r5 r6
    refine ⟨[some (.bor (.l (.int x0 :: .int x1 :: .int x2 :: .int x3 :: nms r))), some (.dat (.int (n : Int))), some (.dat (.str abc)), some (.own (.l ((List.range i).map fun k => D.str (sC (nmC x0 x1 x2 x3 k))))), some (.dat (.int (i : Int))), r5, r6], _, ?_, .inl hs, some (.dat (.int (i : Int))), q5, q6, ?_⟩
    · show some _ = some _
      rw [Int.zero_add]
      rfl
    · rw [List.range_succ, List.map_append]
      rfl)
  rw [el] at q1
  let ns0 : List Str := (List.range n).map fun k => sC (nmC x0 x1 x2 x3 k)
  have e0 : ((List.range n).map fun k => D.str (sC (nmC x0 x1 x2 x3 k))) = txs ns0 := by simp [ns0, txs]
  have lay0 : Lays ns0 := by
    intro x hx
    obtain ⟨k, hk, rfl⟩ := List.mem_map.mp hx
    exact nmC_lay _ _ _ _ (by have := List.mem_range.mp hk; omega)
  have nd0 : ns0.Nodup := by
    refine List.pairwise_map.mpr (List.Pairwise.imp_of_mem (fun {a b} ha hb hne h => ?_) (List.nodup_range (n := n)))
    have := List.mem_range.mp ha
    have := List.mem_range.mp hb
    exact hne (nmC_inj (by omega) (by omega) (sC_inj h))
  have pm := List.mergeSort_perm (txs ns0) leD
  obtain ⟨ns, hns, hp⟩ : ∃ ns : List Str, (txs ns0).mergeSort leD = txs ns ∧ ns.Perm ns0 := by
    have all : ∀ d ∈ (txs ns0).mergeSort leD, ∃ x, d = .str x := fun d hd => by
      obtain ⟨x, _, rfl⟩ := List.mem_map.mp (List.mem_mergeSort.mp hd)
      exact ⟨x, rfl⟩
    obtain ⟨ns, hns⟩ := txs_of all
    exact ⟨ns, hns, txs_perm (by rw [← hns]; exact pm)⟩
  refine ⟨ns, ⟨?_, fun x hx => lay0 x (hp.mem_iff.mp hx), hp.nodup_iff.mpr nd0, by rw [← hns]; exact sortD_pair _⟩, def_rt (by rfl) ?_⟩
  · rw [hp.length_eq]; simp [ns0]
  · show outR (B1 [some _, some _, none, none, none, none, none]) = _
    unfold B1
    refine (congrArg outR (seq_nx (ρ' := [some (.bor (.l (nms (x0 :: x1 :: x2 :: x3 :: r)))), some (.dat (.int (n : Int))), some (.dat (.str abc)), none, none, none, none]) (by simp only [seqS, thenS, bin2, consA, nilA, callF, ownF, tstF, litI, litS, litB, litN, newK, newT, itF, noP, atP, nxS, bkS, ctS, badS, rtN, lockS, one1, testV, notT, andT, orT, iteV, iteS, forV, Res.ok_bind, varB, rd, setV, okV, retV, okRet, retN, bindV, par2, List.getElem?_cons_zero, List.getElem?_cons_succ, List.set_cons_zero, List.set_cons_succ, outR, callV, lenA, toArg, List.map_cons, List.map_nil, retB, List.length_cons, List.length_nil, tstB, truB, Bool.and_self, reduceIte, reduceCtorEq, Bool.false_eq_true, Nat.reduceAdd, Nat.reduceEqDiff, Bool.true_eq_false, Bool.not_true, Bool.not_false, if_true, if_false, lstB0, tupB0, lstB1, tupB1, lstB2, tupB2, lstB3, tupB3, lstB4, tupB4, lstB5, tupB5, lstB6, tupB6]; rfl))).trans ?_
    refine (congrArg outR (seq_nx (ρ' := [some (.bor (.l (nms (x0 :: x1 :: x2 :: x3 :: r)))), some (.dat (.int (n : Int))), some (.dat (.str abc)), some (.own (.l [])), none, none, none]) (by simp only [seqS, thenS, bin2, consA, nilA, callF, ownF, tstF, litI, litS, litB, litN, newK, newT, itF, noP, atP, nxS, bkS, ctS, badS, rtN, lockS, one1, testV, notT, andT, orT, iteV, iteS, forV, Res.ok_bind, varB, rd, setV, okV, retV, okRet, retN, bindV, par2, List.getElem?_cons_zero, List.getElem?_cons_succ, List.set_cons_zero, List.set_cons_succ, outR, callV, lenA, toArg, List.map_cons, List.map_nil, retB, List.length_cons, List.length_nil, tstB, truB, Bool.and_self, reduceIte, reduceCtorEq, Bool.false_eq_true, Nat.reduceAdd, Nat.reduceEqDiff, Bool.true_eq_false, Bool.not_true, Bool.not_false, if_true, if_false, lstB0, tupB0, lstB1, tupB1, lstB2, tupB2, lstB3, tupB3, lstB4, tupB4, lstB5, tupB5, lstB6, tupB6]))).trans ?_
    refine (congrArg outR (seq_nx ((for_ok (rg_ok (bs := [.dat (.int (n : Int))]) (by simp only [seqS, thenS, bin2, consA, nilA, callF, ownF, tstF, litI, litS, litB, litN, newK, newT, itF, noP, atP, nxS, bkS, ctS, badS, rtN, lockS, one1, testV, notT, andT, orT, iteV, iteS, forV, Res.ok_bind, varB, rd, setV, okV, retV, okRet, retN, bindV, par2, List.getElem?_cons_zero, List.getElem?_cons_succ, List.set_cons_zero, List.set_cons_succ, outR, callV, lenA, toArg, List.map_cons, List.map_nil, retB, List.length_cons, List.length_nil, tstB, truB, Bool.and_self, reduceIte, reduceCtorEq, Bool.false_eq_true, Nat.reduceAdd, Nat.reduceEqDiff, Bool.true_eq_false, Bool.not_true, Bool.not_false, if_true, if_false, lstB0, tupB0, lstB1, tupB1, lstB2, tupB2, lstB3, tupB3, lstB4, tupB4, lstB5, tupB5, lstB6, tupB6]) (rng_nat (by omega)))).trans q1))).trans ?_
    have so : sortF [.vw (.l (txs ns0))] = .ok (.own (.l (txs ns))) := by
      show (if sortOk (txs ns0) = true then (.ok (.own (.l ((txs ns0).mergeSort leD))) : Res B) else .bad) = _
      rw [if_pos (sortOk_txs lay0), hns]
    rw [e0]
    simp only [seqS, thenS, bin2, consA, nilA, callF, ownF, tstF, litI, litS, litB, litN, newK, newT, itF, noP, atP, nxS, bkS, ctS, badS, rtN, lockS, one1, testV, notT, andT, orT, iteV, iteS, forV, Res.ok_bind, varB, rd, setV, okV, retV, okRet, retN, bindV, par2, List.getElem?_cons_zero, List.getElem?_cons_succ, List.set_cons_zero, List.set_cons_succ, outR, callV, lenA, toArg, List.map_cons, List.map_nil, retB, List.length_cons, List.length_nil, tstB, truB, Bool.and_self, reduceIte, reduceCtorEq, Bool.false_eq_true, Nat.reduceAdd, Nat.reduceEqDiff, Bool.true_eq_false, Bool.not_true, Bool.not_false, if_true, if_false, lstB0, tupB0, lstB1, tupB1, lstB2, tupB2, lstB3, tupB3, lstB4, tupB4, lstB5, tupB5, lstB6, tupB6, so]
end K08
namespace K08
open PySem L2 Fn
/-! ### fractions in lowest terms -/
abbrev iI (n : Int) : B := .dat (.int n)
abbrev Fr := Int × Nat
abbrev frD (p : Fr) : D := .tup [.int p.1, .int (p.2 : Int)]
def gI (t : Int) (b : Nat) : Nat := Nat.gcd t.natAbs b
/-- t / b in lowest terms -/
def mk (t : Int) (b : Nat) : Fr := (t / (gI t b : Int), b / gI t b)
structure Low (p : Fr) : Prop where
  pos : 0 < p.2
  low : Nat.gcd p.1.natAbs p.2 = 1
theorem gI_pos {t : Int} {b : Nat} (h : 0 < b) : 0 < gI t b := Nat.gcd_pos_of_pos_right _ h
theorem mk_val {t : Int} {b : Nat} (h : 0 < b) : (mk t b).1 * (gI t b : Int) = t ∧ (mk t b).2 * gI t b = b := by
  have d1 : (gI t b : Int) ∣ t := by
    have : gI t b ∣ t.natAbs := Nat.gcd_dvd_left _ _
    exact Int.ofNat_dvd_left.mpr this
  have d2 : gI t b ∣ b := Nat.gcd_dvd_right _ _
  exact ⟨Int.ediv_mul_cancel d1, Nat.div_mul_cancel d2⟩
theorem mk_low {t : Int} {b : Nat} (h : 0 < b) : Low (mk t b) := by
  obtain ⟨h1, h2⟩ := mk_val (t := t) h
  have g := gI_pos (t := t) h
  refine ⟨?_, ?_⟩
  · rcases Nat.eq_zero_or_pos (mk t b).2 with z | z
    · rw [z, Nat.zero_mul] at h2; omega
    · exact z
  · have c := Nat.coprime_div_gcd_div_gcd (m := t.natAbs) (n := b) g
    have e1 : (mk t b).1.natAbs = t.natAbs / gI t b := by
      have : t.natAbs = (mk t b).1.natAbs * gI t b := by
        have := congrArg Int.natAbs h1
        rw [Int.natAbs_mul, Int.natAbs_natCast] at this
        exact this.symm
      rw [this, Nat.mul_div_cancel _ g]
    rw [e1]
    exact c
/-- lowest terms are told by their worth -/
theorem low_eq {p q : Fr} (hp : Low p) (hq : Low q) (h : p.1 * (q.2 : Int) = q.1 * (p.2 : Int)) : p = q := by
  have hn : p.1.natAbs * q.2 = q.1.natAbs * p.2 := by
    have := congrArg Int.natAbs h
    rw [Int.natAbs_mul, Int.natAbs_mul, Int.natAbs_natCast, Int.natAbs_natCast] at this
    exact this
  have c1 : Nat.Coprime p.2 p.1.natAbs := (Nat.coprime_comm).mp hp.low
  have c2 : Nat.Coprime q.2 q.1.natAbs := (Nat.coprime_comm).mp hq.low
  have d1 : p.2 ∣ q.2 := c1.dvd_of_dvd_mul_left (by rw [hn]; exact Nat.dvd_mul_left _ _)
  have d2 : q.2 ∣ p.2 := c2.dvd_of_dvd_mul_left (by rw [← hn]; exact Nat.dvd_mul_left _ _)
  have e2 : p.2 = q.2 := Nat.dvd_antisymm d1 d2
  have hz : (q.2 : Int) ≠ 0 := by have := hq.pos; omega
  rw [e2] at h
  exact Prod.ext (Int.eq_of_mul_eq_mul_right hz h) e2
theorem mk_eq {t : Int} {b : Nat} {p : Fr} (h : 0 < b) (hp : Low p) (e : t * (p.2 : Int) = p.1 * (b : Int)) : mk t b = p := by
  refine low_eq (mk_low h) hp ?_
  obtain ⟨h1, h2⟩ := mk_val (t := t) h
  have g := gI_pos (t := t) h
  have hg : (gI t b : Int) ≠ 0 := by omega
  have h2' : ((mk t b).2 : Int) * (gI t b : Int) = (b : Int) := by rw [← Int.natCast_mul, h2]
  refine Int.eq_of_mul_eq_mul_right hg ?_
  rw [Int.mul_right_comm, h1, Int.mul_assoc, h2', e]
theorem mk_mk {t t' : Int} {b b' : Nat} (h : 0 < b) (h' : 0 < b') (e : t * (b' : Int) = t' * (b : Int)) : mk t b = mk t' b' := by
  refine mk_eq h (mk_low h') ?_
  obtain ⟨h1, h2⟩ := mk_val (t := t') h'
  have g := gI_pos (t := t') h'
  have hg : (gI t' b' : Int) ≠ 0 := by omega
  have h2' : ((mk t' b').2 : Int) * (gI t' b' : Int) = (b' : Int) := by rw [← Int.natCast_mul, h2]
  refine Int.eq_of_mul_eq_mul_right hg ?_
  rw [Int.mul_assoc, h2', Int.mul_right_comm, h1, e]
theorem mk_one (t : Int) : mk t 1 = (t, 1) := by
  refine mk_eq (by omega) ⟨by show 0 < 1; omega, Nat.gcd_one_right _⟩ ?_
  rfl
/-- sums and products of fractions that are worth so -/
theorem mk_plus {s t : Int} {b c : Nat} (hb : 0 < b) (hc : 0 < c) : mk ((mk s b).1 * ((mk t c).2 : Int) + (mk t c).1 * ((mk s b).2 : Int)) ((mk s b).2 * (mk t c).2) = mk (s * (c : Int) + t * (b : Int)) (b * c) := by
  obtain ⟨h1, h2⟩ := mk_val (t := s) hb
  obtain ⟨h3, h4⟩ := mk_val (t := t) hc
  have p1 := (mk_low (t := s) hb).pos
  have p2 := (mk_low (t := t) hc).pos
  refine mk_mk (Nat.mul_pos p1 p2) (Nat.mul_pos hb hc) ?_
  generalize mk s b = p at *
  generalize mk t c = q at *
  generalize (gI s b) = g at *
  generalize (gI t c) = k at *
  subst h1 h2 h3 h4
  simp only [Int.natCast_mul, Int.add_mul]
  congr 1 <;> simp only [Int.mul_assoc, Int.mul_left_comm, Int.mul_comm]
theorem mk_times {s t : Int} {b c : Nat} (hb : 0 < b) (hc : 0 < c) : mk ((mk s b).1 * (mk t c).1) ((mk s b).2 * (mk t c).2) = mk (s * t) (b * c) := by
  obtain ⟨h1, h2⟩ := mk_val (t := s) hb
  obtain ⟨h3, h4⟩ := mk_val (t := t) hc
  have p1 := (mk_low (t := s) hb).pos
  have p2 := (mk_low (t := t) hc).pos
  refine mk_mk (Nat.mul_pos p1 p2) (Nat.mul_pos hb hc) ?_
  generalize mk s b = p at *
  generalize mk t c = q at *
  generalize (gI s b) = g at *
  generalize (gI t c) = k at *
  subst h1 h2 h3 h4
  simp only [Int.natCast_mul]
  simp only [Int.mul_assoc, Int.mul_left_comm, Int.mul_comm]
theorem mk_same {s t : Int} {b : Nat} (hb : 0 < b) : mk (s * (b : Int) + t * (b : Int)) (b * b) = mk (s + t) b := by
  refine mk_mk (Nat.mul_pos hb hb) hb ?_
  rw [Int.natCast_mul, Int.add_mul, Int.add_mul]
  simp only [Int.mul_assoc]
end K08
namespace K08
open PySem L2 Fn
abbrev iN (n : Nat) : B := .dat (.int (n : Int))
def gcdT : Fn.Env → Res Bool := tstF (bin2 gtF (varB 3) (litI 0))
def gcdB : Fn.Env → Out := par2 2 3 (varB 3) (bin2 modB (varB 2) (varB 3))
theorem gcd_loop (r0 r1 : Option B) : ∀ (b a : Nat), whileC gcdT gcdB [r0, r1, some (iN a), some (iN b)] = .nx [r0, r1, some (iN (Nat.gcd a b)), some (iN 0)] := by
  intro b
  induction b using Nat.strongRecOn with
  | ind b ih =>
    intro a
    by_cases hb : b = 0
    · subst hb
      rw [Nat.gcd_zero_right]
      refine whileC_stop ?_
      exact tst_ok (bin_ok (x := iN 0) (y := .dat (.int 0)) rfl rfl (gt_ii.trans (by rw [decide_eq_false (by decide)])))
    · have h1 : gcdT [r0, r1, some (iN a), some (iN b)] = .ok true :=
        tst_ok (bin_ok (x := iN b) (y := .dat (.int 0)) rfl rfl (gt_ii.trans (by rw [decide_eq_true (by omega)])))
      have h2 : gcdB [r0, r1, some (iN a), some (iN b)] = .nx [r0, r1, some (iN b), some (iN (a % b))] := by
        have m : modB (iN a) (iN b) = .ok (iN (a % b)) := by
          refine (mod_pos (by omega)).trans ?_
          rw [← Int.natCast_emod]
        simp only [gcdB, seqS, thenS, bin2, consA, nilA, callF, ownF, tstF, litI, litS, litB, litN, newK, newT, itF, noP, atP, nxS, bkS, ctS, badS, rtN, lockS, one1, testV, notT, andT, orT, iteV, iteS, forV, Res.ok_bind, varB, rd, setV, okV, retV, okRet, retN, bindV, par2, List.getElem?_cons_zero, List.getElem?_cons_succ, List.set_cons_zero, List.set_cons_succ, outR, callV, lenA, toArg, List.map_cons, List.map_nil, retB, List.length_cons, List.length_nil, tstB, truB, Bool.and_self, reduceIte, reduceCtorEq, Bool.false_eq_true, Nat.reduceAdd, Nat.reduceEqDiff, Bool.true_eq_false, Bool.not_true, Bool.not_false, if_true, if_false, lstB0, tupB0, lstB1, tupB1, lstB2, tupB2, lstB3, tupB3, lstB4, tupB4, lstB5, tupB5, lstB6, tupB6, m]
      rw [whileC_nx h1 h2, ih (a % b) (Nat.mod_lt _ (by omega)) b]
      rw [Nat.gcd_comm b, ← Nat.gcd_rec, Nat.gcd_comm b a]
theorem div_big {i : Int} {g : Nat} (h : 0 < g) (hg : g < 2 ^ 200) : divB (iI i) (iN g) = .ok (iI (i / (g : Int))) := by
  have hl : g.log2 < 200 := (Nat.log2_lt (by omega)).mpr hg
  unfold divB int2
  dsimp only
  rw [if_pos (by rw [Bool.and_eq_true, decide_eq_true_eq, decide_eq_true_eq]; exact ⟨by omega, by rw [Int.natAbs_natCast]; omega⟩), Int.fdiv_eq_ediv_of_nonneg _ (by omega)]
theorem gcd_ok (a : Int) (b : Nat) : E11.F [iI a, iN b] = .ok (iN (gI a b)) := by
  rw [show E11.F = defF 4 B11 from rfl]
  refine def_rt (by rfl) ?_
  show outR (B11 [some _, some _, none, none]) = _
  unfold B11
  refine (congrArg outR (seq_nx (ρ' := [some (iI a), some (iN b), some (iN a.natAbs), some (iN b)]) (by simp only [seqS, thenS, bin2, consA, nilA, callF, ownF, tstF, litI, litS, litB, litN, newK, newT, itF, noP, atP, nxS, bkS, ctS, badS, rtN, lockS, one1, testV, notT, andT, orT, iteV, iteS, forV, Res.ok_bind, varB, rd, setV, okV, retV, okRet, retN, bindV, par2, List.getElem?_cons_zero, List.getElem?_cons_succ, List.set_cons_zero, List.set_cons_succ, outR, callV, lenA, toArg, List.map_cons, List.map_nil, retB, List.length_cons, List.length_nil, tstB, truB, Bool.and_self, reduceIte, reduceCtorEq, Bool.false_eq_true, Nat.reduceAdd, Nat.reduceEqDiff, Bool.true_eq_false, Bool.not_true, Bool.not_false, if_true, if_false, lstB0, tupB0, lstB1, tupB1, lstB2, tupB2, lstB3, tupB3, lstB4, tupB4, lstB5, tupB5, lstB6, tupB6, abs_i, Int.natAbs_natCast]))).trans ?_
  exact congrArg outR ((seq_nx (gcd_loop _ _ b a.natAbs)).trans (b := retN 2 _) (c := .rt (iN (gI a b))) rfl)
theorem gI_sz {t : Int} {b : Nat} (h : 0 < b) (hb : b < 2 ^ 200) : gI t b < 2 ^ 200 := Nat.lt_of_le_of_lt (Nat.le_of_dvd h (Nat.gcd_dvd_right _ _)) hb
theorem div_fr {t : Int} {b : Nat} (h : 0 < b) (hb : b < 2 ^ 200) : divB (iI t) (iN (gI t b)) = .ok (iI (mk t b).1) ∧ divB (iN b) (iN (gI t b)) = .ok (iN (mk t b).2) := by
  refine ⟨div_big (gI_pos h) (gI_sz h hb), ?_⟩
  refine (div_big (i := (b : Int)) (gI_pos h) (gI_sz h hb)).trans ?_
  rw [← Int.natCast_ediv]
  rfl
theorem fraction_ok (t : Int) (b : Nat) (h : 0 < b) (hb : b < 2 ^ 200) : E12.F [iI t, iN b] = .ok (.dat (frD (mk t b))) := by
  rw [show E12.F = defF 3 B12 from rfl]
  refine def_rt (by rfl) ?_
  show outR (B12 [some _, some _, none]) = _
  unfold B12
  obtain ⟨d1, d2⟩ := div_fr (t := t) h hb
  have c1 : tstF (bin2 eqB (varB 1) (litI 0)) [some (iI t), some (iN b), none] = .ok false := tst_ok (bin_ok (x := iN b) (y := .dat (.int 0)) rfl rfl (eq_ii.trans (by rw [decide_eq_false (by omega)])))
  refine (congrArg outR (seq_nx (ρ' := [some (iI t), some (iN b), none]) ((if_f c1).trans rfl))).trans ?_
  refine (congrArg outR (seq_nx (ρ' := [some (iI t), some (iN b), some (iN (gI t b))]) (set_ok (own_ok (bs := [iI t, iN b]) (cons_ok (x := iI t) rfl (cons_ok (x := iN b) rfl nil_ok)) rfl (gcd_ok t b) rfl) rfl))).trans ?_
  have c2 : tstF (bin2 ltB (varB 1) (litI 0)) [some (iI t), some (iN b), some (iN (gI t b))] = .ok false := tst_ok (bin_ok (x := iN b) (y := .dat (.int 0)) rfl rfl (lt_ii.trans (by rw [decide_eq_false (by omega)])))
  refine (congrArg outR (seq_nx (ρ' := [some (iI t), some (iN b), some (iN (gI t b))]) ((if_f c2).trans rfl))).trans ?_
  exact congrArg outR (ret_ok (call_ok (cons_ok (bin_ok (x := iI t) (y := iN (gI t b)) rfl rfl d1) (cons_ok (bin_ok (x := iN b) (y := iN (gI t b)) rfl rfl d2) nil_ok)) tupB2) rfl)
/-- small enough to be multiplied -/
structure Sml (p : Fr) : Prop where
  n : p.1.natAbs < 2 ^ 60
  d : p.2 < 2 ^ 60
theorem fr_mul {a b : Int} (ha : a.natAbs < 2 ^ 60) (hb : b.natAbs < 2 ^ 60) : mulB (iI a) (iI b) = .ok (iI (a * b)) := mul_ok (by show _ < 2 ^ 64; omega) (by show _ < 2 ^ 64; omega)
theorem fr_i0 (p : Fr) : idxB (.dat (frD p)) (.dat (.int 0)) = .ok (iI p.1) := rfl
theorem fr_i1 (p : Fr) : idxB (.dat (frD p)) (.dat (.int 1)) = .ok (iN p.2) := rfl
theorem sml_nat {n : Nat} (h : n < 2 ^ 60) : ((n : Nat) : Int).natAbs < 2 ^ 60 := by rw [Int.natAbs_natCast]; exact h
theorem mul_sz {a b : Nat} (ha : a < 2 ^ 60) (hb : b < 2 ^ 60) : a * b < 2 ^ 200 := by
  have : a * b ≤ 2 ^ 60 * 2 ^ 60 := Nat.mul_le_mul (by omega) (by omega)
  have e : (2 : Nat) ^ 60 * 2 ^ 60 < 2 ^ 200 := by decide
  omega
theorem plus_ok {p q : Fr} (hp : Sml p) (hq : Sml q) (p0 : 0 < p.2) (q0 : 0 < q.2) : E13.F [.dat (frD p), .dat (frD q)] = .ok (.dat (frD (mk (p.1 * (q.2 : Int) + q.1 * (p.2 : Int)) (p.2 * q.2)))) := by
  rw [show E13.F = defF 2 B13 from rfl]
  refine def_rt (by rfl) ?_
  show outR (B13 [some _, some _]) = _
  unfold B13
  have x1 : bin2 addB (bin2 mulB (bin2 idxB (varB 0) (litI 0)) (bin2 idxB (varB 1) (litI 1))) (bin2 mulB (bin2 idxB (varB 1) (litI 0)) (bin2 idxB (varB 0) (litI 1))) [some (.dat (frD p)), some (.dat (frD q))] = .ok (iI (p.1 * (q.2 : Int) + q.1 * (p.2 : Int))) := by
    simp only [seqS, thenS, bin2, consA, nilA, callF, ownF, tstF, litI, litS, litB, litN, newK, newT, itF, noP, atP, nxS, bkS, ctS, badS, rtN, lockS, one1, testV, notT, andT, orT, iteV, iteS, forV, Res.ok_bind, varB, rd, setV, okV, retV, okRet, retN, bindV, par2, List.getElem?_cons_zero, List.getElem?_cons_succ, List.set_cons_zero, List.set_cons_succ, outR, callV, lenA, toArg, List.map_cons, List.map_nil, retB, List.length_cons, List.length_nil, tstB, truB, Bool.and_self, reduceIte, reduceCtorEq, Bool.false_eq_true, Nat.reduceAdd, Nat.reduceEqDiff, Bool.true_eq_false, Bool.not_true, Bool.not_false, if_true, if_false, lstB0, tupB0, lstB1, tupB1, lstB2, tupB2, lstB3, tupB3, lstB4, tupB4, lstB5, tupB5, lstB6, tupB6, fr_i0, fr_i1, fr_mul hp.n (sml_nat hq.d), fr_mul hq.n (sml_nat hp.d), add_ii]
  have x2 : bin2 mulB (bin2 idxB (varB 0) (litI 1)) (bin2 idxB (varB 1) (litI 1)) [some (.dat (frD p)), some (.dat (frD q))] = .ok (iN (p.2 * q.2)) := by
    simp only [seqS, thenS, bin2, consA, nilA, callF, ownF, tstF, litI, litS, litB, litN, newK, newT, itF, noP, atP, nxS, bkS, ctS, badS, rtN, lockS, one1, testV, notT, andT, orT, iteV, iteS, forV, Res.ok_bind, varB, rd, setV, okV, retV, okRet, retN, bindV, par2, List.getElem?_cons_zero, List.getElem?_cons_succ, List.set_cons_zero, List.set_cons_succ, outR, callV, lenA, toArg, List.map_cons, List.map_nil, retB, List.length_cons, List.length_nil, tstB, truB, Bool.and_self, reduceIte, reduceCtorEq, Bool.false_eq_true, Nat.reduceAdd, Nat.reduceEqDiff, Bool.true_eq_false, Bool.not_true, Bool.not_false, if_true, if_false, lstB0, tupB0, lstB1, tupB1, lstB2, tupB2, lstB3, tupB3, lstB4, tupB4, lstB5, tupB5, lstB6, tupB6, fr_i0, fr_i1, fr_mul (sml_nat hp.d) (sml_nat hq.d)]
    exact congrArg (fun z => Res.ok (iI z)) (Int.natCast_mul _ _).symm
  exact congrArg outR (ret_ok (own_ok (bs := [iI (p.1 * (q.2 : Int) + q.1 * (p.2 : Int)), iN (p.2 * q.2)]) (cons_ok (x := iI (p.1 * (q.2 : Int) + q.1 * (p.2 : Int))) x1 (cons_ok (x := iN (p.2 * q.2)) x2 nil_ok)) rfl (fraction_ok _ _ (Nat.mul_pos p0 q0) (mul_sz hp.d hq.d)) rfl) rfl)
theorem times_ok {p q : Fr} (hp : Sml p) (hq : Sml q) (p0 : 0 < p.2) (q0 : 0 < q.2) : E14.F [.dat (frD p), .dat (frD q)] = .ok (.dat (frD (mk (p.1 * q.1) (p.2 * q.2)))) := by
  rw [show E14.F = defF 2 B14 from rfl]
  refine def_rt (by rfl) ?_
  show outR (B14 [some _, some _]) = _
  unfold B14
  have x1 : bin2 mulB (bin2 idxB (varB 0) (litI 0)) (bin2 idxB (varB 1) (litI 0)) [some (.dat (frD p)), some (.dat (frD q))] = .ok (iI (p.1 * q.1)) := by
    simp only [seqS, thenS, bin2, consA, nilA, callF, ownF, tstF, litI, litS, litB, litN, newK, newT, itF, noP, atP, nxS, bkS, ctS, badS, rtN, lockS, one1, testV, notT, andT, orT, iteV, iteS, forV, Res.ok_bind, varB, rd, setV, okV, retV, okRet, retN, bindV, par2, List.getElem?_cons_zero, List.getElem?_cons_succ, List.set_cons_zero, List.set_cons_succ, outR, callV, lenA, toArg, List.map_cons, List.map_nil, retB, List.length_cons, List.length_nil, tstB, truB, Bool.and_self, reduceIte, reduceCtorEq, Bool.false_eq_true, Nat.reduceAdd, Nat.reduceEqDiff, Bool.true_eq_false, Bool.not_true, Bool.not_false, if_true, if_false, lstB0, tupB0, lstB1, tupB1, lstB2, tupB2, lstB3, tupB3, lstB4, tupB4, lstB5, tupB5, lstB6, tupB6, fr_i0, fr_i1, fr_mul hp.n hq.n]
  have x2 : bin2 mulB (bin2 idxB (varB 0) (litI 1)) (bin2 idxB (varB 1) (litI 1)) [some (.dat (frD p)), some (.dat (frD q))] = .ok (iN (p.2 * q.2)) := by
    simp only [seqS, thenS, bin2, consA, nilA, callF, ownF, tstF, litI, litS, litB, litN, newK, newT, itF, noP, atP, nxS, bkS, ctS, badS, rtN, lockS, one1, testV, notT, andT, orT, iteV, iteS, forV, Res.ok_bind, varB, rd, setV, okV, retV, okRet, retN, bindV, par2, List.getElem?_cons_zero, List.getElem?_cons_succ, List.set_cons_zero, List.set_cons_succ, outR, callV, lenA, toArg, List.map_cons, List.map_nil, retB, List.length_cons, List.length_nil, tstB, truB, Bool.and_self, reduceIte, reduceCtorEq, Bool.false_eq_true, Nat.reduceAdd, Nat.reduceEqDiff, Bool.true_eq_false, Bool.not_true, Bool.not_false, if_true, if_false, lstB0, tupB0, lstB1, tupB1, lstB2, tupB2, lstB3, tupB3, lstB4, tupB4, lstB5, tupB5, lstB6, tupB6, fr_i0, fr_i1, fr_mul (sml_nat hp.d) (sml_nat hq.d)]
    exact congrArg (fun z => Res.ok (iI z)) (Int.natCast_mul _ _).symm
  exact congrArg outR (ret_ok (own_ok (bs := [iI (p.1 * q.1), iN (p.2 * q.2)]) (cons_ok (x := iI (p.1 * q.1)) x1 (cons_ok (x := iN (p.2 * q.2)) x2 nil_ok)) rfl (fraction_ok _ _ (Nat.mul_pos p0 q0) (mul_sz hp.d hq.d)) rfl) rfl)
end K08
namespace K08
open PySem L2 Fn
theorem minus_ok {p q : Fr} (hp : Sml p) (hq : Sml q) (p0 : 0 < p.2) (q0 : 0 < q.2) : E26.F [.dat (frD p), .dat (frD q)] = .ok (.dat (frD (mk (p.1 * (q.2 : Int) - q.1 * (p.2 : Int)) (p.2 * q.2)))) := by
  rw [show E26.F = defF 2 B26 from rfl]
  refine def_rt (by rfl) ?_
  show outR (B26 [some _, some _]) = _
  unfold B26
  have x1 : bin2 subB (bin2 mulB (bin2 idxB (varB 0) (litI 0)) (bin2 idxB (varB 1) (litI 1))) (bin2 mulB (bin2 idxB (varB 1) (litI 0)) (bin2 idxB (varB 0) (litI 1))) [some (.dat (frD p)), some (.dat (frD q))] = .ok (iI (p.1 * (q.2 : Int) - q.1 * (p.2 : Int))) := by
    simp only [seqS, thenS, bin2, consA, nilA, callF, ownF, tstF, litI, litS, litB, litN, newK, newT, itF, noP, atP, nxS, bkS, ctS, badS, rtN, lockS, one1, testV, notT, andT, orT, iteV, iteS, forV, Res.ok_bind, varB, rd, setV, okV, retV, okRet, retN, bindV, par2, List.getElem?_cons_zero, List.getElem?_cons_succ, List.set_cons_zero, List.set_cons_succ, outR, callV, lenA, toArg, List.map_cons, List.map_nil, retB, List.length_cons, List.length_nil, tstB, truB, Bool.and_self, reduceIte, reduceCtorEq, Bool.false_eq_true, Nat.reduceAdd, Nat.reduceEqDiff, Bool.true_eq_false, Bool.not_true, Bool.not_false, if_true, if_false, lstB0, tupB0, lstB1, tupB1, lstB2, tupB2, lstB3, tupB3, lstB4, tupB4, lstB5, tupB5, lstB6, tupB6, fr_i0, fr_i1, fr_mul hp.n (sml_nat hq.d), fr_mul hq.n (sml_nat hp.d), sub_ii]
  have x2 : bin2 mulB (bin2 idxB (varB 0) (litI 1)) (bin2 idxB (varB 1) (litI 1)) [some (.dat (frD p)), some (.dat (frD q))] = .ok (iN (p.2 * q.2)) := by
    simp only [seqS, thenS, bin2, consA, nilA, callF, ownF, tstF, litI, litS, litB, litN, newK, newT, itF, noP, atP, nxS, bkS, ctS, badS, rtN, lockS, one1, testV, notT, andT, orT, iteV, iteS, forV, Res.ok_bind, varB, rd, setV, okV, retV, okRet, retN, bindV, par2, List.getElem?_cons_zero, List.getElem?_cons_succ, List.set_cons_zero, List.set_cons_succ, outR, callV, lenA, toArg, List.map_cons, List.map_nil, retB, List.length_cons, List.length_nil, tstB, truB, Bool.and_self, reduceIte, reduceCtorEq, Bool.false_eq_true, Nat.reduceAdd, Nat.reduceEqDiff, Bool.true_eq_false, Bool.not_true, Bool.not_false, if_true, if_false, lstB0, tupB0, lstB1, tupB1, lstB2, tupB2, lstB3, tupB3, lstB4, tupB4, lstB5, tupB5, lstB6, tupB6, fr_i0, fr_i1, fr_mul (sml_nat hp.d) (sml_nat hq.d)]
    exact congrArg (fun z => Res.ok (iI z)) (Int.natCast_mul _ _).symm
  exact congrArg outR (ret_ok (own_ok (bs := [iI (p.1 * (q.2 : Int) - q.1 * (p.2 : Int)), iN (p.2 * q.2)]) (cons_ok (x := iI (p.1 * (q.2 : Int) - q.1 * (p.2 : Int))) x1 (cons_ok (x := iN (p.2 * q.2)) x2 nil_ok)) rfl (fraction_ok _ _ (Nat.mul_pos p0 q0) (mul_sz hp.d hq.d)) rfl) rfl)
theorem below_ok {p q : Fr} (hp : Sml p) (hq : Sml q) {a b : D} (ha : a = frD p) (hb : b = frD q ∨ b = .ctup [.int q.1, .int (q.2 : Int)]) : E18.F [.dat a, .dat b] = .ok (.dat (.bl (decide (p.1 * (q.2 : Int) < q.1 * (p.2 : Int))))) := by
  subst ha
  rw [show E18.F = defF 2 B18 from rfl]
  refine def_rt (by rfl) ?_
  show outR (B18 [some _, some _]) = _
  have j0 : idxB (.dat b) (.dat (.int 0)) = .ok (iI q.1) := by rcases hb with rfl | rfl <;> rfl
  have j1 : idxB (.dat b) (.dat (.int 1)) = .ok (iN q.2) := by rcases hb with rfl | rfl <;> rfl
  simp only [B18, seqS, thenS, bin2, consA, nilA, callF, ownF, tstF, litI, litS, litB, litN, newK, newT, itF, noP, atP, nxS, bkS, ctS, badS, rtN, lockS, one1, testV, notT, andT, orT, iteV, iteS, forV, Res.ok_bind, varB, rd, setV, okV, retV, okRet, retN, bindV, par2, List.getElem?_cons_zero, List.getElem?_cons_succ, List.set_cons_zero, List.set_cons_succ, outR, callV, lenA, toArg, List.map_cons, List.map_nil, retB, List.length_cons, List.length_nil, tstB, truB, Bool.and_self, reduceIte, reduceCtorEq, Bool.false_eq_true, Nat.reduceAdd, Nat.reduceEqDiff, Bool.true_eq_false, Bool.not_true, Bool.not_false, if_true, if_false, lstB0, tupB0, lstB1, tupB1, lstB2, tupB2, lstB3, tupB3, lstB4, tupB4, lstB5, tupB5, lstB6, tupB6, fr_i0, fr_i1, j0, j1, fr_mul hp.n (sml_nat hq.d), fr_mul hq.n (sml_nat hp.d), lt_ii]
end K08
namespace K08
open PySem L2 Fn
theorem low_ok (t : Int) (b : Nat) (h : 0 < b) (hb : b < 2 ^ 200) : E7.F [iI t, iN b] = .ok (.dat (frD (mk t b))) := by
  rw [show E7.F = defF 4 B7 from rfl]
  refine def_rt (by rfl) ?_
  show outR (B7 [some _, some _, none, none]) = _
  unfold B7
  obtain ⟨d1, d2⟩ := div_fr (t := t) h hb
  refine (congrArg outR (seq_nx (ρ' := [some (iI t), some (iN b), some (iN t.natAbs), some (iN b)]) (by simp only [seqS, thenS, bin2, consA, nilA, callF, ownF, tstF, litI, litS, litB, litN, newK, newT, itF, noP, atP, nxS, bkS, ctS, badS, rtN, lockS, one1, testV, notT, andT, orT, iteV, iteS, forV, Res.ok_bind, varB, rd, setV, okV, retV, okRet, retN, bindV, par2, List.getElem?_cons_zero, List.getElem?_cons_succ, List.set_cons_zero, List.set_cons_succ, outR, callV, lenA, toArg, List.map_cons, List.map_nil, retB, List.length_cons, List.length_nil, tstB, truB, Bool.and_self, reduceIte, reduceCtorEq, Bool.false_eq_true, Nat.reduceAdd, Nat.reduceEqDiff, Bool.true_eq_false, Bool.not_true, Bool.not_false, if_true, if_false, lstB0, tupB0, lstB1, tupB1, lstB2, tupB2, lstB3, tupB3, lstB4, tupB4, lstB5, tupB5, lstB6, tupB6, abs_i, Int.natAbs_natCast]))).trans ?_
  refine (congrArg outR (seq_nx (ρ' := [some (iI t), some (iN b), some (iN (gI t b)), some (iN 0)]) (gcd_loop _ _ b t.natAbs))).trans ?_
  have c2 : tstF (bin2 ltB (varB 1) (litI 0)) [some (iI t), some (iN b), some (iN (gI t b)), some (iN 0)] = .ok false := tst_ok (bin_ok (x := iN b) (y := .dat (.int 0)) rfl rfl (lt_ii.trans (by rw [decide_eq_false (by omega)])))
  refine (congrArg outR (seq_nx (ρ' := [some (iI t), some (iN b), some (iN (gI t b)), some (iN 0)]) ((if_f c2).trans rfl))).trans ?_
  exact congrArg outR (ret_ok (call_ok (cons_ok (bin_ok (x := iI t) (y := iN (gI t b)) rfl rfl d1) (cons_ok (bin_ok (x := iN b) (y := iN (gI t b)) rfl rfl d2) nil_ok)) tupB2) rfl)
theorem lplus_ok {p q : Fr} (hp : Sml p) (hq : Sml q) (p0 : 0 < p.2) (q0 : 0 < q.2) : E21.F [.dat (frD p), .dat (frD q)] = .ok (.dat (frD (mk (p.1 * (q.2 : Int) + q.1 * (p.2 : Int)) (p.2 * q.2)))) := by
  rw [show E21.F = defF 2 B21 from rfl]
  refine def_rt (by rfl) ?_
  show outR (B21 [some _, some _]) = _
  unfold B21
  have x1 : bin2 addB (bin2 mulB (bin2 idxB (varB 0) (litI 0)) (bin2 idxB (varB 1) (litI 1))) (bin2 mulB (bin2 idxB (varB 1) (litI 0)) (bin2 idxB (varB 0) (litI 1))) [some (.dat (frD p)), some (.dat (frD q))] = .ok (iI (p.1 * (q.2 : Int) + q.1 * (p.2 : Int))) := by
    simp only [seqS, thenS, bin2, consA, nilA, callF, ownF, tstF, litI, litS, litB, litN, newK, newT, itF, noP, atP, nxS, bkS, ctS, badS, rtN, lockS, one1, testV, notT, andT, orT, iteV, iteS, forV, Res.ok_bind, varB, rd, setV, okV, retV, okRet, retN, bindV, par2, List.getElem?_cons_zero, List.getElem?_cons_succ, List.set_cons_zero, List.set_cons_succ, outR, callV, lenA, toArg, List.map_cons, List.map_nil, retB, List.length_cons, List.length_nil, tstB, truB, Bool.and_self, reduceIte, reduceCtorEq, Bool.false_eq_true, Nat.reduceAdd, Nat.reduceEqDiff, Bool.true_eq_false, Bool.not_true, Bool.not_false, if_true, if_false, lstB0, tupB0, lstB1, tupB1, lstB2, tupB2, lstB3, tupB3, lstB4, tupB4, lstB5, tupB5, lstB6, tupB6, fr_i0, fr_i1, fr_mul hp.n (sml_nat hq.d), fr_mul hq.n (sml_nat hp.d), add_ii]
  have x2 : bin2 mulB (bin2 idxB (varB 0) (litI 1)) (bin2 idxB (varB 1) (litI 1)) [some (.dat (frD p)), some (.dat (frD q))] = .ok (iN (p.2 * q.2)) := by
    simp only [seqS, thenS, bin2, consA, nilA, callF, ownF, tstF, litI, litS, litB, litN, newK, newT, itF, noP, atP, nxS, bkS, ctS, badS, rtN, lockS, one1, testV, notT, andT, orT, iteV, iteS, forV, Res.ok_bind, varB, rd, setV, okV, retV, okRet, retN, bindV, par2, List.getElem?_cons_zero, List.getElem?_cons_succ, List.set_cons_zero, List.set_cons_succ, outR, callV, lenA, toArg, List.map_cons, List.map_nil, retB, List.length_cons, List.length_nil, tstB, truB, Bool.and_self, reduceIte, reduceCtorEq, Bool.false_eq_true, Nat.reduceAdd, Nat.reduceEqDiff, Bool.true_eq_false, Bool.not_true, Bool.not_false, if_true, if_false, lstB0, tupB0, lstB1, tupB1, lstB2, tupB2, lstB3, tupB3, lstB4, tupB4, lstB5, tupB5, lstB6, tupB6, fr_i0, fr_i1, fr_mul (sml_nat hp.d) (sml_nat hq.d)]
    exact congrArg (fun z => Res.ok (iI z)) (Int.natCast_mul _ _).symm
  exact congrArg outR (ret_ok (own_ok (bs := [iI (p.1 * (q.2 : Int) + q.1 * (p.2 : Int)), iN (p.2 * q.2)]) (cons_ok (x := iI (p.1 * (q.2 : Int) + q.1 * (p.2 : Int))) x1 (cons_ok (x := iN (p.2 * q.2)) x2 nil_ok)) rfl (low_ok _ _ (Nat.mul_pos p0 q0) (mul_sz hp.d hq.d)) rfl) rfl)
theorem ltimes_ok {p q : Fr} (hp : Sml p) (hq : Sml q) (p0 : 0 < p.2) (q0 : 0 < q.2) : E22.F [.dat (frD p), .dat (frD q)] = .ok (.dat (frD (mk (p.1 * q.1) (p.2 * q.2)))) := by
  rw [show E22.F = defF 2 B22 from rfl]
  refine def_rt (by rfl) ?_
  show outR (B22 [some _, some _]) = _
  unfold B22
  have x1 : bin2 mulB (bin2 idxB (varB 0) (litI 0)) (bin2 idxB (varB 1) (litI 0)) [some (.dat (frD p)), some (.dat (frD q))] = .ok (iI (p.1 * q.1)) := by
    simp only [seqS, thenS, bin2, consA, nilA, callF, ownF, tstF, litI, litS, litB, litN, newK, newT, itF, noP, atP, nxS, bkS, ctS, badS, rtN, lockS, one1, testV, notT, andT, orT, iteV, iteS, forV, Res.ok_bind, varB, rd, setV, okV, retV, okRet, retN, bindV, par2, List.getElem?_cons_zero, List.getElem?_cons_succ, List.set_cons_zero, List.set_cons_succ, outR, callV, lenA, toArg, List.map_cons, List.map_nil, retB, List.length_cons, List.length_nil, tstB, truB, Bool.and_self, reduceIte, reduceCtorEq, Bool.false_eq_true, Nat.reduceAdd, Nat.reduceEqDiff, Bool.true_eq_false, Bool.not_true, Bool.not_false, if_true, if_false, lstB0, tupB0, lstB1, tupB1, lstB2, tupB2, lstB3, tupB3, lstB4, tupB4, lstB5, tupB5, lstB6, tupB6, fr_i0, fr_i1, fr_mul hp.n hq.n]
  have x2 : bin2 mulB (bin2 idxB (varB 0) (litI 1)) (bin2 idxB (varB 1) (litI 1)) [some (.dat (frD p)), some (.dat (frD q))] = .ok (iN (p.2 * q.2)) := by
    simp only [seqS, thenS, bin2, consA, nilA, callF, ownF, tstF, litI, litS, litB, litN, newK, newT, itF, noP, atP, nxS, bkS, ctS, badS, rtN, lockS, one1, testV, notT, andT, orT, iteV, iteS, forV, Res.ok_bind, varB, rd, setV, okV, retV, okRet, retN, bindV, par2, List.getElem?_cons_zero, List.getElem?_cons_succ, List.set_cons_zero, List.set_cons_succ, outR, callV, lenA, toArg, List.map_cons, List.map_nil, retB, List.length_cons, List.length_nil, tstB, truB, Bool.and_self, reduceIte, reduceCtorEq, Bool.false_eq_true, Nat.reduceAdd, Nat.reduceEqDiff, Bool.true_eq_false, Bool.not_true, Bool.not_false, if_true, if_false, lstB0, tupB0, lstB1, tupB1, lstB2, tupB2, lstB3, tupB3, lstB4, tupB4, lstB5, tupB5, lstB6, tupB6, fr_i0, fr_i1, fr_mul (sml_nat hp.d) (sml_nat hq.d)]
    exact congrArg (fun z => Res.ok (iI z)) (Int.natCast_mul _ _).symm
  exact congrArg outR (ret_ok (own_ok (bs := [iI (p.1 * q.1), iN (p.2 * q.2)]) (cons_ok (x := iI (p.1 * q.1)) x1 (cons_ok (x := iN (p.2 * q.2)) x2 nil_ok)) rfl (low_ok _ _ (Nat.mul_pos p0 q0) (mul_sz hp.d hq.d)) rfl) rfl)
end K08
namespace K08
open PySem L2 Fn
/-! ### places -/
structure Pl where
  n : Str
  a : Int
  b : Int
  c : Int
  d : Int
abbrev plD (p : Pl) : D := .tup [.str p.n, .int p.a, .int p.b, .int p.c, .int p.d]
structure PlOk (top : Nat) (p : Pl) : Prop where
  a0 : 0 ≤ p.a
  a1 : p.a < 1000
  b0 : 0 ≤ p.b
  b1 : p.b < 100
  c0 : p.d * (top : Int) ≤ p.c
  c1 : p.c < 1000
  d0 : 0 ≤ p.d
  d1 : p.d < 100
theorem four {a b c d : Int} (w : Nat) (hw : w < 4) : idxB (.dat (.lst [.int a, .int b, .int c, .int d])) (iN w) = .ok (iI (if w = 0 then a else if w = 1 then b else if w = 2 then c else d)) := by
  match w, hw with
  | 0, _ => exact idxL (n := 0) _ rfl rfl
  | 1, _ => exact idxL (n := 1) _ rfl rfl
  | 2, _ => exact idxL (n := 2) _ rfl rfl
  | 3, _ => exact idxL (n := 3) _ rfl rfl
theorem place_ok (nm : Str) (x0 x1 x2 x3 x4 : Int) (r : List D) (top : Nat) (h1 : 1 ≤ top) (h9 : top ≤ 9) (w : Nat) (hw : w < 4) : ∃ p : Pl, p.n = nm ∧ PlOk top p ∧
    E4.F [.dat (.str nm), .dat (.lst (.int x0 :: .int x1 :: .int x2 :: .int x3 :: .int x4 :: r)), iN top, iN w] = .ok (.dat (plD p)) := by
  rw [show E4.F = defF 8 B4 from rfl]
  generalize hX : (D.int x0 :: .int x1 :: .int x2 :: .int x3 :: .int x4 :: r) = X
  have i0 : idxB (.dat (.lst X)) (.dat (.int 0)) = .ok (iI x0) := idxL (n := 0) _ rfl (by rw [← hX]; rfl)
  have i1 : idxB (.dat (.lst X)) (.dat (.int 1)) = .ok (iI x1) := idxL (n := 1) _ rfl (by rw [← hX]; rfl)
  have i2 : idxB (.dat (.lst X)) (.dat (.int 2)) = .ok (iI x2) := idxL (n := 2) _ rfl (by rw [← hX]; rfl)
  have i3 : idxB (.dat (.lst X)) (.dat (.int 3)) = .ok (iI x3) := idxL (n := 3) _ rfl (by rw [← hX]; rfl)
  have i4 : idxB (.dat (.lst X)) (.dat (.int 4)) = .ok (iI x4) := idxL (n := 4) _ rfl (by rw [← hX]; rfl)
  have mm : ∀ z m : Int, 0 < m → modB (iI z) (iI m) = .ok (iI (z % m)) := fun z m h => mod_pos h
  -- one of four, and what is left of it
  have pick : ∀ (z a b c d : Int), 0 < a → 0 < b → 0 < c → 0 < d → a ≤ 1000 → b ≤ 1000 → c ≤ 1000 → d ≤ 1000 → ∃ m : Int, 0 < m ∧ m ≤ 1000 ∧ (m = a ∨ m = b ∨ m = c ∨ m = d) ∧ idxB (.dat (.lst [.int a, .int b, .int c, .int d])) (iN w) = .ok (iI m) := by
    intro z a b c d ha hb hc hd a1 b1 c1 d1
    refine ⟨if w = 0 then a else if w = 1 then b else if w = 2 then c else d, ?_, ?_, ?_, four w hw⟩
    · split
      · exact ha
      · split
        · exact hb
        · split
          · exact hc
          · exact hd
    · split
      · exact a1
      · split
        · exact b1
        · split
          · exact c1
          · exact d1
    · split
      · exact .inl rfl
      · split
        · exact .inr (.inl rfl)
        · split
          · exact .inr (.inr (.inl rfl))
          · exact .inr (.inr (.inr rfl))
  obtain ⟨ma, ma0, _, ma1, ea⟩ := pick 0 4 10 100 100 (by omega) (by omega) (by omega) (by omega) (by omega) (by omega) (by omega) (by omega)
  obtain ⟨mb, mb0, _, mb1, eb⟩ := pick 0 3 5 100 100 (by omega) (by omega) (by omega) (by omega) (by omega) (by omega) (by omega) (by omega)
  obtain ⟨md, md0, _, md1, ed⟩ := pick 0 2 4 100 100 (by omega) (by omega) (by omega) (by omega) (by omega) (by omega) (by omega) (by omega)
  obtain ⟨mc, mc0, _, mc1, ec⟩ := pick 0 5 20 100 100 (by omega) (by omega) (by omega) (by omega) (by omega) (by omega) (by omega) (by omega)
  obtain ⟨me, me0, me2, me1, ee⟩ := pick 0 5 20 1000 1000 (by omega) (by omega) (by omega) (by omega) (by omega) (by omega) (by omega) (by omega)
  have fa := Int.emod_nonneg x0 (show ma ≠ 0 by omega)
  have fa2 := Int.emod_lt_of_pos x0 ma0
  have fb := Int.emod_nonneg x1 (show mb ≠ 0 by omega)
  have fb2 := Int.emod_lt_of_pos x1 mb0
  have fd := Int.emod_nonneg x2 (show md ≠ 0 by omega)
  have fd2 := Int.emod_lt_of_pos x2 md0
  have fc := Int.emod_nonneg x3 (show mc ≠ 0 by omega)
  have fc2 := Int.emod_lt_of_pos x3 mc0
  have fe := Int.emod_nonneg x3 (show me ≠ 0 by omega)
  have fe2 := Int.emod_lt_of_pos x3 me0
  have dm : x2 % md * (top : Int) ≤ 99 * 9 := Int.mul_le_mul (by omega) (by omega) (by omega) (by omega)
  have dm0 : 0 ≤ x2 % md * (top : Int) := Int.mul_nonneg fd (by omega)
  have mu : mulB (iI (x2 % md)) (iN top) = .ok (iI (x2 % md * (top : Int))) := mul_ok (by show Int.natAbs _ < _; omega) (by show Int.natAbs _ < _; omega)
  have m5 : ∀ z : Int, modB (iI z) (.dat (.int 5)) = .ok (iI (z % 5)) := fun z => mod_pos (by decide)
  have m3 : ∀ z : Int, modB (iI z) (.dat (.int 3)) = .ok (iI (z % 3)) := fun z => mod_pos (by decide)
  have d8 : ∀ z : Int, divB (iI z) (.dat (.int 8)) = .ok (iI (z / 8)) := fun z => div_pos (by decide) (by decide)
  have head : ∀ k : Fn.Env → Out, seqS (thenS (bin2 modB (bin2 idxB (varB 1) (litI 0)) (bin2 idxB (callF lstB (consA (litI 4) (consA (litI 10) (consA (litI 100) (consA (litI 100) nilA))))) (varB 3))) (setV 4)) (seqS (thenS (bin2 modB (bin2 idxB (varB 1) (litI 1)) (bin2 idxB (callF lstB (consA (litI 3) (consA (litI 5) (consA (litI 100) (consA (litI 100) nilA))))) (varB 3))) (setV 5)) (seqS (thenS (bin2 modB (bin2 idxB (varB 1) (litI 2)) (bin2 idxB (callF lstB (consA (litI 2) (consA (litI 4) (consA (litI 100) (consA (litI 100) nilA))))) (varB 3))) (setV 6)) (seqS (thenS (bin2 addB (bin2 mulB (varB 6) (varB 2)) (bin2 modB (bin2 idxB (varB 1) (litI 3)) (bin2 idxB (callF lstB (consA (litI 5) (consA (litI 20) (consA (litI 100) (consA (litI 100) nilA))))) (varB 3)))) (setV 7)) k)))
      [some (.dat (.str nm)), some (.dat (.lst X)), some (iN top), some (iN w), none, none, none, none] = k [some (.dat (.str nm)), some (.dat (.lst X)), some (iN top), some (iN w), some (iI (x0 % ma)), some (iI (x1 % mb)), some (iI (x2 % md)), some (iI (x2 % md * (top : Int) + x3 % mc))] := by
    intro k
    refine (seq_nx (ρ' := [some (.dat (.str nm)), some (.dat (.lst X)), some (iN top), some (iN w), some (iI (x0 % ma)), none, none, none]) (by simp only [seqS, thenS, bin2, consA, nilA, callF, ownF, tstF, litI, litS, litB, litN, newK, newT, itF, noP, atP, nxS, bkS, ctS, badS, rtN, lockS, one1, testV, notT, andT, orT, iteV, iteS, forV, Res.ok_bind, varB, rd, setV, okV, retV, okRet, retN, bindV, par2, List.getElem?_cons_zero, List.getElem?_cons_succ, List.set_cons_zero, List.set_cons_succ, outR, callV, lenA, toArg, List.map_cons, List.map_nil, retB, List.length_cons, List.length_nil, tstB, truB, Bool.and_self, reduceIte, reduceCtorEq, Bool.false_eq_true, Nat.reduceAdd, Nat.reduceEqDiff, Bool.true_eq_false, Bool.not_true, Bool.not_false, if_true, if_false, lstB0, tupB0, lstB1, tupB1, lstB2, tupB2, lstB3, tupB3, lstB4, tupB4, lstB5, tupB5, lstB6, tupB6, frzM, i0, ea, mm x0 ma ma0])).trans ?_
    refine (seq_nx (ρ' := [some (.dat (.str nm)), some (.dat (.lst X)), some (iN top), some (iN w), some (iI (x0 % ma)), some (iI (x1 % mb)), none, none]) (by simp only [seqS, thenS, bin2, consA, nilA, callF, ownF, tstF, litI, litS, litB, litN, newK, newT, itF, noP, atP, nxS, bkS, ctS, badS, rtN, lockS, one1, testV, notT, andT, orT, iteV, iteS, forV, Res.ok_bind, varB, rd, setV, okV, retV, okRet, retN, bindV, par2, List.getElem?_cons_zero, List.getElem?_cons_succ, List.set_cons_zero, List.set_cons_succ, outR, callV, lenA, toArg, List.map_cons, List.map_nil, retB, List.length_cons, List.length_nil, tstB, truB, Bool.and_self, reduceIte, reduceCtorEq, Bool.false_eq_true, Nat.reduceAdd, Nat.reduceEqDiff, Bool.true_eq_false, Bool.not_true, Bool.not_false, if_true, if_false, lstB0, tupB0, lstB1, tupB1, lstB2, tupB2, lstB3, tupB3, lstB4, tupB4, lstB5, tupB5, lstB6, tupB6, frzM, i1, eb, mm x1 mb mb0])).trans ?_
    refine (seq_nx (ρ' := [some (.dat (.str nm)), some (.dat (.lst X)), some (iN top), some (iN w), some (iI (x0 % ma)), some (iI (x1 % mb)), some (iI (x2 % md)), none]) (by simp only [seqS, thenS, bin2, consA, nilA, callF, ownF, tstF, litI, litS, litB, litN, newK, newT, itF, noP, atP, nxS, bkS, ctS, badS, rtN, lockS, one1, testV, notT, andT, orT, iteV, iteS, forV, Res.ok_bind, varB, rd, setV, okV, retV, okRet, retN, bindV, par2, List.getElem?_cons_zero, List.getElem?_cons_succ, List.set_cons_zero, List.set_cons_succ, outR, callV, lenA, toArg, List.map_cons, List.map_nil, retB, List.length_cons, List.length_nil, tstB, truB, Bool.and_self, reduceIte, reduceCtorEq, Bool.false_eq_true, Nat.reduceAdd, Nat.reduceEqDiff, Bool.true_eq_false, Bool.not_true, Bool.not_false, if_true, if_false, lstB0, tupB0, lstB1, tupB1, lstB2, tupB2, lstB3, tupB3, lstB4, tupB4, lstB5, tupB5, lstB6, tupB6, frzM, i2, ed, mm x2 md md0])).trans ?_
    exact (seq_nx (ρ' := [some (.dat (.str nm)), some (.dat (.lst X)), some (iN top), some (iN w), some (iI (x0 % ma)), some (iI (x1 % mb)), some (iI (x2 % md)), some (iI (x2 % md * (top : Int) + x3 % mc))]) (by simp only [seqS, thenS, bin2, consA, nilA, callF, ownF, tstF, litI, litS, litB, litN, newK, newT, itF, noP, atP, nxS, bkS, ctS, badS, rtN, lockS, one1, testV, notT, andT, orT, iteV, iteS, forV, Res.ok_bind, varB, rd, setV, okV, retV, okRet, retN, bindV, par2, List.getElem?_cons_zero, List.getElem?_cons_succ, List.set_cons_zero, List.set_cons_succ, outR, callV, lenA, toArg, List.map_cons, List.map_nil, retB, List.length_cons, List.length_nil, tstB, truB, Bool.and_self, reduceIte, reduceCtorEq, Bool.false_eq_true, Nat.reduceAdd, Nat.reduceEqDiff, Bool.true_eq_false, Bool.not_true, Bool.not_false, if_true, if_false, lstB0, tupB0, lstB1, tupB1, lstB2, tupB2, lstB3, tupB3, lstB4, tupB4, lstB5, tupB5, lstB6, tupB6, frzM, i3, ec, mm x3 mc mc0, mu, add_ii]))
  by_cases c1 : x4 % 5 = 1
  · have c2 : ¬ x4 % 5 = 2 := by omega
    refine ⟨⟨nm, 0, x1 / 8 % 3, x2 % md * (top : Int) + x3 % mc, x2 % md⟩, rfl, ⟨by show (0 : Int) ≤ 0; omega, by show (0 : Int) < 1000; omega, by show 0 ≤ x1 / 8 % 3; omega, by show x1 / 8 % 3 < 100; omega, by show x2 % md * (top : Int) ≤ x2 % md * (top : Int) + x3 % mc; omega, by show x2 % md * (top : Int) + x3 % mc < 1000; omega, fd, by show x2 % md < 100; omega⟩, def_rt (by rfl) ?_⟩
    show outR (B4 [some _, some _, some _, some _, none, none, none, none]) = _
    unfold B4
    rw [head]
    simp only [seqS, thenS, bin2, consA, nilA, callF, ownF, tstF, litI, litS, litB, litN, newK, newT, itF, noP, atP, nxS, bkS, ctS, badS, rtN, lockS, one1, testV, notT, andT, orT, iteV, iteS, forV, Res.ok_bind, varB, rd, setV, okV, retV, okRet, retN, bindV, par2, List.getElem?_cons_zero, List.getElem?_cons_succ, List.set_cons_zero, List.set_cons_succ, outR, callV, lenA, toArg, List.map_cons, List.map_nil, retB, List.length_cons, List.length_nil, tstB, truB, Bool.and_self, reduceIte, reduceCtorEq, Bool.false_eq_true, Nat.reduceAdd, Nat.reduceEqDiff, Bool.true_eq_false, Bool.not_true, Bool.not_false, if_true, if_false, lstB0, tupB0, lstB1, tupB1, lstB2, tupB2, lstB3, tupB3, lstB4, tupB4, lstB5, tupB5, lstB6, tupB6, i4, i1, i3, m5, m3, d8, eq_ii, decide_eq_true c1, decide_eq_false c2]
  · by_cases c2 : x4 % 5 = 2
    · refine ⟨⟨nm, x0 % ma, x1 % mb, x3 % me, 0⟩, rfl, ⟨fa, by show x0 % ma < 1000; omega, fb, by show x1 % mb < 100; omega, by show 0 * (top : Int) ≤ x3 % me; omega, by show x3 % me < 1000; omega, by show (0 : Int) ≤ 0; omega, by show (0 : Int) < 100; omega⟩, def_rt (by rfl) ?_⟩
      show outR (B4 [some _, some _, some _, some _, none, none, none, none]) = _
      unfold B4
      rw [head]
      simp only [seqS, thenS, bin2, consA, nilA, callF, ownF, tstF, litI, litS, litB, litN, newK, newT, itF, noP, atP, nxS, bkS, ctS, badS, rtN, lockS, one1, testV, notT, andT, orT, iteV, iteS, forV, Res.ok_bind, varB, rd, setV, okV, retV, okRet, retN, bindV, par2, List.getElem?_cons_zero, List.getElem?_cons_succ, List.set_cons_zero, List.set_cons_succ, outR, callV, lenA, toArg, List.map_cons, List.map_nil, retB, List.length_cons, List.length_nil, tstB, truB, Bool.and_self, reduceIte, reduceCtorEq, Bool.false_eq_true, Nat.reduceAdd, Nat.reduceEqDiff, Bool.true_eq_false, Bool.not_true, Bool.not_false, if_true, if_false, lstB0, tupB0, lstB1, tupB1, lstB2, tupB2, lstB3, tupB3, lstB4, tupB4, lstB5, tupB5, lstB6, tupB6, frzM, i4, i1, i3, m5, m3, d8, eq_ii, decide_eq_false c1, decide_eq_true c2, ee, mm x3 me me0]
    · refine ⟨⟨nm, x0 % ma, x1 % mb, x2 % md * (top : Int) + x3 % mc, x2 % md⟩, rfl, ⟨fa, by show x0 % ma < 1000; omega, fb, by show x1 % mb < 100; omega, by show x2 % md * (top : Int) ≤ x2 % md * (top : Int) + x3 % mc; omega, by show x2 % md * (top : Int) + x3 % mc < 1000; omega, fd, by show x2 % md < 100; omega⟩, def_rt (by rfl) ?_⟩
      show outR (B4 [some _, some _, some _, some _, none, none, none, none]) = _
      unfold B4
      rw [head]
      simp only [seqS, thenS, bin2, consA, nilA, callF, ownF, tstF, litI, litS, litB, litN, newK, newT, itF, noP, atP, nxS, bkS, ctS, badS, rtN, lockS, one1, testV, notT, andT, orT, iteV, iteS, forV, Res.ok_bind, varB, rd, setV, okV, retV, okRet, retN, bindV, par2, List.getElem?_cons_zero, List.getElem?_cons_succ, List.set_cons_zero, List.set_cons_succ, outR, callV, lenA, toArg, List.map_cons, List.map_nil, retB, List.length_cons, List.length_nil, tstB, truB, Bool.and_self, reduceIte, reduceCtorEq, Bool.false_eq_true, Nat.reduceAdd, Nat.reduceEqDiff, Bool.true_eq_false, Bool.not_true, Bool.not_false, if_true, if_false, lstB0, tupB0, lstB1, tupB1, lstB2, tupB2, lstB3, tupB3, lstB4, tupB4, lstB5, tupB5, lstB6, tupB6, frzM, i4, i1, i3, m5, m3, d8, eq_ii, decide_eq_false c1, decide_eq_false c2]
end K08
namespace K08
open PySem L2 Fn
/-! ### ties -/
abbrev pK (p : Str × Str) : List Key := [Sum.inr p.1, Sum.inr p.2]
abbrev pD (p : Str × Str) : D := .tup [.str p.1, .str p.2]
abbrev Tie := (Str × Str) × Int
abbrev tKv (t : Tie) : List Key × D := (pK t.1, .int t.2)
theorem pK_inj {p q : Str × Str} : pK p = pK q ↔ p = q := by
  constructor
  · intro h
    simp only [pK, List.cons.injEq, Sum.inr.injEq, and_true] at h
    exact Prod.ext h.1 h.2
  · rintro rfl; rfl
structure Tgood (ns : List Str) (t : Tie) : Prop where
  l : t.1.1 ∈ ns
  r : t.1.2 ∈ ns
  lo : 1 ≤ t.2
  hi : t.2 < 1000
theorem putT (ns : List Str) (L : List Tie) (p : Str × Str) (v : Int) (hL : ∀ t ∈ L, Tgood ns t) (hp : Tgood ns (p, v)) : ∃ L' : List Tie, (∀ t ∈ L', Tgood ns t) ∧ L'.length ≤ L.length + 1 ∧ putD (L.map tKv) (pK p) (.int v) = L'.map tKv := by
  unfold putD
  split
  · refine ⟨L.map fun t => if t.1 = p then (p, v) else t, ?_, by rw [List.length_map]; omega, ?_⟩
    · intro t ht
      obtain ⟨u, hu, rfl⟩ := List.mem_map.mp ht
      split
      · exact hp
      · exact hL u hu
    · rw [List.map_map, List.map_map]
      refine List.map_congr_left fun t _ => ?_
      show (if pK t.1 = pK p then (pK t.1, D.int v) else tKv t) = tKv (if t.1 = p then (p, v) else t)
      by_cases e : t.1 = p
      · rw [if_pos (pK_inj.mpr e), if_pos e, e]
      · rw [if_neg (fun z => e (pK_inj.mp z)), if_neg e]
  · refine ⟨L ++ [(p, v)], ?_, by rw [List.length_append]; exact Nat.le_refl _, by rw [List.map_append]; rfl⟩
    intro t ht
    rcases List.mem_append.mp ht with h | h
    · exact hL t h
    · rw [List.mem_singleton.mp h]; exact hp
theorem getT (L : List Tie) {p : Str × Str} (h : p ∈ L.map (·.1)) : ∃ v, (p, v) ∈ L ∧ getK (L.map tKv) (pK p) = some (.int v) := by
  induction L with
  | nil => cases h
  | cons t L ih =>
    by_cases e : t.1 = p
    · subst e
      refine ⟨t.2, List.mem_cons_self, ?_⟩
      simp [getK, List.find?_cons]
    · have hp : p ∈ L.map (·.1) := by
        rw [List.map_cons] at h
        rcases List.mem_cons.mp h with z | z
        · exact absurd z.symm e
        · exact z
      obtain ⟨v, h1, h2⟩ := ih hp
      refine ⟨v, List.mem_cons_of_mem _ h1, ?_⟩
      have ne : ¬ pK t.1 = pK p := fun z => e (pK_inj.mp z)
      unfold getK at h2 ⊢
      rw [List.map_cons, List.find?_cons, decide_eq_false ne]
      exact h2
theorem sortT {ns : List Str} {n : Nat} (h : Nms ns n) (L : List Tie) (hL : ∀ t ∈ L, Tgood ns t) : ∃ qs : List (Str × Str), qs.Perm (L.map (·.1)) ∧ (qs.map pD).Pairwise (fun a b => leD a b = true) ∧ sortF [.vw (.t (L.map tKv))] = .ok (.own (.l (qs.map pD))) := by
  have e0 : ((L.map tKv).map fun kv => kD kv.1) = (L.map (·.1)).map pD := by
    rw [List.map_map, List.map_map]
    rfl
  have so : sortOk ((L.map (·.1)).map pD) = true := by
    unfold sortOk
    rw [toPys_map]
    simp only [Bool.and_eq_true, Bool.or_eq_true, List.all_eq_true, List.mem_map]
    refine ⟨?_, ?_, .inl ?_⟩
    · rintro _ ⟨_, ⟨p, ⟨t, ht, rfl⟩, rfl⟩, rfl⟩
      exact (shaped_strs (xs := [t.1.1, t.1.2]) (fun x hx => by
        simp only [List.mem_cons, List.not_mem_nil, or_false] at hx
        rcases hx with rfl | rfl
        · exact h.lay _ (hL t ht).l
        · exact h.lay _ (hL t ht).r)).1
    · rintro _ ⟨_, ⟨p, _, rfl⟩, rfl⟩ _ ⟨_, ⟨q, _, rfl⟩, rfl⟩
      have := alike_txs [p.1, p.2] [q.1, q.2]
      simpa [pD, toPy, PySem.W.alike] using this
    · rintro _ ⟨_, ⟨p, _, rfl⟩, rfl⟩
      rfl
  generalize L.map (·.1) = ks at *
  have pm := List.mergeSort_perm (ks.map pD) leD
  let un : D → Str × Str := fun d => match d with
    | .tup [.str a, .str b] => (a, b)
    | _ => (Str.empty, Str.empty)
  have unD : ∀ p : Str × Str, un (pD p) = p := fun p => rfl
  have e1 : ((ks.map pD).mergeSort leD).map (pD ∘ un) = (ks.map pD).mergeSort leD := by
    have : ∀ d ∈ (ks.map pD).mergeSort leD, (pD ∘ un) d = d := fun d hd => by
      obtain ⟨p, _, rfl⟩ := List.mem_map.mp (List.mem_mergeSort.mp hd)
      rfl
    rw [List.map_congr_left this, List.map_id']
  refine ⟨((ks.map pD).mergeSort leD).map un, ?_, ?_, ?_⟩
  · have := pm.map un
    rw [List.map_map, show (un ∘ pD) = id from funext unD, List.map_id] at this
    exact this
  · rw [List.map_map, e1]
    exact sortD_pair _
  · show (if sortOk ((L.map tKv).map fun kv => kD kv.1) = true then (.ok (.own (.l (((L.map tKv).map fun kv => kD kv.1).mergeSort leD))) : Res B) else .bad) = _
    rw [e0, if_pos so, List.map_map, e1]
abbrev tiD (t : Tie) : D := .tup [.str t.1.1, .str t.1.2, .int t.2]
theorem at_name {ns : List Str} {n : Nat} (h : Nms ns n) {w : Int} (h0 : 0 ≤ w) (h1 : w < n) : ∃ s, s ∈ ns ∧ idxB (.bor (.l (txs ns))) (iI w) = .ok (.dat (.str s)) := by
  have hw : w < (ns.length : Int) := by rw [h.len]; exact h1
  exact ⟨ns[w.toNat]'(by omega), List.getElem_mem _, idx_bor (atI_map D.str (atI_lt h0 hw))⟩
theorem tie_step {ns : List Str} {n : Nat} (h : Nms ns n) (n0 : 0 < n) (n8 : n ≤ 8) (sc : List Int) (at_ : Nat) (wide : Nat) (hw : wide < 4) (L : List Tie) (hL : ∀ t ∈ L, Tgood ns t) (hl : L.length ≤ 900) (i : Nat) (hi : at_ + i < 64) (b3 : Option B) (r7 r8 r9 r10 : Option B) :
    ∃ (L' : List Tie) (q7 q8 q9 q10 : Option B), (∀ t ∈ L', Tgood ns t) ∧ L'.length ≤ L.length + 2 ∧ B3_1 [some (.bor (.l (txs ns))), some (.scr sc), some (iN at_), b3, some (iN wide), some (.own (.t (L.map tKv))), some (iN i), r7, r8, r9, r10, none] =
      .nx [some (.bor (.l (txs ns))), some (.scr sc), some (iN at_), b3, some (iN wide), some (.own (.t (L'.map tKv))), some (iN i), q7, q8, q9, q10, none] := by
  obtain ⟨c, hc⟩ := cell_ok sc (at_ + i) hi
  obtain ⟨xs, hx, hn⟩ := numbers_ok c 5 (by omega)
  obtain ⟨x0, x1, x2, x3, x4, rfl⟩ : ∃ x0 x1 x2 x3 x4, xs = [x0, x1, x2, x3, x4] := by
    match xs, hx with
    | [x0, x1, x2, x3, x4], _ => exact ⟨_, _, _, _, _, rfl⟩
  generalize hX : nms [x0, x1, x2, x3, x4] = X at *
  have i0 : idxB (.vw (.l X)) (.dat (.int 0)) = .ok (iI x0) := idx_vw (atI_nat (j := 0) (by rw [← hX]; rfl))
  have i1 : idxB (.vw (.l X)) (.dat (.int 1)) = .ok (iI x1) := idx_vw (atI_nat (j := 1) (by rw [← hX]; rfl))
  have i2 : idxB (.vw (.l X)) (.dat (.int 2)) = .ok (iI x2) := idx_vw (atI_nat (j := 2) (by rw [← hX]; rfl))
  have i3 : idxB (.vw (.l X)) (.dat (.int 3)) = .ok (iI x3) := idx_vw (atI_nat (j := 3) (by rw [← hX]; rfl))
  have i4 : idxB (.vw (.l X)) (.dat (.int 4)) = .ok (iI x4) := idx_vw (atI_nat (j := 4) (by rw [← hX]; rfl))
  have ln : lenB [.bor (.l (txs ns))] = .ok (iN n) := len_bor.trans (by rw [List.length_map, h.len])
  have mm : ∀ z m : Int, 0 < m → modB (iI z) (iI m) = .ok (iI (z % m)) := fun z m h => mod_pos h
  obtain ⟨one, h1a, h1b, h1e⟩ : ∃ w : Int, 0 ≤ w ∧ w < n ∧ w = x0 % (n : Int) := ⟨_, Int.emod_nonneg _ (by omega), Int.emod_lt_of_pos _ (by omega), rfl⟩
  obtain ⟨k, hk0, hke⟩ : ∃ k : Int, 0 < k ∧ k = max 1 ((n : Int) - 1) := ⟨_, by omega, rfl⟩
  obtain ⟨oth, h2a, h2b, h2e⟩ : ∃ w : Int, 0 ≤ w ∧ w < n ∧ w = (one + 1 + x1 % k) % (n : Int) := ⟨_, Int.emod_nonneg _ (by omega), Int.emod_lt_of_pos _ (by omega), rfl⟩
  obtain ⟨sz, hs1, hs2, hse⟩ : ∃ s : Int, 1 ≤ s ∧ s < 1000 ∧ idxB (.dat (.lst [.int (1 + x2 % 4), .int (1 + x2 % 30), .int (1 + x2 % 999), .int (1 + x2 % 999)])) (iN wide) = .ok (iI s) := by
    refine ⟨_, ?_, ?_, four wide hw⟩
    · split
      · omega
      · split
        · omega
        · split <;> omega
    · split
      · omega
      · split
        · omega
        · split <;> omega
  have m4 := mm x2 4 (by decide)
  have m30 := mm x2 30 (by decide)
  have m999 := mm x2 999 (by decide)
  have m3 := mm x3 3 (by decide)
  have m9 := mm x4 9 (by decide)
  obtain ⟨s, hs, e1⟩ := at_name h h1a h1b
  obtain ⟨t, ht, e2⟩ := at_name h h2a h2b
  have s1 : thenS (ownF E0 (consA (ownF E2 (consA (varB 1) (consA (bin2 addB (varB 2) (varB 6)) nilA))) (consA (litI 5) nilA))) (setV 7) [some (.bor (.l (txs ns))), some (.scr sc), some (iN at_), b3, some (iN wide), some (.own (.t (L.map tKv))), some (iN i), r7, r8, r9, r10, none] =
      .nx [some (.bor (.l (txs ns))), some (.scr sc), some (iN at_), b3, some (iN wide), some (.own (.t (L.map tKv))), some (iN i), some (.own (.l X)), r8, r9, r10, none] :=
    set_ok (own_ok (bs := [iI c, .dat (.int 5)]) (cons_ok (x := iI c) (own_ok (bs := [.scr sc, iN (at_ + i)]) (cons_ok (x := .scr sc) rfl (cons_ok (x := iN (at_ + i)) (bin_ok (x := iN at_) (y := iN i) rfl rfl (add_ii.trans (by rw [← Int.natCast_add]))) nil_ok)) rfl hc rfl) (cons_ok (x := .dat (.int 5)) rfl nil_ok)) rfl hn rfl) rfl
  have s2 : thenS (bin2 modB (bin2 idxB (varB 7) (litI 0)) (callF lenB (consA (varB 0) nilA))) (setV 8) [some (.bor (.l (txs ns))), some (.scr sc), some (iN at_), b3, some (iN wide), some (.own (.t (L.map tKv))), some (iN i), some (.own (.l X)), r8, r9, r10, none] =
      .nx [some (.bor (.l (txs ns))), some (.scr sc), some (iN at_), b3, some (iN wide), some (.own (.t (L.map tKv))), some (iN i), some (.own (.l X)), some (iI one), r9, r10, none] := by
    simp only [seqS, thenS, bin2, consA, nilA, callF, ownF, tstF, litI, litS, litB, litN, newK, newT, itF, noP, atP, nxS, bkS, ctS, badS, rtN, lockS, one1, testV, notT, andT, orT, iteV, iteS, forV, Res.ok_bind, varB, rd, setV, okV, retV, okRet, retN, bindV, par2, List.getElem?_cons_zero, List.getElem?_cons_succ, List.set_cons_zero, List.set_cons_succ, outR, callV, lenA, toArg, List.map_cons, List.map_nil, retB, List.length_cons, List.length_nil, tstB, truB, Bool.and_self, reduceIte, reduceCtorEq, Bool.false_eq_true, Nat.reduceAdd, Nat.reduceEqDiff, Bool.true_eq_false, Bool.not_true, Bool.not_false, if_true, if_false, lstB0, tupB0, lstB1, tupB1, lstB2, tupB2, lstB3, tupB3, lstB4, tupB4, lstB5, tupB5, lstB6, tupB6, i0, ln, mm x0 (n : Int) (by omega), ← h1e]
  have mx : maxF [.dat (.int 1), iI ((n : Int) - 1)] = .ok (iI k) := max_ii.trans (by rw [hke])
  have s3 : thenS (bin2 modB (bin2 addB (bin2 addB (varB 8) (litI 1)) (bin2 modB (bin2 idxB (varB 7) (litI 1)) (callF maxF (consA (litI 1) (consA (bin2 subB (callF lenB (consA (varB 0) nilA)) (litI 1)) nilA))))) (callF lenB (consA (varB 0) nilA))) (setV 9) [some (.bor (.l (txs ns))), some (.scr sc), some (iN at_), b3, some (iN wide), some (.own (.t (L.map tKv))), some (iN i), some (.own (.l X)), some (iI one), r9, r10, none] =
      .nx [some (.bor (.l (txs ns))), some (.scr sc), some (iN at_), b3, some (iN wide), some (.own (.t (L.map tKv))), some (iN i), some (.own (.l X)), some (iI one), some (iI oth), r10, none] := by
    simp only [seqS, thenS, bin2, consA, nilA, callF, ownF, tstF, litI, litS, litB, litN, newK, newT, itF, noP, atP, nxS, bkS, ctS, badS, rtN, lockS, one1, testV, notT, andT, orT, iteV, iteS, forV, Res.ok_bind, varB, rd, setV, okV, retV, okRet, retN, bindV, par2, List.getElem?_cons_zero, List.getElem?_cons_succ, List.set_cons_zero, List.set_cons_succ, outR, callV, lenA, toArg, List.map_cons, List.map_nil, retB, List.length_cons, List.length_nil, tstB, truB, Bool.and_self, reduceIte, reduceCtorEq, Bool.false_eq_true, Nat.reduceAdd, Nat.reduceEqDiff, Bool.true_eq_false, Bool.not_true, Bool.not_false, if_true, if_false, lstB0, tupB0, lstB1, tupB1, lstB2, tupB2, lstB3, tupB3, lstB4, tupB4, lstB5, tupB5, lstB6, tupB6, i1, ln, sub_ii, mx, mm x1 k hk0, add_ii, mm (one + 1 + x1 % k) (n : Int) (by omega), ← h2e]
  have s4 : thenS (bin2 idxB (callF lstB (consA (bin2 addB (litI 1) (bin2 modB (bin2 idxB (varB 7) (litI 2)) (litI 4))) (consA (bin2 addB (litI 1) (bin2 modB (bin2 idxB (varB 7) (litI 2)) (litI 30))) (consA (bin2 addB (litI 1) (bin2 modB (bin2 idxB (varB 7) (litI 2)) (litI 999))) (consA (bin2 addB (litI 1) (bin2 modB (bin2 idxB (varB 7) (litI 2)) (litI 999))) nilA))))) (varB 4)) (setV 10) [some (.bor (.l (txs ns))), some (.scr sc), some (iN at_), b3, some (iN wide), some (.own (.t (L.map tKv))), some (iN i), some (.own (.l X)), some (iI one), some (iI oth), r10, none] =
      .nx [some (.bor (.l (txs ns))), some (.scr sc), some (iN at_), b3, some (iN wide), some (.own (.t (L.map tKv))), some (iN i), some (.own (.l X)), some (iI one), some (iI oth), some (iI sz), none] := by
    simp only [seqS, thenS, bin2, consA, nilA, callF, ownF, tstF, litI, litS, litB, litN, newK, newT, itF, noP, atP, nxS, bkS, ctS, badS, rtN, lockS, one1, testV, notT, andT, orT, iteV, iteS, forV, Res.ok_bind, varB, rd, setV, okV, retV, okRet, retN, bindV, par2, List.getElem?_cons_zero, List.getElem?_cons_succ, List.set_cons_zero, List.set_cons_succ, outR, callV, lenA, toArg, List.map_cons, List.map_nil, retB, List.length_cons, List.length_nil, tstB, truB, Bool.and_self, reduceIte, reduceCtorEq, Bool.false_eq_true, Nat.reduceAdd, Nat.reduceEqDiff, Bool.true_eq_false, Bool.not_true, Bool.not_false, if_true, if_false, lstB0, tupB0, lstB1, tupB1, lstB2, tupB2, lstB3, tupB3, lstB4, tupB4, lstB5, tupB5, lstB6, tupB6, i2, m4, m30, m999, add_ii, frzM, hse]
  by_cases e : one = oth
  · refine ⟨L, some (.own (.l X)), some (iI one), some (iI oth), some (iI sz), hL, by omega, ?_⟩
    unfold B3_1
    refine (seq_nx s1).trans ((seq_nx s2).trans ((seq_nx s3).trans ((seq_nx s4).trans ?_)))
    have ct : tstF (bin2 neB (varB 8) (varB 9)) [some (.bor (.l (txs ns))), some (.scr sc), some (iN at_), b3, some (iN wide), some (.own (.t (L.map tKv))), some (iN i), some (.own (.l X)), some (iI one), some (iI oth), some (iI sz), none] = .ok false :=
      tst_ok (bin_ok (x := iI one) (y := iI oth) rfl rfl (ne_ii.trans (by rw [decide_eq_true e]; rfl)))
    exact (if_f ct).trans rfl
  · obtain ⟨L1, g1, l1, p1⟩ := putT ns L (s, t) sz hL ⟨hs, ht, hs1, hs2⟩
    obtain ⟨L2, g2, l2, p2⟩ := putT ns L1 (t, s) (1 + x4 % 9) g1 ⟨ht, hs, by show 1 ≤ 1 + x4 % 9; omega, by show 1 + x4 % 9 < 1000; omega⟩
    have ct : tstF (bin2 neB (varB 8) (varB 9)) [some (.bor (.l (txs ns))), some (.scr sc), some (iN at_), b3, some (iN wide), some (.own (.t (L.map tKv))), some (iN i), some (.own (.l X)), some (iI one), some (iI oth), some (iI sz), none] = .ok true :=
      tst_ok (bin_ok (x := iI one) (y := iI oth) rfl rfl (ne_ii.trans (by rw [decide_eq_false e]; rfl)))
    have st1 : putS 5 (callF tupB (consA (bin2 idxB (varB 0) (varB 8)) (consA (bin2 idxB (varB 0) (varB 9)) nilA))) (varB 10) [some (.bor (.l (txs ns))), some (.scr sc), some (iN at_), b3, some (iN wide), some (.own (.t (L.map tKv))), some (iN i), some (.own (.l X)), some (iI one), some (iI oth), some (iI sz), none] =
        .nx [some (.bor (.l (txs ns))), some (.scr sc), some (iN at_), b3, some (iN wide), some (.own (.t (L1.map tKv))), some (iN i), some (.own (.l X)), some (iI one), some (iI oth), some (iI sz), none] :=
      Fn.put_ok (b := iI sz) (kb := .dat (pD (s, t))) (m := .t (L.map tKv)) rfl rfl rfl (call_ok (cons_ok (x := .dat (.str s)) (bin_ok (x := .bor (.l (txs ns))) (y := iI one) rfl rfl e1) (cons_ok (x := .dat (.str t)) (bin_ok (x := .bor (.l (txs ns))) (y := iI oth) rfl rfl e2) nil_ok)) tupB2) (by
        show (if (L.map tKv).length < sizeLine then some (M.t (putD (L.map tKv) (pK (s, t)) (.int sz))) else none) = _
        rw [if_pos (small1000 (by rw [List.length_map]; omega)), p1])
    have st2 : putS 5 (callF tupB (consA (bin2 idxB (varB 0) (varB 9)) (consA (bin2 idxB (varB 0) (varB 8)) nilA))) (bin2 addB (litI 1) (bin2 modB (bin2 idxB (varB 7) (litI 4)) (litI 9))) [some (.bor (.l (txs ns))), some (.scr sc), some (iN at_), b3, some (iN wide), some (.own (.t (L1.map tKv))), some (iN i), some (.own (.l X)), some (iI one), some (iI oth), some (iI sz), none] =
        .nx [some (.bor (.l (txs ns))), some (.scr sc), some (iN at_), b3, some (iN wide), some (.own (.t (L2.map tKv))), some (iN i), some (.own (.l X)), some (iI one), some (iI oth), some (iI sz), none] :=
      Fn.put_ok (b := iI (1 + x4 % 9)) (kb := .dat (pD (t, s))) (m := .t (L1.map tKv)) (bin_ok (x := .dat (.int 1)) (y := iI (x4 % 9)) rfl (bin_ok (x := .vw (.l X)) (y := .dat (.int 4)) rfl rfl i4 |> fun z => bin_ok (x := iI x4) (y := .dat (.int 9)) z rfl m9) add_ii) rfl rfl (call_ok (cons_ok (x := .dat (.str t)) (bin_ok (x := .bor (.l (txs ns))) (y := iI oth) rfl rfl e2) (cons_ok (x := .dat (.str s)) (bin_ok (x := .bor (.l (txs ns))) (y := iI one) rfl rfl e1) nil_ok)) tupB2) (by
        show (if (L1.map tKv).length < sizeLine then some (M.t (putD (L1.map tKv) (pK (t, s)) (.int (1 + x4 % 9)))) else none) = _
        rw [if_pos (small1000 (by rw [List.length_map]; omega)), p2])
    have cc : ∃ b, andT (tstF (bin2 eqB (bin2 modB (bin2 idxB (varB 7) (litI 3)) (litI 3)) (litI 1))) (tstF (bin2 ltB (callF lenB (consA (varB 5) nilA)) (litI 16))) [some (.bor (.l (txs ns))), some (.scr sc), some (iN at_), b3, some (iN wide), some (.own (.t (L1.map tKv))), some (iN i), some (.own (.l X)), some (iI one), some (iI oth), some (iI sz), none] = .ok b :=
      ⟨_, and_ok (tst_ok (bin_ok (x := iI (x3 % 3)) (y := .dat (.int 1)) (bin_ok (x := iI x3) (y := .dat (.int 3)) (bin_ok (x := .vw (.l X)) (y := .dat (.int 3)) rfl rfl i3) rfl m3) rfl eq_ii)) fun _ => tst_ok (bin_ok (x := iN (L1.map tKv).length) (y := .dat (.int 16)) (call_ok (cons_ok (x := .vw (.t (L1.map tKv))) rfl nil_ok) len_vt) rfl lt_ii)⟩
    obtain ⟨b, cc⟩ := cc
    cases b with
    | true =>
      refine ⟨L2, some (.own (.l X)), some (iI one), some (iI oth), some (iI sz), g2, by omega, ?_⟩
      unfold B3_1
      exact (seq_nx s1).trans ((seq_nx s2).trans ((seq_nx s3).trans ((seq_nx s4).trans ((if_t ct).trans ((seq_nx st1).trans ((if_t cc).trans st2))))))
    | false =>
      refine ⟨L1, some (.own (.l X)), some (iI one), some (iI oth), some (iI sz), g1, by omega, ?_⟩
      unfold B3_1
      exact (seq_nx s1).trans ((seq_nx s2).trans ((seq_nx s3).trans ((seq_nx s4).trans ((if_t ct).trans ((seq_nx st1).trans ((if_f cc).trans rfl))))))
theorem ties_ok {ns : List Str} {n : Nat} (h : Nms ns n) (n0 : 0 < n) (n8 : n ≤ 8) (sc : List Int) (at_ many : Nat) (hm : at_ + many < 64) (wide : Nat) (hw : wide < 4) :
    ∃ ts : List Tie, (∀ t ∈ ts, Tgood ns t) ∧ ts.length ≤ 16 ∧ E3.F [.bor (.l (txs ns)), .scr sc, iN at_, iN many, iN wide] = .ok (.dat (.tup (ts.map tiD))) := by
  rw [show E3.F = defF 12 B3 from rfl]
  have el : (rng 0 many).length = many := by rw [rng_len]; omega
  obtain ⟨ρ', q1, L, r6, r7, r8, r9, r10, rfl, hL, hl⟩ := loop_all (t := .one 6) (body := B3_1) (ds := rng 0 many) (fun i ρ => ∃ (L : List Tie) (r6 r7 r8 r9 r10 : Option B), ρ = [some (.bor (.l (txs ns))), some (.scr sc), some (iN at_), some (iN many), some (iN wide), some (.own (.t (L.map tKv))), r6, r7, r8, r9, r10, none] ∧ (∀ t ∈ L, Tgood ns t) ∧ L.length ≤ 2 * i)
    (ρ := [some (.bor (.l (txs ns))), some (.scr sc), some (iN at_), some (iN many), some (iN wide), some (.own (.t [])), none, none, none, none, none, none]) ⟨[], none, none, none, none, none, rfl, (fun t ht => by cases ht), Nat.zero_le _⟩ (by
    rintro i d ρ hd ⟨L, r6, r7, r8, r9, r10, rfl, hL, hl⟩
    obtain ⟨rfl, hi⟩ := rng_get hd
    obtain ⟨L', q7, q8, q9, q10, a1, a2, a3⟩ := tie_step h n0 n8 sc at_ wide hw L hL (by omega) i (by omega) (some (iN many)) r7 r8 r9 r10
    refine ⟨[some (.bor (.l (txs ns))), some (.scr sc), some (iN at_), some (iN many), some (iN wide), some (.own (.t (L.map tKv))), some (iN i), r7, r8, r9, r10, none], _, ?_, .inl a3, L', _, q7, q8, q9, q10, rfl, a1, by omega⟩
    show some _ = some _
    rw [Int.zero_add]
    rfl)
  rw [el] at hl
  obtain ⟨qs, hp, _, hs⟩ := sortT h L hL
  let val : Str × Str → Int := fun p => match getK (L.map tKv) (pK p) with
    | some (.int v) => v
    | _ => 0
  have hv : ∀ p ∈ qs, (p, val p) ∈ L ∧ getK (L.map tKv) (pK p) = some (.int (val p)) := by
    intro p hq
    obtain ⟨v, h1, h2⟩ := getT L (hp.mem_iff.mp hq)
    have e : val p = v := by
      show (match getK (L.map tKv) (pK p) with | some (.int v) => v | _ => 0) = v
      rw [h2]
    rw [e]
    exact ⟨h1, h2⟩
  have ql : qs.length ≤ 1000 := by rw [hp.length_eq, List.length_map]; omega
  refine ⟨(qs.take 16).map fun p => (p, val p), ?_, by rw [List.length_map, List.length_take]; omega, def_rt (by rfl) ?_⟩
  · intro t ht
    obtain ⟨p, hq, rfl⟩ := List.mem_map.mp ht
    exact hL _ (hv p (List.mem_of_mem_take hq)).1
  · show outR (B3 [some _, some _, some _, some _, some _, none, none, none, none, none, none, none]) = _
    unfold B3
    refine (congrArg outR (seq_nx (ρ' := [some (.bor (.l (txs ns))), some (.scr sc), some (iN at_), some (iN many), some (iN wide), some (.own (.t [])), none, none, none, none, none, none]) (set_ok rfl rfl))).trans ?_
    refine (congrArg outR (seq_nx ((for_ok (rg_ok (bs := [iN many]) (cons_ok (x := iN many) rfl nil_ok) (rng_nat (by omega)))).trans q1))).trans ?_
    have c : compV (.one 11) (itF true (callF sortF (consA (varB 5) nilA))) yesF (bin2 addB (varB 11) (callF tupB (consA (bin2 idxB (varB 5) (varB 11)) nilA))) [11] [some (.bor (.l (txs ns))), some (.scr sc), some (iN at_), some (iN many), some (iN wide), some (.own (.t (L.map tKv))), r6, r7, r8, r9, r10, none] = .ok (.own (.l ((qs.filter fun _ => true).map fun p => tiD (p, val p)))) := by
      refine comp_map (f := pD) (fun _ => true) (fun p => tiD (p, val p)) (it_ok (call_ok (cons_ok (x := .vw (.t (L.map tKv))) rfl nil_ok) hs) rfl) ql fun p hq => ?_
      have ix : idxB (.vw (.t (L.map tKv))) (.dat (pD p)) = .ok (iI (val p)) := by
        show (match some (getK (L.map tKv) (pK p)) with | some (some d) => (.ok (.dat d) : Res B) | some none => .bad | none => _) = _
        rw [(hv p hq).2]
      exact step_yes (ρ1 := [some (.bor (.l (txs ns))), some (.scr sc), some (iN at_), some (iN many), some (iN wide), some (.own (.t (L.map tKv))), r6, r7, r8, r9, r10, some (.dat (pD p))]) rfl rfl (bin_ok (x := .dat (pD p)) (y := .dat (.tup [.int (val p)])) rfl (call_ok (cons_ok (x := iI (val p)) (bin_ok (x := .vw (.t (L.map tKv))) (y := .dat (pD p)) rfl rfl ix) nil_ok) tupB1) (cat_tt (P := [.str p.1, .str p.2]) (Q := [.int (val p)]) (by show 3 ≤ 1000; decide))) rfl
    have fl : (qs.filter fun _ => true) = qs := List.filter_eq_self.mpr fun _ _ => rfl
    rw [fl] at c
    have sl : sliceB (.dat (.lst (qs.map fun p => tiD (p, val p)))) none (some 16) = .ok (.own (.l ((qs.take 16).map fun p => tiD (p, val p)))) := by
      rw [slc_lst]
      have := cut_take (qs.map fun p => tiD (p, val p)) 16
      rw [← List.map_take] at this
      exact congrArg (fun l => Res.ok (B.own (M.l l))) this
    have sv : slcV (compV (.one 11) (itF true (callF sortF (consA (varB 5) nilA))) yesF (bin2 addB (varB 11) (callF tupB (consA (bin2 idxB (varB 5) (varB 11)) nilA))) [11]) noP (atP (litI 16)) [some (.bor (.l (txs ns))), some (.scr sc), some (iN at_), some (iN many), some (iN wide), some (.own (.t (L.map tKv))), r6, r7, r8, r9, r10, none] = .ok (.own (.l ((qs.take 16).map fun p => tiD (p, val p)))) := slc_ok c (l := none) rfl (h := some 16) rfl sl
    refine congrArg outR (ret_ok (call_ok (cons_ok sv nil_ok) (b := .ok (.dat (.tup (((qs.take 16).map fun p => (p, val p)).map tiD)))) ?_) rfl)
    show Res.ok (B.dat (.tup ((qs.take 16).map fun p => tiD (p, val p)))) = _
    rw [List.map_map]
    rfl
end K08
namespace K08
open PySem L2 Fn
abbrev webD (top : Nat) (ps : List Pl) (ts : List Tie) : D := .tup [.int (top : Int), .tup (ps.map plD), .tup (ts.map tiD)]
structure WebOk (top : Nat) (ps : List Pl) (ts : List Tie) : Prop where
  t1 : 1 ≤ top
  t9 : top ≤ 9
  nm : Nms (ps.map Pl.n) ps.length
  pos : 0 < ps.length
  le : ps.length ≤ 8
  pl : ∀ p ∈ ps, PlOk top p
  ti : ∀ t ∈ ts, Tgood (ps.map Pl.n) t
  few : ts.length ≤ 16
theorem web_ok (sc : List Int) (at_ most : Nat) (ha : at_ ≤ 30) (m0 : 0 < most) (m8 : most ≤ 8) : ∃ top ps ts, WebOk top ps ts ∧ ps.length ≤ most ∧ E5.F [.scr sc, iN at_, iN most] = .ok (.dat (webD top ps ts)) := by
  rw [show E5.F = defF 11 B5 from rfl]
  obtain ⟨c, hc⟩ := cell_ok sc at_ (by omega)
  obtain ⟨xs, hx, hn⟩ := numbers_ok c 12 (by omega)
  obtain ⟨x0, x1, x2, x3, x4, x5, x6, x7, r, rfl⟩ : ∃ x0 x1 x2 x3 x4 x5 x6 x7 r, xs = x0 :: x1 :: x2 :: x3 :: x4 :: x5 :: x6 :: x7 :: r := by
    match xs, hx with
    | x0 :: x1 :: x2 :: x3 :: x4 :: x5 :: x6 :: x7 :: r, _ => exact ⟨_, _, _, _, _, _, _, _, _, rfl⟩
  obtain ⟨top, hT⟩ : ∃ t : Nat, (t : Int) = 1 + x4 % 9 := ⟨(1 + x4 % 9).toNat, by omega⟩
  have mz := Int.emod_nonneg x5 (show (most : Int) ≠ 0 by omega)
  have mz2 := Int.emod_lt_of_pos x5 (show (0 : Int) < most by omega)
  obtain ⟨n, hN⟩ : ∃ t : Nat, (t : Int) = 1 + x5 % (most : Int) := ⟨(1 + x5 % (most : Int)).toNat, by omega⟩
  obtain ⟨wide, hW, hWe⟩ : ∃ w : Nat, w < 4 ∧ idxB (.dat (.lst [.int 0, .int 1, .int 0, .int 1, .int 2])) (iI (x6 % 5)) = .ok (iN w) := by
    have : x6 % 5 = 0 ∨ x6 % 5 = 1 ∨ x6 % 5 = 2 ∨ x6 % 5 = 3 ∨ x6 % 5 = 4 := by omega
    rcases this with e | e | e | e | e <;> rw [e]
    · exact ⟨0, by omega, idxL (n := 0) _ rfl rfl⟩
    · exact ⟨1, by omega, idxL (n := 1) _ rfl rfl⟩
    · exact ⟨0, by omega, idxL (n := 2) _ rfl rfl⟩
    · exact ⟨1, by omega, idxL (n := 3) _ rfl rfl⟩
    · exact ⟨2, by omega, idxL (n := 4) _ rfl rfl⟩
  obtain ⟨ns, hNm, e0⟩ := names_okB x0 x1 x2 x3 (x4 :: x5 :: x6 :: x7 :: r) n (by omega)
  generalize hX : nms (x0 :: x1 :: x2 :: x3 :: x4 :: x5 :: x6 :: x7 :: r) = X at *
  have i4 : idxB (.vw (.l X)) (.dat (.int 4)) = .ok (iI x4) := idx_vw (atI_nat (j := 4) (by rw [← hX]; rfl))
  have i5 : idxB (.vw (.l X)) (.dat (.int 5)) = .ok (iI x5) := idx_vw (atI_nat (j := 5) (by rw [← hX]; rfl))
  have i6 : idxB (.vw (.l X)) (.dat (.int 6)) = .ok (iI x6) := idx_vw (atI_nat (j := 6) (by rw [← hX]; rfl))
  have i7 : idxB (.vw (.l X)) (.dat (.int 7)) = .ok (iI x7) := idx_vw (atI_nat (j := 7) (by rw [← hX]; rfl))
  obtain ⟨many, hM⟩ : ∃ t : Nat, (t : Int) = x7 % (2 * (n : Int) + 1) := ⟨(x7 % (2 * (n : Int) + 1)).toNat, by have := Int.emod_nonneg x7 (show (2 * (n : Int) + 1) ≠ 0 by omega); omega⟩
  have hM2 : (many : Int) < 2 * (n : Int) + 1 := by rw [hM]; exact Int.emod_lt_of_pos _ (by omega)
  obtain ⟨ts, hts, htl, e3⟩ := ties_ok hNm (by omega) (by omega) sc (at_ + 1 + n) many (by omega) wide hW
  have el : (rng 0 n).length = n := by rw [rng_len]; omega
  obtain ⟨ρ', q1, ps, r9, rfl, hps, hpn⟩ := loop_all (t := .one 9) (body := B5_1) (ds := rng 0 n) (fun i ρ => ∃ (ps : List Pl) (r9 : Option B), ρ = [some (.scr sc), some (iN at_), some (iN most), some (.own (.l X)), some (iN top), some (iN n), some (iN wide), some (.own (.l (txs ns))), some (.own (.l (ps.map plD))), r9, none] ∧ (∀ p ∈ ps, PlOk top p) ∧ ps.map Pl.n = ns.take i)
    (ρ := [some (.scr sc), some (iN at_), some (iN most), some (.own (.l X)), some (iN top), some (iN n), some (iN wide), some (.own (.l (txs ns))), some (.own (.l [])), none, none]) ⟨[], none, rfl, (fun p hp => by cases hp), rfl⟩ (by
    rintro i d ρ hd ⟨ps, r9, rfl, hps, hpn⟩
    obtain ⟨rfl, hi⟩ := rng_get hd
    have hi' : i < ns.length := by rw [hNm.len]; omega
    obtain ⟨c, hc⟩ := cell_ok sc (at_ + 1 + i) (by omega)
    obtain ⟨ys, hy, hny⟩ := numbers_ok c 5 (by omega)
    obtain ⟨y0, y1, y2, y3, y4, rfl⟩ : ∃ y0 y1 y2 y3 y4, ys = [y0, y1, y2, y3, y4] := by
      match ys, hy with
      | [y0, y1, y2, y3, y4], _ => exact ⟨_, _, _, _, _, rfl⟩
    obtain ⟨p, pn, pk, ep⟩ := place_ok ns[i] y0 y1 y2 y3 y4 [] top (by omega) (by omega) wide hW
    have pl : ps.length = i := by
      have := congrArg List.length hpn
      rw [List.length_map, List.length_take] at this
      omega
    have cl : ownF E4 (consA (bin2 idxB (varB 7) (varB 9)) (consA (ownF E0 (consA (ownF E2 (consA (varB 0) (consA (bin2 addB (bin2 addB (varB 1) (litI 1)) (varB 9)) nilA))) (consA (litI 5) nilA))) (consA (varB 4) (consA (varB 6) nilA)))) [some (.scr sc), some (iN at_), some (iN most), some (.own (.l X)), some (iN top), some (iN n), some (iN wide), some (.own (.l (txs ns))), some (.own (.l (ps.map plD))), some (iN i), none] = .ok (.dat (plD p)) := by
      refine own_ok (bs := [.dat (.str ns[i]), .dat (.lst (nms [y0, y1, y2, y3, y4])), iN top, iN wide]) (cons_ok (x := .dat (.str ns[i])) (bin_ok (x := .vw (.l (txs ns))) (y := iN i) rfl rfl (idx_vw (atI_map D.str (atI_nat (List.getElem?_eq_getElem hi'))))) (cons_ok (x := .own (.l (nms [y0, y1, y2, y3, y4]))) (own_ok (bs := [iI c, .dat (.int 5)]) (cons_ok (x := iI c) (own_ok (bs := [.scr sc, iN (at_ + 1 + i)]) (cons_ok (x := .scr sc) rfl (cons_ok (x := iN (at_ + 1 + i)) (bin_ok (x := iN (at_ + 1)) (y := iN i) (bin_ok (x := iN at_) (y := .dat (.int 1)) rfl rfl rfl) rfl (add_ii.trans (by rw [← Int.natCast_add]))) nil_ok)) rfl hc rfl) (cons_ok (x := .dat (.int 5)) rfl nil_ok)) rfl hny rfl) (cons_ok (x := iN top) rfl (cons_ok (x := iN wide) rfl nil_ok)))) rfl ep rfl
    refine ⟨[some (.scr sc), some (iN at_), some (iN most), some (.own (.l X)), some (iN top), some (iN n), some (iN wide), some (.own (.l (txs ns))), some (.own (.l (ps.map plD))), some (iN i), none], _, ?_, .inl (app_ok (ds := ps.map plD) rfl cl rfl (small1000 (by rw [List.length_map]; omega))), ps ++ [p], some (iN i), ?_, ?_, ?_⟩
    · show some _ = some _
      rw [Int.zero_add]
      rfl
    · rw [List.map_append]
      rfl
    · intro q hq
      rcases List.mem_append.mp hq with h | h
      · exact hps q h
      · rw [List.mem_singleton.mp h]; exact pk
    · rw [List.map_append, hpn, List.take_add_one, List.getElem?_eq_getElem hi']
      show _ ++ [p.n] = _
      rw [pn]
      rfl)
  rw [el, show ns.take n = ns by rw [← hNm.len, List.take_length]] at hpn
  have pl : ps.length = n := by
    have := congrArg List.length hpn
    rw [List.length_map, hNm.len] at this
    exact this
  refine ⟨top, ps, ts, ⟨by omega, by omega, by rw [hpn, pl]; exact hNm, by omega, by omega, hps, by rw [hpn]; exact hts, htl⟩, by omega, def_rt (by rfl) ?_⟩
  show outR (B5 [some _, some _, some _, none, none, none, none, none, none, none, none]) = _
  unfold B5
  have m9 : modB (iI x4) (.dat (.int 9)) = .ok (iI (x4 % 9)) := mod_pos (by decide)
  have mM : modB (iI x5) (iN most) = .ok (iI (x5 % (most : Int))) := mod_pos (by omega)
  have m5 : modB (iI x6) (.dat (.int 5)) = .ok (iI (x6 % 5)) := mod_pos (by decide)
  have mB : modB (iI x7) (iI (2 * (n : Int) + 1)) = .ok (iI (x7 % (2 * (n : Int) + 1))) := mod_pos (by omega)
  have k2 : mulB (.dat (.int 2)) (iN n) = .ok (iI (2 * (n : Int))) := mul_ok (by decide) (by show Int.natAbs _ < _; omega)
  refine (congrArg outR (seq_nx (ρ' := [some (.scr sc), some (iN at_), some (iN most), some (.own (.l X)), none, none, none, none, none, none, none]) (set_ok (own_ok (bs := [iI c, .dat (.int 12)]) (cons_ok (x := iI c) (own_ok (bs := [.scr sc, iN at_]) (cons_ok (x := .scr sc) rfl (cons_ok (x := iN at_) rfl nil_ok)) rfl hc rfl) (cons_ok (x := .dat (.int 12)) rfl nil_ok)) rfl hn rfl) rfl))).trans ?_
  refine (congrArg outR (seq_nx (ρ' := [some (.scr sc), some (iN at_), some (iN most), some (.own (.l X)), some (iN top), none, none, none, none, none, none]) (by simp only [seqS, thenS, bin2, consA, nilA, callF, ownF, tstF, litI, litS, litB, litN, newK, newT, itF, noP, atP, nxS, bkS, ctS, badS, rtN, lockS, one1, testV, notT, andT, orT, iteV, iteS, forV, Res.ok_bind, varB, rd, setV, okV, retV, okRet, retN, bindV, par2, List.getElem?_cons_zero, List.getElem?_cons_succ, List.set_cons_zero, List.set_cons_succ, outR, callV, lenA, toArg, List.map_cons, List.map_nil, retB, List.length_cons, List.length_nil, tstB, truB, Bool.and_self, reduceIte, reduceCtorEq, Bool.false_eq_true, Nat.reduceAdd, Nat.reduceEqDiff, Bool.true_eq_false, Bool.not_true, Bool.not_false, if_true, if_false, lstB0, tupB0, lstB1, tupB1, lstB2, tupB2, lstB3, tupB3, lstB4, tupB4, lstB5, tupB5, lstB6, tupB6, i4, m9, add_ii, ← hT]))).trans ?_
  refine (congrArg outR (seq_nx (ρ' := [some (.scr sc), some (iN at_), some (iN most), some (.own (.l X)), some (iN top), some (iN n), none, none, none, none, none]) (by simp only [seqS, thenS, bin2, consA, nilA, callF, ownF, tstF, litI, litS, litB, litN, newK, newT, itF, noP, atP, nxS, bkS, ctS, badS, rtN, lockS, one1, testV, notT, andT, orT, iteV, iteS, forV, Res.ok_bind, varB, rd, setV, okV, retV, okRet, retN, bindV, par2, List.getElem?_cons_zero, List.getElem?_cons_succ, List.set_cons_zero, List.set_cons_succ, outR, callV, lenA, toArg, List.map_cons, List.map_nil, retB, List.length_cons, List.length_nil, tstB, truB, Bool.and_self, reduceIte, reduceCtorEq, Bool.false_eq_true, Nat.reduceAdd, Nat.reduceEqDiff, Bool.true_eq_false, Bool.not_true, Bool.not_false, if_true, if_false, lstB0, tupB0, lstB1, tupB1, lstB2, tupB2, lstB3, tupB3, lstB4, tupB4, lstB5, tupB5, lstB6, tupB6, i5, mM, add_ii, ← hN]))).trans ?_
  refine (congrArg outR (seq_nx (ρ' := [some (.scr sc), some (iN at_), some (iN most), some (.own (.l X)), some (iN top), some (iN n), some (iN wide), none, none, none, none]) (by simp only [seqS, thenS, bin2, consA, nilA, callF, ownF, tstF, litI, litS, litB, litN, newK, newT, itF, noP, atP, nxS, bkS, ctS, badS, rtN, lockS, one1, testV, notT, andT, orT, iteV, iteS, forV, Res.ok_bind, varB, rd, setV, okV, retV, okRet, retN, bindV, par2, List.getElem?_cons_zero, List.getElem?_cons_succ, List.set_cons_zero, List.set_cons_succ, outR, callV, lenA, toArg, List.map_cons, List.map_nil, retB, List.length_cons, List.length_nil, tstB, truB, Bool.and_self, reduceIte, reduceCtorEq, Bool.false_eq_true, Nat.reduceAdd, Nat.reduceEqDiff, Bool.true_eq_false, Bool.not_true, Bool.not_false, if_true, if_false, lstB0, tupB0, lstB1, tupB1, lstB2, tupB2, lstB3, tupB3, lstB4, tupB4, lstB5, tupB5, lstB6, tupB6, i6, m5, frzM, hWe]))).trans ?_
  refine (congrArg outR (seq_nx (ρ' := [some (.scr sc), some (iN at_), some (iN most), some (.own (.l X)), some (iN top), some (iN n), some (iN wide), some (.own (.l (txs ns))), none, none, none]) (set_ok (own_ok (bs := [.vw (.l X), iN n]) (cons_ok (x := .vw (.l X)) rfl (cons_ok (x := iN n) rfl nil_ok)) rfl e0 rfl) rfl))).trans ?_
  refine (congrArg outR (seq_nx (ρ' := [some (.scr sc), some (iN at_), some (iN most), some (.own (.l X)), some (iN top), some (iN n), some (iN wide), some (.own (.l (txs ns))), some (.own (.l [])), none, none]) (set_ok (call_ok nil_ok lstB0) rfl))).trans ?_
  refine (congrArg outR (seq_nx ((for_ok (rg_ok (bs := [iN n]) (cons_ok (x := iN n) rfl nil_ok) (rng_nat (by omega)))).trans q1))).trans ?_
  have ce : ownF E3 (consA (varB 7) (consA (varB 0) (consA (bin2 addB (bin2 addB (varB 1) (litI 1)) (varB 5)) (consA (bin2 modB (bin2 idxB (varB 3) (litI 7)) (bin2 addB (bin2 mulB (litI 2) (varB 5)) (litI 1))) (consA (varB 6) nilA))))) [some (.scr sc), some (iN at_), some (iN most), some (.own (.l X)), some (iN top), some (iN n), some (iN wide), some (.own (.l (txs ns))), some (.own (.l (ps.map plD))), r9, none] = .ok (.dat (.tup (ts.map tiD))) := by
    refine own_ok (bs := [.vw (.l (txs ns)), .scr sc, iN (at_ + 1 + n), iN many, iN wide]) (cons_ok (x := .vw (.l (txs ns))) rfl (cons_ok (x := .scr sc) rfl (cons_ok (x := iN (at_ + 1 + n)) (bin_ok (x := iN (at_ + 1)) (y := iN n) (bin_ok (x := iN at_) (y := .dat (.int 1)) rfl rfl rfl) rfl (add_ii.trans (by rw [← Int.natCast_add]))) (cons_ok (x := iN many) ((bin_ok (x := iI x7) (y := iI (2 * (n : Int) + 1)) (bin_ok (x := .vw (.l X)) (y := .dat (.int 7)) rfl rfl i7) (bin_ok (x := iI (2 * (n : Int))) (y := .dat (.int 1)) (bin_ok (x := .dat (.int 2)) (y := iN n) rfl rfl k2) rfl add_ii) mB).trans (by rw [← hM])) (cons_ok (x := iN wide) rfl nil_ok))))) rfl e3 rfl
  refine (congrArg outR (seq_nx (ρ' := [some (.scr sc), some (iN at_), some (iN most), some (.own (.l X)), some (iN top), some (iN n), some (iN wide), some (.own (.l (txs ns))), some (.own (.l (ps.map plD))), r9, some (.dat (.tup (ts.map tiD)))]) (set_ok ce rfl))).trans ?_
  exact congrArg outR (ret_ok (call_ok (cons_ok (x := iN top) rfl (cons_ok (x := .dat (.tup (ps.map plD))) (call_ok (cons_ok (x := .vw (.l (ps.map plD))) rfl nil_ok) rfl) (cons_ok (x := .dat (.tup (ts.map tiD))) rfl nil_ok))) tupB3) rfl)
end K08
namespace K08
open PySem L2 Fn
abbrev tD (P : List Str) : D := .tup (txs P)
abbrev nmsOf (ps : List Pl) : List Str := ps.map Pl.n
theorem names_of_ok {top : Nat} {ps : List Pl} {ts : List Tie} (W : WebOk top ps ts) : E8.F [.dat (webD top ps ts)] = .ok (.dat (tD (nmsOf ps))) := by
  rw [show E8.F = defF 2 B8 from rfl]
  refine def_rt (by rfl) ?_
  show outR (B8 [some _, none]) = _
  unfold B8
  have c : compV (.one 1) (itF true (bin2 idxB (varB 0) (litI 1))) yesF (bin2 idxB (varB 1) (litI 0)) [1] [some (.dat (webD top ps ts)), none] = .ok (.own (.l ((ps.filter fun _ => true).map fun p => D.str p.n))) := by
    refine comp_map (f := plD) (fun _ => true) (fun p => D.str p.n) (it_ok (bin_ok (x := .dat (webD top ps ts)) (y := .dat (.int 1)) rfl rfl rfl) rfl) (by have := W.le; omega) fun p hp => ?_
    exact step_yes (ρ1 := [some (.dat (webD top ps ts)), some (.dat (plD p))]) rfl rfl (bin_ok (x := .dat (plD p)) (y := .dat (.int 0)) rfl rfl rfl) rfl
  have fl : (ps.filter fun _ => true) = ps := List.filter_eq_self.mpr fun _ _ => rfl
  rw [fl] at c
  refine congrArg outR (ret_ok (call_ok (cons_ok c nil_ok) (b := .ok (.dat (tD (nmsOf ps)))) ?_) rfl)
  show Res.ok (B.dat (.tup (ps.map fun p => D.str p.n))) = Res.ok (B.dat (.tup ((ps.map Pl.n).map D.str)))
  rw [List.map_map]
  rfl
theorem lnames_of_ok {top : Nat} {ps : List Pl} {ts : List Tie} (W : WebOk top ps ts) : E6.F [.dat (webD top ps ts)] = .ok (.own (.l (txs (nmsOf ps)))) := by
  rw [show E6.F = defF 2 B6 from rfl]
  refine def_rt (by rfl) ?_
  show outR (B6 [some _, none]) = _
  unfold B6
  have c : compV (.one 1) (itF true (bin2 idxB (varB 0) (litI 1))) yesF (bin2 idxB (varB 1) (litI 0)) [1] [some (.dat (webD top ps ts)), none] = .ok (.own (.l ((ps.filter fun _ => true).map fun p => D.str p.n))) := by
    refine comp_map (f := plD) (fun _ => true) (fun p => D.str p.n) (it_ok (bin_ok (x := .dat (webD top ps ts)) (y := .dat (.int 1)) rfl rfl rfl) rfl) (by have := W.le; omega) fun p hp => ?_
    exact step_yes (ρ1 := [some (.dat (webD top ps ts)), some (.dat (plD p))]) rfl rfl (bin_ok (x := .dat (plD p)) (y := .dat (.int 0)) rfl rfl rfl) rfl
  have fl : (ps.filter fun _ => true) = ps := List.filter_eq_self.mpr fun _ _ => rfl
  rw [fl] at c
  refine (congrArg outR (ret_ok c rfl)).trans ?_
  show Res.ok (B.own (.l (ps.map fun p => D.str p.n))) = Res.ok (B.own (.l ((ps.map Pl.n).map D.str)))
  rw [List.map_map]
  rfl
/-- sorted and unlike: rising -/
theorem str_lt {x y : Str} (h : leD (.str x) (.str y) = true) (ne : x ≠ y) : x.cps.toList < y.cps.toList := by
  rw [leD_iff] at h
  have e : PyProof.Rows.lexLt PyProof.Rows.itemOrd [Sum.inr y.cps.toList] [Sum.inr x.cps.toList] = false := h
  rw [PyProof.Rows.lex_false] at e
  have e1 : decide (y.cps.toList < x.cps.toList) = false := e.1
  rw [decide_eq_false_iff_not, List.not_lt, List.le_iff_lt_or_eq] at e1
  rcases e1 with h | h
  · exact h
  · exact absurd (PySem.W.str_of_cps h) ne
theorem all_true : ∀ n : Nat, blsD (List.replicate n (D.bl true)) = some (List.replicate n true)
  | 0 => rfl
  | n + 1 => by
    rw [List.replicate_succ, List.replicate_succ]
    show (match blsD (List.replicate n (D.bl true)) with | some ns => some (true :: ns) | none => none) = _
    rw [all_true n]
theorem allF_true (n : Nat) : allF [.dat (.lst (List.replicate n (D.bl true)))] = .ok (.dat (.bl true)) := by
  show (match blsD (List.replicate n (D.bl true)) with | some ns => (.ok (.dat (.bl (ns.all id))) : Res B) | none => .bad) = _
  rw [all_true]
  have : (List.replicate n true).all id = true := by
    rw [List.all_eq_true]
    intro b hb
    rw [List.eq_of_mem_replicate hb]
    rfl
  exact congrArg (fun b => Res.ok (B.dat (D.bl b))) this
/-- a comprehension that tells True of each -/
theorem comp_all {t : Tg} {it : Fn.Env → Res (List D)} {fe : Fn.Env → Res B} {vs : List Nat} {ρ : Fn.Env} {α : Type} {as : List α} {f : α → D} (h1 : it ρ = .ok (as.map f)) (hl : as.length ≤ 1000) (h2 : ∀ a ∈ as, stepC t yesF fe (wipeE ρ vs) (f a) = .ok (some (.bl true))) :
    callF allF (consA (compV t it yesF fe vs) nilA) ρ = .ok (.dat (.bl true)) := by
  have c := comp_map (c := yesF) (fe := fe) (vs := vs) (t := t) (fun _ => true) (fun _ => D.bl true) h1 hl fun a ha => by rw [h2 a ha]; rfl
  have fl : (as.filter fun _ => true) = as := List.filter_eq_self.mpr fun _ _ => rfl
  rw [fl, List.map_const'] at c
  exact call_ok (cons_ok c nil_ok) (allF_true _)
structure CutOk (ps : List Pl) (P : List Str) : Prop where
  sub : P.Sublist (nmsOf ps)
theorem is_cut_ok {top : Nat} {ps : List Pl} {ts : List Tie} (W : WebOk top ps ts) {P : List Str} (hP : P.Sublist (nmsOf ps)) : E9.F [.dat (webD top ps ts), .dat (tD P)] = .ok (.dat (.bl true)) := by
  rw [show E9.F = defF 4 B9 from rfl]
  have hl : P.length ≤ 8 := Nat.le_trans hP.length_le (by rw [List.length_map]; exact W.le)
  have lay : Lays P := fun x hx => W.nm.lay x (hP.subset hx)
  have nd : P.Nodup := W.nm.nd.sublist hP
  have srt : (txs P).Pairwise fun a b => leD a b = true := W.nm.srt.sublist (hP.map _)
  refine def_rt (by rfl) ?_
  show outR (B9 [some _, some _, none, none]) = _
  unfold B9
  have c1 : callF allF (consA (compV (.one 2) (itF true (varB 1)) yesF (one1 (isiB .str) (varB 2)) [2]) nilA) [some (.dat (webD top ps ts)), some (.dat (tD P)), none, none] = .ok (.dat (.bl true)) :=
    comp_all (as := P) (f := D.str) (it_ok (b := .dat (tD P)) rfl rfl) (by omega) fun x hx => step_yes (ρ1 := [some (.dat (webD top ps ts)), some (.dat (tD P)), some (.dat (.str x)), none]) rfl rfl (one_ok (x := .dat (.str x)) rfl rfl) rfl
  have c2 : callF allF (consA (compV (.one 2) (itF true (varB 1)) yesF (bin2 (inB false) (varB 2) (ownF E8 (consA (varB 0) nilA))) [2]) nilA) [some (.dat (webD top ps ts)), some (.dat (tD P)), none, none] = .ok (.dat (.bl true)) :=
    comp_all (as := P) (f := D.str) (it_ok (b := .dat (tD P)) rfl rfl) (by omega) fun x hx => step_yes (ρ1 := [some (.dat (webD top ps ts)), some (.dat (tD P)), some (.dat (.str x)), none]) rfl rfl (b := .dat (.bl true)) (bin_ok (x := .dat (.str x)) (y := .dat (tD (nmsOf ps))) rfl (own_ok (bs := [.dat (webD top ps ts)]) (cons_ok (x := .dat (webD top ps ts)) rfl nil_ok) rfl (names_of_ok W) rfl) ((in_strs (lay x hx) W.nm.lay).trans (by rw [decide_eq_true (hP.subset hx)]))) rfl
  have t1 : orT (notT (testV (one1 (isiB .tuple) (varB 1)))) (notT (testV (callF allF (consA (compV (.one 2) (itF true (varB 1)) yesF (one1 (isiB .str) (varB 2)) [2]) nilA)))) [some (.dat (webD top ps ts)), some (.dat (tD P)), none, none] = .ok false :=
    or_ok (k := false) (j := false) (not_ok (k := true) (tv_ok (one_ok (x := .dat (tD P)) rfl rfl) rfl)) fun _ => not_ok (k := true) (tv_ok c1 rfl)
  refine (congrArg outR (seq_nx (ρ' := [some (.dat (webD top ps ts)), some (.dat (tD P)), none, none]) ((if_f t1).trans rfl))).trans ?_
  refine (congrArg outR (seq_nx (ρ' := [some (.dat (webD top ps ts)), some (.dat (tD P)), none, none]) ((if_f (not_ok (k := true) (tv_ok c2 rfl))).trans rfl))).trans ?_
  have ln : lenB [.dat (tD P)] = .ok (iN P.length) := len_tup.trans (by rw [List.length_map])
  have c3 : callF allF (consA (compV (.one 3) (rgF (consA (bin2 subB (callF lenB (consA (varB 1) nilA)) (litI 1)) nilA)) yesF (bin2 ltB (bin2 idxB (varB 1) (varB 3)) (bin2 idxB (varB 1) (bin2 addB (varB 3) (litI 1)))) [3]) nilA) [some (.dat (webD top ps ts)), some (.dat (tD P)), none, none] = .ok (.dat (.bl true)) := by
    refine comp_all (as := List.range (P.length - 1)) (f := fun (k : Nat) => D.int (k : Int)) (rg_ok (bs := [iI ((P.length : Int) - 1)]) (cons_ok (x := iI ((P.length : Int) - 1)) (bin_ok (x := iN P.length) (y := .dat (.int 1)) (call_ok (cons_ok (x := .dat (tD P)) rfl nil_ok) ln) rfl sub_ii) nil_ok) ((rng_1 (by omega) (by omega)).trans ?_)) (by rw [List.length_range]; omega) fun k hk => ?_
    · unfold rng
      rw [show ((P.length : Int) - 1 - 0).toNat = P.length - 1 by omega]
      exact congrArg Res.ok (List.map_congr_left fun k _ => by rw [Int.zero_add])
    · have hk' := List.mem_range.mp hk
      have h1 : k < P.length := by omega
      have h2 : k + 1 < P.length := by omega
      have i1 : idxB (.dat (tD P)) (iN k) = .ok (.dat (.str P[k])) := idx_tup (atI_map D.str (atI_nat (List.getElem?_eq_getElem h1)))
      have i2 : idxB (.dat (tD P)) (iI ((k : Int) + 1)) = .ok (.dat (.str P[k + 1])) := idx_tup (atI_map D.str (atI_nat (j := k + 1) (List.getElem?_eq_getElem h2)))
      have ne : P[k] ≠ P[k + 1] := List.pairwise_iff_getElem.mp nd k (k + 1) h1 h2 (by omega)
      have le : leD (.str P[k]) (.str P[k + 1]) = true := by
        have := List.pairwise_iff_getElem.mp srt k (k + 1) (by rw [List.length_map]; omega) (by rw [List.length_map]; omega) (by omega)
        rw [List.getElem_map, List.getElem_map] at this
        exact this
      have lt : ltB (.dat (.str P[k])) (.dat (.str P[k + 1])) = .ok (.dat (.bl true)) := by
        show Res.ok (B.dat (D.bl (decide (P[k].cps.toList < P[k + 1].cps.toList)))) = _
        rw [decide_eq_true (str_lt le ne)]
      exact step_yes (ρ1 := [some (.dat (webD top ps ts)), some (.dat (tD P)), none, some (iN k)]) rfl rfl (bin_ok (x := .dat (.str P[k])) (y := .dat (.str P[k + 1])) (bin_ok (x := .dat (tD P)) (y := iN k) rfl rfl i1) (bin_ok (x := .dat (tD P)) (y := iI ((k : Int) + 1)) rfl (bin_ok (x := iN k) (y := .dat (.int 1)) rfl rfl add_ii) i2) lt) rfl
  exact congrArg outR (ret_ok c3 rfl)
end K08
namespace K08
open PySem L2 Fn
theorem loop_fold {t : Tg} {body : Fn.Env → Out} {α β : Type} (f : α → D) (st : β → α → β) (R : β → Fn.Env → Prop) : ∀ (as : List α) {b : β} {ρ : Fn.Env}, R b ρ → (∀ a ∈ as, ∀ b ρ, R b ρ → ∃ ρ1 ρ2, bindT t (f a) ρ = some ρ1 ∧ body ρ1 = .nx ρ2 ∧ R (st b a) ρ2) →
    ∃ ρ', loopF t body (as.map f) ρ = .nx ρ' ∧ R (as.foldl st b) ρ'
  | [], b, ρ, h, _ => ⟨ρ, rfl, h⟩
  | a :: as, b, ρ, h, hs => by
    obtain ⟨ρ1, ρ2, h1, h2, h3⟩ := hs a List.mem_cons_self b ρ h
    obtain ⟨ρ', h4, h5⟩ := loop_fold f st R as h3 fun c hc => hs c (List.mem_cons_of_mem _ hc)
    refine ⟨ρ', ?_, h5⟩
    rw [List.map_cons]
    unfold loopF
    rw [h1]
    dsimp only
    rw [h2]
    exact h4
/-! ### a cut's line -/
def stP (P : List Str) (bl : Int × Int) (p : Pl) : Int × Int := if p.n ∈ P then (bl.1 + p.c, bl.2 - p.d) else (bl.1 + p.a, bl.2 + p.b)
def stT (P : List Str) (b : Int) (t : Tie) : Int := if t.1.1 ∈ P ∧ ¬ t.1.2 ∈ P then b + t.2 else b
def lineP (ps : List Pl) (P : List Str) : Int × Int := ps.foldl (stP P) (0, 0)
def lineOf (ps : List Pl) (ts : List Tie) (P : List Str) : Int × Int := (ts.foldl (stT P) (lineP ps P).1, (lineP ps P).2)
theorem inB_strs {neg : Bool} {x : Str} {xs : List Str} (hx : PyData.strOk x = true) (h : Lays xs) : inB neg (.dat (.str x)) (.dat (tD xs)) = .ok (.dat (.bl (decide (x ∈ xs) != neg))) := by
  have e := in_strs hx h
  cases neg with
  | false => rw [e, Bool.bne_false]
  | true =>
    have e' : ((inSeq (.str x) (txs xs) true).bind fun k => (.ok (.dat (.bl (k != false))) : Res B)) = .ok (.dat (.bl (decide (x ∈ xs)))) := e
    show ((inSeq (.str x) (txs xs) true).bind fun k => (.ok (.dat (.bl (k != true))) : Res B)) = _
    cases q : inSeq (.str x) (txs xs) true with
    | ok k =>
      rw [q, Res.ok_bind, Bool.bne_false] at e'
      injection e' with e'
      injection e' with e'
      injection e' with e'
      rw [Res.ok_bind, e']
    | exc c => rw [q] at e'; cases e'
    | bad => rw [q] at e'; cases e'
theorem line_of_ok {top : Nat} {ps : List Pl} {ts : List Tie} (W : WebOk top ps ts) {P : List Str} (hP : P.Sublist (nmsOf ps)) : E10.F [.dat (webD top ps ts), .dat (tD P)] = .ok (.dat (.tup [.int (lineOf ps ts P).1, .int (lineOf ps ts P).2])) := by
  rw [show E10.F = defF 15 B10 from rfl]
  have lay : Lays P := fun x hx => W.nm.lay x (hP.subset hx)
  refine def_rt (by rfl) ?_
  show outR (B10 [some _, some _, none, none, none, none, none, none, none, none, none, none, none, none, none]) = _
  unfold B10
  refine (congrArg outR (seq_nx (ρ' := [some (.dat (webD top ps ts)), some (.dat (tD P)), none, none, none, none, none, none, none, none, none, none, none, none, none]) ((if_f (not_ok (k := true) (tv_ok (own_ok (bs := [.dat (webD top ps ts), .dat (tD P)]) (cons_ok (x := .dat (webD top ps ts)) rfl (cons_ok (x := .dat (tD P)) rfl nil_ok)) rfl (is_cut_ok W hP) rfl) rfl))).trans rfl))).trans ?_
  refine (congrArg outR (seq_nx (ρ' := [some (.dat (webD top ps ts)), some (.dat (tD P)), some (iN top), some (.dat (.tup (ps.map plD))), some (.dat (.tup (ts.map tiD))), none, none, none, none, none, none, none, none, none, none]) (bind_ok (b := .dat (webD top ps ts)) rfl rfl rfl))).trans ?_
  refine (congrArg outR (seq_nx (ρ' := [some (.dat (webD top ps ts)), some (.dat (tD P)), some (iN top), some (.dat (.tup (ps.map plD))), some (.dat (.tup (ts.map tiD))), some (iI 0), none, none, none, none, none, none, none, none, none]) (set_ok rfl rfl))).trans ?_
  refine (congrArg outR (seq_nx (ρ' := [some (.dat (webD top ps ts)), some (.dat (tD P)), some (iN top), some (.dat (.tup (ps.map plD))), some (.dat (.tup (ts.map tiD))), some (iI 0), some (iI 0), none, none, none, none, none, none, none, none]) (set_ok rfl rfl))).trans ?_
  obtain ⟨ρ1, l1, r7, r8, r9, r10, r11, rfl⟩ := loop_fold (t := .many [7, 8, 9, 10, 11]) (body := B10_1) plD (stP P) (fun bl ρ => ∃ (r7 r8 r9 r10 r11 : Option B), ρ = [some (.dat (webD top ps ts)), some (.dat (tD P)), some (iN top), some (.dat (.tup (ps.map plD))), some (.dat (.tup (ts.map tiD))), some (iI bl.1), some (iI bl.2), r7, r8, r9, r10, r11, none, none, none]) ps (b := (0, 0))
    (ρ := [some (.dat (webD top ps ts)), some (.dat (tD P)), some (iN top), some (.dat (.tup (ps.map plD))), some (.dat (.tup (ts.map tiD))), some (iI 0), some (iI 0), none, none, none, none, none, none, none, none]) ⟨none, none, none, none, none, rfl⟩ (by
    rintro p hp bl ρ ⟨r7, r8, r9, r10, r11, rfl⟩
    have hn : PyData.strOk p.n = true := W.nm.lay _ (List.mem_map.mpr ⟨p, hp, rfl⟩)
    refine ⟨[some (.dat (webD top ps ts)), some (.dat (tD P)), some (iN top), some (.dat (.tup (ps.map plD))), some (.dat (.tup (ts.map tiD))), some (iI bl.1), some (iI bl.2), some (.dat (.str p.n)), some (iI p.a), some (iI p.b), some (iI p.c), some (iI p.d), none, none, none], [some (.dat (webD top ps ts)), some (.dat (tD P)), some (iN top), some (.dat (.tup (ps.map plD))), some (.dat (.tup (ts.map tiD))), some (iI (stP P bl p).1), some (iI (stP P bl p).2), some (.dat (.str p.n)), some (iI p.a), some (iI p.b), some (iI p.c), some (iI p.d), none, none, none], rfl, ?_, _, _, _, _, _, rfl⟩
    have ct : tstF (bin2 (inB false) (varB 7) (varB 1)) [some (.dat (webD top ps ts)), some (.dat (tD P)), some (iN top), some (.dat (.tup (ps.map plD))), some (.dat (.tup (ts.map tiD))), some (iI bl.1), some (iI bl.2), some (.dat (.str p.n)), some (iI p.a), some (iI p.b), some (iI p.c), some (iI p.d), none, none, none] = .ok (decide (p.n ∈ P)) := tst_ok (bin_ok (x := .dat (.str p.n)) (y := .dat (tD P)) rfl rfl (in_strs hn lay))
    unfold B10_1 stP
    by_cases m : p.n ∈ P
    · rw [decide_eq_true m] at ct
      rw [if_pos m]
      refine (if_t ct).trans ?_
      exact (seq_nx (set_ok (bin_ok (x := iI bl.1) (y := iI p.c) rfl rfl add_ii) rfl)).trans (set_ok (bin_ok (x := iI bl.2) (y := iI p.d) rfl rfl sub_ii) rfl)
    · rw [decide_eq_false m] at ct
      rw [if_neg m]
      refine (if_f ct).trans ?_
      exact (seq_nx (set_ok (bin_ok (x := iI bl.1) (y := iI p.a) rfl rfl add_ii) rfl)).trans (set_ok (bin_ok (x := iI bl.2) (y := iI p.b) rfl rfl add_ii) rfl))
  refine (congrArg outR (seq_nx ((for_ok (it_ok (b := .dat (.tup (ps.map plD))) rfl rfl)).trans l1))).trans ?_
  change outR (seqS _ _ [_, _, _, _, _, some (iI (lineP ps P).1), some (iI (lineP ps P).2), _, _, _, _, _, _, _, _]) = _
  obtain ⟨ρ2, l2, r12, r13, r14, rfl⟩ := loop_fold (t := .many [12, 13, 14]) (body := B10_2) tiD (stT P) (fun b ρ => ∃ (r12 r13 r14 : Option B), ρ = [some (.dat (webD top ps ts)), some (.dat (tD P)), some (iN top), some (.dat (.tup (ps.map plD))), some (.dat (.tup (ts.map tiD))), some (iI b), some (iI (lineP ps P).2), r7, r8, r9, r10, r11, r12, r13, r14]) ts (b := (lineP ps P).1)
    (ρ := [some (.dat (webD top ps ts)), some (.dat (tD P)), some (iN top), some (.dat (.tup (ps.map plD))), some (.dat (.tup (ts.map tiD))), some (iI (lineP ps P).1), some (iI (lineP ps P).2), r7, r8, r9, r10, r11, none, none, none]) ⟨none, none, none, rfl⟩ (by
    rintro t ht b ρ ⟨r12, r13, r14, rfl⟩
    have g := W.ti t ht
    have h1 : PyData.strOk t.1.1 = true := W.nm.lay _ g.l
    have h2 : PyData.strOk t.1.2 = true := W.nm.lay _ g.r
    refine ⟨[some (.dat (webD top ps ts)), some (.dat (tD P)), some (iN top), some (.dat (.tup (ps.map plD))), some (.dat (.tup (ts.map tiD))), some (iI b), some (iI (lineP ps P).2), r7, r8, r9, r10, r11, some (.dat (.str t.1.1)), some (.dat (.str t.1.2)), some (iI t.2)], [some (.dat (webD top ps ts)), some (.dat (tD P)), some (iN top), some (.dat (.tup (ps.map plD))), some (.dat (.tup (ts.map tiD))), some (iI (stT P b t)), some (iI (lineP ps P).2), r7, r8, r9, r10, r11, some (.dat (.str t.1.1)), some (.dat (.str t.1.2)), some (iI t.2)], rfl, ?_, _, _, _, rfl⟩
    have ct : andT (tstF (bin2 (inB false) (varB 12) (varB 1))) (tstF (bin2 (inB true) (varB 13) (varB 1))) [some (.dat (webD top ps ts)), some (.dat (tD P)), some (iN top), some (.dat (.tup (ps.map plD))), some (.dat (.tup (ts.map tiD))), some (iI b), some (iI (lineP ps P).2), r7, r8, r9, r10, r11, some (.dat (.str t.1.1)), some (.dat (.str t.1.2)), some (iI t.2)] = .ok (decide (t.1.1 ∈ P) && (decide (t.1.2 ∈ P) != true)) :=
      and_ok (tst_ok (bin_ok (x := .dat (.str t.1.1)) (y := .dat (tD P)) rfl rfl (in_strs h1 lay))) fun _ => tst_ok (bin_ok (x := .dat (.str t.1.2)) (y := .dat (tD P)) rfl rfl (inB_strs h2 lay))
    unfold B10_2 stT
    by_cases m : t.1.1 ∈ P ∧ ¬ t.1.2 ∈ P
    · rw [decide_eq_true m.1, decide_eq_false m.2] at ct
      rw [if_pos m]
      exact (if_t ct).trans (set_ok (bin_ok (x := iI b) (y := iI t.2) rfl rfl add_ii) rfl)
    · have z : (decide (t.1.1 ∈ P) && (decide (t.1.2 ∈ P) != true)) = false := by
        by_cases m1 : t.1.1 ∈ P
        · have m2 : t.1.2 ∈ P := Classical.byContradiction fun q => m ⟨m1, q⟩
          rw [decide_eq_true m1, decide_eq_true m2]
          rfl
        · rw [decide_eq_false m1]
          rfl
      rw [z] at ct
      rw [if_neg m]
      exact (if_f ct).trans rfl)
  refine (congrArg outR (seq_nx ((for_ok (it_ok (b := .dat (.tup (ts.map tiD))) rfl rfl)).trans l2))).trans ?_
  exact congrArg outR (ret_ok (call_ok (cons_ok (x := iI (ts.foldl (stT P) (lineP ps P).1)) rfl (cons_ok (x := iI (lineP ps P).2) rfl nil_ok)) tupB2) rfl)
end K08
namespace K08
open PySem L2 Fn
/-! ### prices -/
structure Pr (top : Nat) (p : Fr) : Prop where
  low : Low p
  n0 : 0 ≤ p.1
  le : p.1 ≤ (top : Int) * (p.2 : Int)
  d : p.2 < 2 ^ 40
theorem Pr.sml {top : Nat} {p : Fr} (h : Pr top p) (t9 : top ≤ 9) : Sml p := by
  have h1 := h.le
  have h2 := h.d
  have h3 := h.n0
  have : (top : Int) * (p.2 : Int) ≤ 9 * (p.2 : Int) := Int.mul_le_mul_of_nonneg_right (by omega) (by omega)
  exact ⟨by omega, by omega⟩
theorem and_v {fa fb : Fn.Env → Res B} {ρ : Fn.Env} (h1 : fa ρ = .ok (.dat (.bl true))) {b : B} (h2 : fb ρ = .ok b) : andV fa fb ρ = .ok b := by
  unfold andV
  rw [h1, Res.ok_bind]
  exact h2
theorem whole_ok (n : Int) : E16.F [iI n] = .ok (.dat (.bl true)) := by
  rw [show E16.F = defF 1 B16 from rfl]
  refine def_rt (by rfl) ?_
  show outR (B16 [some _]) = _
  unfold B16
  have w1 : one1 (isiB .int) (varB 0) [some (iI n)] = .ok (.dat (.bl true)) := one_ok (x := iI n) rfl rfl
  have w2 : one1 (isiB .bool) (varB 0) [some (iI n)] = .ok (.dat (.bl false)) := one_ok (x := iI n) rfl rfl
  have w3 : one1 notB (one1 (isiB .bool) (varB 0)) [some (iI n)] = .ok (.dat (.bl true)) := one_ok w2 rfl
  exact congrArg outR (ret_ok (and_v w1 w3) rfl)
theorem is_fraction_ok {p : Fr} (h : Low p) : E17.F [.dat (frD p)] = .ok (.dat (.bl true)) := by
  rw [show E17.F = defF 1 B17 from rfl]
  refine def_rt (by rfl) ?_
  show outR (B17 [some _]) = _
  unfold B17
  have w1 : ownF E16 (consA (bin2 idxB (varB 0) (litI 0)) nilA) [some (.dat (frD p))] = .ok (.dat (.bl true)) := own_ok (bs := [iI p.1]) (cons_ok (x := iI p.1) (bin_ok (x := .dat (frD p)) (y := .dat (.int 0)) rfl rfl (fr_i0 p)) nil_ok) rfl (whole_ok _) rfl
  have w2 : ownF E16 (consA (bin2 idxB (varB 0) (litI 1)) nilA) [some (.dat (frD p))] = .ok (.dat (.bl true)) := own_ok (bs := [iN p.2]) (cons_ok (x := iN p.2) (bin_ok (x := .dat (frD p)) (y := .dat (.int 1)) rfl rfl (fr_i1 p)) nil_ok) rfl (whole_ok _) rfl
  have w3 : tstF (bin2 neB (callF lenB (consA (varB 0) nilA)) (litI 2)) [some (.dat (frD p))] = .ok false := tst_ok (bin_ok (x := .dat (.int 2)) (y := .dat (.int 2)) (call_ok (cons_ok (x := .dat (frD p)) rfl nil_ok) len_tup) rfl (ne_ii.trans (by rw [decide_eq_true rfl]; rfl)))
  have ct : orT (notT (testV (one1 (isiB .tuple) (varB 0)))) (orT (tstF (bin2 neB (callF lenB (consA (varB 0) nilA)) (litI 2))) (orT (notT (testV (ownF E16 (consA (bin2 idxB (varB 0) (litI 0)) nilA)))) (notT (testV (ownF E16 (consA (bin2 idxB (varB 0) (litI 1)) nilA)))))) [some (.dat (frD p))] = .ok false :=
    or_ok (k := false) (j := false) (not_ok (k := true) (tv_ok (one_ok (x := .dat (frD p)) rfl rfl) rfl)) fun _ => or_ok (k := false) (j := false) w3 fun _ => or_ok (k := false) (j := false) (not_ok (k := true) (tv_ok w1 rfl)) fun _ => not_ok (k := true) (tv_ok w2 rfl)
  refine (congrArg outR (seq_nx (ρ' := [some (.dat (frD p))]) ((if_f ct).trans rfl))).trans ?_
  have e1 : gI p.1 p.2 = 1 := h.low
  have g1 : bin2 gtF (bin2 idxB (varB 0) (litI 1)) (litI 0) [some (.dat (frD p))] = .ok (.dat (.bl true)) := bin_ok (x := iN p.2) (y := .dat (.int 0)) (bin_ok (x := .dat (frD p)) (y := .dat (.int 1)) rfl rfl (fr_i1 p)) rfl (gt_ii.trans (by rw [decide_eq_true (by have := h.pos; omega)]))
  have g2 : bin2 eqB (ownF E11 (consA (bin2 idxB (varB 0) (litI 0)) (consA (bin2 idxB (varB 0) (litI 1)) nilA))) (litI 1) [some (.dat (frD p))] = .ok (.dat (.bl true)) := bin_ok (x := iN (gI p.1 p.2)) (y := .dat (.int 1)) (own_ok (bs := [iI p.1, iN p.2]) (cons_ok (x := iI p.1) (bin_ok (x := .dat (frD p)) (y := .dat (.int 0)) rfl rfl (fr_i0 p)) (cons_ok (x := iN p.2) (bin_ok (x := .dat (frD p)) (y := .dat (.int 1)) rfl rfl (fr_i1 p)) nil_ok)) rfl (gcd_ok _ _) rfl) rfl (eq_ii.trans (by rw [e1]; rfl))
  exact congrArg outR (ret_ok (and_v g1 g2) rfl)
theorem is_price_ok {top : Nat} {ps : List Pl} {ts : List Tie} (W : WebOk top ps ts) {p : Fr} (h : Pr top p) : E19.F [.dat (webD top ps ts), .dat (frD p)] = .ok (.dat (.bl true)) := by
  rw [show E19.F = defF 2 B19 from rfl]
  refine def_rt (by rfl) ?_
  show outR (B19 [some _, some _]) = _
  unfold B19
  have sp := h.sml W.t9
  have t9 := W.t9
  refine (congrArg outR (seq_nx (ρ' := [some (.dat (webD top ps ts)), some (.dat (frD p))]) ((if_f (not_ok (k := true) (tv_ok (own_ok (bs := [.dat (frD p)]) (cons_ok (x := .dat (frD p)) rfl nil_ok) rfl (is_fraction_ok h.low) rfl) rfl))).trans rfl))).trans ?_
  have b1 : E18.F [.dat (frD p), .dat (.ctup [.int 0, .int 1])] = .ok (.dat (.bl false)) := (below_ok (p := p) (q := (0, 1)) sp ⟨by decide, by decide⟩ rfl (.inr rfl)).trans (by rw [decide_eq_false (by have := h.n0; show ¬ p.1 * 1 < 0 * (p.2 : Int); omega)])
  have b2 : E18.F [.dat (frD ((top : Int), 1)), .dat (frD p)] = .ok (.dat (.bl false)) := (below_ok (p := ((top : Int), 1)) (q := p) ⟨by show Int.natAbs (top : Int) < 2 ^ 60; omega, by show 1 < 2 ^ 60; decide⟩ sp rfl (.inl rfl)).trans (by rw [decide_eq_false (by have := h.le; show ¬ (top : Int) * (p.2 : Int) < p.1 * 1; omega)])
  have o1 : ownF E18 (consA (varB 1) (consA (litD (.ctup [.int 0, .int 1])) nilA)) [some (.dat (webD top ps ts)), some (.dat (frD p))] = .ok (.dat (.bl false)) := own_ok (bs := [.dat (frD p), .dat (.ctup [.int 0, .int 1])]) (cons_ok (x := .dat (frD p)) rfl (cons_ok (x := .dat (.ctup [.int 0, .int 1])) rfl nil_ok)) rfl b1 rfl
  have tt : callF tupB (consA (bin2 idxB (varB 0) (litI 0)) (consA (litI 1) nilA)) [some (.dat (webD top ps ts)), some (.dat (frD p))] = .ok (.dat (frD ((top : Int), 1))) := call_ok (cons_ok (x := iN top) (bin_ok (x := .dat (webD top ps ts)) (y := .dat (.int 0)) rfl rfl rfl) (cons_ok (x := .dat (.int 1)) rfl nil_ok)) tupB2
  have o2 : ownF E18 (consA (callF tupB (consA (bin2 idxB (varB 0) (litI 0)) (consA (litI 1) nilA))) (consA (varB 1) nilA)) [some (.dat (webD top ps ts)), some (.dat (frD p))] = .ok (.dat (.bl false)) := own_ok (bs := [.dat (frD ((top : Int), 1)), .dat (frD p)]) (cons_ok tt (cons_ok (x := .dat (frD p)) rfl nil_ok)) rfl b2 rfl
  have n1 : one1 notB (ownF E18 (consA (varB 1) (consA (litD (.ctup [.int 0, .int 1])) nilA))) [some (.dat (webD top ps ts)), some (.dat (frD p))] = .ok (.dat (.bl true)) := one_ok o1 rfl
  have n2 : one1 notB (ownF E18 (consA (callF tupB (consA (bin2 idxB (varB 0) (litI 0)) (consA (litI 1) nilA))) (consA (varB 1) nilA))) [some (.dat (webD top ps ts)), some (.dat (frD p))] = .ok (.dat (.bl true)) := one_ok o2 rfl
  exact congrArg outR (ret_ok (and_v n1 n2) rfl)
end K08
namespace K08
open PySem L2 Fn
theorem mk_sml {t : Int} {b : Nat} (hb : 0 < b) (ht : t.natAbs < 2 ^ 60) (hb2 : b < 2 ^ 60) : Sml (mk t b) := by
  obtain ⟨h1, h2⟩ := mk_val (t := t) hb
  have g := gI_pos (t := t) hb
  refine ⟨?_, ?_⟩
  · have := congrArg Int.natAbs h1
    rw [Int.natAbs_mul, Int.natAbs_natCast] at this
    have le : (mk t b).1.natAbs ≤ (mk t b).1.natAbs * gI t b := Nat.le_mul_of_pos_right _ g
    omega
  · have le : (mk t b).2 ≤ (mk t b).2 * gI t b := Nat.le_mul_of_pos_right _ g
    omega
theorem one_sml {x : Int} (h : x.natAbs < 2 ^ 60) : Sml ((x, 1) : Fr) := ⟨h, by show 1 < 2 ^ 60; decide⟩
section
variable {top : Nat} {p : Fr}
theorem yn_sz (h : Pr top p) (t9 : top ≤ 9) {y : Int} (hy : y.natAbs < 2 ^ 15) : (y * p.1).natAbs < 2 ^ 60 := by
  have s1 : p.1.natAbs < 2 ^ 44 := by
    have h1 := h.le
    have h2 := h.d
    have h3 := h.n0
    have : (top : Int) * (p.2 : Int) ≤ 9 * (p.2 : Int) := Int.mul_le_mul_of_nonneg_right (by omega) (by omega)
    omega
  rw [Int.natAbs_mul]
  have : y.natAbs * p.1.natAbs ≤ 2 ^ 15 * 2 ^ 44 := Nat.mul_le_mul (by omega) (by omega)
  have e : (2 : Nat) ^ 15 * 2 ^ 44 < 2 ^ 60 := by decide
  omega
/-- y times the price -/
theorem mk_y (h : Pr top p) (y : Int) : mk (y * p.1) (1 * p.2) = mk (y * p.1) p.2 := by rw [Nat.one_mul]
/-- x and y times the price -/
theorem mk_lin (h : Pr top p) (x y : Int) : mk (x * ((mk (y * p.1) p.2).2 : Int) + (mk (y * p.1) p.2).1 * ((1 : Nat) : Int)) (1 * (mk (y * p.1) p.2).2) = mk (x * (p.2 : Int) + y * p.1) p.2 := by
  have d := h.low.pos
  have e := mk_plus (s := x) (t := y * p.1) (b := 1) (c := p.2) (by omega) d
  rw [mk_one] at e
  refine e.trans ?_
  refine mk_mk (Nat.mul_pos (by omega) d) d ?_
  rw [Nat.one_mul]
  simp
theorem mk_linM (h : Pr top p) (x y : Int) : mk (x * ((mk (y * p.1) p.2).2 : Int) - (mk (y * p.1) p.2).1 * ((1 : Nat) : Int)) (1 * (mk (y * p.1) p.2).2) = mk (x * (p.2 : Int) - y * p.1) p.2 := by
  have d := h.low.pos
  obtain ⟨h1, h2⟩ := mk_val (t := y * p.1) d
  have g := gI_pos (t := y * p.1) d
  have p1 := (mk_low (t := y * p.1) d).pos
  refine mk_mk (by rw [Nat.one_mul]; exact p1) d ?_
  generalize y * p.1 = t at *
  generalize (gI t p.2) = k at *
  generalize mk t p.2 = q at *
  rw [← h1, ← h2, Nat.one_mul]
  simp only [Int.natCast_mul, Int.sub_mul, Int.mul_sub, Int.mul_assoc, Int.mul_left_comm, Int.mul_comm, Int.natCast_one, Int.one_mul, Int.mul_one]
theorem tim_ok (h : Pr top p) (t9 : top ≤ 9) {y : Int} (hy : y.natAbs < 2 ^ 15) : E14.F [.dat (frD (y, 1)), .dat (frD p)] = .ok (.dat (frD (mk (y * p.1) p.2))) := by
  have e := times_ok (p := (y, 1)) (q := p) (one_sml (by omega)) (h.sml t9) Nat.zero_lt_one h.low.pos
  rw [mk_y h y] at e
  exact e
theorem ltim_ok (h : Pr top p) (t9 : top ≤ 9) {y : Int} (hy : y.natAbs < 2 ^ 15) : E22.F [.dat (frD (y, 1)), .dat (frD p)] = .ok (.dat (frD (mk (y * p.1) p.2))) := by
  have e := ltimes_ok (p := (y, 1)) (q := p) (one_sml (by omega)) (h.sml t9) Nat.zero_lt_one h.low.pos
  rw [mk_y h y] at e
  exact e
theorem lin_ok (h : Pr top p) (t9 : top ≤ 9) {x y : Int} (hx : x.natAbs < 2 ^ 20) (hy : y.natAbs < 2 ^ 15) : E13.F [.dat (frD (x, 1)), .dat (frD (mk (y * p.1) p.2))] = .ok (.dat (frD (mk (x * (p.2 : Int) + y * p.1) p.2))) := by
  have d := h.low.pos
  have e := plus_ok (p := (x, 1)) (q := mk (y * p.1) p.2) (one_sml (by omega)) (mk_sml d (yn_sz h t9 hy) (by have := h.d; omega)) Nat.zero_lt_one (mk_low d).pos
  rw [show mk (x * ((mk (y * p.1) p.2).2 : Int) + (mk (y * p.1) p.2).1 * (((x, 1) : Fr).2 : Int)) (((x, 1) : Fr).2 * (mk (y * p.1) p.2).2) = mk (x * (p.2 : Int) + y * p.1) p.2 from mk_lin h x y] at e
  exact e
theorem llin_ok (h : Pr top p) (t9 : top ≤ 9) {x y : Int} (hx : x.natAbs < 2 ^ 20) (hy : y.natAbs < 2 ^ 15) : E21.F [.dat (frD (x, 1)), .dat (frD (mk (y * p.1) p.2))] = .ok (.dat (frD (mk (x * (p.2 : Int) + y * p.1) p.2))) := by
  have d := h.low.pos
  have e := lplus_ok (p := (x, 1)) (q := mk (y * p.1) p.2) (one_sml (by omega)) (mk_sml d (yn_sz h t9 hy) (by have := h.d; omega)) Nat.zero_lt_one (mk_low d).pos
  rw [show mk (x * ((mk (y * p.1) p.2).2 : Int) + (mk (y * p.1) p.2).1 * (((x, 1) : Fr).2 : Int)) (((x, 1) : Fr).2 * (mk (y * p.1) p.2).2) = mk (x * (p.2 : Int) + y * p.1) p.2 from mk_lin h x y] at e
  exact e
theorem linM_ok (h : Pr top p) (t9 : top ≤ 9) {x y : Int} (hx : x.natAbs < 2 ^ 20) (hy : y.natAbs < 2 ^ 15) : E26.F [.dat (frD (x, 1)), .dat (frD (mk (y * p.1) p.2))] = .ok (.dat (frD (mk (x * (p.2 : Int) - y * p.1) p.2))) := by
  have d := h.low.pos
  have e := minus_ok (p := (x, 1)) (q := mk (y * p.1) p.2) (one_sml (by omega)) (mk_sml d (yn_sz h t9 hy) (by have := h.d; omega)) Nat.zero_lt_one (mk_low d).pos
  rw [show mk (x * ((mk (y * p.1) p.2).2 : Int) - (mk (y * p.1) p.2).1 * (((x, 1) : Fr).2 : Int)) (((x, 1) : Fr).2 * (mk (y * p.1) p.2).2) = mk (x * (p.2 : Int) - y * p.1) p.2 from mk_linM h x y] at e
  exact e
/-- sums over one bottom -/
theorem lsum_ok {d : Nat} (hd : 0 < d) (hd2 : d < 2 ^ 40) {s t : Int} (hs : s.natAbs < 2 ^ 60) (ht : t.natAbs < 2 ^ 60) : E21.F [.dat (frD (mk s d)), .dat (frD (mk t d))] = .ok (.dat (frD (mk (s + t) d))) := by
  have e := lplus_ok (mk_sml (t := s) hd hs (by omega)) (mk_sml (t := t) hd ht (by omega)) (mk_low hd).pos (mk_low hd).pos
  rw [mk_plus hd hd, mk_same hd] at e
  exact e
end
end K08
namespace K08
open PySem L2 Fn
theorem frac1 (x : Int) : E12.F [iI x, .dat (.int 1)] = .ok (.dat (frD (x, 1))) := by
  have e := fraction_ok x 1 (by omega) (by decide)
  rw [mk_one] at e
  exact e
section
variable {top : Nat} {ps : List Pl} {ts : List Tie} {p : Fr}
theorem lineP_sz (P : List Str) : ∀ (ps : List Pl) (bl : Int × Int) (k : Nat), (∀ q ∈ ps, PlOk top q) → bl.1.natAbs ≤ 1000 * k → bl.2.natAbs ≤ 100 * k → (ps.foldl (stP P) bl).1.natAbs ≤ 1000 * (k + ps.length) ∧ (ps.foldl (stP P) bl).2.natAbs ≤ 100 * (k + ps.length)
  | [], bl, k, _, h1, h2 => ⟨h1, h2⟩
  | q :: ps, bl, k, hp, h1, h2 => by
    have g := hp q List.mem_cons_self
    have a0 := g.a0
    have a1 := g.a1
    have b0 := g.b0
    have b1 := g.b1
    have c1 := g.c1
    have d0 := g.d0
    have d1 := g.d1
    have c0 : 0 ≤ q.c := Int.le_trans (Int.mul_nonneg d0 (by omega)) g.c0
    have ih := lineP_sz P ps (stP P bl q) (k + 1) (fun r hr => hp r (List.mem_cons_of_mem _ hr)) (by unfold stP; split <;> (show Int.natAbs (_ + _) ≤ _; omega)) (by
      unfold stP
      split
      · show Int.natAbs (bl.2 - q.d) ≤ _; omega
      · show Int.natAbs (bl.2 + q.b) ≤ _; omega)
    rw [List.foldl_cons, List.length_cons]
    omega
theorem lineT_sz {ns : List Str} (P : List Str) : ∀ (ts : List Tie) (b : Int) (k : Nat), (∀ t ∈ ts, Tgood ns t) → b.natAbs ≤ 1000 * k → (ts.foldl (stT P) b).natAbs ≤ 1000 * (k + ts.length)
  | [], b, k, _, h => h
  | t :: ts, b, k, ht, h => by
    have g := ht t List.mem_cons_self
    have lo := g.lo
    have hi := g.hi
    have ih := lineT_sz P ts (stT P b t) (k + 1) (fun r hr => ht r (List.mem_cons_of_mem _ hr)) (by unfold stT; split <;> omega)
    rw [List.foldl_cons, List.length_cons]
    omega
theorem line_sz (W : WebOk top ps ts) (P : List Str) : (lineOf ps ts P).1.natAbs < 2 ^ 20 ∧ (lineOf ps ts P).2.natAbs < 2 ^ 15 := by
  have h1 := lineP_sz (top := top) P ps (0, 0) 0 W.pl (by decide) (by decide)
  have h2 := lineT_sz P ts (lineP ps P).1 8 W.ti (by have := W.le; have := h1.1; show (ps.foldl (stP P) (0, 0)).1.natAbs ≤ _; omega)
  have := W.le
  have := W.few
  refine ⟨?_, ?_⟩
  · show (ts.foldl (stT P) (lineP ps P).1).natAbs < _; omega
  · show (ps.foldl (stP P) (0, 0)).2.natAbs < _; omega
theorem line_at_ok (h : Pr top p) (t9 : top ≤ 9) {x y : Int} (hx : x.natAbs < 2 ^ 20) (hy : y.natAbs < 2 ^ 15) : E15.F [.dat (.tup [.int x, .int y]), .dat (frD p)] = .ok (.dat (frD (mk (x * (p.2 : Int) + y * p.1) p.2))) := by
  rw [show E15.F = defF 4 B15 from rfl]
  refine def_rt (by rfl) ?_
  show outR (B15 [some _, some _, none, none]) = _
  unfold B15
  refine (congrArg outR (seq_nx (ρ' := [some (.dat (.tup [.int x, .int y])), some (.dat (frD p)), some (iI x), some (iI y)]) (bind_ok (b := .dat (.tup [.int x, .int y])) rfl rfl rfl))).trans ?_
  have f1 : ownF E12 (consA (varB 2) (consA (litI 1) nilA)) [some (.dat (.tup [.int x, .int y])), some (.dat (frD p)), some (iI x), some (iI y)] = .ok (.dat (frD (x, 1))) := own_ok (bs := [iI x, .dat (.int 1)]) (cons_ok (x := iI x) rfl (cons_ok (x := .dat (.int 1)) rfl nil_ok)) rfl (frac1 x) rfl
  have f2 : ownF E12 (consA (varB 3) (consA (litI 1) nilA)) [some (.dat (.tup [.int x, .int y])), some (.dat (frD p)), some (iI x), some (iI y)] = .ok (.dat (frD (y, 1))) := own_ok (bs := [iI y, .dat (.int 1)]) (cons_ok (x := iI y) rfl (cons_ok (x := .dat (.int 1)) rfl nil_ok)) rfl (frac1 y) rfl
  have f3 : ownF E14 (consA (ownF E12 (consA (varB 3) (consA (litI 1) nilA))) (consA (varB 1) nilA)) [some (.dat (.tup [.int x, .int y])), some (.dat (frD p)), some (iI x), some (iI y)] = .ok (.dat (frD (mk (y * p.1) p.2))) := own_ok (bs := [.dat (frD (y, 1)), .dat (frD p)]) (cons_ok f2 (cons_ok (x := .dat (frD p)) rfl nil_ok)) rfl (tim_ok h t9 hy) rfl
  exact congrArg outR (ret_ok (own_ok (bs := [.dat (frD (x, 1)), .dat (frD (mk (y * p.1) p.2))]) (cons_ok f1 (cons_ok f3 nil_ok)) rfl (lin_ok h t9 hx hy) rfl) rfl)
/-- what a cut is worth -/
def worthF (ps : List Pl) (ts : List Tie) (P : List Str) (p : Fr) : Fr := mk ((lineOf ps ts P).1 * (p.2 : Int) + (lineOf ps ts P).2 * p.1) p.2
theorem worth_of_ok (W : WebOk top ps ts) {P : List Str} (hP : P.Sublist (nmsOf ps)) (h : Pr top p) : E20.F [.dat (webD top ps ts), .dat (tD P), .dat (frD p)] = .ok (.dat (frD (worthF ps ts P p))) := by
  rw [show E20.F = defF 4 B20 from rfl]
  have sz := line_sz W P
  refine def_rt (by rfl) ?_
  show outR (B20 [some _, some _, some _, none]) = _
  unfold B20
  refine (congrArg outR (seq_nx (ρ' := [some (.dat (webD top ps ts)), some (.dat (tD P)), some (.dat (frD p)), some (.dat (.tup [.int (lineOf ps ts P).1, .int (lineOf ps ts P).2]))]) (set_ok (own_ok (bs := [.dat (webD top ps ts), .dat (tD P)]) (cons_ok (x := .dat (webD top ps ts)) rfl (cons_ok (x := .dat (tD P)) rfl nil_ok)) rfl (line_of_ok W hP) rfl) rfl))).trans ?_
  have ip : ownF E19 (consA (varB 0) (consA (varB 2) nilA)) [some (.dat (webD top ps ts)), some (.dat (tD P)), some (.dat (frD p)), some (.dat (.tup [.int (lineOf ps ts P).1, .int (lineOf ps ts P).2]))] = .ok (.dat (.bl true)) := own_ok (bs := [.dat (webD top ps ts), .dat (frD p)]) (cons_ok (x := .dat (webD top ps ts)) rfl (cons_ok (x := .dat (frD p)) rfl nil_ok)) rfl (is_price_ok W h) rfl
  refine (congrArg outR (seq_nx (ρ' := [some (.dat (webD top ps ts)), some (.dat (tD P)), some (.dat (frD p)), some (.dat (.tup [.int (lineOf ps ts P).1, .int (lineOf ps ts P).2]))]) ((if_f (not_ok (k := true) (tv_ok ip rfl))).trans rfl))).trans ?_
  exact congrArg outR (ret_ok (own_ok (bs := [.dat (.tup [.int (lineOf ps ts P).1, .int (lineOf ps ts P).2]), .dat (frD p)]) (cons_ok (x := .dat (.tup [.int (lineOf ps ts P).1, .int (lineOf ps ts P).2])) rfl (cons_ok (x := .dat (frD p)) rfl nil_ok)) rfl (line_at_ok h W.t9 sz.1 sz.2) rfl) rfl)
end
end K08
namespace K08
open PySem L2 Fn
def inF (p : Fr) (q : Pl) : Fr := mk (q.a * (p.2 : Int) + q.b * p.1) p.2
def outF (p : Fr) (q : Pl) : Fr := mk (q.c * (p.2 : Int) + (0 - q.d) * p.1) p.2
abbrev sizesD (ps : List Pl) (ts : List Tie) (p : Fr) : D := .tup [.tup (ps.map fun q => frD (inF p q)), .tup (ts.map fun t => frD (t.2, 1)), .tup (ps.map fun q => frD (outF p q))]
section
variable {top : Nat} {ps : List Pl} {ts : List Tie} {p : Fr}
structure PlSz (q : Pl) : Prop where
  a : q.a.natAbs < 2 ^ 15
  b : q.b.natAbs < 2 ^ 15
  c : q.c.natAbs < 2 ^ 15
  d : q.d.natAbs < 2 ^ 15
theorem PlOk.sz {q : Pl} (g : PlOk top q) : PlSz q := by
  have a0 := g.a0
  have a1 := g.a1
  have b0 := g.b0
  have b1 := g.b1
  have c1 := g.c1
  have d0 := g.d0
  have d1 := g.d1
  have c0 : 0 ≤ q.c := Int.le_trans (Int.mul_nonneg d0 (by omega)) g.c0
  exact ⟨by omega, by omega, by omega, by omega⟩
theorem filter_true {α : Type} (xs : List α) : (xs.filter fun _ => true) = xs := List.filter_eq_self.mpr fun _ _ => rfl
theorem lsizes_ok (W : WebOk top ps ts) (h : Pr top p) : E23.F [.dat (webD top ps ts), .dat (frD p)] = .ok (.dat (sizesD ps ts p)) := by
  rw [show E23.F = defF 12 B23 from rfl]
  have pl := W.le
  have tl := W.few
  refine def_rt (by rfl) ?_
  show outR (B23 [some _, some _, none, none, none, none, none, none, none, none, none, none]) = _
  unfold B23
  have c1 : compV (.many [4, 5, 6, 7, 8]) (itF true (bin2 idxB (varB 0) (litI 1))) yesF (ownF E21 (consA (callF tupB (consA (varB 5) (consA (litI 1) nilA))) (consA (ownF E22 (consA (callF tupB (consA (varB 6) (consA (litI 1) nilA))) (consA (varB 1) nilA))) nilA))) [4, 5, 6, 7, 8] [some (.dat (webD top ps ts)), some (.dat (frD p)), none, none, none, none, none, none, none, none, none, none] = .ok (.own (.l ((ps.filter fun _ => true).map fun q => frD (inF p q)))) := by
    refine comp_map (f := plD) (fun _ => true) (fun q => frD (inF p q)) (it_ok (bin_ok (x := .dat (webD top ps ts)) (y := .dat (.int 1)) rfl rfl rfl) rfl) (by omega) fun q hq => ?_
    have s := (W.pl q hq).sz
    have t1 : ownF E22 (consA (callF tupB (consA (varB 6) (consA (litI 1) nilA))) (consA (varB 1) nilA)) [some (.dat (webD top ps ts)), some (.dat (frD p)), none, none, some (.dat (.str q.n)), some (iI q.a), some (iI q.b), some (iI q.c), some (iI q.d), none, none, none] = .ok (.dat (frD (mk (q.b * p.1) p.2))) :=
      own_ok (bs := [.dat (frD (q.b, 1)), .dat (frD p)]) (cons_ok (x := .dat (frD (q.b, 1))) (call_ok (cons_ok (x := iI q.b) rfl (cons_ok (x := .dat (.int 1)) rfl nil_ok)) tupB2) (cons_ok (x := .dat (frD p)) rfl nil_ok)) rfl (ltim_ok h W.t9 s.b) rfl
    exact step_yes (ρ1 := [some (.dat (webD top ps ts)), some (.dat (frD p)), none, none, some (.dat (.str q.n)), some (iI q.a), some (iI q.b), some (iI q.c), some (iI q.d), none, none, none]) rfl rfl (own_ok (bs := [.dat (frD (q.a, 1)), .dat (frD (mk (q.b * p.1) p.2))]) (cons_ok (x := .dat (frD (q.a, 1))) (call_ok (cons_ok (x := iI q.a) rfl (cons_ok (x := .dat (.int 1)) rfl nil_ok)) tupB2) (cons_ok t1 nil_ok)) rfl (llin_ok h W.t9 (by have := s.a; omega) s.b) rfl) rfl
  have c2 : compV (.many [4, 5, 6, 7, 8]) (itF true (bin2 idxB (varB 0) (litI 1))) yesF (ownF E21 (consA (callF tupB (consA (varB 7) (consA (litI 1) nilA))) (consA (ownF E22 (consA (callF tupB (consA (bin2 subB (litI 0) (varB 8)) (consA (litI 1) nilA))) (consA (varB 1) nilA))) nilA))) [4, 5, 6, 7, 8] [some (.dat (webD top ps ts)), some (.dat (frD p)), some (.dat (.tup (ps.map fun q => frD (inF p q)))), none, none, none, none, none, none, none, none, none] = .ok (.own (.l ((ps.filter fun _ => true).map fun q => frD (outF p q)))) := by
    refine comp_map (f := plD) (fun _ => true) (fun q => frD (outF p q)) (it_ok (bin_ok (x := .dat (webD top ps ts)) (y := .dat (.int 1)) rfl rfl rfl) rfl) (by omega) fun q hq => ?_
    have s := (W.pl q hq).sz
    have t1 : ownF E22 (consA (callF tupB (consA (bin2 subB (litI 0) (varB 8)) (consA (litI 1) nilA))) (consA (varB 1) nilA)) [some (.dat (webD top ps ts)), some (.dat (frD p)), some (.dat (.tup (ps.map fun q => frD (inF p q)))), none, some (.dat (.str q.n)), some (iI q.a), some (iI q.b), some (iI q.c), some (iI q.d), none, none, none] = .ok (.dat (frD (mk ((0 - q.d) * p.1) p.2))) :=
      own_ok (bs := [.dat (frD (0 - q.d, 1)), .dat (frD p)]) (cons_ok (x := .dat (frD (0 - q.d, 1))) (call_ok (cons_ok (x := iI (0 - q.d)) (bin_ok (x := .dat (.int 0)) (y := iI q.d) rfl rfl sub_ii) (cons_ok (x := .dat (.int 1)) rfl nil_ok)) tupB2) (cons_ok (x := .dat (frD p)) rfl nil_ok)) rfl (ltim_ok h W.t9 (by have := s.d; omega)) rfl
    exact step_yes (ρ1 := [some (.dat (webD top ps ts)), some (.dat (frD p)), some (.dat (.tup (ps.map fun q => frD (inF p q)))), none, some (.dat (.str q.n)), some (iI q.a), some (iI q.b), some (iI q.c), some (iI q.d), none, none, none]) rfl rfl (own_ok (bs := [.dat (frD (q.c, 1)), .dat (frD (mk ((0 - q.d) * p.1) p.2))]) (cons_ok (x := .dat (frD (q.c, 1))) (call_ok (cons_ok (x := iI q.c) rfl (cons_ok (x := .dat (.int 1)) rfl nil_ok)) tupB2) (cons_ok t1 nil_ok)) rfl (llin_ok h W.t9 (by have := s.c; omega) (by have := s.d; omega)) rfl) rfl
  rw [filter_true] at c1 c2
  refine (congrArg outR (seq_nx (ρ' := [some (.dat (webD top ps ts)), some (.dat (frD p)), some (.dat (.tup (ps.map fun q => frD (inF p q)))), none, none, none, none, none, none, none, none, none]) (set_ok (call_ok (cons_ok c1 nil_ok) rfl) rfl))).trans ?_
  refine (congrArg outR (seq_nx (ρ' := [some (.dat (webD top ps ts)), some (.dat (frD p)), some (.dat (.tup (ps.map fun q => frD (inF p q)))), some (.dat (.tup (ps.map fun q => frD (outF p q)))), none, none, none, none, none, none, none, none]) (set_ok (call_ok (cons_ok c2 nil_ok) rfl) rfl))).trans ?_
  have c3 : compV (.many [9, 10, 11]) (itF true (bin2 idxB (varB 0) (litI 2))) yesF (callF tupB (consA (varB 11) (consA (litI 1) nilA))) [9, 10, 11] [some (.dat (webD top ps ts)), some (.dat (frD p)), some (.dat (.tup (ps.map fun q => frD (inF p q)))), some (.dat (.tup (ps.map fun q => frD (outF p q)))), none, none, none, none, none, none, none, none] = .ok (.own (.l ((ts.filter fun _ => true).map fun t => frD (t.2, 1)))) := by
    refine comp_map (f := tiD) (fun _ => true) (fun t => frD (t.2, 1)) (it_ok (bin_ok (x := .dat (webD top ps ts)) (y := .dat (.int 2)) rfl rfl rfl) rfl) (by omega) fun t ht => ?_
    exact step_yes (ρ1 := [some (.dat (webD top ps ts)), some (.dat (frD p)), some (.dat (.tup (ps.map fun q => frD (inF p q)))), some (.dat (.tup (ps.map fun q => frD (outF p q)))), none, none, none, none, none, some (.dat (.str t.1.1)), some (.dat (.str t.1.2)), some (iI t.2)]) rfl rfl (call_ok (cons_ok (x := iI t.2) rfl (cons_ok (x := .dat (.int 1)) rfl nil_ok)) tupB2) rfl
  rw [filter_true] at c3
  have o3 : callF tupF (consA (compV (.many [9, 10, 11]) (itF true (bin2 idxB (varB 0) (litI 2))) yesF (callF tupB (consA (varB 11) (consA (litI 1) nilA))) [9, 10, 11]) nilA) [some (.dat (webD top ps ts)), some (.dat (frD p)), some (.dat (.tup (ps.map fun q => frD (inF p q)))), some (.dat (.tup (ps.map fun q => frD (outF p q)))), none, none, none, none, none, none, none, none] = .ok (.dat (.tup (ts.map fun t => frD (t.2, 1)))) := call_ok (cons_ok c3 nil_ok) rfl
  exact congrArg outR (ret_ok (call_ok (cons_ok (x := .dat (.tup (ps.map fun q => frD (inF p q)))) rfl (cons_ok o3 (cons_ok (x := .dat (.tup (ps.map fun q => frD (outF p q)))) rfl nil_ok))) tupB3) rfl)
end
end K08
namespace K08
open PySem L2 Fn
section
variable {top : Nat} {ps : List Pl} {ts : List Tie} {p : Fr}
theorem drop_ok {fa : Fn.Env → Res B} {b : B} {ρ : Fn.Env} (h : fa ρ = .ok b) : thenS fa dropS ρ = .nx ρ := by
  unfold thenS
  rw [h]
  rfl
theorem check_ok (W : WebOk top ps ts) (h : Pr top p) : E25.F [.dat (webD top ps ts), .dat (frD p)] = .ok (.dat .non) := by
  rw [show E25.F = defF 2 B25 from rfl]
  refine def_rt (by rfl) ?_
  show outR (B25 [some _, some _]) = _
  unfold B25
  have ip : ownF E19 (consA (varB 0) (consA (varB 1) nilA)) [some (.dat (webD top ps ts)), some (.dat (frD p))] = .ok (.dat (.bl true)) := own_ok (bs := [.dat (webD top ps ts), .dat (frD p)]) (cons_ok (x := .dat (webD top ps ts)) rfl (cons_ok (x := .dat (frD p)) rfl nil_ok)) rfl (is_price_ok W h) rfl
  exact congrArg outR ((if_f (not_ok (k := true) (tv_ok ip rfl))).trans rfl)
theorem out_eq (p : Fr) (q : Pl) : mk (q.c * (p.2 : Int) - q.d * p.1) p.2 = outF p q := by
  unfold outF
  rw [Int.zero_sub, Int.neg_mul, Int.sub_eq_add_neg]
theorem sizes_ok (W : WebOk top ps ts) (h : Pr top p) : E27.F [.dat (webD top ps ts), .dat (frD p)] = .ok (.dat (sizesD ps ts p)) := by
  rw [show E27.F = defF 10 B27 from rfl]
  have pl := W.le
  have tl := W.few
  refine def_rt (by rfl) ?_
  show outR (B27 [some _, some _, none, none, none, none, none, none, none, none]) = _
  unfold B27
  refine (congrArg outR (seq_nx (drop_ok (own_ok (bs := [.dat (webD top ps ts), .dat (frD p)]) (cons_ok (x := .dat (webD top ps ts)) rfl (cons_ok (x := .dat (frD p)) rfl nil_ok)) rfl (check_ok W h) rfl)))).trans ?_
  refine (congrArg outR (seq_nx (ρ' := [some (.dat (webD top ps ts)), some (.dat (frD p)), some (.own (.l [])), none, none, none, none, none, none, none]) (set_ok (call_ok nil_ok lstB0) rfl))).trans ?_
  refine (congrArg outR (seq_nx (ρ' := [some (.dat (webD top ps ts)), some (.dat (frD p)), some (.own (.l [])), some (.own (.l [])), none, none, none, none, none, none]) (set_ok (call_ok nil_ok lstB0) rfl))).trans ?_
  obtain ⟨ρ', q1, r4, r5, r6, r7, r8, rfl⟩ := loop_all (t := .many [4, 5, 6, 7, 8]) (body := B27_1) (ds := ps.map plD) (fun i ρ => ∃ (r4 r5 r6 r7 r8 : Option B), ρ = [some (.dat (webD top ps ts)), some (.dat (frD p)), some (.own (.l ((ps.take i).map fun q => frD (inF p q)))), some (.own (.l ((ps.take i).map fun q => frD (outF p q)))), r4, r5, r6, r7, r8, none])
    (ρ := [some (.dat (webD top ps ts)), some (.dat (frD p)), some (.own (.l [])), some (.own (.l [])), none, none, none, none, none, none]) ⟨none, none, none, none, none, rfl⟩ (by
    rintro i d ρ hd ⟨r4, r5, r6, r7, r8, rfl⟩
    obtain ⟨q, hq, rfl⟩ : ∃ q, ps[i]? = some q ∧ d = plD q := by
      rw [List.getElem?_map] at hd
      cases e : ps[i]? with
      | none => rw [e] at hd; cases hd
      | some x => rw [e] at hd; exact ⟨x, rfl, (Option.some.inj hd).symm⟩
    have s := (W.pl q (List.mem_of_getElem? hq)).sz
    have et : ps.take (i + 1) = ps.take i ++ [q] := by
      rw [List.take_add_one, hq]
      rfl
    have lz : ∀ f : Pl → D, ((ps.take i).map f).length < sizeLine := fun f => small1000 (by rw [List.length_map, List.length_take]; omega)
    refine ⟨[some (.dat (webD top ps ts)), some (.dat (frD p)), some (.own (.l ((ps.take i).map fun q => frD (inF p q)))), some (.own (.l ((ps.take i).map fun q => frD (outF p q)))), some (.dat (.str q.n)), some (iI q.a), some (iI q.b), some (iI q.c), some (iI q.d), none], [some (.dat (webD top ps ts)), some (.dat (frD p)), some (.own (.l ((ps.take i).map (fun q => frD (inF p q)) ++ [frD (inF p q)]))), some (.own (.l ((ps.take i).map (fun q => frD (outF p q)) ++ [frD (outF p q)]))), some (.dat (.str q.n)), some (iI q.a), some (iI q.b), some (iI q.c), some (iI q.d), none], rfl, .inl ?_, _, _, _, _, _, by rw [et, List.map_append, List.map_append]; rfl⟩
    unfold B27_1
    have fr : ∀ (x : Int) (i : Nat) (ρ : Fn.Env), varB i ρ = .ok (iI x) → ownF E12 (consA (varB i) (consA (litI 1) nilA)) ρ = .ok (.dat (frD (x, 1))) := fun x i ρ e => own_ok (bs := [iI x, .dat (.int 1)]) (cons_ok (x := iI x) e (cons_ok (x := .dat (.int 1)) rfl nil_ok)) rfl (frac1 x) rfl
    have tm : ∀ (y : Int) (i : Nat) (ρ : Fn.Env), y.natAbs < 2 ^ 15 → varB i ρ = .ok (iI y) → varB 1 ρ = .ok (.dat (frD p)) → ownF E14 (consA (ownF E12 (consA (varB i) (consA (litI 1) nilA))) (consA (varB 1) nilA)) ρ = .ok (.dat (frD (mk (y * p.1) p.2))) := fun y i ρ hy e e1 => own_ok (bs := [.dat (frD (y, 1)), .dat (frD p)]) (cons_ok (fr y i ρ e) (cons_ok e1 nil_ok)) rfl (tim_ok h W.t9 hy) rfl
    refine (seq_nx (app_ok (ds := (ps.take i).map fun q => frD (inF p q)) rfl (own_ok (bs := [.dat (frD (q.a, 1)), .dat (frD (mk (q.b * p.1) p.2))]) (cons_ok (fr q.a 5 _ rfl) (cons_ok (tm q.b 6 _ s.b rfl rfl) nil_ok)) rfl (lin_ok h W.t9 (by have := s.a; omega) s.b) rfl) rfl (lz _))).trans ?_
    refine (app_ok (ds := (ps.take i).map fun q => frD (outF p q)) (d := frD (outF p q)) rfl (own_ok (bs := [.dat (frD (q.c, 1)), .dat (frD (mk (q.d * p.1) p.2))]) (cons_ok (fr q.c 7 _ rfl) (cons_ok (tm q.d 8 _ s.d rfl rfl) nil_ok)) rfl ((linM_ok h W.t9 (by have := s.c; omega) s.d).trans (by rw [out_eq])) rfl) rfl (lz _)).trans ?_
    rfl)
  rw [List.length_map, List.take_length] at q1
  have it : itF false (bin2 idxB (varB 0) (litI 1)) [some (.dat (webD top ps ts)), some (.dat (frD p)), some (.own (.l [])), some (.own (.l [])), none, none, none, none, none, none] = .ok (ps.map plD) := it_ok (bin_ok (x := .dat (webD top ps ts)) (y := .dat (.int 1)) rfl rfl rfl) rfl
  refine (congrArg outR (seq_nx ((for_ok it).trans q1))).trans ?_
  have c3 : compV (.many [5, 7, 9]) (itF true (bin2 idxB (varB 0) (litI 2))) yesF (callF tupB (consA (varB 9) (consA (litI 1) nilA))) [5, 7, 9] [some (.dat (webD top ps ts)), some (.dat (frD p)), some (.own (.l (ps.map fun q => frD (inF p q)))), some (.own (.l (ps.map fun q => frD (outF p q)))), r4, r5, r6, r7, r8, none] = .ok (.own (.l ((ts.filter fun _ => true).map fun t => frD (t.2, 1)))) := by
    refine comp_map (f := tiD) (fun _ => true) (fun t => frD (t.2, 1)) (it_ok (bin_ok (x := .dat (webD top ps ts)) (y := .dat (.int 2)) rfl rfl rfl) rfl) (by omega) fun t ht => ?_
    exact step_yes (ρ1 := [some (.dat (webD top ps ts)), some (.dat (frD p)), some (.own (.l (ps.map fun q => frD (inF p q)))), some (.own (.l (ps.map fun q => frD (outF p q)))), r4, some (.dat (.str t.1.1)), r6, some (.dat (.str t.1.2)), r8, some (iI t.2)]) rfl rfl (call_ok (cons_ok (x := iI t.2) rfl (cons_ok (x := .dat (.int 1)) rfl nil_ok)) tupB2) rfl
  rw [filter_true] at c3
  have o1 : callF tupF (consA (varB 2) nilA) [some (.dat (webD top ps ts)), some (.dat (frD p)), some (.own (.l (ps.map fun q => frD (inF p q)))), some (.own (.l (ps.map fun q => frD (outF p q)))), r4, r5, r6, r7, r8, none] = .ok (.dat (.tup (ps.map fun q => frD (inF p q)))) := call_ok (cons_ok (x := .vw (.l (ps.map fun q => frD (inF p q)))) rfl nil_ok) rfl
  have o2 : callF tupF (consA (varB 3) nilA) [some (.dat (webD top ps ts)), some (.dat (frD p)), some (.own (.l (ps.map fun q => frD (inF p q)))), some (.own (.l (ps.map fun q => frD (outF p q)))), r4, r5, r6, r7, r8, none] = .ok (.dat (.tup (ps.map fun q => frD (outF p q)))) := call_ok (cons_ok (x := .vw (.l (ps.map fun q => frD (outF p q)))) rfl nil_ok) rfl
  have o3 : callF tupF (consA (compV (.many [5, 7, 9]) (itF true (bin2 idxB (varB 0) (litI 2))) yesF (callF tupB (consA (varB 9) (consA (litI 1) nilA))) [5, 7, 9]) nilA) [some (.dat (webD top ps ts)), some (.dat (frD p)), some (.own (.l (ps.map fun q => frD (inF p q)))), some (.own (.l (ps.map fun q => frD (outF p q)))), r4, r5, r6, r7, r8, none] = .ok (.dat (.tup (ts.map fun t => frD (t.2, 1)))) := call_ok (cons_ok c3 nil_ok) rfl
  exact congrArg outR (ret_ok (call_ok (cons_ok o1 (cons_ok o3 (cons_ok o2 nil_ok))) tupB3) rfl)
end
end K08
namespace K08
open PySem L2 Fn
section
variable {top : Nat} {ps : List Pl} {ts : List Tie} {p : Fr}
/-- the sum over the places ahead of i -/
def linV (p : Fr) (bl : Int × Int) : Int := bl.1 * (p.2 : Int) + bl.2 * p.1
theorem linV_stP (p : Fr) (P : List Str) (bl : Int × Int) (q : Pl) : linV p (stP P bl q) = linV p bl + (if q.n ∈ P then q.c * (p.2 : Int) + (0 - q.d) * p.1 else q.a * (p.2 : Int) + q.b * p.1) := by
  unfold linV stP
  split
  · show (bl.1 + q.c) * (p.2 : Int) + (bl.2 - q.d) * p.1 = _
    rw [Int.add_mul, Int.sub_mul, Int.zero_sub, Int.neg_mul]
    omega
  · show (bl.1 + q.a) * (p.2 : Int) + (bl.2 + q.b) * p.1 = _
    rw [Int.add_mul, Int.add_mul]
    omega
theorem take_stP (P : List Str) {i : Nat} {q : Pl} (h : ps[i]? = some q) : lineP (ps.take (i + 1)) P = stP P (lineP (ps.take i) P) q := by
  unfold lineP
  rw [List.take_add_one, h, List.foldl_append]
  rfl
theorem take_stT (P : List Str) (b : Int) {i : Nat} {t : Tie} (h : ts[i]? = some t) : (ts.take (i + 1)).foldl (stT P) b = stT P ((ts.take i).foldl (stT P) b) t := by
  rw [List.take_add_one, h, List.foldl_append]
  rfl
theorem linV_sz (h : Pr top p) (t9 : top ≤ 9) {bl : Int × Int} (h1 : bl.1.natAbs < 2 ^ 15) (h2 : bl.2.natAbs < 2 ^ 15) : (linV p bl).natAbs < 2 ^ 60 := by
  have s1 : p.1.natAbs < 2 ^ 44 := by
    have h1 := h.le
    have h2 := h.d
    have h3 := h.n0
    have : (top : Int) * (p.2 : Int) ≤ 9 * (p.2 : Int) := Int.mul_le_mul_of_nonneg_right (by omega) (by omega)
    omega
  have a1 : (bl.1 * (p.2 : Int)).natAbs ≤ 2 ^ 15 * 2 ^ 40 := by
    rw [Int.natAbs_mul, Int.natAbs_natCast]
    exact Nat.mul_le_mul (by omega) (by have := h.d; omega)
  have a2 : (bl.2 * p.1).natAbs ≤ 2 ^ 15 * 2 ^ 44 := by
    rw [Int.natAbs_mul]
    exact Nat.mul_le_mul (by omega) (by omega)
  have e : (2 : Nat) ^ 15 * 2 ^ 40 + 2 ^ 15 * 2 ^ 44 < 2 ^ 60 := by decide
  have := Int.natAbs_add_le (bl.1 * (p.2 : Int)) (bl.2 * p.1)
  unfold linV
  omega
theorem mk_zero {d : Nat} (h : 0 < d) : mk 0 d = (0, 1) := mk_eq h ⟨Nat.zero_lt_one, Nat.gcd_one_right _⟩ (by simp)
theorem mk_int {d : Nat} (h : 0 < d) (s : Int) : mk (s * (d : Int)) d = (s, 1) := mk_eq h ⟨Nat.zero_lt_one, Nat.gcd_one_right _⟩ (by simp)
theorem lineP_take (W : WebOk top ps ts) (P : List Str) (i : Nat) : (lineP (ps.take i) P).1.natAbs ≤ 8000 ∧ (lineP (ps.take i) P).2.natAbs ≤ 800 := by
  have h1 := lineP_sz (top := top) P (ps.take i) (0, 0) 0 (fun q hq => W.pl q (List.mem_of_mem_take hq)) (by decide) (by decide)
  have := W.le
  have l : (ps.take i).length ≤ ps.length := List.length_take_le' _ _
  unfold lineP
  omega
theorem lineT_take (W : WebOk top ps ts) (P : List Str) (i : Nat) : ((ts.take i).foldl (stT P) (lineP ps P).1).natAbs ≤ 24000 := by
  have h0 := lineP_take W P ps.length
  rw [List.take_length] at h0
  have h2 := lineT_sz P (ts.take i) (lineP ps P).1 8 (fun t ht => W.ti t (List.mem_of_mem_take ht)) (by omega)
  have := W.few
  have l : (ts.take i).length ≤ ts.length := List.length_take_le' _ _
  omega
theorem held_place (W : WebOk top ps ts) (h : Pr top p) {P : List Str} (hP : P.Sublist (nmsOf ps)) (i : Nat) (q : Pl) (hq : ps[i]? = some q) :
    B24_1 [some (.dat (webD top ps ts)), some (.dat (tD P)), some (.dat (frD p)), some (.dat (.tup (ps.map fun q => frD (inF p q)))), some (.dat (.tup (ts.map fun t : Tie => frD (t.2, 1)))), some (.dat (.tup (ps.map fun q => frD (outF p q)))), some (.own (.l (txs (nmsOf ps)))), some (.dat (frD (mk (linV p (lineP (ps.take i) P)) p.2))), some (iN i)] =
    .nx [some (.dat (webD top ps ts)), some (.dat (tD P)), some (.dat (frD p)), some (.dat (.tup (ps.map fun q => frD (inF p q)))), some (.dat (.tup (ts.map fun t : Tie => frD (t.2, 1)))), some (.dat (.tup (ps.map fun q => frD (outF p q)))), some (.own (.l (txs (nmsOf ps)))), some (.dat (frD (mk (linV p (lineP (ps.take (i + 1)) P)) p.2))), some (iN i)] := by
  have lay : Lays P := fun x hx => W.nm.lay x (hP.subset hx)
  have hn : PyData.strOk q.n = true := W.nm.lay _ (List.mem_map.mpr ⟨q, List.mem_of_getElem? hq, rfl⟩)
  have s := (W.pl q (List.mem_of_getElem? hq)).sz
  have lt := lineP_take W P i
  have i1 : idxB (.dat (.tup (ps.map fun q => frD (inF p q)))) (iN i) = .ok (.dat (frD (inF p q))) := idx_tup (atI_map (fun q => frD (inF p q)) (atI_nat hq))
  have i2 : idxB (.dat (.tup (ps.map fun q => frD (outF p q)))) (iN i) = .ok (.dat (frD (outF p q))) := idx_tup (atI_map (fun q => frD (outF p q)) (atI_nat hq))
  have i3 : idxB (.vw (.l (txs (nmsOf ps)))) (iN i) = .ok (.dat (.str q.n)) := idx_vw (atI_map D.str (atI_map Pl.n (atI_nat hq)))
  rw [take_stP P hq, linV_stP]
  unfold B24_1
  have pick : ∀ (b : Bool) (x y : D), idxB (.dat (.lst [x, y])) (.dat (.int (if b = true then 1 else 0))) = .ok (.dat (if b = true then y else x)) := by
    intro b x y
    cases b
    · exact idxL (n := 0) _ rfl rfl
    · exact idxL (n := 1) _ rfl rfl
  have pk := pick (decide (q.n ∈ P)) (frD (inF p q)) (frD (outF p q))
  have sel : bin2 idxB (callF lstB (consA (bin2 idxB (varB 3) (varB 8)) (consA (bin2 idxB (varB 5) (varB 8)) nilA))) (callF intF (consA (bin2 (inB false) (bin2 idxB (varB 6) (varB 8)) (varB 1)) nilA)) [some (.dat (webD top ps ts)), some (.dat (tD P)), some (.dat (frD p)), some (.dat (.tup (ps.map fun q => frD (inF p q)))), some (.dat (.tup (ts.map fun t : Tie => frD (t.2, 1)))), some (.dat (.tup (ps.map fun q => frD (outF p q)))), some (.own (.l (txs (nmsOf ps)))), some (.dat (frD (mk (linV p (lineP (ps.take i) P)) p.2))), some (iN i)] = .ok (.dat (if decide (q.n ∈ P) = true then frD (outF p q) else frD (inF p q))) :=
    bin_ok (x := .own (.l [frD (inF p q), frD (outF p q)])) (y := .dat (.int (if decide (q.n ∈ P) = true then 1 else 0))) (call_ok (cons_ok (x := .dat (frD (inF p q))) (bin_ok (x := .dat (.tup (ps.map fun q => frD (inF p q)))) (y := iN i) rfl rfl i1) (cons_ok (x := .dat (frD (outF p q))) (bin_ok (x := .dat (.tup (ps.map fun q => frD (outF p q)))) (y := iN i) rfl rfl i2) nil_ok)) lstB2) (call_ok (cons_ok (x := .dat (.bl (decide (q.n ∈ P)))) (bin_ok (x := .dat (.str q.n)) (y := .dat (tD P)) (bin_ok (x := .vw (.l (txs (nmsOf ps)))) (y := iN i) rfl rfl i3) rfl (in_strs hn lay)) nil_ok) int_bl) pk
  by_cases m : q.n ∈ P
  · rw [decide_eq_true m, if_pos rfl] at sel
    rw [if_pos m]
    exact set_ok (own_ok (bs := [.dat (frD (mk (linV p (lineP (ps.take i) P)) p.2)), .dat (frD (outF p q))]) (cons_ok (x := .dat (frD (mk (linV p (lineP (ps.take i) P)) p.2))) rfl (cons_ok sel nil_ok)) rfl (lsum_ok h.low.pos h.d (linV_sz h W.t9 (by omega) (by omega)) (linV_sz (bl := (q.c, 0 - q.d)) h W.t9 s.c (by have := s.d; show (0 - q.d).natAbs < _; omega))) rfl) rfl
  · rw [decide_eq_false m, if_neg (by decide)] at sel
    rw [if_neg m]
    exact set_ok (own_ok (bs := [.dat (frD (mk (linV p (lineP (ps.take i) P)) p.2)), .dat (frD (inF p q))]) (cons_ok (x := .dat (frD (mk (linV p (lineP (ps.take i) P)) p.2))) rfl (cons_ok sel nil_ok)) rfl (lsum_ok h.low.pos h.d (linV_sz h W.t9 (by omega) (by omega)) (linV_sz (bl := (q.a, q.b)) h W.t9 s.a s.b)) rfl) rfl
theorem linV_stT (p : Fr) (P : List Str) (b l : Int) (t : Tie) : linV p (stT P b t, l) = linV p (b, l) + (if t.1.1 ∈ P ∧ ¬ t.1.2 ∈ P then t.2 * (p.2 : Int) else 0) := by
  unfold linV stT
  split
  · show (b + t.2) * (p.2 : Int) + l * p.1 = b * (p.2 : Int) + l * p.1 + t.2 * (p.2 : Int)
    rw [Int.add_mul]
    omega
  · show b * (p.2 : Int) + l * p.1 = b * (p.2 : Int) + l * p.1 + 0
    omega
theorem held_tie (W : WebOk top ps ts) (h : Pr top p) {P : List Str} (hP : P.Sublist (nmsOf ps)) (i : Nat) (t : Tie) (ht : ts[i]? = some t) :
    B24_2 [some (.dat (webD top ps ts)), some (.dat (tD P)), some (.dat (frD p)), some (.dat (.tup (ps.map fun q => frD (inF p q)))), some (.dat (.tup (ts.map fun t : Tie => frD (t.2, 1)))), some (.dat (.tup (ps.map fun q => frD (outF p q)))), some (.own (.l (txs (nmsOf ps)))), some (.dat (frD (mk (linV p ((ts.take i).foldl (stT P) (lineP ps P).1, (lineP ps P).2)) p.2))), some (iN i)] =
    .nx [some (.dat (webD top ps ts)), some (.dat (tD P)), some (.dat (frD p)), some (.dat (.tup (ps.map fun q => frD (inF p q)))), some (.dat (.tup (ts.map fun t : Tie => frD (t.2, 1)))), some (.dat (.tup (ps.map fun q => frD (outF p q)))), some (.own (.l (txs (nmsOf ps)))), some (.dat (frD (mk (linV p ((ts.take (i + 1)).foldl (stT P) (lineP ps P).1, (lineP ps P).2)) p.2))), some (iN i)] := by
  have lay : Lays P := fun x hx => W.nm.lay x (hP.subset hx)
  have g := W.ti t (List.mem_of_getElem? ht)
  have h1 : PyData.strOk t.1.1 = true := W.nm.lay _ g.l
  have h2 : PyData.strOk t.1.2 = true := W.nm.lay _ g.r
  have lo := g.lo
  have hi := g.hi
  have z1 := lineT_take W P i
  have z2 := lineP_take W P ps.length
  rw [List.take_length] at z2
  have i1 : idxB (.dat (.tup (ts.map tiD))) (iN i) = .ok (.dat (tiD t)) := idx_tup (atI_map tiD (atI_nat ht))
  have i2 : idxB (.dat (.tup (ts.map fun t : Tie => frD (t.2, 1)))) (iN i) = .ok (.dat (frD (t.2, 1))) := idx_tup (atI_map (fun t : Tie => frD (t.2, 1)) (atI_nat ht))
  rw [take_stT P _ ht, linV_stT]
  generalize (ts.take i).foldl (stT P) (lineP ps P).1 = b at *
  unfold B24_2
  have row : bin2 idxB (bin2 idxB (varB 0) (litI 2)) (varB 8) [some (.dat (webD top ps ts)), some (.dat (tD P)), some (.dat (frD p)), some (.dat (.tup (ps.map fun q => frD (inF p q)))), some (.dat (.tup (ts.map fun t : Tie => frD (t.2, 1)))), some (.dat (.tup (ps.map fun q => frD (outF p q)))), some (.own (.l (txs (nmsOf ps)))), some (.dat (frD (mk (linV p (b, (lineP ps P).2)) p.2))), some (iN i)] = .ok (.dat (tiD t)) :=
    bin_ok (x := .dat (.tup (ts.map tiD))) (y := iN i) (bin_ok (x := .dat (webD top ps ts)) (y := .dat (.int 2)) rfl rfl rfl) rfl i1
  have ct := and_ok (t := tstF (bin2 (inB false) (bin2 idxB (bin2 idxB (bin2 idxB (varB 0) (litI 2)) (varB 8)) (litI 0)) (varB 1))) (u := tstF (bin2 (inB true) (bin2 idxB (bin2 idxB (bin2 idxB (varB 0) (litI 2)) (varB 8)) (litI 1)) (varB 1))) (k := decide (t.1.1 ∈ P)) (j := (decide (t.1.2 ∈ P) != true))
    (tst_ok (bin_ok (x := .dat (.str t.1.1)) (y := .dat (tD P)) (bin_ok (x := .dat (tiD t)) (y := .dat (.int 0)) row rfl rfl) rfl (in_strs h1 lay))) fun _ => tst_ok (bin_ok (x := .dat (.str t.1.2)) (y := .dat (tD P)) (bin_ok (x := .dat (tiD t)) (y := .dat (.int 1)) row rfl rfl) rfl (inB_strs h2 lay))
  by_cases m : t.1.1 ∈ P ∧ ¬ t.1.2 ∈ P
  · rw [decide_eq_true m.1, decide_eq_false m.2] at ct
    rw [if_pos m]
    refine (if_t ct).trans ?_
    have ls := lsum_ok (s := linV p (b, (lineP ps P).2)) (t := t.2 * (p.2 : Int)) h.low.pos h.d (linV_sz h W.t9 (by show b.natAbs < _; omega) (by show (lineP ps P).2.natAbs < _; omega)) (by
      have := linV_sz (bl := (t.2, 0)) h W.t9 (by show t.2.natAbs < _; omega) (by show (0 : Int).natAbs < 2 ^ 15; decide)
      unfold linV at this
      rw [Int.zero_mul, Int.add_zero] at this
      exact this)
    rw [mk_int h.low.pos] at ls
    exact set_ok (own_ok (bs := [.dat (frD (mk (linV p (b, (lineP ps P).2)) p.2)), .dat (frD (t.2, 1))]) (cons_ok (x := .dat (frD (mk (linV p (b, (lineP ps P).2)) p.2))) rfl (cons_ok (x := .dat (frD (t.2, 1))) (bin_ok (x := .dat (.tup (ts.map fun t : Tie => frD (t.2, 1)))) (y := iN i) rfl rfl i2) nil_ok)) rfl ls rfl) rfl
  · have z : (decide (t.1.1 ∈ P) && (decide (t.1.2 ∈ P) != true)) = false := by
      by_cases m1 : t.1.1 ∈ P
      · have m2 : t.1.2 ∈ P := Classical.byContradiction fun q => m ⟨m1, q⟩
        rw [decide_eq_true m1, decide_eq_true m2]
        rfl
      · rw [decide_eq_false m1]
        rfl
    rw [z] at ct
    rw [if_neg m, Int.add_zero]
    exact (if_f ct).trans rfl
theorem held_ok (W : WebOk top ps ts) (h : Pr top p) {P : List Str} (hP : P.Sublist (nmsOf ps)) : E24.F [.dat (webD top ps ts), .dat (tD P), .dat (frD p)] = .ok (.dat (frD (worthF ps ts P p))) := by
  rw [show E24.F = defF 9 B24 from rfl]
  refine def_rt (by rfl) ?_
  show outR (B24 [some _, some _, some _, none, none, none, none, none, none]) = _
  unfold B24
  have pl := W.le
  have tl := W.few
  have ow : ownF E23 (consA (varB 0) (consA (varB 2) nilA)) [some (.dat (webD top ps ts)), some (.dat (tD P)), some (.dat (frD p)), none, none, none, none, none, none] = .ok (.dat (sizesD ps ts p)) := own_ok (bs := [.dat (webD top ps ts), .dat (frD p)]) (cons_ok (x := .dat (webD top ps ts)) rfl (cons_ok (x := .dat (frD p)) rfl nil_ok)) rfl (lsizes_ok W h) rfl
  have hb : thenS (ownF E23 (consA (varB 0) (consA (varB 2) nilA))) (bindV (.many [3, 4, 5])) [some (.dat (webD top ps ts)), some (.dat (tD P)), some (.dat (frD p)), none, none, none, none, none, none] = .nx [some (.dat (webD top ps ts)), some (.dat (tD P)), some (.dat (frD p)), some (.dat (.tup (ps.map fun q => frD (inF p q)))), some (.dat (.tup (ts.map fun t : Tie => frD (t.2, 1)))), some (.dat (.tup (ps.map fun q => frD (outF p q)))), none, none, none] := bind_ok (d := sizesD ps ts p) ow rfl rfl
  refine (congrArg outR (seq_nx hb)).trans ?_
  refine (congrArg outR (seq_nx (ρ' := [some (.dat (webD top ps ts)), some (.dat (tD P)), some (.dat (frD p)), some (.dat (.tup (ps.map fun q => frD (inF p q)))), some (.dat (.tup (ts.map fun t : Tie => frD (t.2, 1)))), some (.dat (.tup (ps.map fun q => frD (outF p q)))), some (.own (.l (txs (nmsOf ps)))), none, none]) (set_ok (own_ok (bs := [.dat (webD top ps ts)]) (cons_ok (x := .dat (webD top ps ts)) rfl nil_ok) rfl (lnames_of_ok W) rfl) rfl))).trans ?_
  refine (congrArg outR (seq_nx (ρ' := [some (.dat (webD top ps ts)), some (.dat (tD P)), some (.dat (frD p)), some (.dat (.tup (ps.map fun q => frD (inF p q)))), some (.dat (.tup (ts.map fun t : Tie => frD (t.2, 1)))), some (.dat (.tup (ps.map fun q => frD (outF p q)))), some (.own (.l (txs (nmsOf ps)))), some (.dat (frD (0, 1))), none]) (set_ok (call_ok (cons_ok (x := .dat (.int 0)) rfl (cons_ok (x := .dat (.int 1)) rfl nil_ok)) tupB2) rfl))).trans ?_
  have e1 : (rng 0 (ps.length : Int)).length = ps.length := by rw [rng_len]; omega
  have e2 : (rng 0 (ts.length : Int)).length = ts.length := by rw [rng_len]; omega
  have z0 : frD (0, 1) = frD (mk (linV p (lineP (ps.take 0) P)) p.2) := by
    rw [show linV p (lineP (ps.take 0) P) = 0 by unfold linV lineP; simp, mk_zero h.low.pos]
  obtain ⟨ρ1, l1, r8, rfl⟩ := loop_all (t := .one 8) (body := B24_1) (ds := rng 0 (ps.length : Int)) (fun i ρ => ∃ r8 : Option B, ρ = [some (.dat (webD top ps ts)), some (.dat (tD P)), some (.dat (frD p)), some (.dat (.tup (ps.map fun q => frD (inF p q)))), some (.dat (.tup (ts.map fun t : Tie => frD (t.2, 1)))), some (.dat (.tup (ps.map fun q => frD (outF p q)))), some (.own (.l (txs (nmsOf ps)))), some (.dat (frD (mk (linV p (lineP (ps.take i) P)) p.2))), r8])
    (ρ := [some (.dat (webD top ps ts)), some (.dat (tD P)), some (.dat (frD p)), some (.dat (.tup (ps.map fun q => frD (inF p q)))), some (.dat (.tup (ts.map fun t : Tie => frD (t.2, 1)))), some (.dat (.tup (ps.map fun q => frD (outF p q)))), some (.own (.l (txs (nmsOf ps)))), some (.dat (frD (0, 1))), none]) ⟨none, by rw [z0]⟩ (by
    rintro i d ρ hd ⟨r8, rfl⟩
    obtain ⟨rfl, hi⟩ := rng_get hd
    have hi' : i < ps.length := by omega
    refine ⟨[some (.dat (webD top ps ts)), some (.dat (tD P)), some (.dat (frD p)), some (.dat (.tup (ps.map fun q => frD (inF p q)))), some (.dat (.tup (ts.map fun t : Tie => frD (t.2, 1)))), some (.dat (.tup (ps.map fun q => frD (outF p q)))), some (.own (.l (txs (nmsOf ps)))), some (.dat (frD (mk (linV p (lineP (ps.take i) P)) p.2))), some (iN i)], _, ?_, .inl (held_place W h hP i _ (List.getElem?_eq_getElem hi')), some (iN i), rfl⟩
    show some _ = some _
    rw [Int.zero_add]
    rfl)
  rw [e1, List.take_length] at l1
  refine (congrArg outR (seq_nx ((for_ok (rg_ok (bs := [iN ps.length]) (cons_ok (x := iN ps.length) (call_ok (cons_ok (x := .vw (.l (txs (nmsOf ps)))) rfl nil_ok) (len_vw.trans (by rw [List.length_map, List.length_map]))) nil_ok) (rng_nat (by omega)))).trans l1))).trans ?_
  obtain ⟨ρ2, l2, r8', rfl⟩ := loop_all (t := .one 8) (body := B24_2) (ds := rng 0 (ts.length : Int)) (fun i ρ => ∃ r8 : Option B, ρ = [some (.dat (webD top ps ts)), some (.dat (tD P)), some (.dat (frD p)), some (.dat (.tup (ps.map fun q => frD (inF p q)))), some (.dat (.tup (ts.map fun t : Tie => frD (t.2, 1)))), some (.dat (.tup (ps.map fun q => frD (outF p q)))), some (.own (.l (txs (nmsOf ps)))), some (.dat (frD (mk (linV p ((ts.take i).foldl (stT P) (lineP ps P).1, (lineP ps P).2)) p.2))), r8])
    (ρ := [some (.dat (webD top ps ts)), some (.dat (tD P)), some (.dat (frD p)), some (.dat (.tup (ps.map fun q => frD (inF p q)))), some (.dat (.tup (ts.map fun t : Tie => frD (t.2, 1)))), some (.dat (.tup (ps.map fun q => frD (outF p q)))), some (.own (.l (txs (nmsOf ps)))), some (.dat (frD (mk (linV p (lineP ps P)) p.2))), r8]) ⟨r8, rfl⟩ (by
    rintro i d ρ hd ⟨r8, rfl⟩
    obtain ⟨rfl, hi⟩ := rng_get hd
    have hi' : i < ts.length := by omega
    refine ⟨[some (.dat (webD top ps ts)), some (.dat (tD P)), some (.dat (frD p)), some (.dat (.tup (ps.map fun q => frD (inF p q)))), some (.dat (.tup (ts.map fun t : Tie => frD (t.2, 1)))), some (.dat (.tup (ps.map fun q => frD (outF p q)))), some (.own (.l (txs (nmsOf ps)))), some (.dat (frD (mk (linV p ((ts.take i).foldl (stT P) (lineP ps P).1, (lineP ps P).2)) p.2))), some (iN i)], _, ?_, .inl (held_tie W h hP i _ (List.getElem?_eq_getElem hi')), some (iN i), rfl⟩
    show some _ = some _
    rw [Int.zero_add]
    rfl)
  rw [e2, List.take_length] at l2
  refine (congrArg outR (seq_nx ((for_ok (rg_ok (bs := [iN ts.length]) (cons_ok (x := iN ts.length) (call_ok (cons_ok (x := .dat (.tup (ts.map tiD))) (bin_ok (x := .dat (webD top ps ts)) (y := .dat (.int 2)) rfl rfl rfl) nil_ok) (len_tup.trans (by rw [List.length_map]))) nil_ok) (rng_nat (by omega)))).trans l2))).trans ?_
  rfl
end
end K08
namespace K08
open PySem L2 Fn
mutual
theorem eqv_self : ∀ x : PyData, x.canLay0 = true → PyData.eqv x x = true
  | .none, _ => rfl
  | .bool b, _ => by simp [PyData.eqv]
  | .int i, _ => by simp [PyData.eqv]
  | .str x, _ => by simp [PyData.eqv]
  | .list xs, h => by
    simp only [PyData.eqv]
    exact eqv_selfs xs (by simpa only [PyData.canLay0] using h)
  | .tuple xs, h => by
    simp only [PyData.eqv]
    exact eqv_selfs xs (by simpa only [PyData.canLay0] using h)
  | .dict _, h => by simp [PyData.canLay0] at h
theorem eqv_selfs : ∀ xs : List PyData, PyData.canLayAll0 xs = true → PyData.eqvAll xs xs = true
  | [], _ => by simp [PyData.eqvAll]
  | x :: xs, h => by
    simp only [PyData.canLayAll0, Bool.and_eq_true] at h
    simp only [PyData.eqvAll, Bool.and_eq_true]
    exact ⟨eqv_self x h.1, eqv_selfs xs h.2⟩
end
theorem eq_self {d : D} (h : SeqAt.shaped (toPy d) = true) : eqB (.dat d) (.dat d) = .ok (.dat (.bl true)) ∧ neB (.dat d) (.dat d) = .ok (.dat (.bl false)) := by
  have e : eqD d d = .ok true := by
    unfold eqD
    rw [if_pos (by rw [Bool.and_eq_true]; exact ⟨h, h⟩), eqv_self _ (SeqAt.canLay_of_shaped h)]
  constructor
  · show ((eqD d d).bind fun k => (.ok (.dat (.bl k)) : Res B)) = _
    rw [e]
    rfl
  · show ((eqD d d).bind fun k => (.ok (.dat (.bl !k)) : Res B)) = _
    rw [e]
    rfl
theorem sh_fr (p : Fr) : SeqAt.shaped (toPy (frD p)) = true := rfl
theorem lay_frs {α : Type} (f : α → Fr) : ∀ as : List α, PyData.canLayAll0 (toPys (as.map fun a => frD (f a))) = true ∧ PyData.depthAll (toPys (as.map fun a => frD (f a))) ≤ 1
  | [] => ⟨rfl, Nat.zero_le _⟩
  | a :: as => by
    obtain ⟨h1, h2⟩ := lay_frs f as
    refine ⟨?_, ?_⟩
    · show (PyData.canLay0 (toPy (frD (f a))) && PyData.canLayAll0 (toPys (as.map fun a => frD (f a)))) = true
      rw [h1]
      rfl
    · show Nat.max (PyData.depth (toPy (frD (f a)))) (PyData.depthAll (toPys (as.map fun a => frD (f a)))) ≤ 1
      exact Nat.max_le.mpr ⟨Nat.le_refl 1, h2⟩
theorem sh_sizes (ps : List Pl) (ts : List Tie) (p : Fr) : SeqAt.shaped (toPy (sizesD ps ts p)) = true := by
  obtain ⟨a1, a2⟩ := lay_frs (inF p) ps
  obtain ⟨b1, b2⟩ := lay_frs (fun t : Tie => (t.2, 1)) ts
  obtain ⟨c1, c2⟩ := lay_frs (outF p) ps
  show (PyData.canLay0 (.tuple [.tuple (toPys _), .tuple (toPys _), .tuple (toPys _)]) && decide (PyData.depth (.tuple [.tuple (toPys _), .tuple (toPys _), .tuple (toPys _)]) ≤ 64)) = true
  rw [Bool.and_eq_true]
  refine ⟨by simp only [PyData.canLay0, PyData.canLayAll0, a1, b1, c1, Bool.and_self], decide_eq_true ?_⟩
  simp only [PyData.depth, PyData.depthAll]
  have m : ∀ a b c : Nat, a ≤ 1 → b ≤ 1 → c ≤ 1 → max (a + 1) (max (b + 1) (max (c + 1) 0)) + 1 ≤ 64 := fun a b c h1 h2 h3 => by omega
  exact m _ _ _ a2 b2 c2
section
variable {top : Nat} {ps : List Pl} {ts : List Tie} {p : Fr}
theorem right_end (W : WebOk top ps ts) {P : List Str} (hP : P.Sublist (nmsOf ps)) {e : Fr} (h : Pr top e) (b2 : Option B) (r5 r6 : Option B) :
    ∃ q5 q6, B28_1 [some (.dat (webD top ps ts)), some (.dat (tD P)), b2, some (.dat (.tup [.int (lineOf ps ts P).1, .int (lineOf ps ts P).2])), some (.dat (frD e)), r5, r6, none] = .nx [some (.dat (webD top ps ts)), some (.dat (tD P)), b2, some (.dat (.tup [.int (lineOf ps ts P).1, .int (lineOf ps ts P).2])), some (.dat (frD e)), q5, q6, none] := by
  have sz := line_sz W P
  refine ⟨some (.dat (frD (worthF ps ts P e))), some (.dat (frD (worthF ps ts P e))), ?_⟩
  unfold B28_1
  refine (seq_nx (set_ok (own_ok (bs := [.dat (webD top ps ts), .dat (tD P), .dat (frD e)]) (cons_ok (x := .dat (webD top ps ts)) rfl (cons_ok (x := .dat (tD P)) rfl (cons_ok (x := .dat (frD e)) rfl nil_ok))) rfl (worth_of_ok W hP h) rfl) rfl)).trans ?_
  refine (seq_nx (ρ' := [some (.dat (webD top ps ts)), some (.dat (tD P)), b2, some (.dat (.tup [.int (lineOf ps ts P).1, .int (lineOf ps ts P).2])), some (.dat (frD e)), some (.dat (frD (worthF ps ts P e))), some (.dat (frD (worthF ps ts P e))), none]) (set_ok (own_ok (bs := [.dat (webD top ps ts), .dat (tD P), .dat (frD e)]) (cons_ok (x := .dat (webD top ps ts)) rfl (cons_ok (x := .dat (tD P)) rfl (cons_ok (x := .dat (frD e)) rfl nil_ok))) rfl (held_ok W h hP) rfl) rfl)).trans ?_
  have ns := (eq_self (sh_fr (worthF ps ts P e))).2
  have c1 := or_ok (ρ := [some (.dat (webD top ps ts)), some (.dat (tD P)), b2, some (.dat (.tup [.int (lineOf ps ts P).1, .int (lineOf ps ts P).2])), some (.dat (frD e)), some (.dat (frD (worthF ps ts P e))), some (.dat (frD (worthF ps ts P e))), none]) (t := notT (testV (one1 (isiB .tuple) (varB 5)))) (u := tstF (bin2 neB (varB 5) (varB 6))) (k := false) (j := false) (not_ok (k := true) (tv_ok (one_ok (x := .dat (frD (worthF ps ts P e))) rfl rfl) rfl)) fun _ => tst_ok (bin_ok (x := .dat (frD (worthF ps ts P e))) (y := .dat (frD (worthF ps ts P e))) rfl rfl ns)
  refine (seq_nx ((if_f c1).trans rfl)).trans ?_
  have f1 : callF tupB (consA (bin2 idxB (varB 3) (litI 0)) (consA (litI 1) nilA)) [some (.dat (webD top ps ts)), some (.dat (tD P)), b2, some (.dat (.tup [.int (lineOf ps ts P).1, .int (lineOf ps ts P).2])), some (.dat (frD e)), some (.dat (frD (worthF ps ts P e))), some (.dat (frD (worthF ps ts P e))), none] = .ok (.dat (frD ((lineOf ps ts P).1, 1))) := call_ok (cons_ok (x := iI (lineOf ps ts P).1) (bin_ok (x := .dat (.tup [.int (lineOf ps ts P).1, .int (lineOf ps ts P).2])) (y := .dat (.int 0)) rfl rfl rfl) (cons_ok (x := .dat (.int 1)) rfl nil_ok)) tupB2
  have f2 : callF tupB (consA (bin2 idxB (varB 3) (litI 1)) (consA (litI 1) nilA)) [some (.dat (webD top ps ts)), some (.dat (tD P)), b2, some (.dat (.tup [.int (lineOf ps ts P).1, .int (lineOf ps ts P).2])), some (.dat (frD e)), some (.dat (frD (worthF ps ts P e))), some (.dat (frD (worthF ps ts P e))), none] = .ok (.dat (frD ((lineOf ps ts P).2, 1))) := call_ok (cons_ok (x := iI (lineOf ps ts P).2) (bin_ok (x := .dat (.tup [.int (lineOf ps ts P).1, .int (lineOf ps ts P).2])) (y := .dat (.int 1)) rfl rfl rfl) (cons_ok (x := .dat (.int 1)) rfl nil_ok)) tupB2
  have f3 : ownF E22 (consA (callF tupB (consA (bin2 idxB (varB 3) (litI 1)) (consA (litI 1) nilA))) (consA (varB 4) nilA)) [some (.dat (webD top ps ts)), some (.dat (tD P)), b2, some (.dat (.tup [.int (lineOf ps ts P).1, .int (lineOf ps ts P).2])), some (.dat (frD e)), some (.dat (frD (worthF ps ts P e))), some (.dat (frD (worthF ps ts P e))), none] = .ok (.dat (frD (mk ((lineOf ps ts P).2 * e.1) e.2))) := own_ok (bs := [.dat (frD ((lineOf ps ts P).2, 1)), .dat (frD e)]) (cons_ok f2 (cons_ok (x := .dat (frD e)) rfl nil_ok)) rfl (ltim_ok h W.t9 sz.2) rfl
  have f4 := own_ok (en := E21) (bs := [.dat (frD ((lineOf ps ts P).1, 1)), .dat (frD (mk ((lineOf ps ts P).2 * e.1) e.2))]) (cons_ok f1 (cons_ok f3 nil_ok)) rfl (llin_ok h W.t9 sz.1 sz.2) rfl
  exact (if_f (tst_ok (bin_ok (x := .dat (frD (worthF ps ts P e))) (y := .dat (frD (worthF ps ts P e))) f4 rfl ns))).trans rfl
theorem pr_0 : Pr top ((0, 1) : Fr) := ⟨⟨Nat.zero_lt_one, Nat.gcd_one_right _⟩, by show (0 : Int) ≤ 0; omega, by show (0 : Int) ≤ (top : Int) * 1; omega, by show 1 < 2 ^ 40; decide⟩
theorem pr_top : Pr top (((top : Int), 1) : Fr) := ⟨⟨Nat.zero_lt_one, Nat.gcd_one_right _⟩, by show (0 : Int) ≤ (top : Int); omega, by show (top : Int) ≤ (top : Int) * 1; omega, by show 1 < 2 ^ 40; decide⟩
theorem right_ok (W : WebOk top ps ts) (h : Pr top p) {P : List Str} (hP : P.Sublist (nmsOf ps)) : E28.F [.dat (webD top ps ts), .dat (tD P), .dat (frD p)] = .ok (.dat (.bl true)) := by
  rw [show E28.F = defF 8 B28 from rfl]
  refine def_rt (by rfl) ?_
  show outR (B28 [some _, some _, some _, none, none, none, none, none]) = _
  unfold B28
  generalize hx : (lineOf ps ts P).1 = x
  generalize hy : (lineOf ps ts P).2 = y
  have lo := line_of_ok W hP
  rw [hx, hy] at lo
  refine (congrArg outR (seq_nx (ρ' := [some (.dat (webD top ps ts)), some (.dat (tD P)), some (.dat (frD p)), some (.dat (.tup [.int x, .int y])), none, none, none, none]) (set_ok (own_ok (bs := [.dat (webD top ps ts), .dat (tD P)]) (cons_ok (x := .dat (webD top ps ts)) rfl (cons_ok (x := .dat (tD P)) rfl nil_ok)) rfl lo rfl) rfl))).trans ?_
  have c1 := or_ok (ρ := [some (.dat (webD top ps ts)), some (.dat (tD P)), some (.dat (frD p)), some (.dat (.tup [.int x, .int y])), none, none, none, none]) (t := notT (testV (one1 (isiB .tuple) (varB 3)))) (u := tstF (bin2 neB (callF lenB (consA (varB 3) nilA)) (litI 2))) (k := false) (j := false) (not_ok (k := true) (tv_ok (one_ok (x := .dat (.tup [.int x, .int y])) rfl rfl) rfl)) fun _ => tst_ok (bin_ok (x := .dat (.int 2)) (y := .dat (.int 2)) (call_ok (cons_ok (x := .dat (.tup [.int x, .int y])) rfl nil_ok) len_tup) rfl (ne_ii.trans (by rw [decide_eq_true rfl]; rfl)))
  refine (congrArg outR (seq_nx ((if_f c1).trans rfl))).trans ?_
  have c2 : callF allF (consA (compV (.one 7) (itF true (varB 3)) yesF (andV (one1 (isiB .int) (varB 7)) (one1 notB (one1 (isiB .bool) (varB 7)))) [7]) nilA) [some (.dat (webD top ps ts)), some (.dat (tD P)), some (.dat (frD p)), some (.dat (.tup [.int x, .int y])), none, none, none, none] = .ok (.dat (.bl true)) := by
    refine comp_all (as := [x, y]) (f := D.int) (it_ok (b := .dat (.tup [.int x, .int y])) rfl rfl) (by show 2 ≤ 1000; decide) fun z hz => ?_
    have w1 : one1 (isiB .int) (varB 7) [some (.dat (webD top ps ts)), some (.dat (tD P)), some (.dat (frD p)), some (.dat (.tup [.int x, .int y])), none, none, none, some (iI z)] = .ok (.dat (.bl true)) := one_ok (x := iI z) rfl rfl
    have w2 : one1 (isiB .bool) (varB 7) [some (.dat (webD top ps ts)), some (.dat (tD P)), some (.dat (frD p)), some (.dat (.tup [.int x, .int y])), none, none, none, some (iI z)] = .ok (.dat (.bl false)) := one_ok (x := iI z) rfl rfl
    have w3 : one1 notB (one1 (isiB .bool) (varB 7)) [some (.dat (webD top ps ts)), some (.dat (tD P)), some (.dat (frD p)), some (.dat (.tup [.int x, .int y])), none, none, none, some (iI z)] = .ok (.dat (.bl true)) := one_ok w2 rfl
    exact step_yes (ρ1 := [some (.dat (webD top ps ts)), some (.dat (tD P)), some (.dat (frD p)), some (.dat (.tup [.int x, .int y])), none, none, none, some (iI z)]) rfl rfl (and_v w1 w3) rfl
  refine (congrArg outR (seq_nx ((if_f (not_ok (k := true) (tv_ok c2 rfl))).trans rfl))).trans ?_
  obtain ⟨ρ', q1, r4, r5, r6, rfl⟩ := loop_all (t := .one 4) (body := B28_1) (ds := [frD (0, 1), frD ((top : Int), 1), frD p]) (fun i ρ => ∃ (r4 r5 r6 : Option B), ρ = [some (.dat (webD top ps ts)), some (.dat (tD P)), some (.dat (frD p)), some (.dat (.tup [.int x, .int y])), r4, r5, r6, none])
    (ρ := [some (.dat (webD top ps ts)), some (.dat (tD P)), some (.dat (frD p)), some (.dat (.tup [.int x, .int y])), none, none, none, none]) ⟨none, none, none, rfl⟩ (by
    rintro i d ρ hd ⟨r4, r5, r6, rfl⟩
    obtain ⟨e, he, rfl⟩ : ∃ e : Fr, Pr top e ∧ d = frD e := by
      have := List.mem_of_getElem? hd
      simp only [List.mem_cons, List.not_mem_nil, or_false] at this
      rcases this with rfl | rfl | rfl
      · exact ⟨_, pr_0, rfl⟩
      · exact ⟨_, pr_top, rfl⟩
      · exact ⟨_, h, rfl⟩
    obtain ⟨q5, q6, hq⟩ := right_end W hP he (some (.dat (frD p))) r5 r6
    rw [hx, hy] at hq
    exact ⟨_, _, rfl, .inl hq, _, q5, q6, rfl⟩)
  have it : itF false (callF lstB (consA (callF tupB (consA (litI 0) (consA (litI 1) nilA))) (consA (callF tupB (consA (bin2 idxB (varB 0) (litI 0)) (consA (litI 1) nilA))) (consA (varB 2) nilA)))) [some (.dat (webD top ps ts)), some (.dat (tD P)), some (.dat (frD p)), some (.dat (.tup [.int x, .int y])), none, none, none, none] = .ok [frD (0, 1), frD ((top : Int), 1), frD p] :=
    it_ok (call_ok (cons_ok (x := .dat (frD (0, 1))) (call_ok (cons_ok (x := .dat (.int 0)) rfl (cons_ok (x := .dat (.int 1)) rfl nil_ok)) tupB2) (cons_ok (x := .dat (frD ((top : Int), 1))) (call_ok (cons_ok (x := iN top) (bin_ok (x := .dat (webD top ps ts)) (y := .dat (.int 0)) rfl rfl rfl) (cons_ok (x := .dat (.int 1)) rfl nil_ok)) tupB2) (cons_ok (x := .dat (frD p)) rfl nil_ok))) lstB3) rfl
  refine (congrArg outR (seq_nx ((for_ok it).trans q1))).trans ?_
  have a1 : ownF E27 (consA (varB 0) (consA (varB 2) nilA)) [some (.dat (webD top ps ts)), some (.dat (tD P)), some (.dat (frD p)), some (.dat (.tup [.int x, .int y])), r4, r5, r6, none] = .ok (.dat (sizesD ps ts p)) := own_ok (bs := [.dat (webD top ps ts), .dat (frD p)]) (cons_ok (x := .dat (webD top ps ts)) rfl (cons_ok (x := .dat (frD p)) rfl nil_ok)) rfl (sizes_ok W h) rfl
  have a2 : ownF E23 (consA (varB 0) (consA (varB 2) nilA)) [some (.dat (webD top ps ts)), some (.dat (tD P)), some (.dat (frD p)), some (.dat (.tup [.int x, .int y])), r4, r5, r6, none] = .ok (.dat (sizesD ps ts p)) := own_ok (bs := [.dat (webD top ps ts), .dat (frD p)]) (cons_ok (x := .dat (webD top ps ts)) rfl (cons_ok (x := .dat (frD p)) rfl nil_ok)) rfl (lsizes_ok W h) rfl
  exact congrArg outR (ret_ok (bin_ok a1 a2 (eq_self (sh_sizes ps ts p)).1) rfl)
end
end K08
namespace K08
open PySem L2 Fn
theorem mk_pr {top : Nat} {t : Int} {b : Nat} (hb : 0 < b) (hb2 : b < 2 ^ 40) (h0 : 0 ≤ t) (h1 : t ≤ (top : Int) * (b : Int)) : Pr top (mk t b) := by
  obtain ⟨e1, e2⟩ := mk_val (t := t) hb
  have g := gI_pos (t := t) hb
  refine ⟨mk_low hb, ?_, ?_, ?_⟩
  · exact Int.ediv_nonneg h0 (by omega)
  · have e2' : ((mk t b).2 : Int) * (gI t b : Int) = (b : Int) := by rw [← Int.natCast_mul, e2]
    rw [← e1, ← e2', ← Int.mul_assoc] at h1
    exact Int.le_of_mul_le_mul_right h1 (by omega)
  · have : (mk t b).2 ≤ (mk t b).2 * gI t b := Nat.le_mul_of_pos_right _ g
    omega
theorem eight {a b c d e f g h : Int} (w : Nat) (hw : w < 8) : ∃ m : Int, (m = a ∨ m = b ∨ m = c ∨ m = d ∨ m = e ∨ m = f ∨ m = g ∨ m = h) ∧ idxB (.dat (.lst [.int a, .int b, .int c, .int d, .int e, .int f, .int g, .int h])) (iN w) = .ok (iI m) := by
  match w, hw with
  | 0, _ => exact ⟨a, by simp, idxL (n := 0) _ rfl rfl⟩
  | 1, _ => exact ⟨b, by simp, idxL (n := 1) _ rfl rfl⟩
  | 2, _ => exact ⟨c, by simp, idxL (n := 2) _ rfl rfl⟩
  | 3, _ => exact ⟨d, by simp, idxL (n := 3) _ rfl rfl⟩
  | 4, _ => exact ⟨e, by simp, idxL (n := 4) _ rfl rfl⟩
  | 5, _ => exact ⟨f, by simp, idxL (n := 5) _ rfl rfl⟩
  | 6, _ => exact ⟨g, by simp, idxL (n := 6) _ rfl rfl⟩
  | 7, _ => exact ⟨h, by simp, idxL (n := 7) _ rfl rfl⟩
section
variable {top : Nat} {ps : List Pl} {ts : List Tie}
theorem frac_at (W : WebOk top ps ts) (t : Int) (b : Nat) (hb : 0 < b) (hb2 : b < 2 ^ 40) : ∃ e : Fr, Pr top e ∧ E7.F [iI (t % ((top : Int) * (b : Int) + 1)), iN b] = .ok (.dat (frD e)) := by
  have m0 : 0 ≤ (top : Int) * (b : Int) := Int.mul_nonneg (by omega) (by omega)
  have a0 := Int.emod_nonneg t (show (top : Int) * (b : Int) + 1 ≠ 0 by omega)
  have a1 := Int.emod_lt_of_pos t (show 0 < (top : Int) * (b : Int) + 1 by omega)
  exact ⟨_, mk_pr hb hb2 a0 (by omega), low_ok _ _ hb (by omega)⟩
theorem price_ok (W : WebOk top ps ts) (x y : Int) : ∃ e : Fr, Pr top e ∧ E29.F [.dat (webD top ps ts), iI x, iI y] = .ok (.dat (frD e)) := by
  rw [show E29.F = defF 4 B29 from rfl]
  obtain ⟨w, hw⟩ : ∃ w : Nat, (w : Int) = y / 64 % 8 := ⟨(y / 64 % 8).toNat, by omega⟩
  obtain ⟨m, hm, em⟩ := eight (a := 1) (b := 2) (c := 3) (d := 7) (e := 12) (f := 60) (g := 999983) (h := 99999999977) w (by omega)
  have m0 : 0 < m ∧ m ≤ 99999999977 := by omega
  have y0 := Int.emod_nonneg y (show m ≠ 0 by omega)
  have y1 := Int.emod_lt_of_pos y m0.1
  obtain ⟨b, hb⟩ : ∃ b : Nat, (b : Int) = 1 + y % m := ⟨(1 + y % m).toNat, by omega⟩
  obtain ⟨e, he, ee⟩ := frac_at W x b (by omega) (by omega)
  have t9 := W.t9
  refine ⟨e, he, def_rt (by rfl) ?_⟩
  show outR (B29 [some _, some _, some _, none]) = _
  unfold B29
  have l8 : callF lstB (consA (litI 1) (consA (litI 2) (consA (litI 3) (consA (litI 7) (consA (litI 12) (consA (litI 60) (consA (litI 999983) (consA (litI 99999999977) nilA)))))))) [some (.dat (webD top ps ts)), some (iI x), some (iI y), none] = .ok (.own (.l [.int 1, .int 2, .int 3, .int 7, .int 12, .int 60, .int 999983, .int 99999999977])) := call_ok (cons_ok (x := .dat (.int 1)) rfl (cons_ok (x := .dat (.int 2)) rfl (cons_ok (x := .dat (.int 3)) rfl (cons_ok (x := .dat (.int 7)) rfl (cons_ok (x := .dat (.int 12)) rfl (cons_ok (x := .dat (.int 60)) rfl (cons_ok (x := .dat (.int 999983)) rfl (cons_ok (x := .dat (.int 99999999977)) rfl nil_ok)))))))) (lst_ok rfl (by show 8 ≤ 1000; decide))
  have ix : bin2 modB (bin2 divB (varB 2) (litI 64)) (litI 8) [some (.dat (webD top ps ts)), some (iI x), some (iI y), none] = .ok (iN w) := (bin_ok (x := iI (y / 64)) (y := .dat (.int 8)) (bin_ok (x := iI y) (y := .dat (.int 64)) rfl rfl (div_pos (by decide) (by decide))) rfl (mod_pos (by decide))).trans (by rw [← hw])
  refine (congrArg outR (seq_nx (ρ' := [some (.dat (webD top ps ts)), some (iI x), some (iI y), some (iN b)]) (set_ok ((bin_ok (x := .dat (.int 1)) (y := iI (y % m)) rfl (bin_ok (x := iI y) (y := iI m) rfl (bin_ok l8 ix em) (mod_pos m0.1)) add_ii).trans (by rw [← hb])) rfl))).trans ?_
  have tb : bin2 mulB (bin2 idxB (varB 0) (litI 0)) (varB 3) [some (.dat (webD top ps ts)), some (iI x), some (iI y), some (iN b)] = .ok (iI ((top : Int) * (b : Int))) := bin_ok (x := iN top) (y := iN b) (bin_ok (x := .dat (webD top ps ts)) (y := .dat (.int 0)) rfl rfl rfl) rfl (mul_ok (by show Int.natAbs _ < _; omega) (by show Int.natAbs _ < _; omega))
  have tp : 0 < (top : Int) * (b : Int) + 1 := by
    have := Int.mul_nonneg (show (0 : Int) ≤ top by omega) (show (0 : Int) ≤ b by omega)
    omega
  exact congrArg outR (ret_ok (own_ok (bs := [iI (x % ((top : Int) * (b : Int) + 1)), iN b]) (cons_ok (x := iI (x % ((top : Int) * (b : Int) + 1))) (bin_ok (x := iI x) (y := iI ((top : Int) * (b : Int) + 1)) rfl (bin_ok (x := iI ((top : Int) * (b : Int))) (y := .dat (.int 1)) tb rfl add_ii) (mod_pos tp)) (cons_ok (x := iN b) rfl nil_ok)) rfl ee rfl) rfl)
end
/-- a choice of names by bits is a rising one -/
theorem pick_sub (ns : List Str) (k : Nat → Bool) : (((List.range ns.length).filter k).map fun i => ns.getD i Str.empty).Sublist ns := by
  have h : ((List.range ns.length).map fun i => ns.getD i Str.empty) = ns := by
    refine List.ext_getElem (by simp) fun i h1 h2 => ?_
    rw [List.getElem_map, List.getElem_range, List.getD_eq_getElem?_getD, List.getElem?_eq_getElem h2]
    rfl
  have := (List.filter_sublist (p := k) (l := List.range ns.length)).map fun i => ns.getD i Str.empty
  rw [h] at this
  exact this
section
variable {top : Nat} {ps : List Pl} {ts : List Tie}
theorem round_ok (W : WebOk top ps ts) (sc : B) (c : Int) (r4 r5 r6 r7 r8 : Option B) : ∃ q4 q5 q6 q7 q8, B30_1 [some sc, some (.dat (webD top ps ts)), some (.own (.l (txs (nmsOf ps)))), some (iI c), r4, r5, r6, r7, r8] = .nx [some sc, some (.dat (webD top ps ts)), some (.own (.l (txs (nmsOf ps)))), some (iI c), q4, q5, q6, q7, q8] := by
  obtain ⟨xs, ⟨hx, hb⟩, hn⟩ := numbers_okB c 3 (by omega)
  obtain ⟨x0, x1, x2, rfl⟩ : ∃ x0 x1 x2, xs = [x0, x1, x2] := by
    match xs, hx with
    | [x0, x1, x2], _ => exact ⟨_, _, _, rfl⟩
  have b0 := hb x0 (by simp)
  have b1 := hb x1 (by simp)
  have b2 := hb x2 (by simp)
  have t9 := W.t9
  have pl := W.le
  obtain ⟨m, hm⟩ : ∃ m : Nat, (m : Int) = x2 := ⟨x2.toNat, by omega⟩
  let P : List Str := ((List.range (nmsOf ps).length).filter fun k => decide (m / 2 ^ k % 2 = 1)).map fun i => (nmsOf ps).getD i Str.empty
  have hP : P.Sublist (nmsOf ps) := pick_sub _ _
  obtain ⟨e, he, ee⟩ := price_ok W x0 x1
  have i0 : idxB (.vw (.l (nms [x0, x1, x2]))) (.dat (.int 0)) = .ok (iI x0) := idx_vw (atI_nat (j := 0) rfl)
  have i1 : idxB (.vw (.l (nms [x0, x1, x2]))) (.dat (.int 1)) = .ok (iI x1) := idx_vw (atI_nat (j := 1) rfl)
  have i2 : idxB (.vw (.l (nms [x0, x1, x2]))) (.dat (.int 2)) = .ok (iI x2) := idx_vw (atI_nat (j := 2) rfl)
  generalize nms [x0, x1, x2] = X at *
  obtain ⟨b, hb'⟩ : ∃ b : Nat, (b : Int) = 1 + x1 * 1000003 % 99999999977 := ⟨(1 + x1 * 1000003 % 99999999977).toNat, by omega⟩
  obtain ⟨f, hf, ef⟩ := frac_at W (x0 * 1000003 + x2) b (by omega) (by omega)
  refine ⟨some (.own (.l X)), some (.dat (tD P)), some (iN b), some (.dat (frD f)), r8, ?_⟩
  unfold B30_1
  refine (seq_nx (ρ' := [some sc, some (.dat (webD top ps ts)), some (.own (.l (txs (nmsOf ps)))), some (iI c), some (.own (.l X)), r5, r6, r7, r8]) (set_ok (own_ok (bs := [iI c, .dat (.int 3)]) (cons_ok (x := iI c) rfl (cons_ok (x := .dat (.int 3)) rfl nil_ok)) rfl hn rfl) rfl)).trans ?_
  have nl : (nmsOf ps).length ≤ 8 := by rw [List.length_map]; exact pl
  have it : rgF (consA (callF lenB (consA (varB 2) nilA)) nilA) [some sc, some (.dat (webD top ps ts)), some (.own (.l (txs (nmsOf ps)))), some (iI c), some (.own (.l X)), r5, r6, r7, r8] = .ok ((List.range (nmsOf ps).length).map fun (k : Nat) => D.int (k : Int)) := by
    refine rg_ok (bs := [iN (nmsOf ps).length]) (cons_ok (x := iN (nmsOf ps).length) (call_ok (cons_ok (x := .vw (.l (txs (nmsOf ps)))) rfl nil_ok) (len_vw.trans (by rw [List.length_map]))) nil_ok) ((rng_nat (by omega)).trans ?_)
    unfold rng
    rw [show (((nmsOf ps).length : Int) - 0).toNat = (nmsOf ps).length by omega]
    exact congrArg Res.ok (List.map_congr_left fun k _ => by rw [Int.zero_add])
  have cc : compV (.one 8) (rgF (consA (callF lenB (consA (varB 2) nilA)) nilA)) (tstF (bin2 eqB (bin2 andB (bin2 shrB (bin2 idxB (varB 4) (litI 2)) (varB 8)) (litI 1)) (litI 1))) (bin2 idxB (varB 2) (varB 8)) [8] [some sc, some (.dat (webD top ps ts)), some (.own (.l (txs (nmsOf ps)))), some (iI c), some (.own (.l X)), r5, r6, r7, r8] =
      .ok (.own (.l (((List.range (nmsOf ps).length).filter fun k => decide (m / 2 ^ k % 2 = 1)).map fun i => D.str ((nmsOf ps).getD i Str.empty)))) := by
    refine comp_map (f := fun (k : Nat) => D.int (k : Int)) (fun k => decide (m / 2 ^ k % 2 = 1)) (fun i => D.str ((nmsOf ps).getD i Str.empty)) it (by rw [List.length_range]; omega) fun k hk => ?_
    have hk' := List.mem_range.mp hk
    have sh : shrB (iI x2) (iN k) = .ok (iN (m / 2 ^ k)) := by
      rw [← hm]
      refine (shr_ok (by omega)).trans ?_
      rw [Int.toNat_natCast]
      congr 3
    have hb : Builtin.bitAnd ((m / 2 ^ k : Nat) : Int) 1 = ((m / 2 ^ k % 2 : Nat) : Int) := by
      have := PySem.W.os_band (m / 2 ^ k) 1
      rw [Nat.and_one_is_mod] at this
      exact this
    have an : andB (iN (m / 2 ^ k)) (.dat (.int 1)) = .ok (iN (m / 2 ^ k % 2)) := and_ii.trans (congrArg (fun z => Res.ok (B.dat (D.int z))) hb)
    have ct : tstF (bin2 eqB (bin2 andB (bin2 shrB (bin2 idxB (varB 4) (litI 2)) (varB 8)) (litI 1)) (litI 1)) [some sc, some (.dat (webD top ps ts)), some (.own (.l (txs (nmsOf ps)))), some (iI c), some (.own (.l X)), r5, r6, r7, some (iN k)] = .ok (decide (m / 2 ^ k % 2 = 1)) := by
      refine tst_ok (bin_ok (x := iN (m / 2 ^ k % 2)) (y := .dat (.int 1)) (bin_ok (x := iN (m / 2 ^ k)) (y := .dat (.int 1)) (bin_ok (x := iI x2) (y := iN k) (bin_ok (x := .vw (.l X)) (y := .dat (.int 2)) rfl rfl i2) rfl sh) rfl an) rfl (eq_ii.trans ?_))
      exact congrArg (fun z => Res.ok (B.dat (D.bl z))) (decide_eq_decide.mpr (by constructor <;> (intro h; omega)))
    have ix : idxB (.vw (.l (txs (nmsOf ps)))) (iN k) = .ok (.dat (.str ((nmsOf ps).getD k Str.empty))) := by
      refine idx_vw (atI_nat ?_)
      rw [List.getElem?_map, List.getD_eq_getElem?_getD, List.getElem?_eq_getElem hk']
      rfl
    cases e : decide (m / 2 ^ k % 2 = 1) with
    | true => exact step_yes (ρ1 := [some sc, some (.dat (webD top ps ts)), some (.own (.l (txs (nmsOf ps)))), some (iI c), some (.own (.l X)), r5, r6, r7, some (iN k)]) rfl (by rw [ct, e]) (bin_ok (x := .vw (.l (txs (nmsOf ps)))) (y := iN k) rfl rfl ix) rfl
    | false => exact step_no (ρ1 := [some sc, some (.dat (webD top ps ts)), some (.own (.l (txs (nmsOf ps)))), some (iI c), some (.own (.l X)), r5, r6, r7, some (iN k)]) rfl (by rw [ct, e])
  have eP : (((List.range (nmsOf ps).length).filter fun k => decide (m / 2 ^ k % 2 = 1)).map fun i => D.str ((nmsOf ps).getD i Str.empty)) = txs P := by
    show _ = List.map D.str _
    rw [List.map_map]
    rfl
  rw [eP] at cc
  refine (seq_nx (ρ' := [some sc, some (.dat (webD top ps ts)), some (.own (.l (txs (nmsOf ps)))), some (iI c), some (.own (.l X)), some (.dat (tD P)), r6, r7, r8]) (set_ok (call_ok (cons_ok cc nil_ok) rfl) rfl)).trans ?_
  have ow : ∀ (g : Fr) (fe : Fn.Env → Res B) (ρ : Fn.Env), Pr top g → varB 1 ρ = .ok (.dat (webD top ps ts)) → varB 5 ρ = .ok (.dat (tD P)) → fe ρ = .ok (.dat (frD g)) → notT (testV (ownF E28 (consA (varB 1) (consA (varB 5) (consA fe nilA))))) ρ = .ok false := fun g fe ρ hg e1 e5 e => not_ok (k := true) (tv_ok (own_ok (bs := [.dat (webD top ps ts), .dat (tD P), .dat (frD g)]) (cons_ok e1 (cons_ok e5 (cons_ok e nil_ok))) rfl (right_ok W hg hP) rfl) rfl)
  have pr : ownF E29 (consA (varB 1) (consA (bin2 idxB (varB 4) (litI 0)) (consA (bin2 idxB (varB 4) (litI 1)) nilA))) [some sc, some (.dat (webD top ps ts)), some (.own (.l (txs (nmsOf ps)))), some (iI c), some (.own (.l X)), some (.dat (tD P)), r6, r7, r8] = .ok (.dat (frD e)) := own_ok (bs := [.dat (webD top ps ts), iI x0, iI x1]) (cons_ok (x := .dat (webD top ps ts)) rfl (cons_ok (x := iI x0) (bin_ok (x := .vw (.l X)) (y := .dat (.int 0)) rfl rfl i0) (cons_ok (x := iI x1) (bin_ok (x := .vw (.l X)) (y := .dat (.int 1)) rfl rfl i1) nil_ok))) rfl ee rfl
  refine (seq_nx ((if_f (ow e _ _ he rfl rfl pr)).trans rfl)).trans ?_
  have mb : bin2 mulB (bin2 idxB (varB 4) (litI 1)) (litI 1000003) [some sc, some (.dat (webD top ps ts)), some (.own (.l (txs (nmsOf ps)))), some (iI c), some (.own (.l X)), some (.dat (tD P)), r6, r7, r8] = .ok (iI (x1 * 1000003)) := bin_ok (x := iI x1) (y := .dat (.int 1000003)) (bin_ok (x := .vw (.l X)) (y := .dat (.int 1)) rfl rfl i1) rfl (mul_ok (by show Int.natAbs _ < _; omega) (by decide))
  refine (seq_nx (ρ' := [some sc, some (.dat (webD top ps ts)), some (.own (.l (txs (nmsOf ps)))), some (iI c), some (.own (.l X)), some (.dat (tD P)), some (iN b), r7, r8]) (set_ok ((bin_ok (x := .dat (.int 1)) (y := iI (x1 * 1000003 % 99999999977)) rfl (bin_ok (x := iI (x1 * 1000003)) (y := .dat (.int 99999999977)) mb rfl (mod_pos (by decide))) add_ii).trans (by rw [← hb'])) rfl)).trans ?_
  have tb : bin2 addB (bin2 mulB (bin2 idxB (varB 1) (litI 0)) (varB 6)) (litI 1) [some sc, some (.dat (webD top ps ts)), some (.own (.l (txs (nmsOf ps)))), some (iI c), some (.own (.l X)), some (.dat (tD P)), some (iN b), r7, r8] = .ok (iI ((top : Int) * (b : Int) + 1)) := bin_ok (x := iI ((top : Int) * (b : Int))) (y := .dat (.int 1)) (bin_ok (x := iN top) (y := iN b) (bin_ok (x := .dat (webD top ps ts)) (y := .dat (.int 0)) rfl rfl rfl) rfl (mul_ok (by show Int.natAbs _ < _; omega) (by show Int.natAbs _ < _; omega))) rfl add_ii
  have ta : bin2 addB (bin2 mulB (bin2 idxB (varB 4) (litI 0)) (litI 1000003)) (bin2 idxB (varB 4) (litI 2)) [some sc, some (.dat (webD top ps ts)), some (.own (.l (txs (nmsOf ps)))), some (iI c), some (.own (.l X)), some (.dat (tD P)), some (iN b), r7, r8] = .ok (iI (x0 * 1000003 + x2)) := bin_ok (x := iI (x0 * 1000003)) (y := iI x2) (bin_ok (x := iI x0) (y := .dat (.int 1000003)) (bin_ok (x := .vw (.l X)) (y := .dat (.int 0)) rfl rfl i0) rfl (mul_ok (by show Int.natAbs _ < _; omega) (by decide))) (bin_ok (x := .vw (.l X)) (y := .dat (.int 2)) rfl rfl i2) add_ii
  have tp : 0 < (top : Int) * (b : Int) + 1 := by
    have := Int.mul_nonneg (show (0 : Int) ≤ top by omega) (show (0 : Int) ≤ b by omega)
    omega
  have fn := own_ok (en := E7) (bs := [iI ((x0 * 1000003 + x2) % ((top : Int) * (b : Int) + 1)), iN b]) (cons_ok (x := iI ((x0 * 1000003 + x2) % ((top : Int) * (b : Int) + 1))) (bin_ok ta tb (mod_pos tp)) (cons_ok (fa := varB 6) (x := iN b) rfl nil_ok)) rfl ef rfl
  refine (seq_nx (ρ' := [some sc, some (.dat (webD top ps ts)), some (.own (.l (txs (nmsOf ps)))), some (iI c), some (.own (.l X)), some (.dat (tD P)), some (iN b), some (.dat (frD f)), r8]) (set_ok fn rfl)).trans ?_
  exact (if_f (ow f (varB 7) _ hf rfl rfl rfl)).trans rfl
end
theorem main (sc : List Int) (hs : sc.length ≤ 63) : E30.F [.scr sc] = .ok (.dat (.bl true)) := by
  rw [show E30.F = defF 9 B30 from rfl]
  obtain ⟨top, ps, ts, W, _, e0⟩ := web_ok sc 0 8 (by omega) (by omega) (by omega)
  obtain ⟨c, hc⟩ := cell_ok sc 26 (by omega)
  refine def_rt (by rfl) ?_
  show outR (B30 [some _, none, none, none, none, none, none, none, none]) = _
  unfold B30
  refine (congrArg outR (seq_nx (ρ' := [some (.scr sc), some (.dat (webD top ps ts)), none, none, none, none, none, none, none]) (set_ok (own_ok (bs := [.scr sc, iN 0, iN 8]) (cons_ok (x := .scr sc) rfl (cons_ok (x := iN 0) rfl (cons_ok (x := iN 8) rfl nil_ok))) rfl e0 rfl) rfl))).trans ?_
  refine (congrArg outR (seq_nx (ρ' := [some (.scr sc), some (.dat (webD top ps ts)), some (.own (.l (txs (nmsOf ps)))), none, none, none, none, none, none]) (set_ok (own_ok (bs := [.dat (webD top ps ts)]) (cons_ok (x := .dat (webD top ps ts)) rfl nil_ok) rfl (lnames_of_ok W) rfl) rfl))).trans ?_
  obtain ⟨ys, hyl, hy⟩ : ∃ ys : List Int, ys.length ≤ 63 ∧ cutL (nms sc) (some 27) (some 56) = nms ys := by
    refine ⟨cutL sc (some 27) (some 56), ?_, ?_⟩
    · unfold cutL
      rw [List.length_take, List.length_drop]
      omega
    · unfold cutL
      rw [List.length_map, ← List.map_drop, ← List.map_take]
  have sl : sliceB (.scr sc) (some 27) (some 56) = .ok (.own (.l (nms ys))) := by
    rw [← hy]
    rfl
  have it : itF false (bin2 addB (callF lstB (consA (ownF E2 (consA (varB 0) (consA (litI 26) nilA))) nilA)) (slcV (varB 0) (atP (litI 27)) (atP (litI 56)))) [some (.scr sc), some (.dat (webD top ps ts)), some (.own (.l (txs (nmsOf ps)))), none, none, none, none, none, none] = .ok (nms (c :: ys)) := by
    refine it_ok (b := .own (.l (nms (c :: ys)))) (bin_ok (x := .own (.l [.int c])) (y := .own (.l (nms ys))) (call_ok (cons_ok (x := iI c) (own_ok (bs := [.scr sc, .dat (.int 26)]) (cons_ok (x := .scr sc) rfl (cons_ok (x := .dat (.int 26)) rfl nil_ok)) rfl hc rfl) nil_ok) lstB1) (slc_ok (x := .scr sc) (l := some 27) (h := some 56) rfl rfl rfl sl) ?_) rfl
    show (if [D.int c].length + (nms ys).length ≤ sizeLine then (.ok (.own (.l ([D.int c] ++ nms ys))) : Res B) else .bad) = _
    rw [if_pos (le_sz (by rw [List.length_map]; show 1 + _ ≤ 1000; omega))]
    rfl
  obtain ⟨ρ', q1, r3, r4, r5, r6, r7, r8, rfl⟩ := loop_all (t := .one 3) (body := B30_1) (ds := nms (c :: ys)) (fun i ρ => ∃ (r3 r4 r5 r6 r7 r8 : Option B), ρ = [some (.scr sc), some (.dat (webD top ps ts)), some (.own (.l (txs (nmsOf ps)))), r3, r4, r5, r6, r7, r8])
    (ρ := [some (.scr sc), some (.dat (webD top ps ts)), some (.own (.l (txs (nmsOf ps)))), none, none, none, none, none, none]) ⟨none, none, none, none, none, none, rfl⟩ (by
    rintro i d ρ hd ⟨r3, r4, r5, r6, r7, r8, rfl⟩
    obtain ⟨z, _, rfl⟩ := List.mem_map.mp (List.mem_of_getElem? hd)
    obtain ⟨q4, q5, q6, q7, q8, hq⟩ := round_ok W (.scr sc) z r4 r5 r6 r7 r8
    exact ⟨_, _, rfl, .inl hq, _, q4, q5, q6, q7, q8, rfl⟩)
  refine (congrArg outR (seq_nx ((for_ok it).trans q1))).trans ?_
  have w1 : ownF E28 (consA (varB 1) (consA (callF tupB nilA) (consA (callF tupB (consA (bin2 idxB (varB 1) (litI 0)) (consA (litI 1) nilA))) nilA))) [some (.scr sc), some (.dat (webD top ps ts)), some (.own (.l (txs (nmsOf ps)))), r3, r4, r5, r6, r7, r8] = .ok (.dat (.bl true)) :=
    own_ok (bs := [.dat (webD top ps ts), .dat (tD []), .dat (frD ((top : Int), 1))]) (cons_ok (x := .dat (webD top ps ts)) rfl (cons_ok (x := .dat (tD [])) (call_ok nil_ok tupB0) (cons_ok (x := .dat (frD ((top : Int), 1))) (call_ok (cons_ok (x := iN top) (bin_ok (x := .dat (webD top ps ts)) (y := .dat (.int 0)) rfl rfl rfl) (cons_ok (x := .dat (.int 1)) rfl nil_ok)) tupB2) nil_ok))) rfl (right_ok W pr_top (List.nil_sublist _)) rfl
  have w2 : ownF E28 (consA (varB 1) (consA (callF tupF (consA (varB 2) nilA)) (consA (callF tupB (consA (litI 0) (consA (litI 1) nilA))) nilA))) [some (.scr sc), some (.dat (webD top ps ts)), some (.own (.l (txs (nmsOf ps)))), r3, r4, r5, r6, r7, r8] = .ok (.dat (.bl true)) :=
    own_ok (bs := [.dat (webD top ps ts), .dat (tD (nmsOf ps)), .dat (frD (0, 1))]) (cons_ok (x := .dat (webD top ps ts)) rfl (cons_ok (x := .dat (tD (nmsOf ps))) (call_ok (cons_ok (x := .vw (.l (txs (nmsOf ps)))) rfl nil_ok) rfl) (cons_ok (x := .dat (frD (0, 1))) (call_ok (cons_ok (x := .dat (.int 0)) rfl (cons_ok (x := .dat (.int 1)) rfl nil_ok)) tupB2) nil_ok))) rfl (right_ok W pr_0 (List.Sublist.refl _)) rfl
  exact congrArg outR (ret_ok (and_v w1 w2) rfl)
end K08
namespace K08
open PySem L2 Fn
/-! ### the table, the top -/
theorem all_mk {l : PySem.W.OpenLaw} {w : World} {K : PySem.W.Frag} {h : Heap} {mg : Str → Option Value} {fa : Addr} (X : K.In h) (G : h.Ns mainGlobals mg) (hfa : mg "law" = some (.ref fa))
    {od0 an0 : Option Addr} {sl0 : Array (Option Value)} {oc0 kV0 dc0 pm0 cd0 ct0 : Value} {f0 : Addr}
    {od1 an1 : Option Addr} {sl1 : Array (Option Value)} {oc1 kV1 dc1 pm1 cd1 ct1 : Value} {f1 : Addr}
    {od2 an2 : Option Addr} {sl2 : Array (Option Value)} {oc2 kV2 dc2 pm2 cd2 ct2 : Value} {f2 : Addr}
    {od3 an3 : Option Addr} {sl3 : Array (Option Value)} {oc3 kV3 dc3 pm3 cd3 ct3 : Value} {f3 : Addr}
    {od4 an4 : Option Addr} {sl4 : Array (Option Value)} {oc4 kV4 dc4 pm4 cd4 ct4 : Value} {f4 : Addr}
    {od5 an5 : Option Addr} {sl5 : Array (Option Value)} {oc5 kV5 dc5 pm5 cd5 ct5 : Value} {f5 : Addr}
    {od6 an6 : Option Addr} {sl6 : Array (Option Value)} {oc6 kV6 dc6 pm6 cd6 ct6 : Value} {f6 : Addr}
    {od7 an7 : Option Addr} {sl7 : Array (Option Value)} {oc7 kV7 dc7 pm7 cd7 ct7 : Value} {f7 : Addr}
    {od8 an8 : Option Addr} {sl8 : Array (Option Value)} {oc8 kV8 dc8 pm8 cd8 ct8 : Value} {f8 : Addr}
    {od9 an9 : Option Addr} {sl9 : Array (Option Value)} {oc9 kV9 dc9 pm9 cd9 ct9 : Value} {f9 : Addr}
    {od10 an10 : Option Addr} {sl10 : Array (Option Value)} {oc10 kV10 dc10 pm10 cd10 ct10 : Value} {f10 : Addr}
    {od11 an11 : Option Addr} {sl11 : Array (Option Value)} {oc11 kV11 dc11 pm11 cd11 ct11 : Value} {f11 : Addr}
    {od12 an12 : Option Addr} {sl12 : Array (Option Value)} {oc12 kV12 dc12 pm12 cd12 ct12 : Value} {f12 : Addr}
    {od13 an13 : Option Addr} {sl13 : Array (Option Value)} {oc13 kV13 dc13 pm13 cd13 ct13 : Value} {f13 : Addr}
    {od14 an14 : Option Addr} {sl14 : Array (Option Value)} {oc14 kV14 dc14 pm14 cd14 ct14 : Value} {f14 : Addr}
    {od15 an15 : Option Addr} {sl15 : Array (Option Value)} {oc15 kV15 dc15 pm15 cd15 ct15 : Value} {f15 : Addr}
    {od16 an16 : Option Addr} {sl16 : Array (Option Value)} {oc16 kV16 dc16 pm16 cd16 ct16 : Value} {f16 : Addr}
    {od17 an17 : Option Addr} {sl17 : Array (Option Value)} {oc17 kV17 dc17 pm17 cd17 ct17 : Value} {f17 : Addr}
    {od18 an18 : Option Addr} {sl18 : Array (Option Value)} {oc18 kV18 dc18 pm18 cd18 ct18 : Value} {f18 : Addr}
    {od19 an19 : Option Addr} {sl19 : Array (Option Value)} {oc19 kV19 dc19 pm19 cd19 ct19 : Value} {f19 : Addr}
    {od20 an20 : Option Addr} {sl20 : Array (Option Value)} {oc20 kV20 dc20 pm20 cd20 ct20 : Value} {f20 : Addr}
    {od21 an21 : Option Addr} {sl21 : Array (Option Value)} {oc21 kV21 dc21 pm21 cd21 ct21 : Value} {f21 : Addr}
    {od22 an22 : Option Addr} {sl22 : Array (Option Value)} {oc22 kV22 dc22 pm22 cd22 ct22 : Value} {f22 : Addr}
    {od23 an23 : Option Addr} {sl23 : Array (Option Value)} {oc23 kV23 dc23 pm23 cd23 ct23 : Value} {f23 : Addr}
    {od24 an24 : Option Addr} {sl24 : Array (Option Value)} {oc24 kV24 dc24 pm24 cd24 ct24 : Value} {f24 : Addr}
    {od25 an25 : Option Addr} {sl25 : Array (Option Value)} {oc25 kV25 dc25 pm25 cd25 ct25 : Value} {f25 : Addr}
    {od26 an26 : Option Addr} {sl26 : Array (Option Value)} {oc26 kV26 dc26 pm26 cd26 ct26 : Value} {f26 : Addr}
    {od27 an27 : Option Addr} {sl27 : Array (Option Value)} {oc27 kV27 dc27 pm27 cd27 ct27 : Value} {f27 : Addr}
    {od28 an28 : Option Addr} {sl28 : Array (Option Value)} {oc28 kV28 dc28 pm28 cd28 ct28 : Value} {f28 : Addr}
    {od29 an29 : Option Addr} {sl29 : Array (Option Value)} {oc29 kV29 dc29 pm29 cd29 ct29 : Value} {f29 : Addr}
    {od30 an30 : Option Addr} {sl30 : Array (Option Value)} {oc30 kV30 dc30 pm30 cd30 ct30 : Value} {f30 : Addr}
    (a0 : PySem.W.nsIn K mainGlobals "_law_numbers" = some (some (.ref f0))) (l0 : K.lookup f0 = some ⟨oc0, od0, .func (PySem.W.fnOf "_law_numbers" "_law_numbers" (defArgs S0) (defBody S0) (defScope S0) .none kV0 dc0 pm0 an0 cd0 ct0), sl0⟩) (c0 : PySem.W.codeIn K cd0 "_law_numbers" = true) (k0 : PySem.W.keepIn K (.ref f0) = true)
    (a1 : PySem.W.nsIn K mainGlobals "_law_names" = some (some (.ref f1))) (l1 : K.lookup f1 = some ⟨oc1, od1, .func (PySem.W.fnOf "_law_names" "_law_names" (defArgs S1) (defBody S1) (defScope S1) .none kV1 dc1 pm1 an1 cd1 ct1), sl1⟩) (c1 : PySem.W.codeIn K cd1 "_law_names" = true) (k1 : PySem.W.keepIn K (.ref f1) = true)
    (a2 : PySem.W.nsIn K mainGlobals "_law_cell" = some (some (.ref f2))) (l2 : K.lookup f2 = some ⟨oc2, od2, .func (PySem.W.fnOf "_law_cell" "_law_cell" (defArgs S2) (defBody S2) (defScope S2) .none kV2 dc2 pm2 an2 cd2 ct2), sl2⟩) (c2 : PySem.W.codeIn K cd2 "_law_cell" = true) (k2 : PySem.W.keepIn K (.ref f2) = true)
    (a3 : PySem.W.nsIn K mainGlobals "_law_ties" = some (some (.ref f3))) (l3 : K.lookup f3 = some ⟨oc3, od3, .func (PySem.W.fnOf "_law_ties" "_law_ties" (defArgs S3) (defBody S3) (defScope S3) .none kV3 dc3 pm3 an3 cd3 ct3), sl3⟩) (c3 : PySem.W.codeIn K cd3 "_law_ties" = true) (k3 : PySem.W.keepIn K (.ref f3) = true)
    (a4 : PySem.W.nsIn K mainGlobals "_law_place" = some (some (.ref f4))) (l4 : K.lookup f4 = some ⟨oc4, od4, .func (PySem.W.fnOf "_law_place" "_law_place" (defArgs S4) (defBody S4) (defScope S4) .none kV4 dc4 pm4 an4 cd4 ct4), sl4⟩) (c4 : PySem.W.codeIn K cd4 "_law_place" = true) (k4 : PySem.W.keepIn K (.ref f4) = true)
    (a5 : PySem.W.nsIn K mainGlobals "_law_web" = some (some (.ref f5))) (l5 : K.lookup f5 = some ⟨oc5, od5, .func (PySem.W.fnOf "_law_web" "_law_web" (defArgs S5) (defBody S5) (defScope S5) .none kV5 dc5 pm5 an5 cd5 ct5), sl5⟩) (c5 : PySem.W.codeIn K cd5 "_law_web" = true) (k5 : PySem.W.keepIn K (.ref f5) = true)
    (a6 : PySem.W.nsIn K mainGlobals "_law_names_of" = some (some (.ref f6))) (l6 : K.lookup f6 = some ⟨oc6, od6, .func (PySem.W.fnOf "_law_names_of" "_law_names_of" (defArgs S6) (defBody S6) (defScope S6) .none kV6 dc6 pm6 an6 cd6 ct6), sl6⟩) (c6 : PySem.W.codeIn K cd6 "_law_names_of" = true) (k6 : PySem.W.keepIn K (.ref f6) = true)
    (a7 : PySem.W.nsIn K mainGlobals "_law_low" = some (some (.ref f7))) (l7 : K.lookup f7 = some ⟨oc7, od7, .func (PySem.W.fnOf "_law_low" "_law_low" (defArgs S7) (defBody S7) (defScope S7) .none kV7 dc7 pm7 an7 cd7 ct7), sl7⟩) (c7 : PySem.W.codeIn K cd7 "_law_low" = true) (k7 : PySem.W.keepIn K (.ref f7) = true)
    (a8 : PySem.W.nsIn K mainGlobals "names_of" = some (some (.ref f8))) (l8 : K.lookup f8 = some ⟨oc8, od8, .func (PySem.W.fnOf "names_of" "names_of" (defArgs S8) (defBody S8) (defScope S8) .none kV8 dc8 pm8 an8 cd8 ct8), sl8⟩) (c8 : PySem.W.codeIn K cd8 "names_of" = true) (k8 : PySem.W.keepIn K (.ref f8) = true)
    (a9 : PySem.W.nsIn K mainGlobals "is_cut" = some (some (.ref f9))) (l9 : K.lookup f9 = some ⟨oc9, od9, .func (PySem.W.fnOf "is_cut" "is_cut" (defArgs S9) (defBody S9) (defScope S9) .none kV9 dc9 pm9 an9 cd9 ct9), sl9⟩) (c9 : PySem.W.codeIn K cd9 "is_cut" = true) (k9 : PySem.W.keepIn K (.ref f9) = true)
    (a10 : PySem.W.nsIn K mainGlobals "line_of" = some (some (.ref f10))) (l10 : K.lookup f10 = some ⟨oc10, od10, .func (PySem.W.fnOf "line_of" "line_of" (defArgs S10) (defBody S10) (defScope S10) .none kV10 dc10 pm10 an10 cd10 ct10), sl10⟩) (c10 : PySem.W.codeIn K cd10 "line_of" = true) (k10 : PySem.W.keepIn K (.ref f10) = true)
    (a11 : PySem.W.nsIn K mainGlobals "shared_part" = some (some (.ref f11))) (l11 : K.lookup f11 = some ⟨oc11, od11, .func (PySem.W.fnOf "shared_part" "shared_part" (defArgs S11) (defBody S11) (defScope S11) .none kV11 dc11 pm11 an11 cd11 ct11), sl11⟩) (c11 : PySem.W.codeIn K cd11 "shared_part" = true) (k11 : PySem.W.keepIn K (.ref f11) = true)
    (a12 : PySem.W.nsIn K mainGlobals "fraction" = some (some (.ref f12))) (l12 : K.lookup f12 = some ⟨oc12, od12, .func (PySem.W.fnOf "fraction" "fraction" (defArgs S12) (defBody S12) (defScope S12) .none kV12 dc12 pm12 an12 cd12 ct12), sl12⟩) (c12 : PySem.W.codeIn K cd12 "fraction" = true) (k12 : PySem.W.keepIn K (.ref f12) = true)
    (a13 : PySem.W.nsIn K mainGlobals "plus" = some (some (.ref f13))) (l13 : K.lookup f13 = some ⟨oc13, od13, .func (PySem.W.fnOf "plus" "plus" (defArgs S13) (defBody S13) (defScope S13) .none kV13 dc13 pm13 an13 cd13 ct13), sl13⟩) (c13 : PySem.W.codeIn K cd13 "plus" = true) (k13 : PySem.W.keepIn K (.ref f13) = true)
    (a14 : PySem.W.nsIn K mainGlobals "times" = some (some (.ref f14))) (l14 : K.lookup f14 = some ⟨oc14, od14, .func (PySem.W.fnOf "times" "times" (defArgs S14) (defBody S14) (defScope S14) .none kV14 dc14 pm14 an14 cd14 ct14), sl14⟩) (c14 : PySem.W.codeIn K cd14 "times" = true) (k14 : PySem.W.keepIn K (.ref f14) = true)
    (a15 : PySem.W.nsIn K mainGlobals "line_at" = some (some (.ref f15))) (l15 : K.lookup f15 = some ⟨oc15, od15, .func (PySem.W.fnOf "line_at" "line_at" (defArgs S15) (defBody S15) (defScope S15) .none kV15 dc15 pm15 an15 cd15 ct15), sl15⟩) (c15 : PySem.W.codeIn K cd15 "line_at" = true) (k15 : PySem.W.keepIn K (.ref f15) = true)
    (a16 : PySem.W.nsIn K mainGlobals "is_whole" = some (some (.ref f16))) (l16 : K.lookup f16 = some ⟨oc16, od16, .func (PySem.W.fnOf "is_whole" "is_whole" (defArgs S16) (defBody S16) (defScope S16) .none kV16 dc16 pm16 an16 cd16 ct16), sl16⟩) (c16 : PySem.W.codeIn K cd16 "is_whole" = true) (k16 : PySem.W.keepIn K (.ref f16) = true)
    (a17 : PySem.W.nsIn K mainGlobals "is_fraction" = some (some (.ref f17))) (l17 : K.lookup f17 = some ⟨oc17, od17, .func (PySem.W.fnOf "is_fraction" "is_fraction" (defArgs S17) (defBody S17) (defScope S17) .none kV17 dc17 pm17 an17 cd17 ct17), sl17⟩) (c17 : PySem.W.codeIn K cd17 "is_fraction" = true) (k17 : PySem.W.keepIn K (.ref f17) = true)
    (a18 : PySem.W.nsIn K mainGlobals "below" = some (some (.ref f18))) (l18 : K.lookup f18 = some ⟨oc18, od18, .func (PySem.W.fnOf "below" "below" (defArgs S18) (defBody S18) (defScope S18) .none kV18 dc18 pm18 an18 cd18 ct18), sl18⟩) (c18 : PySem.W.codeIn K cd18 "below" = true) (k18 : PySem.W.keepIn K (.ref f18) = true)
    (a19 : PySem.W.nsIn K mainGlobals "is_price" = some (some (.ref f19))) (l19 : K.lookup f19 = some ⟨oc19, od19, .func (PySem.W.fnOf "is_price" "is_price" (defArgs S19) (defBody S19) (defScope S19) .none kV19 dc19 pm19 an19 cd19 ct19), sl19⟩) (c19 : PySem.W.codeIn K cd19 "is_price" = true) (k19 : PySem.W.keepIn K (.ref f19) = true)
    (a20 : PySem.W.nsIn K mainGlobals "worth_of" = some (some (.ref f20))) (l20 : K.lookup f20 = some ⟨oc20, od20, .func (PySem.W.fnOf "worth_of" "worth_of" (defArgs S20) (defBody S20) (defScope S20) .none kV20 dc20 pm20 an20 cd20 ct20), sl20⟩) (c20 : PySem.W.codeIn K cd20 "worth_of" = true) (k20 : PySem.W.keepIn K (.ref f20) = true)
    (a21 : PySem.W.nsIn K mainGlobals "_law_plus" = some (some (.ref f21))) (l21 : K.lookup f21 = some ⟨oc21, od21, .func (PySem.W.fnOf "_law_plus" "_law_plus" (defArgs S21) (defBody S21) (defScope S21) .none kV21 dc21 pm21 an21 cd21 ct21), sl21⟩) (c21 : PySem.W.codeIn K cd21 "_law_plus" = true) (k21 : PySem.W.keepIn K (.ref f21) = true)
    (a22 : PySem.W.nsIn K mainGlobals "_law_times" = some (some (.ref f22))) (l22 : K.lookup f22 = some ⟨oc22, od22, .func (PySem.W.fnOf "_law_times" "_law_times" (defArgs S22) (defBody S22) (defScope S22) .none kV22 dc22 pm22 an22 cd22 ct22), sl22⟩) (c22 : PySem.W.codeIn K cd22 "_law_times" = true) (k22 : PySem.W.keepIn K (.ref f22) = true)
    (a23 : PySem.W.nsIn K mainGlobals "_law_sizes" = some (some (.ref f23))) (l23 : K.lookup f23 = some ⟨oc23, od23, .func (PySem.W.fnOf "_law_sizes" "_law_sizes" (defArgs S23) (defBody S23) (defScope S23) .none kV23 dc23 pm23 an23 cd23 ct23), sl23⟩) (c23 : PySem.W.codeIn K cd23 "_law_sizes" = true) (k23 : PySem.W.keepIn K (.ref f23) = true)
    (a24 : PySem.W.nsIn K mainGlobals "_law_held" = some (some (.ref f24))) (l24 : K.lookup f24 = some ⟨oc24, od24, .func (PySem.W.fnOf "_law_held" "_law_held" (defArgs S24) (defBody S24) (defScope S24) .none kV24 dc24 pm24 an24 cd24 ct24), sl24⟩) (c24 : PySem.W.codeIn K cd24 "_law_held" = true) (k24 : PySem.W.keepIn K (.ref f24) = true)
    (a25 : PySem.W.nsIn K mainGlobals "check_price" = some (some (.ref f25))) (l25 : K.lookup f25 = some ⟨oc25, od25, .func (PySem.W.fnOf "check_price" "check_price" (defArgs S25) (defBody S25) (defScope S25) .none kV25 dc25 pm25 an25 cd25 ct25), sl25⟩) (c25 : PySem.W.codeIn K cd25 "check_price" = true) (k25 : PySem.W.keepIn K (.ref f25) = true)
    (a26 : PySem.W.nsIn K mainGlobals "minus" = some (some (.ref f26))) (l26 : K.lookup f26 = some ⟨oc26, od26, .func (PySem.W.fnOf "minus" "minus" (defArgs S26) (defBody S26) (defScope S26) .none kV26 dc26 pm26 an26 cd26 ct26), sl26⟩) (c26 : PySem.W.codeIn K cd26 "minus" = true) (k26 : PySem.W.keepIn K (.ref f26) = true)
    (a27 : PySem.W.nsIn K mainGlobals "sizes_at" = some (some (.ref f27))) (l27 : K.lookup f27 = some ⟨oc27, od27, .func (PySem.W.fnOf "sizes_at" "sizes_at" (defArgs S27) (defBody S27) (defScope S27) .none kV27 dc27 pm27 an27 cd27 ct27), sl27⟩) (c27 : PySem.W.codeIn K cd27 "sizes_at" = true) (k27 : PySem.W.keepIn K (.ref f27) = true)
    (a28 : PySem.W.nsIn K mainGlobals "_law_right" = some (some (.ref f28))) (l28 : K.lookup f28 = some ⟨oc28, od28, .func (PySem.W.fnOf "_law_right" "_law_right" (defArgs S28) (defBody S28) (defScope S28) .none kV28 dc28 pm28 an28 cd28 ct28), sl28⟩) (c28 : PySem.W.codeIn K cd28 "_law_right" = true) (k28 : PySem.W.keepIn K (.ref f28) = true)
    (a29 : PySem.W.nsIn K mainGlobals "_law_price" = some (some (.ref f29))) (l29 : K.lookup f29 = some ⟨oc29, od29, .func (PySem.W.fnOf "_law_price" "_law_price" (defArgs S29) (defBody S29) (defScope S29) .none kV29 dc29 pm29 an29 cd29 ct29), sl29⟩) (c29 : PySem.W.codeIn K cd29 "_law_price" = true) (k29 : PySem.W.keepIn K (.ref f29) = true)
    (a30 : PySem.W.nsIn K mainGlobals "law" = some (some (.ref f30))) (l30 : K.lookup f30 = some ⟨oc30, od30, .func (PySem.W.fnOf "law" "law" (defArgs S30) (defBody S30) (defScope S30) .none kV30 dc30 pm30 an30 cd30 ct30), sl30⟩) (c30 : PySem.W.codeIn K cd30 "law" = true) (k30 : PySem.W.keepIn K (.ref f30) = true)
    (z0 : PySem.W.nsIn K mainGlobals "abs" = some none) (z1 : PySem.W.nsIn K mainGlobals "all" = some none) (z2 : PySem.W.nsIn K mainGlobals "bool" = some none) (z3 : PySem.W.nsIn K mainGlobals "int" = some none) (z4 : PySem.W.nsIn K mainGlobals "isinstance" = some none) (z5 : PySem.W.nsIn K mainGlobals "len" = some none) (z6 : PySem.W.nsIn K mainGlobals "max" = some none) (z7 : PySem.W.nsIn K mainGlobals "range" = some none) (z8 : PySem.W.nsIn K mainGlobals "sorted" = some none) (z9 : PySem.W.nsIn K mainGlobals "str" = some none) (z10 : PySem.W.nsIn K mainGlobals "tuple" = some none) {g0 : Addr} {gd0 : Option Addr} {gn0 : Nat} {gs0 : Array (Option Value)} {gt0_0 : Tok} {gt0_1 : Tok} (q0 : PySem.W.nsIn K mainGlobals "NOUGHT" = some (some (.ref g0))) (ql0 : K.lookup g0 = some ⟨.type "tuple", gd0, .seq #[.int 0 gt0_0, .int 1 gt0_1] gn0, gs0⟩)
    (main : ∀ ns : List Int, ns.length ≤ 63 → E30.F [.scr ns] = .ok (.dat (.bl true))) :
    ∃ fd : FuncData, (∀ (s : Shared) (v : Value), BindsTo s fd ⟨[v], []⟩ [("_law_script", v)]) ∧ ∀ base : Heap, K.In base → base.Ns mainGlobals mg → FnOk l.prog w K mg base (L2.CX l.prog w) 31 fa fd ["_law_script"] (spLaw K) := by
  have e := hfa.symm.trans (PySem.W.mg_of X G a30)
  cases e
  let fl : Nat → Option Addr := fun i => [f0, f1, f2, f3, f4, f5, f6, f7, f8, f9, f10, f11, f12, f13, f14, f15, f16, f17, f18, f19, f20, f21, f22, f23, f24, f25, f26, f27, f28, f29][i]?
  have hbi : BiOk K fl mg bt := by
    refine ⟨fun x hx => ?_, fun p hp => ?_⟩
    · simp only [bt, List.mem_cons, List.not_mem_nil, or_false] at hx
      rcases hx with rfl | rfl | rfl | rfl | rfl | rfl | rfl | rfl | rfl | rfl | rfl
      · exact PySem.W.mg_none_of X G z0
      · exact PySem.W.mg_none_of X G z1
      · exact PySem.W.mg_none_of X G z2
      · exact PySem.W.mg_none_of X G z3
      · exact PySem.W.mg_none_of X G z4
      · exact PySem.W.mg_none_of X G z5
      · exact PySem.W.mg_none_of X G z6
      · exact PySem.W.mg_none_of X G z7
      · exact PySem.W.mg_none_of X G z8
      · exact PySem.W.mg_none_of X G z9
      · exact PySem.W.mg_none_of X G z10
    · simp only [bt, List.mem_cons, List.not_mem_nil, or_false] at hp
      rcases hp with rfl
      · exact ⟨.ref g0, .ref g0, PySem.W.mg_of X G q0, rfl, fun F => .ctup (xs := [V.int 0, V.int 1]) (.inr ⟨_, _, _, ql0, rfl, rfl, (by show 2 ≤ sizeLine; decide), .cons ⟨_, rfl⟩ (.cons ⟨_, rfl⟩ (.nil))⟩) (.cons (.int 0) (.cons (.int 1) (.nil)))⟩
  refine ⟨PySem.W.fnOf "law" "law" (defArgs S30) (defBody S30) (defScope S30) .none kV30 dc30 pm30 an30 cd30 ct30, fun s v => .of_eq rfl, fun base _ _ => ?_⟩
  have W0 : TabW l.prog w K mg base fl (fun _ => .none) 0 T0 := TabW.nil
  have F0 := fun_mk (st := S0) l0 c0 k0
  have W1 : TabW l.prog w K mg base fl (fun _ => .none) 1 T1 := W0.more (en := E0) F0 sc0 hbi rfl (fun X g C => ok0 C) (PySem.W.mg_of X G a0) rfl (F0.binds (ps := ["_law_cell_here", "_law_many"]) fun _ _ _ _ _ _ us hl => match us, hl with | [_, _], _ => rfl)
  have F1 := fun_mk (st := S1) l1 c1 k1
  have W2 : TabW l.prog w K mg base fl (fun _ => .none) 2 T2 := W1.more (en := E1) F1 sc1 hbi rfl (fun X g C => ok1 C) (PySem.W.mg_of X G a1) rfl (F1.binds (ps := ["_law_xs", "_law_many"]) fun _ _ _ _ _ _ us hl => match us, hl with | [_, _], _ => rfl)
  have F2 := fun_mk (st := S2) l2 c2 k2
  have W3 : TabW l.prog w K mg base fl (fun _ => .none) 3 T3 := W2.more (en := E2) F2 sc2 hbi rfl (fun X g C => ok2 C) (PySem.W.mg_of X G a2) rfl (F2.binds (ps := ["_law_script", "_law_k"]) fun _ _ _ _ _ _ us hl => match us, hl with | [_, _], _ => rfl)
  have F3 := fun_mk (st := S3) l3 c3 k3
  have W4 : TabW l.prog w K mg base fl (fun _ => .none) 4 T4 := W3.more (en := E3) F3 sc3 hbi rfl (fun X g C => ok3 C) (PySem.W.mg_of X G a3) rfl (F3.binds (ps := ["_law_names_here", "_law_script", "_law_at", "_law_many", "_law_wide"]) fun _ _ _ _ _ _ us hl => match us, hl with | [_, _, _, _, _], _ => rfl)
  have F4 := fun_mk (st := S4) l4 c4 k4
  have W5 : TabW l.prog w K mg base fl (fun _ => .none) 5 T5 := W4.more (en := E4) F4 sc4 hbi rfl (fun X g C => ok4 C) (PySem.W.mg_of X G a4) rfl (F4.binds (ps := ["_law_name", "_law_xs", "_law_top", "_law_wide"]) fun _ _ _ _ _ _ us hl => match us, hl with | [_, _, _, _], _ => rfl)
  have F5 := fun_mk (st := S5) l5 c5 k5
  have W6 : TabW l.prog w K mg base fl (fun _ => .none) 6 T6 := W5.more (en := E5) F5 sc5 hbi rfl (fun X g C => ok5 C) (PySem.W.mg_of X G a5) rfl (F5.binds (ps := ["_law_script", "_law_at", "_law_most"]) fun _ _ _ _ _ _ us hl => match us, hl with | [_, _, _], _ => rfl)
  have F6 := fun_mk (st := S6) l6 c6 k6
  have W7 : TabW l.prog w K mg base fl (fun _ => .none) 7 T7 := W6.more (en := E6) F6 sc6 hbi rfl (fun X g C => ok6 C) (PySem.W.mg_of X G a6) rfl (F6.binds (ps := ["_law_web_here"]) fun _ _ _ _ _ _ us hl => match us, hl with | [_], _ => rfl)
  have F7 := fun_mk (st := S7) l7 c7 k7
  have W8 : TabW l.prog w K mg base fl (fun _ => .none) 8 T8 := W7.more (en := E7) F7 sc7 hbi rfl (fun X g C => ok7 C) (PySem.W.mg_of X G a7) rfl (F7.binds (ps := ["_law_top", "_law_bottom"]) fun _ _ _ _ _ _ us hl => match us, hl with | [_, _], _ => rfl)
  have F8 := fun_mk (st := S8) l8 c8 k8
  have W9 : TabW l.prog w K mg base fl (fun _ => .none) 9 T9 := W8.more (en := E8) F8 sc8 hbi rfl (fun X g C => ok8 C) (PySem.W.mg_of X G a8) rfl (F8.binds (ps := ["web"]) fun _ _ _ _ _ _ us hl => match us, hl with | [_], _ => rfl)
  have F9 := fun_mk (st := S9) l9 c9 k9
  have W10 : TabW l.prog w K mg base fl (fun _ => .none) 10 T10 := W9.more (en := E9) F9 sc9 hbi rfl (fun X g C => ok9 C) (PySem.W.mg_of X G a9) rfl (F9.binds (ps := ["web", "thing"]) fun _ _ _ _ _ _ us hl => match us, hl with | [_, _], _ => rfl)
  have F10 := fun_mk (st := S10) l10 c10 k10
  have W11 : TabW l.prog w K mg base fl (fun _ => .none) 11 T11 := W10.more (en := E10) F10 sc10 hbi rfl (fun X g C => ok10 C) (PySem.W.mg_of X G a10) rfl (F10.binds (ps := ["web", "cut"]) fun _ _ _ _ _ _ us hl => match us, hl with | [_, _], _ => rfl)
  have F11 := fun_mk (st := S11) l11 c11 k11
  have W12 : TabW l.prog w K mg base fl (fun _ => .none) 12 T12 := W11.more (en := E11) F11 sc11 hbi rfl (fun X g C => ok11 C) (PySem.W.mg_of X G a11) rfl (F11.binds (ps := ["one", "other"]) fun _ _ _ _ _ _ us hl => match us, hl with | [_, _], _ => rfl)
  have F12 := fun_mk (st := S12) l12 c12 k12
  have W13 : TabW l.prog w K mg base fl (fun _ => .none) 13 T13 := W12.more (en := E12) F12 sc12 hbi rfl (fun X g C => ok12 C) (PySem.W.mg_of X G a12) rfl (F12.binds (ps := ["top", "bottom"]) fun _ _ _ _ _ _ us hl => match us, hl with | [_, _], _ => rfl)
  have F13 := fun_mk (st := S13) l13 c13 k13
  have W14 : TabW l.prog w K mg base fl (fun _ => .none) 14 T14 := W13.more (en := E13) F13 sc13 hbi rfl (fun X g C => ok13 C) (PySem.W.mg_of X G a13) rfl (F13.binds (ps := ["a", "b"]) fun _ _ _ _ _ _ us hl => match us, hl with | [_, _], _ => rfl)
  have F14 := fun_mk (st := S14) l14 c14 k14
  have W15 : TabW l.prog w K mg base fl (fun _ => .none) 15 T15 := W14.more (en := E14) F14 sc14 hbi rfl (fun X g C => ok14 C) (PySem.W.mg_of X G a14) rfl (F14.binds (ps := ["a", "b"]) fun _ _ _ _ _ _ us hl => match us, hl with | [_, _], _ => rfl)
  have F15 := fun_mk (st := S15) l15 c15 k15
  have W16 : TabW l.prog w K mg base fl (fun _ => .none) 16 T16 := W15.more (en := E15) F15 sc15 hbi rfl (fun X g C => ok15 C) (PySem.W.mg_of X G a15) rfl (F15.binds (ps := ["line", "price"]) fun _ _ _ _ _ _ us hl => match us, hl with | [_, _], _ => rfl)
  have F16 := fun_mk (st := S16) l16 c16 k16
  have W17 : TabW l.prog w K mg base fl (fun _ => .none) 17 T17 := W16.more (en := E16) F16 sc16 hbi rfl (fun X g C => ok16 C) (PySem.W.mg_of X G a16) rfl (F16.binds (ps := ["thing"]) fun _ _ _ _ _ _ us hl => match us, hl with | [_], _ => rfl)
  have F17 := fun_mk (st := S17) l17 c17 k17
  have W18 : TabW l.prog w K mg base fl (fun _ => .none) 18 T18 := W17.more (en := E17) F17 sc17 hbi rfl (fun X g C => ok17 C) (PySem.W.mg_of X G a17) rfl (F17.binds (ps := ["thing"]) fun _ _ _ _ _ _ us hl => match us, hl with | [_], _ => rfl)
  have F18 := fun_mk (st := S18) l18 c18 k18
  have W19 : TabW l.prog w K mg base fl (fun _ => .none) 19 T19 := W18.more (en := E18) F18 sc18 hbi rfl (fun X g C => ok18 C) (PySem.W.mg_of X G a18) rfl (F18.binds (ps := ["a", "b"]) fun _ _ _ _ _ _ us hl => match us, hl with | [_, _], _ => rfl)
  have F19 := fun_mk (st := S19) l19 c19 k19
  have W20 : TabW l.prog w K mg base fl (fun _ => .none) 20 T20 := W19.more (en := E19) F19 sc19 hbi rfl (fun X g C => ok19 C) (PySem.W.mg_of X G a19) rfl (F19.binds (ps := ["web", "thing"]) fun _ _ _ _ _ _ us hl => match us, hl with | [_, _], _ => rfl)
  have F20 := fun_mk (st := S20) l20 c20 k20
  have W21 : TabW l.prog w K mg base fl (fun _ => .none) 21 T21 := W20.more (en := E20) F20 sc20 hbi rfl (fun X g C => ok20 C) (PySem.W.mg_of X G a20) rfl (F20.binds (ps := ["web", "cut", "price"]) fun _ _ _ _ _ _ us hl => match us, hl with | [_, _, _], _ => rfl)
  have F21 := fun_mk (st := S21) l21 c21 k21
  have W22 : TabW l.prog w K mg base fl (fun _ => .none) 22 T22 := W21.more (en := E21) F21 sc21 hbi rfl (fun X g C => ok21 C) (PySem.W.mg_of X G a21) rfl (F21.binds (ps := ["_law_one", "_law_other"]) fun _ _ _ _ _ _ us hl => match us, hl with | [_, _], _ => rfl)
  have F22 := fun_mk (st := S22) l22 c22 k22
  have W23 : TabW l.prog w K mg base fl (fun _ => .none) 23 T23 := W22.more (en := E22) F22 sc22 hbi rfl (fun X g C => ok22 C) (PySem.W.mg_of X G a22) rfl (F22.binds (ps := ["_law_one", "_law_other"]) fun _ _ _ _ _ _ us hl => match us, hl with | [_, _], _ => rfl)
  have F23 := fun_mk (st := S23) l23 c23 k23
  have W24 : TabW l.prog w K mg base fl (fun _ => .none) 24 T24 := W23.more (en := E23) F23 sc23 hbi rfl (fun X g C => ok23 C) (PySem.W.mg_of X G a23) rfl (F23.binds (ps := ["_law_web_here", "_law_price_here"]) fun _ _ _ _ _ _ us hl => match us, hl with | [_, _], _ => rfl)
  have F24 := fun_mk (st := S24) l24 c24 k24
  have W25 : TabW l.prog w K mg base fl (fun _ => .none) 25 T25 := W24.more (en := E24) F24 sc24 hbi rfl (fun X g C => ok24 C) (PySem.W.mg_of X G a24) rfl (F24.binds (ps := ["_law_web_here", "_law_cut", "_law_price_here"]) fun _ _ _ _ _ _ us hl => match us, hl with | [_, _, _], _ => rfl)
  have F25 := fun_mk (st := S25) l25 c25 k25
  have W26 : TabW l.prog w K mg base fl (fun _ => .none) 26 T26 := W25.more (en := E25) F25 sc25 hbi rfl (fun X g C => ok25 C) (PySem.W.mg_of X G a25) rfl (F25.binds (ps := ["web", "price"]) fun _ _ _ _ _ _ us hl => match us, hl with | [_, _], _ => rfl)
  have F26 := fun_mk (st := S26) l26 c26 k26
  have W27 : TabW l.prog w K mg base fl (fun _ => .none) 27 T27 := W26.more (en := E26) F26 sc26 hbi rfl (fun X g C => ok26 C) (PySem.W.mg_of X G a26) rfl (F26.binds (ps := ["a", "b"]) fun _ _ _ _ _ _ us hl => match us, hl with | [_, _], _ => rfl)
  have F27 := fun_mk (st := S27) l27 c27 k27
  have W28 : TabW l.prog w K mg base fl (fun _ => .none) 28 T28 := W27.more (en := E27) F27 sc27 hbi rfl (fun X g C => ok27 C) (PySem.W.mg_of X G a27) rfl (F27.binds (ps := ["web", "price"]) fun _ _ _ _ _ _ us hl => match us, hl with | [_, _], _ => rfl)
  have F28 := fun_mk (st := S28) l28 c28 k28
  have W29 : TabW l.prog w K mg base fl (fun _ => .none) 29 T29 := W28.more (en := E28) F28 sc28 hbi rfl (fun X g C => ok28 C) (PySem.W.mg_of X G a28) rfl (F28.binds (ps := ["_law_web_here", "_law_cut", "_law_price_here"]) fun _ _ _ _ _ _ us hl => match us, hl with | [_, _, _], _ => rfl)
  have F29 := fun_mk (st := S29) l29 c29 k29
  have W30 : TabW l.prog w K mg base fl (fun _ => .none) 30 T30 := W29.more (en := E29) F29 sc29 hbi rfl (fun X g C => ok29 C) (PySem.W.mg_of X G a29) rfl (F29.binds (ps := ["_law_web_here", "_law_x", "_law_y"]) fun _ _ _ _ _ _ us hl => match us, hl with | [_, _, _], _ => rfl)
  have F30 := fun_mk (st := S30) l30 c30 k30
  exact (def_ok (fa := fl) (cls := fun _ => .none) (n := 1) (tab := T30) F30 sc30 rfl hbi W30.use fun X g _ C => ok30 C).imp (spLaw_of main)
end K08
open PySem PySem.W PyProof.Rows
set_option maxRecDepth 100000 in
set_option maxHeartbeats 0 in
theorem PySem.Challenge.cw_cutstairs_k08_lines_and_worths_holds : PySem.Challenge.rw_cutstairs_k08_lines_and_worths.Holds := by
  w_on; o_law; k_head; (case hw => w_witness2)
  k_fill
  refine Fn.walk (l := PySem.Challenge.rw_cutstairs_k08_lines_and_worths) (x := "_law_script") 31 (by exact ⟨rfl, by decide, by decide⟩) rfl rfl (fun w h Y => PySem.W.kIn_of Y) ?F
  case F =>
    intro w mg fa h KX G hmg
    refine' K08.all_mk KX G hmg ?a0 ?l0 ?c0 ?k0 ?a1 ?l1 ?c1 ?k1 ?a2 ?l2 ?c2 ?k2 ?a3 ?l3 ?c3 ?k3 ?a4 ?l4 ?c4 ?k4 ?a5 ?l5 ?c5 ?k5 ?a6 ?l6 ?c6 ?k6 ?a7 ?l7 ?c7 ?k7 ?a8 ?l8 ?c8 ?k8 ?a9 ?l9 ?c9 ?k9 ?a10 ?l10 ?c10 ?k10 ?a11 ?l11 ?c11 ?k11 ?a12 ?l12 ?c12 ?k12 ?a13 ?l13 ?c13 ?k13 ?a14 ?l14 ?c14 ?k14 ?a15 ?l15 ?c15 ?k15 ?a16 ?l16 ?c16 ?k16 ?a17 ?l17 ?c17 ?k17 ?a18 ?l18 ?c18 ?k18 ?a19 ?l19 ?c19 ?k19 ?a20 ?l20 ?c20 ?k20 ?a21 ?l21 ?c21 ?k21 ?a22 ?l22 ?c22 ?k22 ?a23 ?l23 ?c23 ?k23 ?a24 ?l24 ?c24 ?k24 ?a25 ?l25 ?c25 ?k25 ?a26 ?l26 ?c26 ?k26 ?a27 ?l27 ?c27 ?k27 ?a28 ?l28 ?c28 ?k28 ?a29 ?l29 ?c29 ?k29 ?a30 ?l30 ?c30 ?k30 ?z0 ?z1 ?z2 ?z3 ?z4 ?z5 ?z6 ?z7 ?z8 ?z9 ?z10 ?q0 ?ql0 K08.main
    (case a0 => k_is); (case l0 => k_is); (case c0 => k_is); (case k0 => k_is)
    (case a1 => k_is); (case l1 => k_is); (case c1 => k_is); (case k1 => k_is)
    (case a2 => k_is); (case l2 => k_is); (case c2 => k_is); (case k2 => k_is)
    (case a3 => k_is); (case l3 => k_is); (case c3 => k_is); (case k3 => k_is)
    (case a4 => k_is); (case l4 => k_is); (case c4 => k_is); (case k4 => k_is)
    (case a5 => k_is); (case l5 => k_is); (case c5 => k_is); (case k5 => k_is)
    (case a6 => k_is); (case l6 => k_is); (case c6 => k_is); (case k6 => k_is)
    (case a7 => k_is); (case l7 => k_is); (case c7 => k_is); (case k7 => k_is)
    (case a8 => k_is); (case l8 => k_is); (case c8 => k_is); (case k8 => k_is)
    (case a9 => k_is); (case l9 => k_is); (case c9 => k_is); (case k9 => k_is)
    (case a10 => k_is); (case l10 => k_is); (case c10 => k_is); (case k10 => k_is)
    (case a11 => k_is); (case l11 => k_is); (case c11 => k_is); (case k11 => k_is)
    (case a12 => k_is); (case l12 => k_is); (case c12 => k_is); (case k12 => k_is)
    (case a13 => k_is); (case l13 => k_is); (case c13 => k_is); (case k13 => k_is)
    (case a14 => k_is); (case l14 => k_is); (case c14 => k_is); (case k14 => k_is)
    (case a15 => k_is); (case l15 => k_is); (case c15 => k_is); (case k15 => k_is)
    (case a16 => k_is); (case l16 => k_is); (case c16 => k_is); (case k16 => k_is)
    (case a17 => k_is); (case l17 => k_is); (case c17 => k_is); (case k17 => k_is)
    (case a18 => k_is); (case l18 => k_is); (case c18 => k_is); (case k18 => k_is)
    (case a19 => k_is); (case l19 => k_is); (case c19 => k_is); (case k19 => k_is)
    (case a20 => k_is); (case l20 => k_is); (case c20 => k_is); (case k20 => k_is)
    (case a21 => k_is); (case l21 => k_is); (case c21 => k_is); (case k21 => k_is)
    (case a22 => k_is); (case l22 => k_is); (case c22 => k_is); (case k22 => k_is)
    (case a23 => k_is); (case l23 => k_is); (case c23 => k_is); (case k23 => k_is)
    (case a24 => k_is); (case l24 => k_is); (case c24 => k_is); (case k24 => k_is)
    (case a25 => k_is); (case l25 => k_is); (case c25 => k_is); (case k25 => k_is)
    (case a26 => k_is); (case l26 => k_is); (case c26 => k_is); (case k26 => k_is)
    (case a27 => k_is); (case l27 => k_is); (case c27 => k_is); (case k27 => k_is)
    (case a28 => k_is); (case l28 => k_is); (case c28 => k_is); (case k28 => k_is)
    (case a29 => k_is); (case l29 => k_is); (case c29 => k_is); (case k29 => k_is)
    (case a30 => k_is); (case l30 => k_is); (case c30 => k_is); (case k30 => k_is)
    (case z0 => k_is); (case z1 => k_is); (case z2 => k_is); (case z3 => k_is); (case z4 => k_is); (case z5 => k_is); (case z6 => k_is); (case z7 => k_is); (case z8 => k_is); (case z9 => k_is); (case z10 => k_is)
    (case q0 => k_is); (case ql0 => k_is)
