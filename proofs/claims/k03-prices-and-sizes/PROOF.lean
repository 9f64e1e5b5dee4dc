import PyProof.Rows.All
import HandS.Conv
import HandS.Deep
import HandS.ExcIs
import HandS.ForExc
import HandS.ForMost
import HandS.HotCalls
import HandS.IsInst
import HandS.More
import HandS.Style
import HandS.TupAny
import HandS.TupLen
import HandS.TupMul
import HandS.Wide
import HandS.Zip
import KE.LtSeq
import KE.OsArith
import KE.SortData
import OpenK.AllK
import PyProof.TupleOfSeq
import PyProof.TupleOfStr
import Wide.All
import Wide.FinOn
import PySem.Challenge.RW_cutstairs_k03_prices_and_sizes
set_option Elab.async false
set_option linter.all false
set_option maxRecDepth 100000
set_option maxHeartbeats 1000000
namespace Fn
open PySem PySem.Spec PyProof.Rows L2
/-! ### plain data, what a name holds, what an evaluation ends in -/
inductive D where
  | non | bl (b : Bool) | int (i : Int) | str (x : Str) | tup (xs : List D) | ctup (xs : List D) | lst (xs : List D)
  | dk (kvs : List (Key × D)) | dt (kvs : List (List Key × D)) | fn (k : Nat)
inductive M where
  | l (ds : List D) | k (kvs : List (Key × D)) | t (kvs : List (List Key × D))
inductive B where
  | dat (d : D) | own (m : M) | vw (m : M) | bor (m : M) | scr (ns : List Int) | err (c : Nat)
inductive Res (α : Type) where
  | ok (a : α) | exc (c : Nat) | bad
namespace Res
def bind {α β : Type} (r : Res α) (f : α → Res β) : Res β := match r with
  | .ok a => f a
  | .exc c => .exc c
  | .bad => .bad
def map {α β : Type} (f : α → β) (r : Res α) : Res β := r.bind fun a => .ok (f a)
theorem ok_bind {α β : Type} (a : α) (f : α → Res β) : (Res.ok a).bind f = f a := rfl
theorem exc_bind {α β : Type} (c : Nat) (f : α → Res β) : (Res.exc c : Res α).bind f = .exc c := rfl
theorem bad_bind {α β : Type} (f : α → Res β) : (Res.bad : Res α).bind f = .bad := rfl
end Res
def frzM : M → D
  | .l ds => .lst ds
  | .k kvs => .dk kvs
  | .t kvs => .dt kvs
/-- a value that is handed on within an expression: what is fresh is locked -/
def rd : B → B
  | .own m => .dat (frzM m)
  | b => b
abbrev Env := List (Option B)
/-! ### how data lies in the heap -/
mutual
inductive Rp (K : PySem.W.Frag) (fa : Nat → Option Addr) (F : Hp) : V → D → Prop
  | non : Rp K fa F .non .non
  | bl (b : Bool) : Rp K fa F (.bl b) (.bl b)
  | int (i : Int) : Rp K fa F (.int i) (.int i)
  | str (x : Str) : Rp K fa F (.str x) (.str x)
  | tup {a : Addr} {xs : List V} {ds : List D} : F a = some (.tup xs) → RpAll K fa F xs ds → Rp K fa F (.ref a) (.tup ds)
  | ctup {a : Addr} {xs : List V} {ds : List D} : SqT K (fun _ => none) a xs → RpAll K fa F xs ds → Rp K fa F (.ref a) (.ctup ds)
  | lst {a : Addr} {xs : List V} {ds : List D} : F a = some (.lst xs) → RpAll K fa F xs ds → Rp K fa F (.ref a) (.lst ds)
  | dk {a : Addr} {kvs : List (Key × V)} {kds : List (Key × D)} : F a = some (.dK kvs) → kvs.map (·.1) = kds.map (·.1) → RpAll K fa F (kvs.map (·.2)) (kds.map (·.2)) → Rp K fa F (.ref a) (.dk kds)
  | dt {a : Addr} {kvs : List (List Key × V)} {kds : List (List Key × D)} : F a = some (.dT kvs) → kvs.map (·.1) = kds.map (·.1) → RpAll K fa F (kvs.map (·.2)) (kds.map (·.2)) → Rp K fa F (.ref a) (.dt kds)
  | fn {a : Addr} {k : Nat} : fa k = some a → Rp K fa F (.ref a) (.fn k)
inductive RpAll (K : PySem.W.Frag) (fa : Nat → Option Addr) (F : Hp) : List V → List D → Prop
  | nil : RpAll K fa F [] []
  | cons {v : V} {vs : List V} {d : D} {ds : List D} : Rp K fa F v d → RpAll K fa F vs ds → RpAll K fa F (v :: vs) (d :: ds)
end
inductive RpM (K : PySem.W.Frag) (fa : Nat → Option Addr) (F : Hp) : HO → M → Prop
  | l {xs : List V} {ds : List D} : RpAll K fa F xs ds → RpM K fa F (.lst xs) (.l ds)
  | k {kvs : List (Key × V)} {kds : List (Key × D)} : kvs.map (·.1) = kds.map (·.1) → RpAll K fa F (kvs.map (·.2)) (kds.map (·.2)) → RpM K fa F (.dK kvs) (.k kds)
  | t {kvs : List (List Key × V)} {kds : List (List Key × D)} : kvs.map (·.1) = kds.map (·.1) → RpAll K fa F (kvs.map (·.2)) (kds.map (·.2)) → RpM K fa F (.dT kvs) (.t kds)
section
variable {K : PySem.W.Frag} {fa : Nat → Option Addr} {F F' H H' : Hp}
theorem same_sqT (e : Same F F') {a : Addr} {xs : List V} (h : SqT K F a xs) : SqT K F' a xs := by
  rcases h with (h | ⟨o, h⟩) | h
  · exact .inl (.inl (e _ _ h))
  · exact .inl (.inr ⟨o, e _ _ h⟩)
  · exact .inr h
mutual
theorem Rp.mono (e : Same F F') : ∀ {v : V} {d : D}, Rp K fa F v d → Rp K fa F' v d
  | _, _, .non => .non
  | _, _, .bl b => .bl b
  | _, _, .int i => .int i
  | _, _, .str x => .str x
  | _, _, .tup h r => .tup (e _ _ h) (RpAll.mono e r)
  | _, _, .ctup h r => .ctup h (RpAll.mono e r)
  | _, _, .lst h r => .lst (e _ _ h) (RpAll.mono e r)
  | _, _, .dk h q r => .dk (e _ _ h) q (RpAll.mono e r)
  | _, _, .dt h q r => .dt (e _ _ h) q (RpAll.mono e r)
  | _, _, .fn h => .fn h
theorem RpAll.mono (e : Same F F') : ∀ {vs : List V} {ds : List D}, RpAll K fa F vs ds → RpAll K fa F' vs ds
  | _, _, .nil => .nil
  | _, _, .cons h r => .cons (Rp.mono e h) (RpAll.mono e r)
end
theorem RpM.mono (e : Same F F') {o : HO} {m : M} (h : RpM K fa F o m) : RpM K fa F' o m := by
  cases h with
  | l r => exact .l (r.mono e)
  | k q r => exact .k q (r.mono e)
  | t q r => exact .t q (r.mono e)
theorem RpAll.len : ∀ {vs : List V} {ds : List D}, RpAll K fa F vs ds → vs.length = ds.length
  | _, _, .nil => rfl
  | _, _, .cons _ r => congrArg (· + 1) r.len
theorem RpAll.get : ∀ {vs : List V} {ds : List D} {i : Nat} {d : D}, RpAll K fa F vs ds → ds[i]? = some d → ∃ v, vs[i]? = some v ∧ Rp K fa F v d
  | _, _, _, _, .nil, h => by simp at h
  | _, _, 0, _, .cons h _, e => by simp at e; subst e; exact ⟨_, rfl, h⟩
  | _, _, i + 1, d, .cons _ r, e => by
    obtain ⟨v, h1, h2⟩ := RpAll.get (i := i) (d := d) r (by simpa using e)
    exact ⟨v, by simpa using h1, h2⟩
theorem RpAll.get' : ∀ {vs : List V} {ds : List D} {i : Nat} {v : V}, RpAll K fa F vs ds → vs[i]? = some v → ∃ d, ds[i]? = some d ∧ Rp K fa F v d
  | _, _, _, _, .nil, h => by simp at h
  | _, _, 0, _, .cons h _, e => by simp at e; subst e; exact ⟨_, rfl, h⟩
  | _, _, i + 1, v, .cons _ r, e => by
    obtain ⟨d, h1, h2⟩ := RpAll.get' (i := i) (v := v) r (by simpa using e)
    exact ⟨d, by simpa using h1, h2⟩
theorem RpAll.app : ∀ {vs ws : List V} {ds es : List D}, RpAll K fa F vs ds → RpAll K fa F ws es → RpAll K fa F (vs ++ ws) (ds ++ es)
  | _, _, _, _, .nil, s => s
  | _, _, _, _, .cons h r, s => .cons h (r.app s)
theorem RpAll.take : ∀ {vs : List V} {ds : List D} (n : Nat), RpAll K fa F vs ds → RpAll K fa F (vs.take n) (ds.take n)
  | _, _, 0, _ => .nil
  | _, _, _ + 1, .nil => .nil
  | _, _, n + 1, .cons h r => .cons h (r.take n)
theorem RpAll.drop : ∀ {vs : List V} {ds : List D} (n : Nat), RpAll K fa F vs ds → RpAll K fa F (vs.drop n) (ds.drop n)
  | _, _, 0, r => r
  | _, _, _ + 1, .nil => .nil
  | _, _, n + 1, .cons _ r => r.drop n
theorem RpAll.rev {vs : List V} {ds : List D} (h : RpAll K fa F vs ds) : RpAll K fa F vs.reverse ds.reverse := by
  induction vs generalizing ds with
  | nil => cases h; exact .nil
  | cons v vs ih =>
    cases h with
    | cons h r =>
      rw [List.reverse_cons, List.reverse_cons]
      exact (ih r).app (.cons h .nil)
theorem RpAll.set : ∀ {vs : List V} {ds : List D} (i : Nat) {v : V} {d : D}, RpAll K fa F vs ds → Rp K fa F v d → RpAll K fa F (vs.set i v) (ds.set i d)
  | _, _, _, _, _, .nil, _ => .nil
  | _, _, 0, _, _, .cons _ r, h => .cons h r
  | _, _, i + 1, _, _, .cons q r, h => .cons q (r.set i h)
theorem RpAll.ints : ∀ {vs : List V} {ns : List Int}, RpAll K fa F vs (ns.map D.int) → vs = ns.map V.int
  | _, [], .nil => rfl
  | _, n :: ns, .cons h r => by cases h; rw [r.ints]; rfl
theorem RpAll.of_ints : ∀ (ns : List Int), RpAll K fa F (ns.map V.int) (ns.map D.int)
  | [] => .nil
  | n :: ns => .cons (.int n) (RpAll.of_ints ns)
theorem RpAll.strs : ∀ {vs : List V} {ns : List Str}, RpAll K fa F vs (ns.map D.str) → vs = ns.map V.str
  | _, [], .nil => rfl
  | _, n :: ns, .cons h r => by cases h; rw [r.strs]; rfl
theorem RpAll.of_strs : ∀ (ns : List Str), RpAll K fa F (ns.map V.str) (ns.map D.str)
  | [] => .nil
  | n :: ns => .cons (.str n) (RpAll.of_strs ns)
theorem RpAll.bls : ∀ {vs : List V} {ns : List Bool}, RpAll K fa F vs (ns.map D.bl) → vs = ns.map V.bl
  | _, [], .nil => rfl
  | _, n :: ns, .cons h r => by cases h; rw [r.bls]; rfl
theorem RpM.frz {o : HO} {m : M} {p : Addr} (h : RpM K fa F o m) (e : F p = some o) : Rp K fa F (.ref p) (frzM m) := by
  cases h with
  | l r => exact .lst e r
  | k q r => exact .dk e q r
  | t q r => exact .dt e q r
/-! ### growing -/
structure Grow (F H F' H' : Hp) : Prop where
  fh : Same F F'
  hh : Same H H'
  sub : Same F' H'
  new : ∀ a o, H a = some o → (∀ xs, o ≠ .tup xs) → F a = none → F' a = none
theorem Grow.refl (s : Same F H) : Grow F H F H := ⟨Same.refl F, Same.refl H, s, fun _ _ _ _ e => e⟩
theorem Grow.trans {F1 H1 F2 H2 : Hp} (a : Grow F H F1 H1) (b : Grow F1 H1 F2 H2) : Grow F H F2 H2 :=
  ⟨a.fh.trans b.fh, a.hh.trans b.hh, b.sub, fun c o h n e => b.new c o (a.hh _ _ h) n (a.new c o h n e)⟩
theorem upd_none {p b : Addr} {o : HO} (h : H p = none) (e : H b ≠ none) : upd H p o b = H b := upd_ne fun z => e (z ▸ h)
theorem same_upd {p : Addr} {o : HO} (h : H p = none) : Same H (upd H p o) := fun b u q => by rw [upd_ne (ne_of_none q h)]; exact q
theorem Same.none {p : Addr} (s : Same F H) (h : H p = none) : F p = none := s.free h
/-- a new object, not locked -/
theorem Grow.newH (s : Same F H) {p : Addr} {o : HO} (h : H p = none) : Grow F H F (upd H p o) :=
  ⟨Same.refl F, same_upd h, s.trans (same_upd h), fun _ _ _ _ e => e⟩
/-- a new object, locked -/
theorem Grow.newF (s : Same F H) {p : Addr} {o : HO} (h : H p = none) : Grow F H (upd F p o) (upd H p o) :=
  ⟨same_upd (s.free h), same_upd h, fun b u q => by
    by_cases hb : b = p
    · subst hb; rw [upd_same] at q ⊢; exact q
    · rw [upd_ne hb] at q ⊢; exact s _ _ q, fun a o ha _ e => by
    have hb : a ≠ p := ne_of_none ha h
    rw [upd_ne hb]; exact e⟩
/-- locking what was new -/
theorem Grow.lock {F1 H1 : Hp} (g : Grow F H F1 H1) {p : Addr} {o : HO} (h : H p = none) (e : H1 p = some o) (f : F1 p = none) : Grow F H (upd F1 p o) H1 :=
  ⟨g.fh.trans (same_upd f), g.hh, fun b u q => by
    by_cases hb : b = p
    · subst hb; rw [upd_same] at q; rw [e]; exact q
    · rw [upd_ne hb] at q; exact g.sub _ _ q, fun a o ha n ea => by
    have hb : a ≠ p := ne_of_none ha h
    rw [upd_ne hb]; exact g.new a o ha n ea⟩
/-- a tuple that stands, locked -/
theorem Grow.tup {F1 H1 : Hp} (g : Grow F H F1 H1) {p : Addr} {xs : List V} (e : H1 p = some (.tup xs)) : Grow F H (upd F1 p (.tup xs)) H1 :=
  ⟨fun b u q => by
    by_cases hb : b = p
    · subst hb
      have := g.sub _ _ (g.fh _ _ q)
      rw [e] at this
      rw [upd_same]
      exact this
    · rw [upd_ne hb]; exact g.fh _ _ q, g.hh, fun b u q => by
    by_cases hb : b = p
    · subst hb; rw [upd_same] at q; rw [e]; exact q
    · rw [upd_ne hb] at q; exact g.sub _ _ q, fun a o ha n ea => by
    have hb : a ≠ p := fun z => by
      subst z
      have := g.hh _ _ ha
      rw [e] at this
      exact n xs (Option.some.inj this).symm
    rw [upd_ne hb]; exact g.new a o ha n ea⟩
end
theorem RpM.notTup {K : PySem.W.Frag} {fa : Nat → Option Addr} {F : Hp} {o : HO} {m : M} (h : RpM K fa F o m) : ∀ xs, o ≠ .tup xs := by
  cases h <;> (intro xs z; cases z)
/-! ### the fixed part of a def's run: what stood at its entry, and the wish about errors -/
structure G where
  K : PySem.W.Frag
  fa : Nat → Option Addr
  F0 : Hp
  G0 : Hp
  E : Nat → L2.St → Hp → Prop
  h : Option (Addr × Obj)
/-- the error that is handled (g.h): its class stands at fa (1000 + c) -/
def ErrAt (g : G) (v : V) (c : Nat) : Prop := ∃ (a C : Addr) (oe : Obj), g.h = some (a, oe) ∧ v = .ref a ∧ g.fa (1000 + c) = some C ∧ Zc (.ref C) none oe ∧ ∃ vs, oe.data = .fields vs
/-- what an expression gave -/
def RB (g : G) (F H F' H' : Hp) (v : V) : B → Prop
  | .dat d => Rp g.K g.fa F' v d
  | .own m => ∃ p o, v = .ref p ∧ H p = none ∧ H' p = some o ∧ F' p = none ∧ RpM g.K g.fa F' o m
  | .vw m => ∃ p o, v = .ref p ∧ H' p = some o ∧ RpM g.K g.fa F' o m
  | .bor m => ∃ p o, v = .ref p ∧ g.G0 p = some o ∧ RpM g.K g.fa F' o m
  | .scr ns => ∃ p, v = .ref p ∧ SqL g.K g.G0 p (ns.map V.int)
  | .err c => ErrAt g v c
/-- a value in hand -/
def RR (g : G) (F H : Hp) (v : V) : B → Prop
  | .dat d => Rp g.K g.fa F v d
  | .own _ => False
  | .vw m => ∃ p o, v = .ref p ∧ H p = some o ∧ RpM g.K g.fa F o m
  | .bor m => ∃ p o, v = .ref p ∧ g.G0 p = some o ∧ RpM g.K g.fa F o m
  | .scr ns => ∃ p, v = .ref p ∧ SqL g.K g.G0 p (ns.map V.int)
  | .err c => ErrAt g v c
/-- what a name holds -/
def RN (g : G) (F H : Hp) (v : V) : B → Prop
  | .dat d => Rp g.K g.fa F v d
  | .own m => ∃ p o, v = .ref p ∧ H p = some o ∧ F p = none ∧ g.G0 p = none ∧ RpM g.K g.fa F o m
  | .vw _ => False
  | .bor m => ∃ p o, v = .ref p ∧ g.G0 p = some o ∧ RpM g.K g.fa F o m
  | .scr ns => ∃ p, v = .ref p ∧ SqL g.K g.G0 p (ns.map V.int)
  | .err c => ErrAt g v c
/-- the state within a def's body -/
structure St (g : G) (F H : Hp) (σ : L2.St) (ρ : Env) : Prop where
  gr : Grow g.F0 g.G0 F H
  len : σ.length = ρ.length
  at_ : ∀ (i : Nat) (b : B), ρ[i]? = some (some b) → ∃ v, σ[i]? = some (some v) ∧ RN g F H v b
  apart : ∀ (i j : Nat) (m m' : M), i ≠ j → ρ[i]? = some (some (.own m)) → ρ[j]? = some (some (.own m')) → σ[i]? ≠ σ[j]?
section
variable {g : G} {F H F' H' : Hp} {σ : L2.St} {ρ : Env}
theorem St.sub (s : St g F H σ ρ) : Same F H := s.gr.sub
theorem RN.mono {v : V} {b : B} (r : RN g F H v b) (e : Grow F H F' H') : RN g F' H' v b := by
  cases b with
  | dat d => exact Rp.mono e.fh r
  | own m =>
    obtain ⟨p, o, rfl, h, f, n, q⟩ := r
    exact ⟨p, o, rfl, e.hh _ _ h, e.new p o h q.notTup f, n, q.mono e.fh⟩
  | vw m => exact r
  | bor m =>
    obtain ⟨p, o, rfl, h, q⟩ := r
    exact ⟨p, o, rfl, h, q.mono e.fh⟩
  | scr ns => exact r
  | err c => exact r
theorem RR.mono {v : V} {b : B} (r : RR g F H v b) (e : Grow F H F' H') : RR g F' H' v b := by
  cases b with
  | dat d => exact Rp.mono e.fh r
  | own m => exact r
  | vw m =>
    obtain ⟨p, o, rfl, h, q⟩ := r
    exact ⟨p, o, rfl, e.hh _ _ h, q.mono e.fh⟩
  | bor m =>
    obtain ⟨p, o, rfl, h, q⟩ := r
    exact ⟨p, o, rfl, h, q.mono e.fh⟩
  | scr ns => exact r
  | err c => exact r
/-- from an expression's value to one in hand: what is fresh is locked -/
theorem RB.rd {v : V} {b : B} (e : Grow F H F' H') (r : RB g F H F' H' v b) : ∃ F'', Grow F H F'' H' ∧ RR g F'' H' v (rd b) := by
  cases b with
  | dat d => exact ⟨F', e, r⟩
  | own m =>
    obtain ⟨p, o, rfl, h, ho, f, q⟩ := r
    refine ⟨upd F' p o, e.lock h ho f, ?_⟩
    exact (q.mono (same_upd f)).frz upd_same
  | vw m =>
    obtain ⟨p, o, rfl, h, q⟩ := r
    exact ⟨F', e, p, o, rfl, h, q⟩
  | bor m =>
    obtain ⟨p, o, rfl, h, q⟩ := r
    exact ⟨F', e, p, o, rfl, h, q⟩
  | scr ns => exact ⟨F', e, r⟩
  | err c => exact ⟨F', e, r⟩
/-- a value in hand, as an expression's value -/
theorem RR.rb {v : V} {b : B} {F0 H0 : Hp} (r : RR g F H v b) : RB g F0 H0 F H v b := by
  cases b with
  | dat d => exact r
  | own m => exact r.elim
  | vw m => exact r
  | bor m => exact r
  | scr ns => exact r
  | err c => exact r
theorem RB.later {v : V} {b : B} {F1 H1 : Hp} (e : Grow F H F1 H1) (r : RB g F1 H1 F' H' v b) : RB g F H F' H' v b := by
  cases b with
  | dat d => exact r
  | own m =>
    obtain ⟨p, o, rfl, h, z⟩ := r
    exact ⟨p, o, rfl, e.hh.free h, z⟩
  | vw m => exact r
  | bor m => exact r
  | scr ns => exact r
  | err c => exact r
theorem St.grow (s : St g F H σ ρ) (e : Grow F H F' H') : St g F' H' σ ρ :=
  ⟨s.gr.trans e, s.len, fun i b h => let ⟨v, h1, h2⟩ := s.at_ i b h; ⟨v, h1, h2.mono e⟩, s.apart⟩
theorem St.own_none (s : St g F H σ ρ) {i : Nat} {m : M} (h : ρ[i]? = some (some (.own m))) : ∃ p o, σ[i]? = some (some (.ref p)) ∧ H p = some o ∧ F p = none ∧ g.G0 p = none ∧ RpM g.K g.fa F o m := by
  obtain ⟨v, h1, p, o, rfl, h2⟩ := s.at_ i _ h
  exact ⟨p, o, h1, h2⟩
theorem set_some {α : Type} {l : List (Option α)} {i j : Nat} {x : Option α} {y : α} (h : (l.set i x)[j]? = some (some y)) : (i = j ∧ x = some y ∧ j < l.length) ∨ (i ≠ j ∧ l[j]? = some (some y)) := by
  by_cases hij : i = j
  · subst hij
    by_cases hl : i < l.length
    · rw [List.getElem?_set_self hl] at h
      exact .inl ⟨rfl, Option.some.inj h, hl⟩
    · rw [List.getElem?_eq_none (by simpa using hl)] at h
      cases h
  · rw [List.getElem?_set_ne hij] at h
    exact .inr ⟨hij, h⟩
/-- a name takes what an expression gave -/
theorem St.put (s : St g F H σ ρ) {v : V} {b : B} (e : Grow F H F' H') (r : RB g F H F' H' v b) (i : Nat) (hv : ∀ m, b ≠ .vw m) : St g F' H' (σ.set i (some v)) (ρ.set i (some b)) := by
  have s1 := s.grow e
  refine ⟨s1.gr, by simp [s1.len], fun j b' h => ?_, fun j k m m' hjk h1 h2 => ?_⟩
  · rcases set_some h with ⟨rfl, h1, h2⟩ | ⟨h1, h2⟩
    · cases h1
      refine ⟨v, by rw [List.getElem?_set_self (by rw [s1.len]; exact h2)], ?_⟩
      cases b with
      | dat d => exact r
      | own m =>
        obtain ⟨p, o, rfl, h, z, f, q⟩ := r
        exact ⟨p, o, rfl, z, f, s.gr.hh.free h, q⟩
      | vw m => exact absurd rfl (hv m)
      | bor m => exact r
      | scr ns => exact r
      | err c => exact r
    · obtain ⟨w, h3, h4⟩ := s1.at_ j b' h2
      exact ⟨w, by rw [List.getElem?_set_ne h1]; exact h3, h4⟩
  · -- what is fresh stands apart
    have fresh : ∀ {m : M} {j : Nat} {m' : M}, b = .own m → ρ[j]? = some (some (.own m')) → σ[j]? ≠ some (some v) := fun {m j m'} hb hj => by
      subst hb
      obtain ⟨p, o, rfl, h, _⟩ := r
      obtain ⟨q, oq, h3, h4, _⟩ := s.own_none hj
      rw [h3]
      intro z
      cases z
      rw [h] at h4
      cases h4
    rcases set_some h1 with ⟨rfl, e1, l1⟩ | ⟨n1, e1⟩ <;> rcases set_some h2 with ⟨rfl, e2, l2⟩ | ⟨n2, e2⟩
    · exact absurd rfl hjk
    · cases e1
      rw [List.getElem?_set_self (by rw [s.len]; exact l1), List.getElem?_set_ne n2]
      exact fun z => fresh rfl e2 z.symm
    · cases e2
      rw [List.getElem?_set_self (by rw [s.len]; exact l2), List.getElem?_set_ne n1]
      exact fresh rfl e1
    · rw [List.getElem?_set_ne n1, List.getElem?_set_ne n2]
      exact s1.apart j k m m' hjk e1 e2
/-- a name is forgotten -/
theorem St.drop (s : St g F H σ ρ) (i : Nat) : St g F H (σ.set i none) (ρ.set i none) := by
  refine ⟨s.gr, by simp [s.len], fun j b h => ?_, fun j k m m' hjk h1 h2 => ?_⟩
  · rcases set_some h with ⟨rfl, h1, h2⟩ | ⟨h1, h2⟩
    · cases h1
    · obtain ⟨w, h3, h4⟩ := s.at_ j b h2
      exact ⟨w, by rw [List.getElem?_set_ne h1]; exact h3, h4⟩
  · rcases set_some h1 with ⟨rfl, e1, l1⟩ | ⟨n1, e1⟩
    · cases e1
    rcases set_some h2 with ⟨rfl, e2, l2⟩ | ⟨n2, e2⟩
    · cases e2
    rw [List.getElem?_set_ne n1, List.getElem?_set_ne n2]
    exact s.apart j k m m' hjk e1 e2
/-- an owned object is changed -/
theorem St.change (s : St g F H σ ρ) {i : Nat} {m m' : M} {p : Addr} {o' : HO} (h : ρ[i]? = some (some (.own m))) (hp : σ[i]? = some (some (.ref p))) (q : RpM g.K g.fa F o' m') : St g F (upd H p o') σ (ρ.set i (some (.own m'))) := by
  obtain ⟨p', o, h1, h2, h3, h4, h5⟩ := s.own_none h
  rw [hp] at h1
  cases h1
  have il : i < ρ.length := (List.getElem?_eq_some_iff.mp h).1
  refine ⟨⟨s.gr.fh, fun b u z => ?_, fun b u z => ?_, s.gr.new⟩, by simp [s.len], fun j b hj => ?_, fun j k n n' hjk e1 e2 => ?_⟩
  · rw [upd_ne (ne_of_none z h4)]; exact s.gr.hh _ _ z
  · rw [upd_ne (ne_of_none z h3)]; exact s.sub _ _ z
  · rcases set_some hj with ⟨rfl, e1, l1⟩ | ⟨n1, e1⟩
    · cases e1
      exact ⟨_, hp, p, o', rfl, upd_same, h3, h4, q⟩
    · obtain ⟨w, h6, h7⟩ := s.at_ j b e1
      refine ⟨w, h6, ?_⟩
      cases b with
      | dat d => exact h7
      | own n =>
        obtain ⟨r, or, rfl, a1, a2, a3, a4⟩ := h7
        have ne : r ≠ p := fun z => s.apart i j m n n1 h e1 (by rw [hp, h6, z])
        exact ⟨r, or, rfl, by rw [upd_ne ne]; exact a1, a2, a3, a4⟩
      | vw n => exact h7
      | bor n => exact h7
      | scr ns => exact h7
      | err c => exact h7
  · have back : ∀ {j : Nat} {n : M}, (ρ.set i (some (.own m')))[j]? = some (some (.own n)) → ∃ n', ρ[j]? = some (some (.own n')) := fun {j n} hj => by
      rcases set_some hj with ⟨rfl, e1, l1⟩ | ⟨n1, e1⟩
      · exact ⟨m, h⟩
      · exact ⟨n, e1⟩
    obtain ⟨a, ha⟩ := back e1
    obtain ⟨b, hb⟩ := back e2
    exact s.apart j k a b hjk ha hb
/-- an owned object is locked -/
theorem St.lock (s : St g F H σ ρ) {i : Nat} {m : M} (h : ρ[i]? = some (some (.own m))) : ∃ F', Grow g.F0 g.G0 F' H ∧ Same F F' ∧ St g F' H σ (ρ.set i (some (.dat (frzM m)))) := by
  obtain ⟨p, o, h1, h2, h3, h4, h5⟩ := s.own_none h
  have gr : Grow g.F0 g.G0 (upd F p o) H := s.gr.lock h4 h2 h3
  refine ⟨upd F p o, gr, same_upd h3, gr, by simp [s.len], fun j b hj => ?_, fun j k n n' hjk e1 e2 => ?_⟩
  · rcases set_some hj with ⟨rfl, e1, l1⟩ | ⟨n1, e1⟩
    · cases e1
      exact ⟨_, h1, (h5.mono (same_upd h3)).frz upd_same⟩
    · obtain ⟨w, h6, h7⟩ := s.at_ j b e1
      refine ⟨w, h6, ?_⟩
      cases b with
      | dat d => exact Rp.mono (same_upd h3) h7
      | own n =>
        obtain ⟨r, or, rfl, a1, a2, a3, a4⟩ := h7
        have ne : r ≠ p := fun z => s.apart i j m n n1 h e1 (by rw [h1, h6, z])
        exact ⟨r, or, rfl, a1, by rw [upd_ne ne]; exact a2, a3, a4.mono (same_upd h3)⟩
      | vw n => exact h7
      | bor n =>
        obtain ⟨r, or, rfl, a1, a2⟩ := h7
        exact ⟨r, or, rfl, a1, a2.mono (same_upd h3)⟩
      | scr ns => exact h7
      | err c => exact h7
  · have back : ∀ {j : Nat} {n : M}, (ρ.set i (some (.dat (frzM m))))[j]? = some (some (.own n)) → ρ[j]? = some (some (.own n)) := fun {j n} hj => by
      rcases set_some hj with ⟨rfl, e1, l1⟩ | ⟨n1, e1⟩
      · cases e1
      · exact e1
    exact s.apart j k n n' hjk (back e1) (back e2)
end
/-! ### readings -/
/-- what is wanted behind an expression that ends so -/
def Post (g : G) (σ : L2.St) (F H : Hp) (r : Res B) (Q : VK) : Prop := match r with
  | .ok b => ∀ v F' H', Grow F H F' H' → RB g F H F' H' v b → Q v H'
  | .exc c => ∀ F' H', Grow F H F' H' → g.E c σ H'
  | .bad => False
def tF (g : G) (f : Env → Res B) : TE := fun σ H Q => ∃ F ρ, St g F H σ ρ ∧ Post g σ F H (f ρ) Q
def PostA (g : G) (σ : L2.St) (F H : Hp) (r : Res (List B)) (Q : List V → Hp → Prop) : Prop := match r with
  | .ok bs => ∀ vs F' H', Grow F H F' H' → Paired (RR g F' H') vs bs → Q vs H'
  | .exc c => ∀ F' H', Grow F H F' H' → g.E c σ H'
  | .bad => False
def tFA (g : G) (f : Env → Res (List B)) : TA := fun σ H Q => ∃ F ρ, St g F H σ ρ ∧ PostA g σ F H (f ρ) Q
def PostT (g : G) (σ : L2.St) (F H : Hp) (r : Res Bool) (Q : Bool → Hp → Prop) : Prop := match r with
  | .ok b => ∀ F' H', Grow F H F' H' → Q b H'
  | .exc c => ∀ F' H', Grow F H F' H' → g.E c σ H'
  | .bad => False
def tFT (g : G) (f : Env → Res Bool) : TT := fun σ H Q => ∃ F ρ, St g F H σ ρ ∧ PostT g σ F H (f ρ) Q
section
variable {g : G} {F H F' H' : Hp} {σ : L2.St} {ρ : Env}
theorem Post.later {r : Res B} {Q : VK} (h : Post g σ F H r Q) (e : Grow F H F' H') : Post g σ F' H' r Q := by
  cases r with
  | ok b => exact fun v F2 H2 e2 rb => h v F2 H2 (e.trans e2) (rb.later e)
  | exc c => exact fun F2 H2 e2 => h F2 H2 (e.trans e2)
  | bad => exact h
theorem PostA.later {r : Res (List B)} {Q : List V → Hp → Prop} (h : PostA g σ F H r Q) (e : Grow F H F' H') : PostA g σ F' H' r Q := by
  cases r with
  | ok b => exact fun v F2 H2 e2 rb => h v F2 H2 (e.trans e2) rb
  | exc c => exact fun F2 H2 e2 => h F2 H2 (e.trans e2)
  | bad => exact h
theorem PostT.later {r : Res Bool} {Q : Bool → Hp → Prop} (h : PostT g σ F H r Q) (e : Grow F H F' H') : PostT g σ F' H' r Q := by
  cases r with
  | ok b => exact fun F2 H2 e2 => h F2 H2 (e.trans e2)
  | exc c => exact fun F2 H2 e2 => h F2 H2 (e.trans e2)
  | bad => exact h
/-- an expression's reading, then what is done with its value in hand -/
theorem run1 {f : Env → Res B} {Q : VK} (s : St g F H σ ρ) (hok : ∀ b v F1 H1, f ρ = .ok b → Grow F H F1 H1 → RR g F1 H1 v (rd b) → Q v H1) (hexc : ∀ c, f ρ = .exc c → ∀ F' H', Grow F H F' H' → g.E c σ H') (hbad : f ρ ≠ .bad) : tF g f σ H Q := by
  refine ⟨F, ρ, s, ?_⟩
  cases e : f ρ with
  | ok b => exact fun v F1 H1 e1 rb => let ⟨F2, e2, r2⟩ := rb.rd e1; hok b v F2 H1 e e2 r2
  | exc c => exact hexc c e
  | bad => exact hbad e
end
end Fn
namespace Fn
open PySem PySem.Spec PyProof.Rows L2
/-! ### data as the library's data -/
mutual
def toPy : D → PyData
  | .non => .none
  | .bl b => .bool b
  | .int i => .int i
  | .str x => .str x
  | .tup xs => .tuple (toPys xs)
  | .ctup xs => .tuple (toPys xs)
  | .lst xs => .list (toPys xs)
  | .dk _ => .dict []
  | .dt _ => .dict []
  | .fn _ => .dict []
def toPys : List D → List PyData
  | [] => []
  | x :: xs => toPy x :: toPys xs
end
theorem toPys_map (xs : List D) : toPys xs = xs.map toPy := by
  induction xs with
  | nil => rfl
  | cons x xs ih => rw [toPys, ih]; rfl
structure Sm (g : G) (F H : Hp) : Prop where
  fh : Same F H
  gh : Same g.G0 H
theorem St.sm {g : G} {F H : Hp} {σ : L2.St} {ρ : Env} (s : St g F H σ ρ) : Sm g F H := ⟨s.gr.sub, s.gr.hh⟩
theorem Sm.grow {g : G} {F H F' H' : Hp} (s : Sm g F H) (e : Grow F H F' H') : Sm g F' H' := ⟨e.sub, s.gh.trans e.hh⟩
section
variable {g : G} {σ : L2.St} {F H F' H' : Hp}
theorem sqT_none {K : PySem.W.Frag} {a : Addr} {xs : List V} (h : SqT K (fun _ => none) a xs) : SqT K H a xs := by
  rcases h with (h | ⟨o, h⟩) | h
  · cases h
  · cases h
  · exact .inr h
mutual
theorem Rp.dp {K : PySem.W.Frag} {fa : Nat → Option Addr} (e : Same F H) : ∀ {v : V} {d : D}, Rp K fa F v d → (toPy d).canLay0 = true → Dp K H v (toPy d)
  | _, _, .non, _ => .non
  | _, _, .bl b, _ => .bl b
  | _, _, .int i, _ => .int i
  | _, _, .str x, _ => .str x
  | _, _, .tup h r, c => by
    simp only [toPy, PyData.canLay0] at c ⊢
    exact .tup (SqT.of (e _ _ h)) (RpAll.dp e r c)
  | _, _, .ctup h r, c => by
    simp only [toPy, PyData.canLay0] at c ⊢
    exact .tup (sqT_none h) (RpAll.dp e r c)
  | _, _, .lst h r, c => by
    simp only [toPy, PyData.canLay0] at c ⊢
    exact .lst (SqL.of (e _ _ h)) (RpAll.dp e r c)
  | _, _, .dk _ _ _, c => by simp [toPy, PyData.canLay0] at c
  | _, _, .dt _ _ _, c => by simp [toPy, PyData.canLay0] at c
  | _, _, .fn _, c => by simp [toPy, PyData.canLay0] at c
theorem RpAll.dp {K : PySem.W.Frag} {fa : Nat → Option Addr} (e : Same F H) : ∀ {vs : List V} {ds : List D}, RpAll K fa F vs ds → PyData.canLayAll0 (toPys ds) = true → DpAll K H vs (toPys ds)
  | _, _, .nil, _ => .nil
  | _, _, .cons h r, c => by
    simp only [toPys, PyData.canLayAll0, Bool.and_eq_true] at c ⊢
    exact .cons (Rp.dp e h c.1) (RpAll.dp e r c.2)
end
/-! ### what is wanted behind a result -/
theorem Post.dat {d : D} {Q : VK} {v : V} (h : Post g σ F H (.ok (.dat d)) Q) (s : Sm g F H) (r : Rp g.K g.fa F v d) : Q v H := h v F H (Grow.refl s.fh) r
theorem Post.int {i : Int} {Q : VK} (h : Post g σ F H (.ok (.dat (.int i))) Q) (s : Sm g F H) : Q (.int i) H := h.dat s (.int i)
theorem Post.bl {i : Bool} {Q : VK} (h : Post g σ F H (.ok (.dat (.bl i))) Q) (s : Sm g F H) : Q (.bl i) H := h.dat s (.bl i)
theorem Post.str {i : Str} {Q : VK} (h : Post g σ F H (.ok (.dat (.str i))) Q) (s : Sm g F H) : Q (.str i) H := h.dat s (.str i)
theorem Post.newM {m : M} {o : HO} {Q : VK} (h : Post g σ F H (.ok (.own m)) Q) (s : Sm g F H) (r : RpM g.K g.fa F o m) (p : Addr) (hp : H p = none) : Q (.ref p) (upd H p o) :=
  h (.ref p) F (upd H p o) (Grow.newH s.fh hp) ⟨p, o, rfl, hp, upd_same, s.fh.free hp, r⟩
theorem Post.newL {ds : List D} {xs : List V} {Q : VK} (h : Post g σ F H (.ok (.own (.l ds))) Q) (s : Sm g F H) (r : RpAll g.K g.fa F xs ds) (p : Addr) (hp : H p = none) : Q (.ref p) (upd H p (.lst xs)) :=
  h.newM s (.l r) p hp
theorem Post.newT {ds : List D} {xs : List V} {Q : VK} (h : Post g σ F H (.ok (.dat (.tup ds))) Q) (s : Sm g F H) (r : RpAll g.K g.fa F xs ds) (p : Addr) (hp : H p = none) : Q (.ref p) (upd H p (.tup xs)) :=
  h (.ref p) (upd F p (.tup xs)) (upd H p (.tup xs)) (Grow.newF s.fh hp) (.tup upd_same (r.mono (same_upd (s.fh.free hp))))
/-! ### readings of sequences -/
def seqI : B → Option (List D)
  | .dat (.tup xs) => some xs
  | .dat (.ctup xs) => some xs
  | .dat (.lst xs) => some xs
  | .vw (.l xs) => some xs
  | .bor (.l xs) => some xs
  | .scr ns => some (ns.map .int)
  | _ => none
/-- lists that stand by themselves in the heap -/
def seqL : B → Option (List D)
  | .dat (.lst xs) => some xs
  | .vw (.l xs) => some xs
  | .bor (.l xs) => some xs
  | _ => none
theorem seqL_ok {v : V} {b : B} {ds : List D} (s : Sm g F H) (r : RR g F H v b) (h : seqL b = some ds) : ∃ a xs, v = .ref a ∧ H a = some (.lst xs) ∧ RpAll g.K g.fa F xs ds := by
  unfold seqL at h
  split at h
  · cases h
    cases r with
    | lst h1 h2 => exact ⟨_, _, rfl, s.fh _ _ h1, h2⟩
  · cases h
    obtain ⟨p, o, rfl, h1, h2⟩ := r
    cases h2 with
    | l h2 => exact ⟨_, _, rfl, h1, h2⟩
  · cases h
    obtain ⟨p, o, rfl, h1, h2⟩ := r
    cases h2 with
    | l h2 => exact ⟨_, _, rfl, s.gh _ _ h1, h2⟩
  · cases h
theorem seqI_ok {v : V} {b : B} {ds : List D} (s : Sm g F H) (r : RR g F H v b) (h : seqI b = some ds) : ∃ a xs, v = .ref a ∧ (SqL g.K H a xs ∨ SqT g.K H a xs) ∧ RpAll g.K g.fa F xs ds := by
  unfold seqI at h
  split at h
  · cases h
    cases r with
    | tup h1 h2 => exact ⟨_, _, rfl, .inr (SqT.of (s.fh _ _ h1)), h2⟩
  · cases h
    cases r with
    | ctup h1 h2 => exact ⟨_, _, rfl, .inr (sqT_none h1), h2⟩
  · cases h
    cases r with
    | lst h1 h2 => exact ⟨_, _, rfl, .inl (SqL.of (s.fh _ _ h1)), h2⟩
  · cases h
    obtain ⟨p, o, rfl, h1, h2⟩ := r
    cases h2 with
    | l h2 => exact ⟨_, _, rfl, .inl (SqL.of h1), h2⟩
  · cases h
    obtain ⟨p, o, rfl, h1, h2⟩ := r
    cases h2 with
    | l h2 => exact ⟨_, _, rfl, .inl (SqL.of (s.gh _ _ h1)), h2⟩
  · cases h
    obtain ⟨p, rfl, h1⟩ := r
    exact ⟨_, _, rfl, .inl (s.gh.seq h1), RpAll.of_ints _⟩
  · cases h
end
/-! ### operators -/
def OpG (g : G) (r : R2) (f : B → B → Res B) : Prop := ∀ (σ : L2.St) (F H : Hp) (x y : V) (a b : B) (Q : VK), Sm g F H → RR g F H x a → RR g F H y b → Post g σ F H (f a b) Q → r x y H Q
def bin2 (f : B → B → Res B) (fa fb : Env → Res B) : Env → Res B := fun ρ => (fa ρ).bind fun x => (fb ρ).bind fun y => f (rd x) (rd y)
section
variable {X : Cx} {g : G} {a b : Expr} {fa fb : Env → Res B} {pos : Pos}
theorem PE.imp {e : Expr} {t t' : TE} (h : PE X e t) (i : ∀ σ H Q, t' σ H Q → t σ H Q) : PE X e t' := ⟨fun pins s σ H Q I w => h.run pins s σ H Q I (i σ H Q w)⟩
theorem PT.imp {e : Expr} {t t' : TT} (h : PT X e t) (i : ∀ σ H Q, t' σ H Q → t σ H Q) : PT X e t' := ⟨fun pins s σ H Q I w => h.run pins s σ H Q I (i σ H Q w)⟩
theorem PA.imp {e : List Expr} {t t' : TA} (h : PA X e t) (i : ∀ σ H Q, t' σ H Q → t σ H Q) : PA X e t' := ⟨fun p pins s σ H Q I w => h.run p pins s σ H Q I (i σ H Q w)⟩
/-- two expressions, then an operation on their values -/
theorem run2 {r : R2} {f : B → B → Res B} (hg : OpG g r f) {σ : L2.St} {H : Hp} {Q : VK} (h : tF g (bin2 f fa fb) σ H Q) : tOp r (tF g fa) (tF g fb) σ H Q := by
  obtain ⟨F, ρ, s, p⟩ := h
  unfold bin2 at p
  refine run1 s (fun bx v F1 H1 e1 g1 r1 => ?_) (fun c e => ?_) (fun e => ?_)
  · rw [e1, Res.ok_bind] at p
    have s1 := s.grow g1
    refine run1 s1 (fun by_ w F2 H2 e2 g2 r2 => ?_) (fun c e => ?_) (fun e => ?_)
    · rw [e2, Res.ok_bind] at p
      exact hg _ F2 H2 v w _ _ Q (s1.sm.grow g2) (r1.mono g2) r2 (p.later (g1.trans g2))
    · rw [e, Res.exc_bind] at p
      exact fun F' H' gr => p F' H' (g1.trans gr)
    · rw [e] at p
      exact p
  · rw [e] at p
    exact p
  · rw [e] at p
    exact p
theorem fe_bin {op : Operator} {r : R2} {f : B → B → Res B} (ho : OpR X (binaryOp op) r) (hg : OpG g r f) (ha : PE X a (tF g fa)) (hb : PE X b (tF g fb)) : PE X (.BinOp a op b pos) (tF g (bin2 f fa fb)) :=
  PE.imp (pe_op ho ha hb) fun _ _ _ h => run2 hg h
theorem fe_cmp {op : CmpOp} {r : R2} {f : B → B → Res B} (ho : OpR X (compareOp op) r) (hg : OpG g r f) (ha : PE X a (tF g fa)) (hb : PE X b (tF g fb)) (hm : behindInMarks op b = false) : PE X (.Compare a [op] [b] pos) (tF g (bin2 f fa fb)) :=
  PE.imp (pe_cmpR ho ha hb hm) fun _ _ _ h => run2 hg h
end
/-! #### + -/
def catL (xs : List D) (b : B) : Res B := match seqL b with
  | some ys => if xs.length + ys.length ≤ sizeLine then .ok (.own (.l (xs ++ ys))) else .bad
  | none => .bad
def catT (xs : List D) (b : B) : Res B := match b with
  | .dat (.tup ys) => if xs.length + ys.length ≤ sizeLine then .ok (.dat (.tup (xs ++ ys))) else .bad
  | _ => .bad
def addB (a b : B) : Res B := match a with
  | .dat (.int i) => (match b with | .dat (.int j) => .ok (.dat (.int (i + j))) | _ => .bad)
  | .dat (.str i) => (match b with | .dat (.str j) => if i.length + j.length ≤ sizeLine then .ok (.dat (.str (i ++ j))) else .bad | _ => .bad)
  | .dat (.tup xs) => catT xs b
  | .dat (.lst xs) => catL xs b
  | .vw (.l xs) => catL xs b
  | .bor (.l xs) => catL xs b
  | _ => .bad
def rAdd (K : PySem.W.Frag) : R2 := fun x y H Q => rI0 (fun i j => .int (i + j)) x y H Q ∨ (∃ i j, x = .str i ∧ y = .str j ∧ i.length + j.length ≤ sizeLine ∧ Q (.str (i ++ j)) H) ∨ rCatA K x y H Q ∨ rCat x y H Q
theorem op_addF {X : Cx} : OpR X (binaryOp .Add) (rAdd X.K) := OpR.or op_add (OpR.or op_add_str (OpR.or op_catA op_cat))
theorem g_add {g : G} {K : PySem.W.Frag} (hK : g.K = K) : OpG g (rAdd K) addB := by
  subst hK
  intro σ F H x y a b Q s ra rb p
  have cat : ∀ {xs : List D}, seqL a = some xs → Post g σ F H (catL xs b) Q → rAdd g.K x y H Q := fun {xs} ha p => by
    unfold catL at p
    split at p
    · rename_i ys hb
      split at p
      · rename_i hz
        obtain ⟨p1, xs', rfl, h1, r1⟩ := seqL_ok s ra ha
        obtain ⟨p2, ys', rfl, h2, r2⟩ := seqL_ok s rb hb
        exact .inr (.inr (.inr ⟨p1, p2, xs', ys', rfl, rfl, h1, h2, by rw [r1.len, r2.len]; exact hz, p.newL s (r1.app r2)⟩))
      · exact p.elim
    · exact p.elim
  unfold addB at p
  split at p
  · split at p
    · cases ra
      cases rb
      exact .inl ⟨_, _, rfl, rfl, p.int s⟩
    · exact p.elim
  · split at p
    · split at p
      · rename_i hz
        cases ra
        cases rb
        exact .inr (.inl ⟨_, _, rfl, rfl, hz, p.str s⟩)
      · exact p.elim
    · exact p.elim
  · unfold catT at p
    split at p
    · split at p
      · rename_i xs ys hz
        cases ra with
        | tup h1 r1 =>
          cases rb with
          | tup h2 r2 =>
            refine .inr (.inr (.inl ⟨_, _, _, _, rfl, rfl, SqT.of (s.fh _ _ h1), SqT.of (s.fh _ _ h2), by rw [r1.len, r2.len]; exact hz, fun e => ?_, fun e e2 => ?_, fun _ _ => ?_⟩))
            · subst e
              cases r1
              exact p.dat s (.tup h2 r2)
            · subst e2
              cases r2
              rw [List.append_nil] at p
              exact p.dat s (.tup h1 r1)
            · exact p.newT s (r1.app r2)
      · exact p.elim
    · exact p.elim
  · exact cat rfl p
  · exact cat rfl p
  · exact cat rfl p
  · exact p.elim
/-! #### -, *, //, %, <<, >>, &, ** -/
def int2 (C : Int → Int → Bool) (f : Int → Int → Int) (a b : B) : Res B := match a with
  | .dat (.int i) => (match b with | .dat (.int j) => if C i j then .ok (.dat (.int (f i j))) else .bad | _ => .bad)
  | _ => .bad
theorem g_int2 {g : G} {C : Int → Int → Bool} {C' : Int → Int → Prop} {f : Int → Int → Int} (hC : ∀ i j, C i j = true → C' i j) : OpG g (rI C' fun i j => .int (f i j)) (int2 C f) := by
  intro σ F H x y a b Q s ra rb p
  unfold int2 at p
  split at p
  · split at p
    · split at p
      · rename_i hc
        cases ra
        cases rb
        exact ⟨_, _, rfl, rfl, hC _ _ hc, p.int s⟩
      · exact p.elim
    · exact p.elim
  · exact p.elim
def CDivG (i j : Int) : Prop := j ≠ 0 ∧ j.natAbs.log2 < 9000
theorem op_fdivG {X : Cx} : OpR X (binaryOp .FloorDiv) (rI CDivG fun i j => .int (i.fdiv j)) := opI fun _ _ _ _ _ _ _ hc q => floordiv_int hc.1 q (.inl (PyProof.noPylong_of_log2 hc.2))
theorem op_modG {X : Cx} : OpR X (binaryOp .Mod) (rI (fun _ j => j ≠ 0) fun i j => .int (i.fmod j)) := opI fun _ _ _ _ _ _ _ hc q => mod_int' hc q
def subB : B → B → Res B := int2 (fun _ _ => true) (fun i j => i - j)
def divB : B → B → Res B := int2 (fun _ j => decide (j ≠ 0) && decide (j.natAbs.log2 < 9000)) Int.fdiv
def modB : B → B → Res B := int2 (fun _ j => decide (j ≠ 0)) Int.fmod
def shlB : B → B → Res B := int2 (fun i j => decide (0 ≤ j) && decide (j ≤ 1000000) && decide (i.natAbs < 2 ^ 64)) fun i j => i * 2 ^ j.toNat
def powB : B → B → Res B := int2 (fun i j => decide (0 ≤ j) && decide (j ≤ 1000000) && decide (i.natAbs < 2 ^ 64)) fun i j => i ^ j.toNat
def shrB : B → B → Res B := int2 (fun _ j => decide (0 ≤ j)) fun i j => i / 2 ^ j.toNat
def andB : B → B → Res B := int2 (fun _ _ => true) Builtin.bitAnd
/-- x repeated -/
def repS (x : Str) (n : Int) : Str := ⟨(List.replicate n.toNat x.cps.toList).flatten.toArray⟩
def mulB (a b : B) : Res B := match a with
  | .dat (.int i) => (match b with | .dat (.int j) => if i.natAbs.log2 + j.natAbs.log2 < 1000000 then .ok (.dat (.int (i * j))) else .bad | _ => .bad)
  | .dat (.str x) => (match b with | .dat (.int j) => if -1000 ≤ j ∧ j ≤ 1000 ∧ x.length ≤ 1000 then .ok (.dat (.str (repS x j))) else .bad | _ => .bad)
  | _ => .bad
theorem fold_rep (x : Str) : ∀ (k : Nat) (acc : List Nat), (List.replicate k x.cps).foldl (· ++ ·) acc.toArray = (acc ++ (List.replicate k x.cps.toList).flatten).toArray
  | 0, acc => by simp
  | k + 1, acc => by
    rw [List.replicate_succ, List.foldl_cons, List.replicate_succ, List.flatten_cons, ← List.append_assoc]
    have e : acc.toArray ++ x.cps = (acc ++ x.cps.toList).toArray := by simp
    rw [e]
    exact fold_rep x k _
theorem rep_eq (x : Str) (k : Nat) : (⟨(List.replicate k x.cps).foldl (· ++ ·) #[]⟩ : Str) = ⟨(List.replicate k x.cps.toList).flatten.toArray⟩ := by
  have e := fold_rep x k []
  rw [List.nil_append] at e
  exact congrArg Str.mk e
def rRepS : R2 := fun x y H Q => ∃ z j, x = .str z ∧ y = .int j ∧ -1000 ≤ j ∧ j ≤ 1000 ∧ z.length ≤ 1000 ∧ Q (.str (repS z j)) H
theorem op_repS {X : Cx} : OpR X (binaryOp .Mult) rRepS := by
  intro pins s σ H x y v u Q I rx ry h
  obtain ⟨z, j, rfl, rfl, h1, h2, h3, q⟩ := h
  obtain ⟨t, rfl⟩ := rx
  obtain ⟨t', rfl⟩ := ry
  have hr : (decide (j < -(2 ^ 63 : Int)) || decide (j ≥ 2 ^ 63)) = false := by
    have a1 : ¬ j < -(2 ^ 63 : Int) := by omega
    have a2 : ¬ j ≥ 2 ^ 63 := by omega
    rw [decide_eq_false a1, decide_eq_false a2]
    rfl
  have line : sizeLine = 16777216 := sizeLine_eq
  refine PySem.P.mul_str hr (fun hj _ => ?_) (fun hj _ => ?_) ?_
  · have z1 : (1000 : Int) ≤ (2 ^ 63 - 1) / j := by
      rw [Int.le_ediv_iff_mul_le (by omega)]
      omega
    omega
  · have hk : j.toNat ≤ 1000 := by omega
    have hm : z.length * j.toNat ≤ 1000 * 1000 := Nat.mul_le_mul h3 hk
    unfold Builtin.Str.tooLong
    rw [decide_eq_false]
    omega
  · have e0 : ∀ w : Str, w = repS z j → EP X pins σ Q (.str w s.toks) { s with toks := s.toks + 1 } := fun w e => ⟨.str w, H, I.tok _, ⟨_, rfl⟩, by rw [e]; exact q⟩
    by_cases c1 : j < 1
    · rw [if_pos c1]
      refine ⟨by decide, e0 _ ?_⟩
      have : j.toNat = 0 := by omega
      unfold repS
      rw [this]
      rfl
    · rw [if_neg c1]
      by_cases c2 : (j == 1 || z.length == 0) = true
      · rw [if_pos c2]
        refine ⟨.str z, H, I, ⟨_, rfl⟩, ?_⟩
        have e : z = repS z j := by
          unfold repS
          rw [Bool.or_eq_true] at c2
          rcases c2 with c2 | c2
          · have : j = 1 := by simpa using c2
            subst this
            simp
          · have hz : z.length = 0 := by simpa using c2
            have hl : z.cps.toList = [] := by
              have : z.cps.toList.length = 0 := by rw [Array.length_toList]; exact hz
              exact List.length_eq_zero_iff.mp this
            have hc : z.cps = #[] := by
              have := congrArg List.toArray hl
              simpa using this
            rw [hl]
            have : (List.replicate j.toNat ([] : List Nat)).flatten = [] := by simp
            rw [this]
            cases z
            simp only at hc
            rw [hc]
        rw [← e] at q
        exact q
      · rw [if_neg c2, rep_eq]
        refine ⟨?_, e0 _ rfl⟩
        have hk : j.toNat ≤ 1000 := by omega
        have hm : j.toNat * z.length ≤ 1000 * 1000 := Nat.mul_le_mul hk h3
        have e : (⟨(List.replicate j.toNat z.cps.toList).flatten.toArray⟩ : Str).length = j.toNat * z.length := by
          simp [Str.length]
        rw [e]
        omega
def rMul : R2 := fun x y H Q => rI CMulW (fun i j => .int (i * j)) x y H Q ∨ rRepS x y H Q
theorem op_mulF {X : Cx} : OpR X (binaryOp .Mult) rMul := OpR.or op_mulW op_repS
theorem g_mul {g : G} : OpG g rMul mulB := by
  intro σ F H x y a b Q s ra rb p
  unfold mulB at p
  split at p
  · split at p
    · split at p
      · rename_i hc
        cases ra
        cases rb
        exact .inl ⟨_, _, rfl, rfl, hc, p.int s⟩
      · exact p.elim
    · exact p.elim
  · split at p
    · split at p
      · rename_i hc
        cases ra
        cases rb
        exact .inr ⟨_, _, rfl, rfl, hc.1, hc.2.1, hc.2.2, p.str s⟩
      · exact p.elim
    · exact p.elim
  · exact p.elim
theorem g_sub {g : G} : OpG g (rI0 fun i j => .int (i - j)) subB := fun σ F H x y a b Q s ra rb p => by
  obtain ⟨i, j, h1, h2, _, q⟩ := g_int2 (C' := fun _ _ => True) (fun _ _ _ => trivial) σ F H x y a b Q s ra rb p
  exact ⟨i, j, h1, h2, q⟩
theorem g_and {g : G} : OpG g (rI0 fun i j => .int (Builtin.bitAnd i j)) andB := fun σ F H x y a b Q s ra rb p => by
  obtain ⟨i, j, h1, h2, _, q⟩ := g_int2 (C' := fun _ _ => True) (fun _ _ _ => trivial) σ F H x y a b Q s ra rb p
  exact ⟨i, j, h1, h2, q⟩
theorem g_div {g : G} : OpG g (rI CDivG fun i j => .int (i.fdiv j)) divB := g_int2 fun i j h => by
  rw [Bool.and_eq_true] at h
  exact ⟨of_decide_eq_true h.1, of_decide_eq_true h.2⟩
theorem g_mod {g : G} : OpG g (rI (fun _ j => j ≠ 0) fun i j => .int (i.fmod j)) modB := g_int2 fun i j h => of_decide_eq_true h
theorem pow_c {i j : Int} (h : (decide (0 ≤ j) && decide (j ≤ 1000000) && decide (i.natAbs < 2 ^ 64)) = true) : CPow i j := by
  rw [Bool.and_eq_true, Bool.and_eq_true] at h
  exact ⟨of_decide_eq_true h.1.1, of_decide_eq_true h.1.2, of_decide_eq_true h.2⟩
theorem g_shl {g : G} : OpG g (rI CPow fun i j => .int (i * 2 ^ j.toNat)) shlB := g_int2 fun i j h => pow_c h
theorem g_pow {g : G} : OpG g (rI CPow fun i j => .int (i ^ j.toNat)) powB := g_int2 fun i j h => pow_c h
theorem g_shr {g : G} : OpG g (rI (fun _ j => 0 ≤ j) fun i j => .int (i / 2 ^ j.toNat)) shrB := g_int2 fun i j h => of_decide_eq_true h
end Fn
namespace Fn
open PySem PySem.Spec PyProof.Rows L2
/-! #### ==, != -/
def datOf : B → D
  | .dat d => d
  | .own m => frzM m
  | .vw m => frzM m
  | .bor m => frzM m
  | .scr ns => .lst (ns.map .int)
  | .err c => .fn (1000 + c)
/-- == of data; True and 1 are alike to it -/
def eqD (d e : D) : Res Bool := if (SeqAt.shaped (toPy d) && SeqAt.shaped (toPy e)) = true then .ok (PyData.eqv (toPy d) (toPy e)) else .bad
def eqB (a b : B) : Res B := (eqD (datOf a) (datOf b)).bind fun k => .ok (.dat (.bl k))
def neB (a b : B) : Res B := (eqD (datOf a) (datOf b)).bind fun k => .ok (.dat (.bl !k))
section
variable {g : G} {F H : Hp} {v : V}
theorem frz_dp {p : Addr} {o : HO} {m : M} (s : Sm g F H) (h : H p = some o) (r : RpM g.K g.fa F o m) (c : (toPy (frzM m)).canLay0 = true) : Dp g.K H (.ref p) (toPy (frzM m)) := by
  cases r with
  | l r =>
    simp only [frzM, toPy, PyData.canLay0] at c ⊢
    exact .lst (SqL.of h) (RpAll.dp s.fh r c)
  | k _ _ => simp [frzM, toPy, PyData.canLay0] at c
  | t _ _ => simp [frzM, toPy, PyData.canLay0] at c
theorem RR.dp {b : B} (s : Sm g F H) (r : RR g F H v b) (c : (toPy (datOf b)).canLay0 = true) : Dp g.K H v (toPy (datOf b)) := by
  cases b with
  | dat d => exact Rp.dp s.fh r c
  | own m => exact r.elim
  | vw m =>
    obtain ⟨p, o, rfl, h, q⟩ := r
    exact frz_dp s h q c
  | bor m =>
    obtain ⟨p, o, rfl, h, q⟩ := r
    exact frz_dp s (s.gh _ _ h) q c
  | scr ns =>
    obtain ⟨p, rfl, h⟩ := r
    simp only [datOf, toPy, PyData.canLay0] at c ⊢
    exact .lst (s.gh.seq h) (RpAll.dp s.fh (K := g.K) (fa := g.fa) (RpAll.of_ints ns) c)
  | err k => simp [datOf, toPy, PyData.canLay0] at c
end
theorem g_eq {g : G} {K : PySem.W.Frag} (hK : g.K = K) : OpG g (rEqD K) eqB := by
  subst hK
  intro σ F H x y a b Q s ra rb p
  unfold eqB eqD at p
  split at p
  · rename_i h
    rw [Bool.and_eq_true] at h
    exact ⟨_, _, ra.dp s (SeqAt.canLay_of_shaped h.1), rb.dp s (SeqAt.canLay_of_shaped h.2), h.1, h.2, p.bl s⟩
  · exact p.elim
theorem g_ne {g : G} {K : PySem.W.Frag} (hK : g.K = K) : OpG g (rNeD K) neB := by
  subst hK
  intro σ F H x y a b Q s ra rb p
  unfold neB eqD at p
  split at p
  · rename_i h
    rw [Bool.and_eq_true] at h
    exact ⟨_, _, ra.dp s (SeqAt.canLay_of_shaped h.1), rb.dp s (SeqAt.canLay_of_shaped h.2), h.1, h.2, p.bl s⟩
  · exact p.elim
/-! #### <, <=, >, >= -/
def notNone : PyData → Bool
  | .none => false
  | _ => true
def ltPy (x y : PyData) : Res Bool := if (SeqAt.shaped x && (SeqAt.shaped y && (PySem.W.alike x y && notNone x))) = true then .ok (PySem.W.dataLt x y) else .bad
def ltD (d e : D) : Res Bool := match d with
  | .int i => (match e with | .int j => .ok (decide (i < j)) | _ => .bad)
  | .str x => (match e with | .str y => .ok (decide (x.cps.toList < y.cps.toList)) | _ => .bad)
  | d => ltPy (toPy d) (toPy e)
def ltB (a b : B) : Res B := (ltD (datOf a) (datOf b)).bind fun k => .ok (.dat (.bl k))
def cmpI (f : Int → Int → Bool) (a b : B) : Res B := match a with
  | .dat (.int i) => (match b with | .dat (.int j) => .ok (.dat (.bl (f i j))) | _ => .bad)
  | _ => .bad
def rLtD (K : PySem.W.Frag) : R2 := fun x y H Q => ∃ d e, Dp K H x d ∧ Dp K H y e ∧ PySem.W.alike d e = true ∧ d ≠ .none ∧ d.depth ≤ 64 ∧ Q (.bl (PySem.W.dataLt d e)) H
theorem op_ltD {X : Cx} (hu : X.A.units + 64 < cLine) : OpR X (compareOp .Lt) (rLtD X.K) := by
  intro pins s σ H x y v u Q I rx ry h
  obtain ⟨d, e, hd, he, ha, hn, hs, q⟩ := h
  obtain ⟨as, r1⟩ := Dp.reads I d x v hd rx
  obtain ⟨bs, r2⟩ := Dp.reads I e y u he ry
  exact PySem.W.rcLt_alike d e X.A s v u as bs r1 r2 ha hn (by have := Nat.min_le_left d.depth e.depth; omega) X.prog X.w X.xe _ ⟨.bl _, H, I, rfl, q⟩
def rLt (K : PySem.W.Frag) : R2 := fun x y H Q => rI0 (fun i j => .bl (decide (i < j))) x y H Q ∨ (∃ i j, x = .str i ∧ y = .str j ∧ Q (.bl (decide (i.cps.toList < j.cps.toList))) H) ∨ rLtD K x y H Q
theorem op_ltF {X : Cx} (hu : X.A.units + 64 < cLine) : OpR X (compareOp .Lt) (rLt X.K) := OpR.or op_lt (OpR.or op_lt_str (op_ltD hu))
theorem rr_int {g : G} {F H : Hp} {v : V} {b : B} {i : Int} (r : RR g F H v b) (h : datOf b = .int i) : v = .int i := by
  cases b with
  | dat d => cases h; cases r; rfl
  | own m => exact r.elim
  | vw m => cases m <;> cases h
  | bor m => cases m <;> cases h
  | scr ns => cases h
  | err k => cases h
theorem rr_str {g : G} {F H : Hp} {v : V} {b : B} {i : Str} (r : RR g F H v b) (h : datOf b = .str i) : v = .str i := by
  cases b with
  | dat d => cases h; cases r; rfl
  | own m => exact r.elim
  | vw m => cases m <;> cases h
  | bor m => cases m <;> cases h
  | scr ns => cases h
  | err k => cases h
theorem g_lt {g : G} {K : PySem.W.Frag} (hK : g.K = K) : OpG g (rLt K) ltB := by
  subst hK
  intro σ F H x y a b Q s ra rb p
  unfold ltB ltD at p
  split at p
  · rename_i i ha
    split at p
    · rename_i j hb
      exact .inl ⟨i, j, rr_int ra ha, rr_int rb hb, p.bl s⟩
    · exact p.elim
  · rename_i i ha
    split at p
    · rename_i j hb
      exact .inr (.inl ⟨i, j, rr_str ra ha, rr_str rb hb, p.bl s⟩)
    · exact p.elim
  · by_cases h : (SeqAt.shaped (toPy (datOf a)) && (SeqAt.shaped (toPy (datOf b)) && (PySem.W.alike (toPy (datOf a)) (toPy (datOf b)) && notNone (toPy (datOf a))))) = true
    · unfold ltPy at p
      rw [if_pos h] at p
      simp only [Bool.and_eq_true] at h
      obtain ⟨h1, h2, h3, h4⟩ := h
      exact .inr (.inr ⟨_, _, ra.dp s (SeqAt.canLay_of_shaped h1), rb.dp s (SeqAt.canLay_of_shaped h2), h3, fun e => by rw [e] at h4; exact Bool.false_ne_true h4, SeqAt.depth_of_shaped h1, p.bl s⟩)
    · unfold ltPy at p
      rw [if_neg h] at p
      exact p.elim
theorem g_cmpI {g : G} {f : Int → Int → Bool} : OpG g (rI0 fun i j => .bl (f i j)) (cmpI f) := by
  intro σ F H x y a b Q s ra rb p
  unfold cmpI at p
  split at p
  · split at p
    · cases ra
      cases rb
      exact ⟨_, _, rfl, rfl, p.bl s⟩
    · exact p.elim
  · exact p.elim
/-! #### is, is not; in, not in -/
def isNone : D → Bool
  | .non => true
  | _ => false
def isB (neg : Bool) (a b : B) : Res B := match b with
  | .dat .non => (match a with | .own _ => .bad | a => .ok (.dat (.bl (isNone (datOf a) != neg))))
  | .dat (.bl y) => (match a with | .dat (.bl x) => .ok (.dat (.bl (decide (x = y) != neg))) | _ => .bad)
  | _ => .bad
def rIs : R2 := fun x y H Q => (y = .non ∧ Q (.bl (decide (x = .non))) H) ∨ rIsB x y H Q
def rIsNot : R2 := fun x y H Q => (y = .non ∧ Q (.bl (!decide (x = .non))) H) ∨ rNotB x y H Q
theorem op_isF {X : Cx} : OpR X (compareOp .Is) rIs := OpR.or op_isN op_isBl
theorem op_isNotF {X : Cx} : OpR X (compareOp .IsNot) rIsNot := OpR.or op_notN op_notBl
theorem rr_none {g : G} {F H : Hp} {v : V} {b : B} (r : RR g F H v b) : decide (v = .non) = isNone (datOf b) := by
  cases b with
  | dat d => cases r <;> simp [datOf, isNone]
  | own m => exact r.elim
  | vw m =>
    obtain ⟨p, o, rfl, _⟩ := r
    cases m <;> simp [datOf, frzM, isNone]
  | bor m =>
    obtain ⟨p, o, rfl, _⟩ := r
    cases m <;> simp [datOf, frzM, isNone]
  | scr ns =>
    obtain ⟨p, rfl, _⟩ := r
    simp [datOf, isNone]
  | err k =>
    obtain ⟨p, _, _, _, rfl, _⟩ := r
    simp [datOf, isNone]
theorem g_is {g : G} : OpG g rIs (isB false) := by
  intro σ F H x y a b Q s ra rb p
  unfold isB at p
  split at p
  · cases rb
    split at p
    · exact p.elim
    · have q := p.bl s
      refine .inl ⟨rfl, ?_⟩
      rw [rr_none ra]
      simpa using q
  · split at p
    · cases ra
      cases rb
      have q := p.bl s
      exact .inr ⟨_, _, rfl, rfl, by simpa using q⟩
    · exact p.elim
  · exact p.elim
theorem g_isNot {g : G} : OpG g rIsNot (isB true) := by
  intro σ F H x y a b Q s ra rb p
  unfold isB at p
  split at p
  · cases rb
    split at p
    · exact p.elim
    · have q := p.bl s
      refine .inl ⟨rfl, ?_⟩
      rw [rr_none ra]
      simpa using q
  · split at p
    · cases ra
      cases rb
      have q := p.bl s
      exact .inr ⟨_, _, rfl, rfl, by simpa using q⟩
    · exact p.elim
  · exact p.elim
/-- x in xs: a text among signs of a text; a flat thing among flat things; data among a list of data; a key of a dict -/
def flatD : D → Bool
  | .int _ => true
  | .str _ => true
  | _ => false
def keyD : D → Option Key
  | .int i => some (.inl i)
  | .str x => some (.inr x)
  | _ => none
def strIn (x y : Str) : Bool := !(Builtin.Str.occurrences y x 0 y.length 1).isEmpty
end Fn
namespace Fn
open PySem PySem.Spec PyProof.Rows L2
/-! ### sorted -/
def leD : D → D → Bool := PySem.W.dataLe false toPy
def isTup1 : PyData → Bool
  | .tuple (_ :: _) => true
  | _ => false
def isPlain : PyData → Bool
  | .none => false
  | .tuple _ => false
  | _ => true
def sortOk (ds : List D) : Bool := (toPys ds).all SeqAt.shaped && ((toPys ds).all (fun a => (toPys ds).all fun b => PySem.W.alike a b) && ((toPys ds).all isTup1 || (toPys ds).all isPlain))
theorem sortOk_iff {ds : List D} (h : sortOk ds = true) : (∀ d ∈ ds, SeqAt.shaped (toPy d) = true) ∧ PySem.W.AllAlike (ds.map toPy) ∧ PySem.W.Sortable (ds.map toPy) := by
  unfold sortOk at h
  rw [toPys_map] at h
  simp only [Bool.and_eq_true, Bool.or_eq_true, List.all_eq_true] at h
  obtain ⟨h1, h2, h3⟩ := h
  refine ⟨fun d hd => h1 _ (List.mem_map.mpr ⟨d, hd, rfl⟩), fun d hd d' hd' => h2 d hd d' hd', ?_⟩
  rcases h3 with h3 | h3
  · refine .inl fun d hd => ?_
    have q := h3 d hd
    cases d with
    | tuple xs =>
      cases xs with
      | nil => cases q
      | cons x r => exact ⟨x, r, rfl⟩
    | _ => cases q
  · refine .inr fun d hd => ?_
    have q := h3 d hd
    constructor
    · rintro rfl
      cases q
    · rintro xs rfl
      cases q
mutual
theorem reads_lt {h : Heap} : ∀ (d : PyData) (v : Value) (as : List Addr), d.canLay0 = true → Reads h v d as → ∀ a ∈ as, a < h.objs.size
  | .none, _, _, _, r => by cases r; intro a ha; cases ha
  | .bool _, _, _, _, r => by cases r; intro a ha; cases ha
  | .int _, _, _, _, r => by cases r; intro a ha; cases ha
  | .str _, _, _, _, r => by cases r; intro a ha; cases ha
  | .list xs, _, _, c, r => by
    simp only [PyData.canLay0] at c
    cases r with
    | list h1 h2 h3 h4 =>
      intro a ha
      rcases List.mem_cons.mp ha with e | ha
      · rw [e]; exact Heap.lt_size h1
      · exact readsAll_lt xs _ _ c h4 a ha
  | .tuple xs, _, _, c, r => by
    simp only [PyData.canLay0] at c
    cases r with
    | tuple h1 h2 h3 h4 =>
      intro a ha
      exact readsAll_lt xs _ _ c h4 a ha
  | .dict _, _, _, c, r => by simp [PyData.canLay0] at c
theorem readsAll_lt {h : Heap} : ∀ (ds : List PyData) (vs : List Value) (as : List Addr), PyData.canLayAll0 ds = true → ReadsAll h vs ds as → ∀ a ∈ as, a < h.objs.size
  | [], _, _, _, r => by cases r; intro a ha; cases ha
  | d :: ds, _, _, c, r => by
    simp only [PyData.canLayAll0, Bool.and_eq_true] at c
    cases r with
    | cons h1 h2 =>
      intro a ha
      rcases List.mem_append.mp ha with hm | hm
      · exact reads_lt d _ _ c.1 h1 a hm
      · exact readsAll_lt ds _ _ c.2 h2 a hm
end
section
variable {X : Cx} {pins : List (Addr × Obj)} {σ : L2.St} {H : Hp} {s : Shared}
/-- values that read as data, in a row -/
theorem each_of (I : Inv X pins σ H s) : ∀ {xs : List V} {us : List Value} {ds : List D}, Vals xs us → DpAll X.K H xs (toPys ds) →
    PySem.W.EachIs (fun v (b : V × D) => RelV b.1 v) us (xs.zip ds) ∧ PySem.W.EachIs (fun v (b : V × D) => ∃ as, Reads s.heap v (toPy b.2) as) us (xs.zip ds)
  | [], _, [], .nil, _ => ⟨.nil, .nil⟩
  | [], _, _ :: _, .nil, h => by
    simp only [toPys] at h
    cases h
  | _ :: _, _, [], .cons _ _, h => by
    simp only [toPys] at h
    cases h
  | x :: xs, u :: us, d :: ds, .cons r t, h => by
    simp only [toPys] at h
    cases h with
    | cons h1 h2 =>
      obtain ⟨e1, e2⟩ := each_of I t h2
      exact ⟨.cons r e1, .cons (Dp.reads I _ _ _ h1 r) e2⟩
theorem each_vals : ∀ {us : List Value} {bs : List (V × D)}, PySem.W.EachIs (fun v (b : V × D) => RelV b.1 v) us bs → Vals (bs.map (·.1)) us
  | _, _, .nil => .nil
  | _, _, .cons r t => .cons r (each_vals t)
/-- the items in order, with their data -/
def sortZ (xs : List V) (ds : List D) : List (V × D) := (xs.zip ds).mergeSort (PySem.W.dataLe false fun b => toPy b.2)
theorem zip_snd : ∀ {xs : List V} {ds : List D}, xs.length = ds.length → (xs.zip ds).map (·.2) = ds
  | [], [], _ => rfl
  | _ :: _, _ :: _, h => by
    rw [List.zip_cons_cons, List.map_cons, zip_snd (by simpa using h)]
  | [], _ :: _, h => by simp at h
  | _ :: _, [], h => by simp at h
theorem sortZ_snd {xs : List V} {ds : List D} (h : xs.length = ds.length) : (sortZ xs ds).map (·.2) = ds.mergeSort leD := by
  unfold sortZ leD
  have e := List.map_mergeSort (r := PySem.W.dataLe false fun b : V × D => toPy b.2) (s := PySem.W.dataLe false toPy) (f := fun b : V × D => b.2) (l := xs.zip ds) (fun a _ b _ => rfl)
  rw [zip_snd h] at e
  exact e
theorem rp_zip {K : PySem.W.Frag} {fa : Nat → Option Addr} {F : Hp} : ∀ {xs : List V} {ds : List D}, RpAll K fa F xs ds → ∀ b ∈ xs.zip ds, Rp K fa F b.1 b.2
  | _, _, .nil, b, hb => by simp at hb
  | _, _, .cons h r, b, hb => by
    rw [List.zip_cons_cons] at hb
    rcases List.mem_cons.mp hb with rfl | hb
    · exact h
    · exact rp_zip r b hb
theorem rp_unzip {K : PySem.W.Frag} {fa : Nat → Option Addr} {F : Hp} : ∀ {bs : List (V × D)}, (∀ b ∈ bs, Rp K fa F b.1 b.2) → RpAll K fa F (bs.map (·.1)) (bs.map (·.2))
  | [], _ => .nil
  | b :: bs, h => .cons (h b List.mem_cons_self) (rp_unzip fun c hc => h c (List.mem_cons_of_mem _ hc))
theorem sortZ_rp {K : PySem.W.Frag} {fa : Nat → Option Addr} {F : Hp} {xs : List V} {ds : List D} (r : RpAll K fa F xs ds) : RpAll K fa F ((sortZ xs ds).map (·.1)) (ds.mergeSort leD) := by
  rw [← sortZ_snd r.len]
  exact rp_unzip fun b hb => rp_zip r b ((List.mergeSort_perm _ _).mem_iff.mp hb)
theorem map_toPy_zip {xs : List V} {ds : List D} (h : xs.length = ds.length) : (xs.zip ds).map (fun b => toPy b.2) = ds.map toPy := by
  have e : (xs.zip ds).map (fun b => toPy b.2) = ((xs.zip ds).map (·.2)).map toPy := by rw [List.map_map]; rfl
  rw [e, zip_snd h]
def rSortF (K : PySem.W.Frag) : List V → Hp → VK → Prop := fun vs H Q => ∃ (a : Addr) (xs : List V) (ds : List D), vs = [.ref a] ∧ SqL K H a xs ∧ DpAll K H xs (toPys ds) ∧ xs.length = ds.length ∧ sortOk ds = true ∧
  ∀ p, H p = none → Q (.ref p) (upd H p (.lst ((sortZ xs ds).map (·.1))))
theorem cr_sortF (hu : X.A.units + 100 < cLine) : CallR X (.builtin "sorted") (rSortF X.K) := by
  intro pins s σ H vs us Q I r h
  obtain ⟨a, xs, ds, rfl, hs, hd, hl, ho, q⟩ := h
  obtain ⟨its, rv, pl, hz⟩ := I.list hs
  rw [Vals.ref1 r]
  obtain ⟨o1, o2, o3⟩ := sortOk_iff ho
  obtain ⟨e1, e2⟩ := each_of I rv hd
  have hlz : (xs.zip ds).length = xs.length := by rw [List.length_zip, ← hl]; exact Nat.min_self _
  refine PySem.W.sorted_data (bs := xs.zip ds) (enc := fun b => toPy b.2) pl.isList e1 e2 (by rw [map_toPy_zip hl]; exact o2) (by rw [map_toPy_zip hl]; exact o3) (by rw [hlz]; exact hz) (fun b hb => ?_) fun out ho1 ho2 => ?_
  · have := SeqAt.depth_of_shaped (o1 b.2 (List.of_mem_zip hb).2)
    omega
  · obtain ⟨ep, he'⟩ := PyProof.Rows.sortedAll_at s.heap its out.toArray
    have hv : Vals ((sortZ xs ds).map (·.1)) out := each_vals ho2
    have hlen : ((sortZ xs ds).map (·.1)).length ≤ sizeLine := by rw [hv.length, ho1, hlz]; exact hz
    exact ⟨.ref _, upd H (s.heap.objs.size + 1) (.lst ((sortZ xs ds).map (·.1))), I.laid (t' := s.toks) (fun _ _ => PyProof.Rows.sortedAll_old) (Nat.le_succ _) ⟨hlen, out, ep, hv, he'⟩, rfl, q _ (I.hok.fresh (Nat.le_succ _))⟩
/-- behind the collecting of what is walked: the new list is sorted -/
theorem sort_new {A : Around} {E : Value → Shared → Prop} {xs : List V} {us : List Value} {ds : List D} {Q : VK} {tk : Nat} {h' : Heap} (hu : A.units + 100 < cLine) (I : Inv X pins σ H { s with heap := h', toks := tk }) (rv : Vals xs us) (hd : DpAll X.K H xs (toPys ds)) (hl : xs.length = ds.length)
    (ho : sortOk ds = true) (hz : xs.length ≤ sizeLine) (q : ∀ p, H p = none → Q (.ref p) (upd H p (.lst ((sortZ xs ds).map (·.1))))) :
    wpAny (model X.prog X.w) A (call (.builtin "list.sort") [.ref h'.objs.size]) (fun _ s' => EP X pins σ Q (.ref h'.objs.size) s') E { s with heap := h'.push (seqObj "list" us.toArray 0), toks := tk } := by
  obtain ⟨o1, o2, o3⟩ := sortOk_iff ho
  obtain ⟨e1, e2⟩ := each_of I rv hd
  have hlz : (xs.zip ds).length = xs.length := by rw [List.length_zip, ← hl]; exact Nat.min_self _
  have hoL : (h'.push (seqObj "list" us.toArray 0)).get? h'.objs.size = some (seqObj "list" us.toArray 0) := Heap.get?_push_size _ rfl
  have e3 : PySem.W.EachIs (fun v (b : V × D) => ∃ as, Reads (h'.push (seqObj "list" us.toArray 0)) v (toPy b.2) as ∧ h'.objs.size ∉ as) us (xs.zip ds) := by
    have go : ∀ {vs : List Value} {bs : List (V × D)}, (∀ b ∈ bs, SeqAt.shaped (toPy b.2) = true) → PySem.W.EachIs (fun v (b : V × D) => ∃ as, Reads h' v (toPy b.2) as) vs bs → PySem.W.EachIs (fun v (b : V × D) => ∃ as, Reads (h'.push (seqObj "list" us.toArray 0)) v (toPy b.2) as ∧ h'.objs.size ∉ as) vs bs := by
      intro vs bs hs e
      induction e with
      | nil => exact .nil
      | cons r t ih =>
        obtain ⟨as, rr⟩ := r
        refine .cons ⟨as, PyProof.Rows.Reads.keeps (fun b o e => Heap.get?_push_of_some _ e) rr, fun hm => Nat.lt_irrefl _ (reads_lt _ _ _ (SeqAt.canLay_of_shaped (hs _ List.mem_cons_self)) rr _ hm)⟩ (ih fun b hb => hs b (List.mem_cons_of_mem _ hb))
    exact go (fun b hb => o1 b.2 (List.of_mem_zip hb).2) e2
  refine PySem.W.list_sort_data (bs := xs.zip ds) (enc := fun b => toPy b.2) (s := { s with heap := h'.push (seqObj "list" us.toArray 0), toks := tk }) hoL e1 e3
    (by rw [map_toPy_zip hl]; exact o2) (by rw [map_toPy_zip hl]; exact o3) (by rw [hlz]; exact hz) (fun b hb => ?_) fun out ho1 ho2 => ?_
  · have := SeqAt.depth_of_shaped (o1 b.2 (List.of_mem_zip hb).2)
    omega
  · have hv : Vals ((sortZ xs ds).map (·.1)) out := each_vals ho2
    have hlen : ((sortZ xs ds).map (·.1)).length ≤ sizeLine := by rw [hv.length, ho1, hlz]; exact hz
    obtain ⟨e', he'⟩ := PyProof.Rows.sortedHeap_at (vs := us) (out := out.toArray) hoL
    refine ⟨.ref h'.objs.size, upd H h'.objs.size (.lst ((sortZ xs ds).map (·.1))), I.laid (t' := tk) (fun b u e => ?_) (Nat.le_refl _) (show ObjOk X.prog X.w _ _ _ (.lst ((sortZ xs ds).map (·.1))) from ⟨hlen, out, e', hv, he'⟩), rfl, q _ (I.hok.fresh (Nat.le_refl _))⟩
    have hb : b < h'.objs.size := Heap.lt_size e
    rw [PyProof.Rows.sortedHeap_old (Nat.ne_of_lt hb) (by rw [size_push']; exact Nat.lt_succ_of_lt hb)]
    exact Heap.get?_push_of_some _ e
end
section
variable {X : Cx}
/-- sorted of a dict -/
def rSortDk (K : PySem.W.Frag) : List V → Hp → VK → Prop := fun vs H Q => ∃ (a : Addr) (kvs : List (Key × V)) (ds : List D), vs = [.ref a] ∧ Rd H a (.dK kvs) ∧ DpAll K H (kvs.map fun kv => kV kv.1) (toPys ds) ∧ kvs.length = ds.length ∧ sortOk ds = true ∧
  ∀ p, H p = none → Q (.ref p) (upd H p (.lst ((sortZ (kvs.map fun kv => kV kv.1) ds).map (·.1))))
theorem cr_sortDk (hc : X.calm = true) (hu : X.A.units + 200 < cLine) : CallR X (.builtin "sorted") (rSortDk X.K) := by
  intro pins s σ H xs us Q I r q
  obtain ⟨a, kvs, ds, ex, hd, hdp, hl, ho, q⟩ := q
  subst ex
  obtain ⟨u, eu, rx⟩ := vals1 r
  subst eu
  cases rx
  obtain ⟨z, lo, vs, rel, dd⟩ := dk_rd I.hok hd
  obtain ⟨ep, hat⟩ := dd.dictAt
  have hl2 : kvs.length = vs.length := Paired.length rel
  have h16 : vs.length ≤ sizeLine := by rw [← hl2]; exact z
  refine Calls.call_function_entry PyProof.Rows.kind_sorted PyProof.Rows.plain_sorted PyProof.Rows.entry_sorted (PyProof.Rows.args_sorted1 _) ?_
  unfold Builtin.«sorted»
  refine wpAny_bind (m := checkCount "sorted" 1 1 _) (wpAny_pure ?_)
  refine wpAny_bind (PySem.W.kdu_collect (A := X.A.in1) (PySem.W.kdl_dict (knd := mixKind X.prog X.w) (kvs := vs) (ep := ep) lo) (I.ok.hd hc) hat h16 fun h' tk acc hk hacc => ?_)
  have I1 : Inv X pins σ H { s with heap := h', toks := tk } := I.kept hk
  have rv : Vals (kvs.map fun kv => kV kv.1) acc.toList := by
    refine vals_of_at (by rw [List.length_map, hl2, ← hacc.1]; exact Array.length_toList.symm) fun j x w h1 h2 => ?_
    obtain ⟨k, y, hky, hi⟩ := hacc.2 j w (by rw [← Array.getElem?_toList]; exact h2)
    have e1 : (kvs.map (·.1))[j]? = some k := by
      rw [KV.keys rel, List.getElem?_map, hky] <;> rfl
    have e2 : (kvs.map fun kv => kV kv.1)[j]? = some (kV k) := by
      have e3 : (kvs.map fun kv => kV kv.1) = (kvs.map (·.1)).map kV := by rw [List.map_map] <;> rfl
      rw [e3, List.getElem?_map, e1] <;> rfl
    rw [e2] at h1
    cases h1
    exact keyIs_rel hi
  refine wpAny_bind (wpAny_newList ?_ (by have e : acc.toList.length = acc.size := by {simp}; rw [e, hacc.1]; exact h16))
  refine wpAny_bind (wpAny_holding (wpAny_mono (sort_new (A := X.A.in1) (E := X.xe) (s := s) (Q := Q) (by show X.A.units + 1 + 100 < cLine; omega) I1 rv hdp (by rw [List.length_map]; exact hl) ho (by rw [List.length_map]; exact z) q) (fun _ s' x => ?_) fun _ _ e => e))
  exact wpAny_pure ⟨_, rfl, x⟩
end
end Fn
namespace Fn
open PySem PySem.Spec PyProof.Rows L2
def keyB : Key → D
  | .inl i => .int i
  | .inr x => .str x
/-- a key of a dict whose keys are tuples, as data -/
def kD (k : List Key) : D := .tup (k.map keyB)
section
variable {X : Cx}
def rSortDt (K : PySem.W.Frag) : List V → Hp → VK → Prop := fun vs H Q => ∃ (a : Addr) (kvs : List (List Key × V)), vs = [.ref a] ∧ Rd H a (.dT kvs) ∧ sortOk (kvs.map fun kv => kD kv.1) = true ∧
  ∀ p bs, H p = none → IsKeys H kvs bs → Q (.ref p) (upd H p (.lst ((sortZ (bs.map V.ref) (kvs.map fun kv => kD kv.1)).map (·.1))))
theorem kV_dp {K : PySem.W.Frag} {H : Hp} : ∀ (k : List Key), DpAll K H (k.map kV) (toPys (k.map keyB))
  | [] => .nil
  | .inl i :: r => .cons (.int i) (kV_dp r)
  | .inr x :: r => .cons (.str x) (kV_dp r)
theorem keys_dp {K : PySem.W.Frag} {H : Hp} : ∀ {kvs : List (List Key × V)} {bs : List Addr}, IsKeys H kvs bs → DpAll K H (bs.map V.ref) (toPys (kvs.map fun kv => kD kv.1))
  | _, _, .nil => .nil
  | _, _, .cons h r => .cons (.tup (SqT.of h) (kV_dp _)) (keys_dp r)
theorem cr_sortDt (hc : X.calm = true) (hu : X.A.units + 200 < cLine) : CallR X (.builtin "sorted") (rSortDt X.K) := by
  intro pins s σ H xs us Q I r h
  obtain ⟨d, kvs, rfl, hd, ho1, q⟩ := h
  obtain ⟨u, rfl, rx⟩ := r.one
  cases rx
  obtain ⟨z, hs, ks, pr, o, es, ep, ho, hx, hdt, he, hn⟩ := (show ObjOk X.prog X.w H s.heap d (.dT kvs) from hd.ok I.hok)
  have l1 : es.size = ks.length := size_of_entries he
  have l2 : kvs.length = ks.length := Paired.length pr
  refine Calls.call_function_entry PyProof.Rows.kind_sorted PyProof.Rows.plain_sorted PyProof.Rows.entry_sorted (PyProof.Rows.args_sorted1 _) ?_
  unfold Builtin.«sorted»
  refine wpAny_bind (m := checkCount "sorted" 1 1 _) (wpAny_pure ?_)
  refine wpAny_bind (PySem.W.kdu_collect (A := X.A.in1) (kdl_raw hs hx hdt) (I.ok.hd hc) ho (by omega) fun h' tk acc' hk it => ?_)
  have ea : acc'.toList = ks.map fun x => Value.ref x.2.1 := by
    have hl : acc'.toList.length = ks.length := by rw [Array.length_toList, it.1]; exact l1
    apply List.ext_getElem?
    intro j
    rw [List.getElem?_map]
    cases hj : acc'.toList[j]? with
    | none =>
      have h1 := List.getElem?_eq_none_iff.mp hj
      rw [List.getElem?_eq_none (by omega)]
      all_goals rfl
    | some v =>
      obtain ⟨en, hen, hv⟩ := it.2 j v (by rw [← Array.getElem?_toList]; exact hj)
      have qe := entry_at he j
      rw [hen] at qe
      cases hb : ks[j]? with
      | none =>
        rw [hb] at qe
        exact nomatch (show some en = none from qe)
      | some b =>
        rw [hb] at qe
        have e2 : en = entryOfKey (tupleKind (mixKind X.prog X.w)) b := Option.some.inj qe
        rw [hv, e2]
        all_goals rfl
  have eb : acc'.toList = (ks.map fun x => x.2.1).map Value.ref := by rw [ea, List.map_map]; all_goals rfl
  have rv : Vals ((ks.map fun x => x.2.1).map V.ref) acc'.toList := by rw [eb]; exact vals_refs _
  have hz : ((ks.map fun x => x.2.1).map V.ref).length ≤ sizeLine := by rw [List.length_map, List.length_map]; omega
  have I1 : Inv X pins σ H { s with heap := h', toks := tk } := I.kept hk
  have hK : IsKeys H kvs (ks.map fun x => x.2.1) := isKeys_of pr
  refine wpAny_bind (wpAny_newList ?_ (by rw [← rv.length]; exact hz))
  refine wpAny_bind (wpAny_holding (wpAny_mono (sort_new (A := X.A.in1) (E := X.xe) (s := s) (Q := Q) (by show X.A.units + 1 + 100 < cLine; omega) I1 rv (keys_dp hK) (by rw [List.length_map, List.length_map, List.length_map]; exact l2.symm) ho1 hz (fun p hp => q p _ hp hK)) (fun _ s' x => ?_) fun _ _ e => e))
  exact wpAny_pure ⟨_, rfl, x⟩
end
end Fn
namespace Fn
open PySem PySem.Spec PyProof.Rows L2
/-! ### dicts as data -/
def getK {κ : Type} [DecidableEq κ] (kvs : List (κ × D)) (k : κ) : Option D := (kvs.find? fun kv => decide (kv.1 = k)).map (·.2)
def putD {κ : Type} [DecidableEq κ] (kvs : List (κ × D)) (k : κ) (v : D) : List (κ × D) :=
  if (kvs.any fun kv => decide (kv.1 = k)) = true then kvs.map (fun kv => if kv.1 = k then (kv.1, v) else kv) else kvs ++ [(k, v)]
section
variable {κ : Type} [DecidableEq κ] {K : PySem.W.Frag} {fa : Nat → Option Addr} {F : Hp}
theorem get_rel : ∀ {kvs : List (κ × V)} {kds : List (κ × D)}, kvs.map (·.1) = kds.map (·.1) → RpAll K fa F (kvs.map (·.2)) (kds.map (·.2)) → ∀ k,
    (valV kvs k = none ∧ getK kds k = none) ∨ ∃ v d, valV kvs k = some v ∧ getK kds k = some d ∧ Rp K fa F v d
  | [], [], _, _, _ => .inl ⟨rfl, rfl⟩
  | [], _ :: _, h, _, _ => by simp at h
  | _ :: _, [], h, _, _ => by simp at h
  | (a, v) :: kvs, (b, d) :: kds, h, r, k => by
    simp only [List.map_cons, List.cons.injEq] at h r
    obtain ⟨e, h⟩ := h
    subst e
    cases r with
    | cons r1 r2 =>
      by_cases c : a = k
      · refine .inr ⟨v, d, ?_, ?_, r1⟩
        · simp [valV, List.find?_cons, c]
        · simp [getK, List.find?_cons, c]
      · rcases get_rel h r2 k with ⟨h1, h2⟩ | ⟨v', d', h1, h2, h3⟩
        · refine .inl ⟨?_, ?_⟩
          · simpa [valV, List.find?_cons, c] using h1
          · simpa [getK, List.find?_cons, c] using h2
        · refine .inr ⟨v', d', ?_, ?_, h3⟩
          · simpa [valV, List.find?_cons, c] using h1
          · simpa [getK, List.find?_cons, c] using h2
theorem any_rel : ∀ {kvs : List (κ × V)} {kds : List (κ × D)}, kvs.map (·.1) = kds.map (·.1) → ∀ k, (kvs.any fun kv => decide (kv.1 = k)) = (kds.any fun kv => decide (kv.1 = k))
  | [], [], _, _ => rfl
  | [], _ :: _, h, _ => by simp at h
  | _ :: _, [], h, _ => by simp at h
  | (a, v) :: kvs, (b, d) :: kds, h, k => by
    simp only [List.map_cons, List.cons.injEq] at h
    obtain ⟨e, h⟩ := h
    subst e
    simp only [List.any_cons]
    rw [any_rel h k]
theorem put_keys : ∀ {kvs : List (κ × V)} {kds : List (κ × D)}, kvs.map (·.1) = kds.map (·.1) → ∀ k v d, (putK kvs k v).map (·.1) = (putD kds k d).map (·.1) := by
  intro kvs kds h k v d
  unfold putK putD
  rw [any_rel h k]
  split
  · rw [List.map_map, List.map_map]
    have e1 : ((fun x : κ × V => x.1) ∘ fun kv : κ × V => if kv.1 = k then (kv.1, v) else kv) = fun x => x.1 := by
      funext x
      show (if x.1 = k then (x.1, v) else x).1 = x.1
      split <;> rfl
    have e2 : ((fun x : κ × D => x.1) ∘ fun kv : κ × D => if kv.1 = k then (kv.1, d) else kv) = fun x => x.1 := by
      funext x
      show (if x.1 = k then (x.1, d) else x).1 = x.1
      split <;> rfl
    rw [e1, e2, h]
  · rw [List.map_append, List.map_append, h]
    rfl
theorem put_map {v : V} {d : D} {k : κ} (hv : Rp K fa F v d) : ∀ {kvs : List (κ × V)} {kds : List (κ × D)}, kvs.map (·.1) = kds.map (·.1) → RpAll K fa F (kvs.map (·.2)) (kds.map (·.2)) →
    RpAll K fa F ((kvs.map fun kv => if kv.1 = k then (kv.1, v) else kv).map (·.2)) ((kds.map fun kv => if kv.1 = k then (kv.1, d) else kv).map (·.2))
  | [], [], _, _ => .nil
  | [], _ :: _, h, _ => by simp at h
  | _ :: _, [], h, _ => by simp at h
  | (a, x) :: kvs, (b, y) :: kds, h, r => by
    simp only [List.map_cons, List.cons.injEq] at h r ⊢
    obtain ⟨e, h⟩ := h
    subst e
    cases r with
    | cons r1 r2 =>
      by_cases c : a = k
      · rw [if_pos c, if_pos c]
        exact .cons hv (put_map hv h r2)
      · rw [if_neg c, if_neg c]
        exact .cons r1 (put_map hv h r2)
theorem put_rel {kvs : List (κ × V)} {kds : List (κ × D)} (h : kvs.map (·.1) = kds.map (·.1)) (r : RpAll K fa F (kvs.map (·.2)) (kds.map (·.2))) {k : κ} {v : V} {d : D} (hv : Rp K fa F v d) :
    RpAll K fa F ((putK kvs k v).map (·.2)) ((putD kds k d).map (·.2)) := by
  unfold putK putD
  rw [any_rel h k]
  split
  · exact put_map hv h r
  · rw [List.map_append, List.map_append]
    exact r.app (.cons hv .nil)
end
def dkOf : B → Option (List (Key × D))
  | .dat (.dk kvs) => some kvs
  | .vw (.k kvs) => some kvs
  | .bor (.k kvs) => some kvs
  | _ => none
def dtOf : B → Option (List (List Key × D))
  | .dat (.dt kvs) => some kvs
  | .vw (.t kvs) => some kvs
  | .bor (.t kvs) => some kvs
  | _ => none
def tkeyL : List D → Option (List Key)
  | [] => some []
  | d :: ds => match keyD d, tkeyL ds with
    | some k, some ks => some (k :: ks)
    | _, _ => none
/-- a tuple as a key -/
def tkey : B → Option (List Key)
  | .dat (.tup xs) => tkeyL xs
  | _ => none
section
variable {g : G} {F H : Hp} {v : V} {b : B}
theorem dkOf_ok {kds : List (Key × D)} (s : Sm g F H) (r : RR g F H v b) (h : dkOf b = some kds) : ∃ a kvs, v = .ref a ∧ H a = some (.dK kvs) ∧ kvs.map (·.1) = kds.map (·.1) ∧ RpAll g.K g.fa F (kvs.map (·.2)) (kds.map (·.2)) := by
  unfold dkOf at h
  split at h
  · cases h
    cases r with
    | dk h1 h2 h3 => exact ⟨_, _, rfl, s.fh _ _ h1, h2, h3⟩
  · cases h
    obtain ⟨p, o, rfl, h1, h2⟩ := r
    cases h2 with
    | k h2 h3 => exact ⟨_, _, rfl, h1, h2, h3⟩
  · cases h
    obtain ⟨p, o, rfl, h1, h2⟩ := r
    cases h2 with
    | k h2 h3 => exact ⟨_, _, rfl, s.gh _ _ h1, h2, h3⟩
  · cases h
theorem dtOf_ok {kds : List (List Key × D)} (s : Sm g F H) (r : RR g F H v b) (h : dtOf b = some kds) : ∃ a kvs, v = .ref a ∧ H a = some (.dT kvs) ∧ kvs.map (·.1) = kds.map (·.1) ∧ RpAll g.K g.fa F (kvs.map (·.2)) (kds.map (·.2)) := by
  unfold dtOf at h
  split at h
  · cases h
    cases r with
    | dt h1 h2 h3 => exact ⟨_, _, rfl, s.fh _ _ h1, h2, h3⟩
  · cases h
    obtain ⟨p, o, rfl, h1, h2⟩ := r
    cases h2 with
    | t h2 h3 => exact ⟨_, _, rfl, h1, h2, h3⟩
  · cases h
    obtain ⟨p, o, rfl, h1, h2⟩ := r
    cases h2 with
    | t h2 h3 => exact ⟨_, _, rfl, s.gh _ _ h1, h2, h3⟩
  · cases h
theorem keyD_ok {k : Key} {d : D} (h : keyD d = some k) (r : Rp g.K g.fa F v d) : v = kV k := by
  unfold keyD at h
  split at h
  · cases h; cases r; rfl
  · cases h; cases r; rfl
  · cases h
theorem tkeyL_ok : ∀ {ds : List D} {vs : List V} {ks : List Key}, tkeyL ds = some ks → RpAll g.K g.fa F vs ds → vs = ks.map kV
  | [], _, _, h, r => by cases h; cases r; rfl
  | d :: ds, _, ks, h, r => by
    unfold tkeyL at h
    split at h
    · rename_i k ks' h1 h2
      cases h
      cases r with
      | cons r1 r2 => rw [keyD_ok h1 r1, tkeyL_ok h2 r2]; rfl
    · cases h
theorem tkey_ok {ks : List Key} (s : Sm g F H) (r : RR g F H v b) (h : tkey b = some ks) : ∃ a, v = .ref a ∧ H a = some (.tup (ks.map kV)) := by
  unfold tkey at h
  split at h
  · cases r with
    | tup h1 h2 => exact ⟨_, rfl, by rw [← tkeyL_ok h h2]; exact s.fh _ _ h1⟩
  · cases h
theorem rr_key {k : Key} (r : RR g F H v b) (h : keyD (datOf b) = some k) : v = kV k := by
  cases b with
  | dat d => exact keyD_ok h r
  | own m => exact r.elim
  | vw m => cases m <;> cases h
  | bor m => cases m <;> cases h
  | scr ns => cases h
  | err k => cases h
end
/-- what a dict holds at a key -/
def dgetB (a k : B) : Option (Option D) := match dkOf a with
  | some kvs => (match keyD (datOf k) with | some q => some (getK kvs q) | none => none)
  | none => (match dtOf a with
    | some kvs => (match tkey k with | some q => some (getK kvs q) | none => none)
    | none => none)
theorem dgetB_ok {g : G} {F H : Hp} {x y : V} {a k : B} {o : Option D} (s : Sm g F H) (ra : RR g F H x a) (rk : RR g F H y k) (h : dgetB a k = some o) :
    ∃ p ov, x = .ref p ∧ DGet H p y ov ∧ ((ov = none ∧ o = none) ∨ ∃ v d, ov = some v ∧ o = some d ∧ Rp g.K g.fa F v d) := by
  unfold dgetB at h
  split at h
  · rename_i kvs hk
    obtain ⟨p, kv, rfl, h1, h2, h3⟩ := dkOf_ok s ra hk
    split at h
    · rename_i q hq
      cases h
      have e := rr_key rk hq
      subst e
      exact ⟨p, _, rfl, DGet.k h1, get_rel h2 h3 q⟩
    · cases h
  · split at h
    · rename_i kvs hk
      obtain ⟨p, kv, rfl, h1, h2, h3⟩ := dtOf_ok s ra hk
      split at h
      · rename_i q hq
        cases h
        obtain ⟨b, rfl, hb⟩ := tkey_ok s rk hq
        exact ⟨p, _, rfl, DGet.t h1 hb, get_rel h2 h3 q⟩
      · cases h
    · cases h
/-! ### in, not in -/
def inSeq (d : D) (ds : List D) (lst : Bool) : Res Bool :=
  if (SeqAt.shaped (toPy d) && SeqAt.shaped (.list (toPys ds))) = true then .ok (ds.any fun e => PyData.eqv (toPy e) (toPy d)) else .bad
def inB (neg : Bool) (a b : B) : Res B := match b with
  | .dat (.str y) => (match a with | .dat (.str x) => .ok (.dat (.bl (strIn x y != neg))) | _ => .bad)
  | b => match dgetB b a with
    | some o => .ok (.dat (.bl (o.isSome != neg)))
    | none => match seqI b with
      | some ds => (inSeq (datOf a) ds true).bind fun k => .ok (.dat (.bl (k != neg)))
      | none => .bad
def rInS (K : PySem.W.Frag) (neg : Bool) : R2 := fun x y H Q => ∃ d ds, Dp K H x d ∧ (Dp K H y (.list ds) ∨ Dp K H y (.tuple ds)) ∧ SeqAt.shaped d = true ∧ SeqAt.shaped (.list ds) = true ∧ Q (.bl ((ds.any fun z => PyData.eqv z d) != neg)) H
theorem room_seq {A : Around} {d : PyData} {ds : List PyData} (hd : SeqAt.shaped d = true) (hu : A.units + 100 < cLine) : A.units + 1 + min (PyData.depthAll ds) d.depth < cLine := by
  have := SeqAt.depth_of_shaped hd
  have h2 : min (PyData.depthAll ds) d.depth ≤ d.depth := Nat.min_le_right _ _
  omega
theorem op_inS {X : Cx} (hu : X.A.units + 100 < cLine) : OpR X (compareOp .In) (rInS X.K false) := by
  intro pins s σ H x y v u Q I rx ry h
  obtain ⟨d, ds, hd, he, sd, se, q⟩ := h
  obtain ⟨as, r1⟩ := Dp.reads I d x v hd rx
  have q' : Q (.bl (ds.any fun z => PyData.eqv z d)) H := by simpa using q
  rcases he with he | he
  · obtain ⟨bs, r2⟩ := Dp.reads I (.list ds) y u he ry
    exact SeqAt.in_list_reads r2 r1 (SeqAt.canLay_of_shaped se) (SeqAt.canLay_of_shaped sd) (room_seq sd hu) ⟨.bl _, H, I, rfl, q'⟩
  · obtain ⟨bs, r2⟩ := Dp.reads I (.tuple ds) y u he ry
    exact SeqAt.in_tuple_reads r2 r1 (SeqAt.canLay_of_shaped se) (SeqAt.canLay_of_shaped sd) (room_seq sd hu) ⟨.bl _, H, I, rfl, q'⟩
theorem op_notInS {X : Cx} (hu : X.A.units + 100 < cLine) : OpR X (compareOp .NotIn) (rInS X.K true) := by
  intro pins s σ H x y v u Q I rx ry h
  obtain ⟨d, ds, hd, he, sd, se, q⟩ := h
  obtain ⟨as, r1⟩ := Dp.reads I d x v hd rx
  have q' : Q (.bl (!ds.any fun z => PyData.eqv z d)) H := by simpa using q
  rcases he with he | he
  · obtain ⟨bs, r2⟩ := Dp.reads I (.list ds) y u he ry
    exact SeqAt.notIn_list_reads r2 r1 (SeqAt.canLay_of_shaped se) (SeqAt.canLay_of_shaped sd) (room_seq sd hu) ⟨.bl _, H, I, rfl, q'⟩
  · obtain ⟨bs, r2⟩ := Dp.reads I (.tuple ds) y u he ry
    exact SeqAt.notIn_tuple_reads r2 r1 (SeqAt.canLay_of_shaped se) (SeqAt.canLay_of_shaped sd) (room_seq sd hu) ⟨.bl _, H, I, rfl, q'⟩
def rInDk (neg : Bool) : R2 := fun y x H Q => ∃ a o, x = .ref a ∧ DGet H a y o ∧ Q (.bl (o.isSome != neg)) H
theorem op_inDk {X : Cx} (hu : X.A.units + 100 < cLine) : OpR X (compareOp .In) (rInDk false) := by
  intro pins s σ H y x v u Q I ry rx h
  obtain ⟨a, o, rfl, gd, q⟩ := h
  cases rx
  exact d_in (by omega) I gd ry fun s' I' => ⟨.bl _, H, I', rfl, by simpa using q⟩
theorem op_notInDk {X : Cx} (hu : X.A.units + 100 < cLine) : OpR X (compareOp .NotIn) (rInDk true) := by
  intro pins s σ H y x v u Q I ry rx h
  obtain ⟨a, o, rfl, gd, q⟩ := h
  cases rx
  exact d_notIn (by omega) I gd ry fun s' I' => ⟨.bl _, H, I', rfl, by simpa using q⟩
def rInT (neg : Bool) : R2 := fun x y H Q => ∃ i j, x = .str i ∧ y = .str j ∧ Q (.bl (strIn i j != neg)) H
theorem op_inT {X : Cx} : OpR X (compareOp .In) (rInT false) := by
  intro pins s σ H x y v u Q I rx ry h
  obtain ⟨i, j, rfl, rfl, q⟩ := h
  exact op_in_str pins s σ H _ _ v u Q I rx ry ⟨i, j, rfl, rfl, by simpa [strIn] using q⟩
theorem op_notInT {X : Cx} : OpR X (compareOp .NotIn) (rInT true) := by
  intro pins s σ H x y v u Q I rx ry h
  obtain ⟨i, j, rfl, rfl, q⟩ := h
  exact L2.op_notIn_str pins s σ H _ _ v u Q I rx ry ⟨i, j, rfl, rfl, by simpa [strIn] using q⟩
def rInF (K : PySem.W.Frag) (neg : Bool) : R2 := fun x y H Q => rInT neg x y H Q ∨ rInDk neg x y H Q ∨ rInS K neg x y H Q
theorem op_inF {X : Cx} (hu : X.A.units + 100 < cLine) : OpR X (compareOp .In) (rInF X.K false) := OpR.or op_inT (OpR.or (op_inDk hu) (op_inS hu))
theorem op_notInF {X : Cx} (hu : X.A.units + 100 < cLine) : OpR X (compareOp .NotIn) (rInF X.K true) := OpR.or op_notInT (OpR.or (op_notInDk hu) (op_notInS hu))
theorem seq_dp {g : G} {F H : Hp} {v : V} {b : B} {ds : List D} (s : Sm g F H) (r : RR g F H v b) (h : seqI b = some ds) (c : PyData.canLayAll0 (toPys ds) = true) : Dp g.K H v (.list (toPys ds)) ∨ Dp g.K H v (.tuple (toPys ds)) := by
  obtain ⟨a, xs, rfl, h1, h2⟩ := seqI_ok s r h
  rcases h1 with h1 | h1
  · exact .inl (.lst h1 (RpAll.dp s.fh h2 c))
  · exact .inr (.tup h1 (RpAll.dp s.fh h2 c))
theorem g_in {g : G} {K : PySem.W.Frag} {neg : Bool} (hK : g.K = K) : OpG g (rInF K neg) (inB neg) := by
  subst hK
  intro σ F H x y a b Q s ra rb p
  unfold inB at p
  split at p
  · split at p
    · cases ra
      cases rb
      exact .inl ⟨_, _, rfl, rfl, p.bl s⟩
    · exact p.elim
  · split at p
    · rename_i o ho
      obtain ⟨q, ov, rfl, gd, hr⟩ := dgetB_ok s rb ra ho
      refine .inr (.inl ⟨q, ov, rfl, gd, ?_⟩)
      have e : ov.isSome = o.isSome := by
        rcases hr with ⟨e1, e2⟩ | ⟨v, d, e1, e2, _⟩ <;> rw [e1, e2] <;> rfl
      rw [e]
      exact p.bl s
    · split at p
      · rename_i ds hs
        unfold inSeq at p
        split at p
        · rename_i h
          rw [Bool.and_eq_true] at h
          have c : PyData.canLayAll0 (toPys ds) = true := by
            have := SeqAt.canLay_of_shaped h.2
            simpa only [PyData.canLay0] using this
          refine .inr (.inr ⟨_, _, ra.dp s (SeqAt.canLay_of_shaped h.1), seq_dp s rb hs c, h.1, h.2, ?_⟩)
          have e : ((toPys ds).any fun z => PyData.eqv z (toPy (datOf a))) = ds.any fun e => PyData.eqv (toPy e) (toPy (datOf a)) := by
            rw [toPys_map, List.any_map]
            rfl
          rw [e]
          exact p.bl s
        · exact p.elim
      · exact p.elim
/-! ### subscripts -/
def idxB (a i : B) : Res B := match dgetB a i with
  | some (some d) => .ok (.dat d)
  | some none => .bad
  | none => match i with
    | .dat (.int k) => (match a with
      | .dat (.str x) => (match atI x.cps.toList k with | some c => if x.length ≤ sizeLine then .ok (.dat (.str ⟨#[c]⟩)) else .bad | none => .bad)
      | a => (match seqI a with
        | some ds => (match atI ds k with | some d => .ok (.dat d) | none => .bad)
        | none => .bad))
    | _ => .bad
def rIxD : R2 := fun x y H Q => ∃ a v, x = .ref a ∧ DGet H a y (some v) ∧ Q v H
theorem ix_dict {X : Cx} (hu : X.A.units + 100 < cLine) : IxR X rIxD := by
  intro value slice pins s σ H x y v u Q I rx ry h hs
  obtain ⟨a, z, rfl, gd, q⟩ := h
  cases rx
  exact tail_any (dict_typeIs I gd) PySem.F.slot_dict_getitem.lookup (d_getItem (by omega) I gd ry fun w' s' I' rw' => ⟨z, H, I', rw', q⟩) hs
def rIxF (K : PySem.W.Frag) : R2 := fun x y H Q => rIxD x y H Q ∨ rIx K x y H Q
theorem ix_F {X : Cx} (hu : X.A.units + 100 < cLine) : IxR X (rIxF X.K) := IxR.or (ix_dict hu) ix_seq
theorem atI_rp {K : PySem.W.Frag} {fa : Nat → Option Addr} {F : Hp} {xs : List V} {ds : List D} {k : Int} {d : D} (r : RpAll K fa F xs ds) (h : atI ds k = some d) : ∃ v, atI xs k = some v ∧ Rp K fa F v d := by
  unfold atI at h ⊢
  rw [r.len]
  cases e : ixN ds.length k with
  | none => rw [e] at h; cases h
  | some j =>
    rw [e] at h
    exact r.get h
theorem g_idx {g : G} {K : PySem.W.Frag} (hK : g.K = K) : OpG g (rIxF K) idxB := by
  subst hK
  intro σ F H x y a b Q s ra rb p
  unfold idxB at p
  split at p
  · rename_i d hd
    obtain ⟨q, ov, rfl, gd, hr⟩ := dgetB_ok s ra rb hd
    rcases hr with ⟨_, e2⟩ | ⟨v, d', rfl, e2, r⟩
    · cases e2
    · cases e2
      exact .inl ⟨q, v, rfl, gd, p.dat s r⟩
  · exact p.elim
  · split at p
    · split at p
      · split at p
        · rename_i c hc
          split at p
          · rename_i hz
            cases ra
            cases rb
            exact .inr (.inr (.inr ⟨_, _, c, rfl, rfl, hz, hc, p.str s⟩))
          · exact p.elim
        · exact p.elim
      · split at p
        · rename_i ds hs
          split at p
          · rename_i d hd
            cases rb
            obtain ⟨q, xs, rfl, h1, h2⟩ := seqI_ok s ra hs
            obtain ⟨v, hv, rv⟩ := atI_rp h2 hd
            rcases h1 with h1 | h1
            · exact .inr (.inl ⟨q, xs, _, v, rfl, rfl, h1, hv, p.dat s rv⟩)
            · exact .inr (.inr (.inl ⟨q, xs, _, v, rfl, rfl, h1, hv, p.dat s rv⟩))
          · exact p.elim
        · exact p.elim
    · exact p.elim
theorem fe_idx {X : Cx} {g : G} {a b : Expr} {fa fb : Env → Res B} {pos : Pos} (hu : X.A.units + 100 < cLine) (hK : g.K = X.K) (hp : PlainIx b) (ha : PE X a (tF g fa)) (hb : PE X b (tF g fb)) : PE X (.Subscript a b pos) (tF g (bin2 idxB fa fb)) :=
  PE.imp (pe_ix (ix_F hu) ha hb hp) fun _ _ _ h => run2 (g_idx hK) h
end Fn
namespace Fn
open PySem PySem.Spec PyProof.Rows L2
/-! ### forms of syntax -/
def nst : Expr → Bool
  | .Starred .. => false
  | _ => true
def nsl : Expr → Bool
  | .Slice .. => false
  | _ => true
def nset : Expr → Bool
  | .Set .. => false
  | _ => true
def plainT : Expr → Bool
  | .UnaryOp .. => false
  | .BoolOp .. => false
  | .IfExp .. => false
  | .Compare .. => false
  | _ => true
theorem star_cons {e : Expr} {es : List Expr} {env : PySem.Env} (h : nst e = true) : starEach (e :: es) env = (false, eval e env) :: starEach es env := by
  cases e <;> first | rfl | cases h
theorem star_none {env : PySem.Env} {pos : Pos} : ∀ {es : List Expr}, es.all nst = true → (backTo pos (starEach es env)).any (·.1) = false
  | [], _ => rfl
  | e :: es, h => by
    rw [List.all_cons, Bool.and_eq_true] at h
    rw [star_cons h.1]
    exact star_none h.2
theorem nsl_ix {b : Expr} (h : nsl b = true) : PlainIx b := by
  intro o i
  cases b <;> first | rfl | cases h
theorem nset_mark {op : CmpOp} {b : Expr} (h : nset b = true) : behindInMarks op b = false := by
  cases b <;> first | rfl | cases h
theorem plainT_eq {e : Expr} {env : PySem.Env} (h : plainT e = true) : ∀ whole, isTrue e env whole = (do let v ← whole; standAt e.pos; holding [v] (truthy v)) := by
  intro whole
  cases e <;> first | rfl | cases h
section
variable {X : Cx} {g : G} {a b c : Expr} {pos : Pos} {fa fb fc : Env → Res B}
/-! ### names, written things -/
def varB (i : Nat) (ρ : Env) : Res B := match ρ[i]? with
  | some (some (.dat d)) => .ok (.dat d)
  | some (some (.own m)) => .ok (.vw m)
  | some (some (.bor m)) => .ok (.bor m)
  | some (some (.scr ns)) => .ok (.scr ns)
  | some (some (.err c)) => .ok (.err c)
  | _ => .bad
theorem var_run {i : Nat} {σ : L2.St} {H : Hp} {Q : VK} (h : tF g (varB i) σ H Q) : tVar i σ H Q := by
  obtain ⟨F, ρ, s, p⟩ := h
  unfold varB at p
  split at p
  · rename_i d e
    obtain ⟨v, h1, h2⟩ := s.at_ i _ e
    exact ⟨v, h1, p v F H (Grow.refl s.sub) h2⟩
  · rename_i m e
    obtain ⟨v, h1, q, o, rfl, h2, h3, h4, h5⟩ := s.at_ i _ e
    exact ⟨_, h1, p _ F H (Grow.refl s.sub) ⟨q, o, rfl, h2, h5⟩⟩
  · rename_i m e
    obtain ⟨v, h1, h2⟩ := s.at_ i _ e
    exact ⟨v, h1, p v F H (Grow.refl s.sub) h2⟩
  · rename_i ns e
    obtain ⟨v, h1, h2⟩ := s.at_ i _ e
    exact ⟨v, h1, p v F H (Grow.refl s.sub) h2⟩
  · rename_i ns e
    obtain ⟨v, h1, h2⟩ := s.at_ i _ e
    exact ⟨v, h1, p v F H (Grow.refl s.sub) h2⟩
  · exact p.elim
theorem con_run {v : V} {d : D} {σ : L2.St} {H : Hp} {Q : VK} (hv : ∀ F, Rp g.K g.fa F v d) (h : tF g (fun _ => .ok (.dat d)) σ H Q) : tC v σ H Q := by
  obtain ⟨F, ρ, s, p⟩ := h
  exact p v F H (Grow.refl s.sub) (hv F)
/-! ### argument lists -/
def consA (fa : Env → Res B) (fs : Env → Res (List B)) : Env → Res (List B) := fun ρ => (fa ρ).bind fun x => (fs ρ).bind fun xs => .ok (rd x :: xs)
theorem fa_nil : PA X [] (tFA g fun _ => .ok []) := PA.imp pa_nil fun _ _ _ ⟨F, _, s, p⟩ => p [] F _ (Grow.refl s.sub) .nil
theorem fa_cons {e : Expr} {es : List Expr} {fs : Env → Res (List B)} (hn : nst e = true) (ha : PE X e (tF g fa)) (hr : PA X es (tFA g fs)) : PA X (e :: es) (tFA g (consA fa fs)) := by
  refine PA.imp (pa_cons ha hr (star_cons hn)) fun σ H Q ⟨F, ρ, s, p⟩ => ?_
  unfold consA at p
  show tF g fa σ H _
  refine run1 s (fun bx v F1 H1 e1 g1 r1 => ?_) (fun c e => ?_) (fun e => ?_)
  · rw [e1, Res.ok_bind] at p
    have s1 := s.grow g1
    refine ⟨F1, ρ, s1, ?_⟩
    cases e2 : fs ρ with
    | ok bs =>
      rw [e2, Res.ok_bind] at p
      exact fun vs F2 H2 g2 r2 => p (v :: vs) F2 H2 (g1.trans g2) (.cons (r1.mono g2) r2)
    | exc c =>
      rw [e2, Res.exc_bind] at p
      exact fun F' H' gr => p F' H' (g1.trans gr)
    | bad =>
      rw [e2] at p
      exact p
  · rw [e] at p
    exact p
  · rw [e] at p
    exact p
/-- arguments, then what is done with them -/
theorem runA {fs : Env → Res (List B)} {f : List B → Res B} {r : List V → Hp → VK → Prop} {σ : L2.St} {H : Hp} {Q : VK}
    (hg : ∀ (F H : Hp) (vs : List V) (bs : List B) (Q : VK), Sm g F H → Paired (RR g F H) vs bs → Post g σ F H (f bs) Q → r vs H Q)
    (h : tF g (fun ρ => (fs ρ).bind f) σ H Q) : tFA g fs σ H fun vs H1 => r vs H1 Q := by
  obtain ⟨F, ρ, s, p⟩ := h
  refine ⟨F, ρ, s, ?_⟩
  dsimp only at p
  cases e : fs ρ with
  | ok bs =>
    rw [e, Res.ok_bind] at p
    exact fun vs F1 H1 g1 r1 => hg F1 H1 vs bs Q (s.sm.grow g1) r1 (p.later g1)
  | exc c =>
    rw [e, Res.exc_bind] at p
    exact p
  | bad =>
    rw [e] at p
    exact p
def CallG (g : G) (r : List V → Hp → VK → Prop) (f : List B → Res B) : Prop := ∀ (σ : L2.St) (F H : Hp) (vs : List V) (bs : List B) (Q : VK), Sm g F H → Paired (RR g F H) vs bs → Post g σ F H (f bs) Q → r vs H Q
theorem fe_callB {x : Str} {p : Pos} {e : Expr} {es : List Expr} {id : String} {r : List V → Hp → VK → Prop} {fs : Env → Res (List B)} {f : List B → Res B} (hc : CallR X (.builtin id) r) (hg : Gl X x) (hm : X.mg x = none) (hv : bootBuiltins x = some (.builtin id)) (hcg : CallG g r f)
    (ha : PA X (e :: es) (tFA g fs)) (hn : x ≠ "__name__") (hdb : (x == ("__debug__" : Str)) = false) (hst : (e :: es).all nst = true) : PE X (.Call (.Name x p) (e :: es) [] pos) (tF g fun ρ => (fs ρ).bind f) := by
  rw [List.all_cons, Bool.and_eq_true] at hst
  exact PE.imp (pe_callB hc hg hm hv ha hn hdb (star_cons hst.1) (star_none hst.2)) fun σ _ _ h => runA (hcg σ) h
theorem fe_callTy {x : Str} {p : Pos} {e : Expr} {es : List Expr} {T : String} {r : List V → Hp → VK → Prop} {fs : Env → Res (List B)} {f : List B → Res B} (hc : CallR X (.type T) r) (hg : Gl X x) (hm : X.mg x = none) (hv : bootBuiltins x = some (.type T)) (hcg : CallG g r f)
    (ha : PA X (e :: es) (tFA g fs)) (hn : x ≠ "__name__") (hdb : (x == ("__debug__" : Str)) = false) (hst : (e :: es).all nst = true) : PE X (.Call (.Name x p) (e :: es) [] pos) (tF g fun ρ => (fs ρ).bind f) := by
  rw [List.all_cons, Bool.and_eq_true] at hst
  exact PE.imp (pe_callTy hc hg hm hv ha hn hdb (star_cons hst.1) (star_none hst.2)) fun σ _ _ h => runA (hcg σ) h
/-! ### displays -/
def dats : List B → Option (List D)
  | [] => some []
  | .dat d :: bs => (match dats bs with | some ds => some (d :: ds) | none => none)
  | _ => none
theorem dats_ok {F H : Hp} : ∀ {bs : List B} {vs : List V} {ds : List D}, dats bs = some ds → Paired (RR g F H) vs bs → RpAll g.K g.fa F vs ds
  | [], _, _, h, .nil => by cases h; exact .nil
  | .dat d :: bs, _, _, h, .cons r rs => by
    unfold dats at h
    split at h
    · rename_i ds' h'
      cases h
      exact .cons r (dats_ok h' rs)
    · cases h
  | .own _ :: _, _, _, h, _ => by cases h
  | .vw _ :: _, _, _, h, _ => by cases h
  | .bor _ :: _, _, _, h, _ => by cases h
  | .scr _ :: _, _, _, h, _ => by cases h
def tupB (bs : List B) : Res B := match dats bs with
  | some ds => if ds.length ≤ sizeLine then .ok (.dat (.tup ds)) else .bad
  | none => .bad
def lstB (bs : List B) : Res B := match dats bs with
  | some ds => if ds.length ≤ sizeLine then .ok (.own (.l ds)) else .bad
  | none => .bad
theorem g_tup : CallG g (fun xs H1 Q => xs.length ≤ sizeLine ∧ ∀ p, H1 p = none → Q (.ref p) (upd H1 p (.tup xs))) tupB := by
  intro σ F H vs bs Q s r p
  unfold tupB at p
  split at p
  · rename_i ds hd
    split at p
    · rename_i hz
      have rr := dats_ok hd r
      exact ⟨by rw [rr.len]; exact hz, p.newT s rr⟩
    · exact p.elim
  · exact p.elim
theorem g_lst : CallG g (fun xs H1 Q => xs.length ≤ sizeLine ∧ ∀ p, H1 p = none → Q (.ref p) (upd H1 p (.lst xs))) lstB := by
  intro σ F H vs bs Q s r p
  unfold lstB at p
  split at p
  · rename_i ds hd
    split at p
    · rename_i hz
      have rr := dats_ok hd r
      exact ⟨by rw [rr.len]; exact hz, p.newL s rr⟩
    · exact p.elim
  · exact p.elim
theorem fe_tup {es : List Expr} {k : Nat} {fs : Env → Res (List B)} (ha : PA X es (tFA g fs)) : PE X (.Tuple es k pos) (tF g fun ρ => (fs ρ).bind tupB) := PE.imp (pe_tup ha) fun _ _ _ h => runA (g_tup _) h
theorem fe_lst {es : List Expr} {fs : Env → Res (List B)} (ha : PA X es (tFA g fs)) : PE X (.List es pos) (tF g fun ρ => (fs ρ).bind lstB) := PE.imp (pe_lst ha) fun _ _ _ h => runA (g_lst _) h
theorem fe_dicK : PE X (.Dict [] [] pos) (tF g fun _ => .ok (.own (.k []))) := PE.imp pe_dnewK fun σ H Q ⟨F, ρ, s, p⟩ => fun d hd => p.newM s.sm (.k (kvs := []) rfl .nil) d hd
theorem fe_dicT : PE X (.Dict [] [] pos) (tF g fun _ => .ok (.own (.t []))) := PE.imp pe_dnewT fun σ H Q ⟨F, ρ, s, p⟩ => fun d hd => p.newM s.sm (.t (kvs := []) rfl .nil) d hd
/-! ### one value, then what is done with it -/
def one1 (f : B → Res B) (fa : Env → Res B) : Env → Res B := fun ρ => (fa ρ).bind fun x => f (rd x)
theorem runU {f : B → Res B} {R : V → Hp → VK → Prop} {σ : L2.St} {H : Hp} {Q : VK} (hg : ∀ (F H : Hp) (v : V) (b : B) (Q : VK), Sm g F H → RR g F H v b → Post g σ F H (f b) Q → R v H Q) (h : tF g (one1 f fa) σ H Q) : tF g fa σ H fun v H1 => R v H1 Q := by
  obtain ⟨F, ρ, s, p⟩ := h
  unfold one1 at p
  refine run1 s (fun bx v F1 H1 e1 g1 r1 => ?_) (fun c e => ?_) (fun e => ?_)
  · rw [e1, Res.ok_bind] at p
    exact hg F1 H1 v _ Q (s.sm.grow g1) r1 (p.later g1)
  · rw [e] at p
    exact p
  · rw [e] at p
    exact p
def negB (b : B) : Res B := match b with
  | .dat (.int i) => .ok (.dat (.int (-i)))
  | _ => .bad
theorem fe_neg (ha : PE X a (tF g fa)) : PE X (.UnaryOp .USub a pos) (tF g (one1 negB fa)) := by
  refine PE.imp (pe_un un_neg ha) fun σ H Q h => runU (f := negB) (R := rU fun i => .int (-i)) (fun F H v b Q s r p => ?_) h
  unfold negB at p
  split at p
  · cases r
    exact ⟨_, rfl, p.int s⟩
  · exact p.elim
def notB (b : B) : Res B := match b with
  | .dat (.bl k) => .ok (.dat (.bl !k))
  | _ => .bad
theorem fe_not (ha : PE X a (tF g fa)) : PE X (.UnaryOp .Not a pos) (tF g (one1 notB fa)) := by
  refine PE.imp (pe_not ha) fun σ H Q h => runU (f := notB) (R := fun x H1 Q => ∃ c, x = .bl c ∧ Q (.bl (!c)) H1) (fun F H v b Q s r p => ?_) h
  unfold notB at p
  split at p
  · cases r
    exact ⟨_, rfl, p.bl s⟩
  · exact p.elim
def revB (b : B) : Res B := match b with
  | .scr ns => .ok (.own (.l (ns.reverse.map .int)))
  | b => match seqL b with
    | some ds => .ok (.own (.l ds.reverse))
    | none => .bad
/-! ### and, or as values: the left ones are truths -/
def andV (fa fb : Env → Res B) : Env → Res B := fun ρ => (fa ρ).bind fun x => match x with
  | .dat (.bl true) => fb ρ
  | .dat (.bl false) => .ok (.dat (.bl false))
  | _ => .bad
def orV (fa fb : Env → Res B) : Env → Res B := fun ρ => (fa ρ).bind fun x => match x with
  | .dat (.bl false) => fb ρ
  | .dat (.bl true) => .ok (.dat (.bl true))
  | _ => .bad
theorem fe_and {rest : List Expr} (ha : PE X a (tF g fa)) (hb : PE X (.BoolOp .And (b :: rest) pos) (tF g fb)) : PE X (.BoolOp .And (a :: b :: rest) pos) (tF g (andV fa fb)) := by
  refine PE.imp (pe_and ha hb) fun σ H Q ⟨F, ρ, s, p⟩ => ?_
  unfold andV at p
  show tF g fa σ H _
  refine run1 s (fun bx v F1 H1 e1 g1 r1 => ?_) (fun c e => ?_) (fun e => ?_)
  · rw [e1, Res.ok_bind] at p
    split at p
    · cases r1
      refine ⟨true, rfl, ?_⟩
      rw [if_pos rfl]
      exact ⟨F1, ρ, s.grow g1, p.later g1⟩
    · cases r1
      refine ⟨false, rfl, ?_⟩
      rw [if_neg Bool.false_ne_true]
      exact (p.later g1).bl (s.sm.grow g1)
    · exact p.elim
  · rw [e] at p
    exact p
  · rw [e] at p
    exact p
theorem fe_or {rest : List Expr} (ha : PE X a (tF g fa)) (hb : PE X (.BoolOp .Or (b :: rest) pos) (tF g fb)) : PE X (.BoolOp .Or (a :: b :: rest) pos) (tF g (orV fa fb)) := by
  refine PE.imp (pe_or ha hb) fun σ H Q ⟨F, ρ, s, p⟩ => ?_
  unfold orV at p
  show tF g fa σ H _
  refine run1 s (fun bx v F1 H1 e1 g1 r1 => ?_) (fun c e => ?_) (fun e => ?_)
  · rw [e1, Res.ok_bind] at p
    split at p
    · cases r1
      refine ⟨false, rfl, ?_⟩
      rw [if_neg Bool.false_ne_true]
      exact ⟨F1, ρ, s.grow g1, p.later g1⟩
    · cases r1
      refine ⟨true, rfl, ?_⟩
      rw [if_pos rfl]
      exact (p.later g1).bl (s.sm.grow g1)
    · exact p.elim
  · rw [e] at p
    exact p
  · rw [e] at p
    exact p
/-! ### tests -/
def truB (b : B) : Res Bool := match b with
  | .dat .non => .ok false
  | .dat (.bl k) => .ok k
  | .dat (.int i) => .ok (i != 0)
  | .dat (.str x) => if x.length ≤ sizeLine then .ok ((x.length : Int) != 0) else .bad
  | b => match dkOf b with
    | some kvs => .ok (!kvs.isEmpty)
    | none => match seqI b with
      | some ds => .ok (!ds.isEmpty)
      | none => .bad
def testV (fa : Env → Res B) : Env → Res Bool := fun ρ => (fa ρ).bind fun x => truB (rd x)
theorem truB_ok {F H : Hp} {v : V} {b : B} {k : Bool} (s : Sm g F H) (r : RR g F H v b) (h : truB b = .ok k) : TruV g.K v H k := by
  unfold truB at h
  split at h
  · cases h; cases r; rfl
  · cases h; cases r; rfl
  · cases h; cases r; rfl
  · split at h
    · cases h; cases r; exact ⟨by assumption, rfl⟩
    · cases h
  · split at h
    · rename_i kvs hk
      cases h
      obtain ⟨p, xs, rfl, h1, h2, h3⟩ := dkOf_ok s r hk
      refine .inr (.inr ⟨xs, h1, ?_⟩)
      cases xs with
      | nil => cases kvs with
        | nil => rfl
        | cons _ _ => simp at h2
      | cons _ _ => cases kvs with
        | nil => simp at h2
        | cons _ _ => rfl
    · split at h
      · rename_i ds hs
        cases h
        obtain ⟨p, xs, rfl, h1, h2⟩ := seqI_ok s r hs
        have e : (!ds.isEmpty) = !xs.isEmpty := by cases h2 <;> rfl
        rw [e]
        rcases h1 with h1 | h1
        · exact .inl ⟨xs, h1, rfl⟩
        · exact .inr (.inl ⟨xs, h1, rfl⟩)
      · cases h
theorem ft_val (hK : g.K = X.K) (hp : plainT a = true) (ha : PE X a (tF g fa)) : PT X a (tFT g (testV fa)) := by
  refine PT.imp (pt_truth ha (plainT_eq hp)) fun σ H Q ⟨F, ρ, s, p⟩ => ?_
  unfold testV at p
  show tF g fa σ H _
  rw [← hK]
  refine run1 s (fun bx v F1 H1 e1 g1 r1 => ?_) (fun c e => ?_) (fun e => ?_)
  · rw [e1, Res.ok_bind] at p
    cases e2 : truB (rd bx) with
    | ok k =>
      rw [e2] at p
      exact ⟨k, truB_ok (s.sm.grow g1) r1 e2, p F1 H1 g1⟩
    | exc c =>
      exfalso
      unfold truB at e2
      repeat (split at e2 <;> try cases e2)
    | bad =>
      rw [e2] at p
      exact p.elim
  · rw [e] at p
    exact p
  · rw [e] at p
    exact p
end
end Fn
namespace Fn
open PySem PySem.Spec PyProof.Rows L2
/-! ### built-in functions -/
section
variable {X : Cx} {g : G}
theorem paired1 {α β : Type} {R : α → β → Prop} {xs : List α} {b : β} (h : Paired R xs [b]) : ∃ x, xs = [x] ∧ R x b := by
  cases h with
  | cons r t => cases t; exact ⟨_, rfl, r⟩
theorem paired2 {α β : Type} {R : α → β → Prop} {xs : List α} {b c : β} (h : Paired R xs [b, c]) : ∃ x y, xs = [x, y] ∧ R x b ∧ R y c := by
  cases h with
  | cons r t =>
    obtain ⟨y, rfl, r'⟩ := paired1 t
    exact ⟨_, _, rfl, r, r'⟩
def intsD : List D → Option (List Int)
  | [] => some []
  | .int i :: ds => (match intsD ds with | some ns => some (i :: ns) | none => none)
  | _ => none
def blsD : List D → Option (List Bool)
  | [] => some []
  | .bl i :: ds => (match blsD ds with | some ns => some (i :: ns) | none => none)
  | _ => none
theorem intsD_ok : ∀ {ds : List D} {ns : List Int}, intsD ds = some ns → ds = ns.map D.int
  | [], _, h => by cases h; rfl
  | .int i :: ds, _, h => by
    unfold intsD at h
    split at h
    · rename_i ns e
      cases h
      rw [intsD_ok e]; rfl
    · cases h
  | .non :: _, _, h => by cases h
  | .bl _ :: _, _, h => by cases h
  | .str _ :: _, _, h => by cases h
  | .tup _ :: _, _, h => by cases h
  | .ctup _ :: _, _, h => by cases h
  | .lst _ :: _, _, h => by cases h
  | .dk _ :: _, _, h => by cases h
  | .dt _ :: _, _, h => by cases h
  | .fn _ :: _, _, h => by cases h
theorem blsD_ok : ∀ {ds : List D} {ns : List Bool}, blsD ds = some ns → ds = ns.map D.bl
  | [], _, h => by cases h; rfl
  | .bl i :: ds, _, h => by
    unfold blsD at h
    split at h
    · rename_i ns e
      cases h
      rw [blsD_ok e]; rfl
    · cases h
  | .non :: _, _, h => by cases h
  | .int _ :: _, _, h => by cases h
  | .str _ :: _, _, h => by cases h
  | .tup _ :: _, _, h => by cases h
  | .ctup _ :: _, _, h => by cases h
  | .lst _ :: _, _, h => by cases h
  | .dk _ :: _, _, h => by cases h
  | .dt _ :: _, _, h => by cases h
  | .fn _ :: _, _, h => by cases h
theorem intsD_map (ns : List Int) : intsD (ns.map D.int) = some ns := by
  induction ns with
  | nil => rfl
  | cons n ns ih => rw [List.map_cons, intsD, ih]
theorem blsD_map (ns : List Bool) : blsD (ns.map D.bl) = some ns := by
  induction ns with
  | nil => rfl
  | cons n ns ih => rw [List.map_cons, blsD, ih]
def lenB (bs : List B) : Res B := match bs with
  | [.dat (.str x)] => if x.length ≤ sizeLine then .ok (.dat (.int x.length)) else .bad
  | [b] => (match dkOf b with
    | some kvs => .ok (.dat (.int kvs.length))
    | none => match seqI b with
      | some ds => .ok (.dat (.int ds.length))
      | none => match dtOf b with
        | some kvs => .ok (.dat (.int kvs.length))
        | none => .bad)
  | _ => .bad
def rLenF (K : PySem.W.Frag) : List V → Hp → VK → Prop := fun xs H Q => (∃ p ys, xs = [.ref p] ∧ (SqL K H p ys ∨ SqT K H p ys) ∧ Q (.int ys.length) H) ∨ (∃ z, xs = [.str z] ∧ z.length ≤ sizeLine ∧ Q (.int z.length) H) ∨ (∃ a kvs, xs = [V.ref a] ∧ H a = some (.dK kvs) ∧ Q (.int kvs.length) H) ∨ rLenT xs H Q
theorem c_len : CallR X (.builtin "len") (rLenF X.K) := CallR.or call_len_seq (CallR.or call_len_str (CallR.or call_lenD call_len_dT))
theorem g_len {K : PySem.W.Frag} (hK : g.K = K) : CallG g (rLenF K) lenB := by
  subst hK
  intro σ F H vs bs Q s r p
  unfold lenB at p
  split at p
  · split at p
    · obtain ⟨v, rfl, rv⟩ := paired1 r
      cases rv
      exact .inr (.inl ⟨_, rfl, by assumption, p.int s⟩)
    · exact p.elim
  · obtain ⟨v, rfl, rv⟩ := paired1 r
    split at p
    · rename_i kvs hk
      obtain ⟨q, xs, rfl, h1, h2, h3⟩ := dkOf_ok s rv hk
      have e : xs.length = kvs.length := by simpa using congrArg List.length h2
      exact .inr (.inr (.inl ⟨q, xs, rfl, h1, by rw [e]; exact p.int s⟩))
    · split at p
      · rename_i ds hs
        obtain ⟨q, xs, rfl, h1, h2⟩ := seqI_ok s rv hs
        exact .inl ⟨q, xs, rfl, h1, by rw [h2.len]; exact p.int s⟩
      · split at p
        · rename_i kvs hk
          obtain ⟨q, xs, rfl, h1, h2, h3⟩ := dtOf_ok s rv hk
          have e : xs.length = kvs.length := by simpa using congrArg List.length h2
          exact .inr (.inr (.inr ⟨q, xs, rfl, h1, by rw [e]; exact p.int s⟩))
        · exact p.elim
  · exact p.elim
def absF (bs : List B) : Res B := match bs with
  | [.dat (.int i)] => .ok (.dat (.int (if i < 0 then -i else i)))
  | _ => .bad
theorem g_abs : CallG g (fun xs H Q => ∃ i, xs = [.int i] ∧ Q (.int (if i < 0 then -i else i)) H) absF := by
  intro σ F H vs bs Q s r p
  unfold absF at p
  split at p
  · obtain ⟨v, rfl, rv⟩ := paired1 r
    cases rv
    exact ⟨_, rfl, p.int s⟩
  · exact p.elim
/-- the least, the greatest of whole numbers -/
def minI : List Int → Int
  | [] => 0
  | n :: ns => ns.foldl min n
def maxI : List Int → Int
  | [] => 0
  | n :: ns => ns.foldl max n
theorem foldl_min : ∀ (ns : List Int) (n : Int), (ns.foldl min n = n ∨ ns.foldl min n ∈ ns) ∧ ns.foldl min n ≤ n ∧ ∀ y ∈ ns, ns.foldl min n ≤ y
  | [], n => ⟨.inl rfl, Int.le_refl _, fun y h => by cases h⟩
  | m :: ns, n => by
    obtain ⟨h1, h2, h3⟩ := foldl_min ns (min n m)
    rw [List.foldl_cons]
    refine ⟨?_, by omega, fun y hy => ?_⟩
    · rcases h1 with h1 | h1
      · rw [h1]
        by_cases c : n ≤ m
        · exact .inl (by omega)
        · exact .inr (by rw [show min n m = m by omega]; exact List.mem_cons_self)
      · exact .inr (List.mem_cons_of_mem _ h1)
    · rcases List.mem_cons.mp hy with rfl | hy
      · omega
      · exact h3 y hy
theorem foldl_max : ∀ (ns : List Int) (n : Int), (ns.foldl max n = n ∨ ns.foldl max n ∈ ns) ∧ n ≤ ns.foldl max n ∧ ∀ y ∈ ns, y ≤ ns.foldl max n
  | [], n => ⟨.inl rfl, Int.le_refl _, fun y h => by cases h⟩
  | m :: ns, n => by
    obtain ⟨h1, h2, h3⟩ := foldl_max ns (max n m)
    rw [List.foldl_cons]
    refine ⟨?_, by omega, fun y hy => ?_⟩
    · rcases h1 with h1 | h1
      · rw [h1]
        by_cases c : m ≤ n
        · exact .inl (by omega)
        · exact .inr (by rw [show max n m = m by omega]; exact List.mem_cons_self)
      · exact .inr (List.mem_cons_of_mem _ h1)
    · rcases List.mem_cons.mp hy with rfl | hy
      · omega
      · exact h3 y hy
theorem minI_ok {ns : List Int} (h : 0 < ns.length) : minI ns ∈ ns ∧ ∀ y ∈ ns, minI ns ≤ y := by
  cases ns with
  | nil => simp at h
  | cons n ns =>
    obtain ⟨h1, h2, h3⟩ := foldl_min ns n
    refine ⟨?_, fun y hy => ?_⟩
    · rcases h1 with h1 | h1
      · show ns.foldl min n ∈ n :: ns
        rw [h1]; exact List.mem_cons_self
      · exact List.mem_cons_of_mem _ h1
    · rcases List.mem_cons.mp hy with rfl | hy
      · exact h2
      · exact h3 y hy
theorem maxI_ok {ns : List Int} (h : 0 < ns.length) : maxI ns ∈ ns ∧ ∀ y ∈ ns, y ≤ maxI ns := by
  cases ns with
  | nil => simp at h
  | cons n ns =>
    obtain ⟨h1, h2, h3⟩ := foldl_max ns n
    refine ⟨?_, fun y hy => ?_⟩
    · rcases h1 with h1 | h1
      · show ns.foldl max n ∈ n :: ns
        rw [h1]; exact List.mem_cons_self
      · exact List.mem_cons_of_mem _ h1
    · rcases List.mem_cons.mp hy with rfl | hy
      · exact h2
      · exact h3 y hy
def mnxB (two : Int → Int → Int) (many : List Int → Int) (bs : List B) : Res B := match bs with
  | [.dat (.int i), .dat (.int j)] => .ok (.dat (.int (two i j)))
  | [b] => (match seqL b with
    | some ds => (match intsD ds with
      | some ns => if 0 < ns.length then .ok (.dat (.int (many ns))) else .bad
      | none => .bad)
    | none => .bad)
  | _ => .bad
def minF : List B → Res B := mnxB (fun i j => if j < i then j else i) minI
def maxF : List B → Res B := mnxB (fun i j => if j > i then j else i) maxI
def rMinF (K : PySem.W.Frag) : List V → Hp → VK → Prop := fun xs H Q => (∃ i j, xs = [.int i, .int j] ∧ Q (.int (if j < i then j else i)) H) ∨ rMin K xs H Q
def rMaxF (K : PySem.W.Frag) : List V → Hp → VK → Prop := fun xs H Q => (∃ i j, xs = [.int i, .int j] ∧ Q (.int (if j > i then j else i)) H) ∨ rMax K xs H Q
theorem c_min (hc : X.calm = true) : CallR X (.builtin "min") (rMinF X.K) := CallR.or (call_min2 hc) (cr_min hc)
theorem c_max (hc : X.calm = true) : CallR X (.builtin "max") (rMaxF X.K) := CallR.or (call_max2 hc) (cr_max hc)
theorem ints_at {F H : Hp} {v : V} {b : B} {ds : List D} {ns : List Int} (s : Sm g F H) (r : RR g F H v b) (h : seqL b = some ds) (e : intsD ds = some ns) : ∃ a, v = .ref a ∧ SqL g.K H a (ns.map V.int) := by
  obtain ⟨a, xs, rfl, h1, h2⟩ := seqL_ok s r h
  have ed := intsD_ok e
  subst ed
  have ex := h2.ints
  subst ex
  exact ⟨a, rfl, SqL.of h1⟩
theorem g_min {K : PySem.W.Frag} (hK : g.K = K) : CallG g (rMinF K) minF := by
  subst hK
  intro σ F H vs bs Q s r p
  unfold minF mnxB at p
  split at p
  · obtain ⟨v, w, rfl, rv, rw'⟩ := paired2 r
    cases rv
    cases rw'
    exact .inl ⟨_, _, rfl, p.int s⟩
  · obtain ⟨v, rfl, rv⟩ := paired1 r
    split at p
    · rename_i ds hd
      split at p
      · rename_i ns hn
        split at p
        · rename_i hl
          obtain ⟨a, rfl, h1⟩ := ints_at s rv hd hn
          obtain ⟨m1, m2⟩ := minI_ok hl
          refine .inr ⟨a, ns, rfl, h1, hl, fun m h2 h3 => ?_⟩
          have e : m = minI ns := by
            have a1 := h3 _ m1
            have a2 := m2 _ h2
            omega
          subst e
          exact p.int s
        · exact p.elim
      · exact p.elim
    · exact p.elim
  · exact p.elim
theorem g_max {K : PySem.W.Frag} (hK : g.K = K) : CallG g (rMaxF K) maxF := by
  subst hK
  intro σ F H vs bs Q s r p
  unfold maxF mnxB at p
  split at p
  · obtain ⟨v, w, rfl, rv, rw'⟩ := paired2 r
    cases rv
    cases rw'
    exact .inl ⟨_, _, rfl, p.int s⟩
  · obtain ⟨v, rfl, rv⟩ := paired1 r
    split at p
    · rename_i ds hd
      split at p
      · rename_i ns hn
        split at p
        · rename_i hl
          obtain ⟨a, rfl, h1⟩ := ints_at s rv hd hn
          obtain ⟨m1, m2⟩ := maxI_ok hl
          refine .inr ⟨a, ns, rfl, h1, hl, fun m h2 h3 => ?_⟩
          have e : m = maxI ns := by
            have a1 := h3 _ m1
            have a2 := m2 _ h2
            omega
          subst e
          exact p.int s
        · exact p.elim
      · exact p.elim
    · exact p.elim
  · exact p.elim
def sumF (bs : List B) : Res B := match bs with
  | [b] => (match seqL b with
    | some ds => (match intsD ds with
      | some ns => .ok (.dat (.int ns.sum))
      | none => .bad)
    | none => .bad)
  | _ => .bad
theorem g_sum {K : PySem.W.Frag} (hK : g.K = K) : CallG g (rSum K) sumF := by
  subst hK
  intro σ F H vs bs Q s r p
  unfold sumF at p
  split at p
  · obtain ⟨v, rfl, rv⟩ := paired1 r
    split at p
    · rename_i ds hd
      split at p
      · rename_i ns hn
        obtain ⟨a, rfl, h1⟩ := ints_at s rv hd hn
        exact ⟨a, ns, rfl, h1, p.int s⟩
      · exact p.elim
    · exact p.elim
  · exact p.elim
def anyAllF (f : List Bool → Bool) (bs : List B) : Res B := match bs with
  | [b] => (match seqL b with
    | some ds => (match blsD ds with
      | some ns => .ok (.dat (.bl (f ns)))
      | none => .bad)
    | none => .bad)
  | _ => .bad
def anyF : List B → Res B := anyAllF fun ns => ns.any id
def allF : List B → Res B := anyAllF fun ns => ns.all id
theorem bls_at {F H : Hp} {v : V} {b : B} {ds : List D} {ns : List Bool} (s : Sm g F H) (r : RR g F H v b) (h : seqL b = some ds) (e : blsD ds = some ns) : ∃ a, v = .ref a ∧ SqL g.K H a (ns.map V.bl) := by
  obtain ⟨a, xs, rfl, h1, h2⟩ := seqL_ok s r h
  have ed := blsD_ok e
  subst ed
  have ex := h2.bls
  subst ex
  exact ⟨a, rfl, SqL.of h1⟩
theorem g_any {K : PySem.W.Frag} (hK : g.K = K) : CallG g (rAny K) anyF := by
  subst hK
  intro σ F H vs bs Q s r p
  unfold anyF anyAllF at p
  split at p
  · obtain ⟨v, rfl, rv⟩ := paired1 r
    split at p
    · rename_i ds hd
      split at p
      · rename_i ns hn
        obtain ⟨a, rfl, h1⟩ := bls_at s rv hd hn
        exact ⟨a, ns, rfl, h1, p.bl s⟩
      · exact p.elim
    · exact p.elim
  · exact p.elim
theorem g_all {K : PySem.W.Frag} (hK : g.K = K) : CallG g (rAll K) allF := by
  subst hK
  intro σ F H vs bs Q s r p
  unfold allF anyAllF at p
  split at p
  · obtain ⟨v, rfl, rv⟩ := paired1 r
    split at p
    · rename_i ds hd
      split at p
      · rename_i ns hn
        obtain ⟨a, rfl, h1⟩ := bls_at s rv hd hn
        exact ⟨a, ns, rfl, h1, p.bl s⟩
      · exact p.elim
    · exact p.elim
  · exact p.elim
/-! ### classes called -/
def intF (bs : List B) : Res B := match bs with
  | [.dat (.int i)] => .ok (.dat (.int i))
  | [.dat (.bl k)] => .ok (.dat (.int (if k then 1 else 0)))
  | _ => .bad
theorem g_int : CallG g (fun xs H Q => (∃ i, xs = [.int i] ∧ Q (.int i) H) ∨ ∃ k, xs = [.bl k] ∧ Q (.int (if k then 1 else 0)) H) intF := by
  intro σ F H vs bs Q s r p
  unfold intF at p
  split at p
  · obtain ⟨v, rfl, rv⟩ := paired1 r
    cases rv
    exact .inl ⟨_, rfl, p.int s⟩
  · obtain ⟨v, rfl, rv⟩ := paired1 r
    cases rv
    exact .inr ⟨_, rfl, p.int s⟩
  · exact p.elim
def strF (bs : List B) : Res B := match bs with
  | [.dat (.int i)] => if i.natAbs.log2 < 1920 then .ok (.dat (.str (toString i))) else .bad
  | _ => .bad
theorem g_str : CallG g (fun xs H Q => ∃ i, xs = [.int i] ∧ i.natAbs.log2 < 1920 ∧ Q (.str (toString i)) H) strF := by
  intro σ F H vs bs Q s r p
  unfold strF at p
  split at p
  · split at p
    · obtain ⟨v, rfl, rv⟩ := paired1 r
      cases rv
      exact ⟨_, rfl, by assumption, p.str s⟩
    · exact p.elim
  · exact p.elim
def isTupD : B → Bool
  | .dat (.tup _) => true
  | .dat (.ctup _) => true
  | _ => false
def tupF (bs : List B) : Res B := match bs with
  | [.dat (.tup xs)] => .ok (.dat (.tup xs))
  | [.dat (.ctup xs)] => .ok (.dat (.ctup xs))
  | [b] => (match seqI b with
    | some ds => .ok (.dat (.tup ds))
    | none => .bad)
  | _ => .bad
theorem seqI_list {F H : Hp} {v : V} {b : B} {ds : List D} (s : Sm g F H) (r : RR g F H v b) (h : seqI b = some ds) (n1 : ∀ xs, b ≠ .dat (.tup xs)) (n2 : ∀ xs, b ≠ .dat (.ctup xs)) : ∃ a xs, v = .ref a ∧ SqL g.K H a xs ∧ RpAll g.K g.fa F xs ds := by
  unfold seqI at h
  split at h
  · exact absurd rfl (n1 _)
  · exact absurd rfl (n2 _)
  · cases h
    cases r with
    | lst h1 h2 => exact ⟨_, _, rfl, SqL.of (s.fh _ _ h1), h2⟩
  · cases h
    obtain ⟨p, o, rfl, h1, h2⟩ := r
    cases h2 with
    | l h2 => exact ⟨_, _, rfl, SqL.of h1, h2⟩
  · cases h
    obtain ⟨p, o, rfl, h1, h2⟩ := r
    cases h2 with
    | l h2 => exact ⟨_, _, rfl, SqL.of (s.gh _ _ h1), h2⟩
  · cases h
    obtain ⟨p, rfl, h1⟩ := r
    exact ⟨_, _, rfl, s.gh.seq h1, RpAll.of_ints _⟩
  · cases h
def rTupF (K : PySem.W.Frag) : List V → Hp → VK → Prop := fun xs H Q => ∃ p ys, xs = [.ref p] ∧ ((SqL K H p ys ∧ ∀ l, H l = none → Q (.ref l) (upd H l (.tup ys))) ∨ (SqT K H p ys ∧ Q (.ref p) H))
theorem g_tupF {K : PySem.W.Frag} (hK : g.K = K) : CallG g (rTupF K) tupF := by
  subst hK
  intro σ F H vs bs Q s r p
  unfold tupF at p
  split at p
  · obtain ⟨v, rfl, rv⟩ := paired1 r
    cases rv with
    | tup h1 h2 => exact ⟨_, _, rfl, .inr ⟨SqT.of (s.fh _ _ h1), p.dat s (.tup h1 h2)⟩⟩
  · obtain ⟨v, rfl, rv⟩ := paired1 r
    cases rv with
    | ctup h1 h2 => exact ⟨_, _, rfl, .inr ⟨sqT_none h1, p.dat s (.ctup h1 h2)⟩⟩
  · rename_i b n1 n2
    obtain ⟨v, rfl, rv⟩ := paired1 r
    split at p
    · rename_i ds hs
      obtain ⟨a, xs, rfl, h1, h2⟩ := seqI_list s rv hs (fun xs e => n1 xs (by rw [e])) (fun xs e => n2 xs (by rw [e]))
      exact ⟨a, xs, rfl, .inl ⟨h1, p.newT s h2⟩⟩
    · exact p.elim
  · exact p.elim
def lstF (bs : List B) : Res B := match bs with
  | [b] => (match seqI b with
    | some ds => .ok (.own (.l ds))
    | none => .bad)
  | _ => .bad
def rLstF (K : PySem.W.Frag) : List V → Hp → VK → Prop := fun xs H Q => ∃ p ys, xs = [.ref p] ∧ (SqL K H p ys ∨ SqT K H p ys) ∧ ∀ l, H l = none → Q (.ref l) (upd H l (.lst ys))
theorem g_lstF {K : PySem.W.Frag} (hK : g.K = K) : CallG g (rLstF K) lstF := by
  subst hK
  intro σ F H vs bs Q s r p
  unfold lstF at p
  split at p
  · obtain ⟨v, rfl, rv⟩ := paired1 r
    split at p
    · rename_i ds hs
      obtain ⟨a, xs, rfl, h1, h2⟩ := seqI_ok s rv hs
      exact ⟨a, xs, rfl, h1, p.newL s h2⟩
    · exact p.elim
  · exact p.elim
/-! ### sorted -/
def sortF (bs : List B) : Res B := match bs with
  | [b] => (match dkOf b with
    | some kvs => if sortOk (kvs.map fun kv => keyB kv.1) = true then .ok (.own (.l ((kvs.map fun kv => keyB kv.1).mergeSort leD))) else .bad
    | none => match dtOf b with
      | some kvs => if sortOk (kvs.map fun kv => kD kv.1) = true then .ok (.own (.l ((kvs.map fun kv => kD kv.1).mergeSort leD))) else .bad
      | none => match seqL b with
        | some ds => if sortOk ds = true then .ok (.own (.l (ds.mergeSort leD))) else .bad
        | none => .bad)
  | _ => .bad
def rSortAll (K : PySem.W.Frag) : List V → Hp → VK → Prop := fun xs H Q => rSortDk K xs H Q ∨ rSortDt K xs H Q ∨ rSortF K xs H Q
theorem c_sort (hc : X.calm = true) (hu : X.A.units + 200 < cLine) : CallR X (.builtin "sorted") (rSortAll X.K) := CallR.or (cr_sortDk hc hu) (CallR.or (cr_sortDt hc hu) (cr_sortF (by omega)))
theorem keyB_rp {F : Hp} : ∀ (k : Key), Rp g.K g.fa F (kV k) (keyB k)
  | .inl i => .int i
  | .inr x => .str x
theorem keysB_rp {F : Hp} : ∀ (ks : List Key), RpAll g.K g.fa F (ks.map kV) (ks.map keyB)
  | [] => .nil
  | k :: ks => .cons (keyB_rp k) (keysB_rp ks)
theorem lay_of {ds : List D} (h : sortOk ds = true) : PyData.canLayAll0 (toPys ds) = true := by
  obtain ⟨h1, _, _⟩ := sortOk_iff h
  have go : ∀ ds : List D, (∀ d ∈ ds, SeqAt.shaped (toPy d) = true) → PyData.canLayAll0 (toPys ds) = true := by
    intro ds
    induction ds with
    | nil => intro _; simp [toPys, PyData.canLayAll0]
    | cons d ds ih =>
      intro h
      rw [toPys, PyData.canLayAll0, SeqAt.canLay_of_shaped (h d List.mem_cons_self), ih fun e he => h e (List.mem_cons_of_mem _ he)]
      rfl
  exact go ds h1
/-- the keys of a dict whose keys are tuples, locked -/
theorem lock_keys {F H : Hp} (s : Same F H) : ∀ {kvs : List (List Key × V)} {bs : List Addr}, IsKeys H kvs bs → ∀ {F1 : Hp}, Grow F H F1 H → ∃ F', Grow F H F' H ∧ Same F1 F' ∧ RpAll g.K g.fa F' (bs.map V.ref) (kvs.map fun kv => kD kv.1)
  | _, _, .nil, F1, g1 => ⟨F1, g1, Same.refl _, .nil⟩
  | kv :: kvs, b :: bs, .cons h r, F1, g1 => by
    have g2 : Grow F H (upd F1 b (.tup (kv.1.map kV))) H := g1.tup h
    obtain ⟨F', g3, s3, r3⟩ := lock_keys s r g2
    refine ⟨F', g3, fun c o e => s3 _ _ ?_, .cons (.tup (s3 _ _ upd_same) (keysB_rp _)) r3⟩
    by_cases hb : c = b
    · subst hb
      have := g1.sub _ _ e
      rw [h] at this
      rw [upd_same]
      exact this
    · rw [upd_ne hb]
      exact e
theorem g_sort {K : PySem.W.Frag} (hK : g.K = K) : CallG g (rSortAll K) sortF := by
  subst hK
  intro σ F H vs bs Q s r p
  unfold sortF at p
  split at p
  · obtain ⟨v, rfl, rv⟩ := paired1 r
    split at p
    · rename_i kvs hk
      split at p
      · rename_i ho
        obtain ⟨a, xs, rfl, h1, h2, h3⟩ := dkOf_ok s rv hk
        have ek : xs.map (fun kv => kV kv.1) = (kvs.map (·.1)).map kV := by rw [← h2, List.map_map]; rfl
        have eb : kvs.map (fun kv => keyB kv.1) = (kvs.map (·.1)).map keyB := by rw [List.map_map]; rfl
        have rr : RpAll g.K g.fa F (xs.map fun kv => kV kv.1) (kvs.map fun kv => keyB kv.1) := by
          rw [ek, eb]
          exact keysB_rp _
        refine .inl ⟨a, xs, _, rfl, .inl h1, RpAll.dp s.fh rr (lay_of ho), by have e := congrArg List.length h2; simpa using e, ho, p.newL s (sortZ_rp rr)⟩
      · exact p.elim
    · split at p
      · rename_i kvs hk
        split at p
        · rename_i ho
          obtain ⟨a, xs, rfl, h1, h2, h3⟩ := dtOf_ok s rv hk
          have ek : xs.map (fun kv => kD kv.1) = kvs.map fun kv => kD kv.1 := by
            have e := congrArg (List.map kD) h2
            rw [List.map_map, List.map_map] at e
            exact e
          refine .inr (.inl ⟨a, xs, rfl, .inl h1, by rw [ek]; exact ho, fun q bs hq hb => ?_⟩)
          obtain ⟨F', g1, _, r1⟩ := lock_keys (g := g) s.fh hb (Grow.refl s.fh)
          have p' := p.later g1
          rw [← ek] at p'
          exact p'.newL (s.grow g1) (sortZ_rp r1) q hq
        · exact p.elim
      · split at p
        · rename_i ds hs
          split at p
          · rename_i ho
            obtain ⟨a, xs, rfl, h1, h2⟩ := seqL_ok s rv hs
            exact .inr (.inr ⟨a, xs, ds, rfl, SqL.of h1, RpAll.dp s.fh h2 (lay_of ho), h2.len, ho, p.newL s (sortZ_rp h2)⟩)
          · exact p.elim
        · exact p.elim
  · exact p.elim
end
end Fn
namespace Fn
open PySem PySem.Spec PyProof.Rows L2
section
variable {X : Cx} {g : G} {a b c : Expr} {pos : Pos} {fa fb fc : Env → Res B}
/-! ### tests of comparisons, and, or, not; a if t else b -/
def tstB (b : B) : Res Bool := match b with
  | .dat (.bl k) => .ok k
  | _ => .bad
theorem tst_run {f : Env → Res B} {σ : L2.St} {H : Hp} {Q : Bool → Hp → Prop} (h : tFT g (fun ρ => (f ρ).bind tstB) σ H Q) : tF g f σ H fun x H' => ∃ k, x = .bl k ∧ Q k H' := by
  obtain ⟨F, ρ, s, p⟩ := h
  refine ⟨F, ρ, s, ?_⟩
  dsimp only at p
  cases e : f ρ with
  | ok b =>
    rw [e, Res.ok_bind] at p
    intro v F' H' g1 r1
    unfold tstB at p
    split at p
    · cases r1
      exact ⟨_, rfl, p F' H' g1⟩
    · exact p.elim
  | exc c =>
    rw [e, Res.exc_bind] at p
    exact p
  | bad =>
    rw [e] at p
    exact p
theorem ft_cmp {op : CmpOp} {r : R2} {f : B → B → Res B} (ho : OpR X (compareOp op) r) (hg : OpG g r f) (ha : PE X a (tF g fa)) (hb : PE X b (tF g fb)) (hm : behindInMarks op b = false) : PT X (.Compare a [op] [b] pos) (tFT g fun ρ => (bin2 f fa fb ρ).bind tstB) :=
  PT.imp (pt_cmpR ho ha hb hm) fun _ _ _ h => run2 hg (tst_run h)
/-- a op b op' c -/
def chn (f f' : B → B → Res B) (fa fb fc : Env → Res B) : Env → Res B := fun ρ => (fa ρ).bind fun x => (fb ρ).bind fun y => (f (rd x) (rd y)).bind fun z => match z with
  | .dat (.bl true) => (fc ρ).bind fun w => f' (rd y) (rd w)
  | .dat (.bl false) => .ok (.dat (.bl false))
  | _ => .bad
theorem chn_run {r r' : R2} {f f' : B → B → Res B} (hg : OpG g r f) (hg' : OpG g r' f') {σ : L2.St} {H : Hp} {Q : VK} (h : tF g (chn f f' fa fb fc) σ H Q) : tChain r r' (tF g fa) (tF g fb) (tF g fc) σ H Q := by
  obtain ⟨F, ρ, s, p⟩ := h
  unfold chn at p
  refine run1 s (fun bx v F1 H1 e1 g1 r1 => ?_) (fun c e => ?_) (fun e => ?_)
  · rw [e1, Res.ok_bind] at p
    have s1 := s.grow g1
    refine run1 s1 (fun by_ w F2 H2 e2 g2 r2 => ?_) (fun c e => ?_) (fun e => ?_)
    · rw [e2, Res.ok_bind] at p
      have s2 := s1.grow g2
      refine hg σ F2 H2 v w _ _ _ s2.sm (r1.mono g2) r2 ?_
      have p2 := p.later (g1.trans g2)
      cases e3 : f (rd bx) (rd by_) with
      | ok z =>
        rw [e3, Res.ok_bind] at p2
        intro zv F3 H3 g3 r3
        split at p2
        · cases r3
          refine ⟨true, rfl, ?_⟩
          rw [if_pos rfl]
          have s3 := s2.grow g3
          refine run1 s3 (fun bw u F4 H4 e4 g4 r4 => ?_) (fun c e => ?_) (fun e => ?_)
          · rw [e4, Res.ok_bind] at p2
            exact hg' _ F4 H4 w u _ _ Q (s3.sm.grow g4) ((r2.mono g3).mono g4) r4 (p2.later (g3.trans g4))
          · rw [e, Res.exc_bind] at p2
            exact fun F' H' gr => p2 F' H' (g3.trans gr)
          · rw [e] at p2
            exact p2
        · cases r3
          refine ⟨false, rfl, ?_⟩
          rw [if_neg Bool.false_ne_true]
          exact (p2.later g3).bl (s2.sm.grow g3)
        · exact p2.elim
      | exc c =>
        rw [e3, Res.exc_bind] at p2
        exact p2
      | bad =>
        rw [e3] at p2
        exact p2
    · rw [e, Res.exc_bind] at p
      exact fun F' H' gr => p F' H' (g1.trans gr)
    · rw [e] at p
      exact p
  · rw [e] at p
    exact p
  · rw [e] at p
    exact p
theorem mark2 {op op' : CmpOp} {b c : Expr} (hm : nset c = true) : lastMarks [op, op'] [b, c] = false := by
  show behindInMarks op' c = false
  exact nset_mark hm
theorem fe_chain {op op' : CmpOp} {r r' : R2} {f f' : B → B → Res B} (ho : OpR X (compareOp op) r) (hg : OpG g r f) (ho' : OpR X (compareOp op') r') (hg' : OpG g r' f') (ha : PE X a (tF g fa)) (hb : PE X b (tF g fb)) (hc : PE X c (tF g fc)) (hm : nset c = true) :
    PE X (.Compare a [op, op'] [b, c] pos) (tF g (chn f f' fa fb fc)) := PE.imp (pe_chain ho ho' ha hb hc (mark2 hm)) fun _ _ _ h => chn_run hg hg' h
theorem ft_chain {op op' : CmpOp} {r r' : R2} {f f' : B → B → Res B} (ho : OpR X (compareOp op) r) (hg : OpG g r f) (ho' : OpR X (compareOp op') r') (hg' : OpG g r' f') (ha : PE X a (tF g fa)) (hb : PE X b (tF g fb)) (hc : PE X c (tF g fc)) (hm : nset c = true) :
    PT X (.Compare a [op, op'] [b, c] pos) (tFT g fun ρ => (chn f f' fa fb fc ρ).bind tstB) := PT.imp (pt_chain ho ho' ha hb hc (mark2 hm)) fun _ _ _ h => chn_run hg hg' (tst_run h)
/-- a test, then what is done with its answer -/
theorem runT {t : Env → Res Bool} {σ : L2.St} {F H : Hp} {ρ : Env} {Q : Bool → Hp → Prop} (s : St g F H σ ρ) (hok : ∀ k F1 H1, t ρ = .ok k → Grow F H F1 H1 → Q k H1) (hexc : ∀ c, t ρ = .exc c → ∀ F' H', Grow F H F' H' → g.E c σ H') (hbad : t ρ ≠ .bad) : tFT g t σ H Q := by
  refine ⟨F, ρ, s, ?_⟩
  cases e : t ρ with
  | ok k => exact fun F1 H1 g1 => hok k F1 H1 e g1
  | exc c => exact hexc c e
  | bad => exact hbad e
def notT (t : Env → Res Bool) : Env → Res Bool := fun ρ => (t ρ).bind fun k => .ok !k
def andT (t u : Env → Res Bool) : Env → Res Bool := fun ρ => (t ρ).bind fun k => if k = true then u ρ else .ok false
def orT (t u : Env → Res Bool) : Env → Res Bool := fun ρ => (t ρ).bind fun k => if k = true then .ok true else u ρ
theorem ft_not {t : Env → Res Bool} (ha : PT X a (tFT g t)) : PT X (.UnaryOp .Not a pos) (tFT g (notT t)) := by
  refine PT.imp (pt_not ha) fun σ H Q ⟨F, ρ, s, p⟩ => ?_
  unfold notT at p
  refine runT s (fun k F1 H1 e g1 => ?_) (fun c e => ?_) (fun e => ?_)
  · rw [e, Res.ok_bind] at p
    exact p F1 H1 g1
  · rw [e] at p
    exact p
  · rw [e] at p
    exact p
theorem ft_and {t u : Env → Res Bool} {rest : List Expr} (ha : PT X a (tFT g t)) (hb : PW X (.BoolOp .And (b :: rest) pos) (tFT g u)) : PW X (.BoolOp .And (a :: b :: rest) pos) (tFT g (andT t u)) := by
  have h := pw_and ha hb
  refine ⟨fun wh pins s σ H Q I hw => h.run wh pins s σ H Q I ?_⟩
  obtain ⟨F, ρ, st, p⟩ := hw
  unfold andT at p
  refine runT st (fun k F1 H1 e g1 => ?_) (fun c e => ?_) (fun e => ?_)
  · rw [e, Res.ok_bind] at p
    cases k with
    | true =>
      rw [if_pos rfl] at p ⊢
      exact ⟨F1, ρ, st.grow g1, p.later g1⟩
    | false =>
      rw [if_neg Bool.false_ne_true] at p ⊢
      exact p F1 H1 g1
  · rw [e] at p
    exact p
  · rw [e] at p
    exact p
theorem ft_or {t u : Env → Res Bool} {rest : List Expr} (ha : PT X a (tFT g t)) (hb : PW X (.BoolOp .Or (b :: rest) pos) (tFT g u)) : PW X (.BoolOp .Or (a :: b :: rest) pos) (tFT g (orT t u)) := by
  have h := pw_or ha hb
  refine ⟨fun wh pins s σ H Q I hw => h.run wh pins s σ H Q I ?_⟩
  obtain ⟨F, ρ, st, p⟩ := hw
  unfold orT at p
  refine runT st (fun k F1 H1 e g1 => ?_) (fun c e => ?_) (fun e => ?_)
  · rw [e, Res.ok_bind] at p
    cases k with
    | true =>
      rw [if_pos rfl] at p ⊢
      exact p F1 H1 g1
    | false =>
      rw [if_neg Bool.false_ne_true] at p ⊢
      exact ⟨F1, ρ, st.grow g1, p.later g1⟩
  · rw [e] at p
    exact p
  · rw [e] at p
    exact p
def iteV (t : Env → Res Bool) (fa fb : Env → Res B) : Env → Res B := fun ρ => (t ρ).bind fun k => if k = true then fa ρ else fb ρ
theorem fe_ite {t : Env → Res Bool} (hc : PT X c (tFT g t)) (ha : PE X a (tF g fa)) (hb : PE X b (tF g fb)) : PE X (.IfExp c a b pos) (tF g (iteV t fa fb)) := by
  refine PE.imp (pe_ifExp hc ha hb) fun σ H Q ⟨F, ρ, s, p⟩ => ?_
  unfold iteV at p
  refine runT s (fun k F1 H1 e g1 => ?_) (fun c e => ?_) (fun e => ?_)
  · rw [e, Res.ok_bind] at p
    cases k with
    | true =>
      rw [if_pos rfl] at p ⊢
      exact ⟨F1, ρ, s.grow g1, p.later g1⟩
    | false =>
      rw [if_neg Bool.false_ne_true] at p ⊢
      exact ⟨F1, ρ, s.grow g1, p.later g1⟩
  · rw [e] at p
    exact p
  · rw [e] at p
    exact p
/-! ### isinstance of a built-in class -/
inductive Ty where
  | int | bool | str | tuple | list | dict
  deriving DecidableEq
def Ty.nm : Ty → String
  | .int => "int"
  | .bool => "bool"
  | .str => "str"
  | .tuple => "tuple"
  | .list => "list"
  | .dict => "dict"
def tyD : D → Option Ty
  | .non => none
  | .bl _ => some .bool
  | .int _ => some .int
  | .str _ => some .str
  | .tup _ => some .tuple
  | .ctup _ => some .tuple
  | .lst _ => some .list
  | .dk _ => some .dict
  | .dt _ => some .dict
  | .fn _ => none
def isTy (t : Ty) (d : D) : Bool := match tyD d with
  | some u => decide (u = t) || (decide (u = .bool) && decide (t = .int))
  | none => false
def isFn : D → Bool
  | .fn _ => true
  | _ => false
def isiB (t : Ty) (b : B) : Res B := if isFn (datOf b) = true then .bad else .ok (.dat (.bl (isTy t (datOf b))))
def tyN (o : Option Ty) : String := match o with
  | none => "NoneType"
  | some t => t.nm
theorem kit_all : ∀ (u : Option Ty) (t : Ty), kitB (tyN u) t.nm = some (match u with | some u => decide (u = t) || (decide (u = .bool) && decide (t = .int)) | none => false) := by
  intro u t
  cases u with
  | none => cases t <;> decide +kernel
  | some u => cases u <;> cases t <;> decide +kernel
theorem m_ty {K : PySem.W.Frag} {fa : Nat → Option Addr} {F H : Hp} {p : Addr} {o : HO} {m : M} (h : H p = some o) (r : RpM K fa F o m) : TyX K H (.ref p) (.type (tyN (tyD (frzM m)))) := by
  cases r with
  | l r => exact .base (.lst h)
  | k _ _ => exact .base (.dK h)
  | t _ _ => exact .base (.dT h)
theorem sqL_ty {K : PySem.W.Frag} {H : Hp} {p : Addr} {xs : List V} (h : SqL K H p xs) : TyX K H (.ref p) (.type "list") := by
  rcases h with (h | ⟨o, h⟩) | ⟨o, its, n, hk, hc, _⟩
  · exact .base (.lst h)
  · exact .base (.frz h)
  · exact .kList hk hc
theorem rr_ty {F H : Hp} {v : V} {b : B} (s : Sm g F H) (r : RR g F H v b) (hf : isFn (datOf b) = false) : TyX g.K H v (.type (tyN (tyD (datOf b)))) := by
  cases b with
  | dat d =>
    cases r with
    | non => exact .base .non
    | bl b => exact .base (.bl b)
    | int i => exact .base (.int i)
    | str x => exact .base (.str x)
    | tup h _ => exact .base (.tup (s.fh _ _ h))
    | ctup h _ =>
      rcases h with (h | ⟨o, h⟩) | ⟨o, its, n, hk, hc, _⟩
      · cases h
      · cases h
      · exact .kTuple hk hc
    | lst h _ => exact .base (.lst (s.fh _ _ h))
    | dk h _ _ => exact .base (.dK (s.fh _ _ h))
    | dt h _ _ => exact .base (.dT (s.fh _ _ h))
    | fn _ => cases hf
  | own m => exact r.elim
  | vw m =>
    obtain ⟨p, o, rfl, h, q⟩ := r
    exact m_ty h q
  | bor m =>
    obtain ⟨p, o, rfl, h, q⟩ := r
    exact m_ty (s.gh _ _ h) q
  | scr ns =>
    obtain ⟨p, rfl, h⟩ := r
    exact sqL_ty (s.gh.seq h)
  | err c => cases hf
theorem fe_isi {t : Ty} {x : Str} {p p2 : Pos} (hK : g.K = X.K) (hg : Gl X "isinstance") (hm : X.mg "isinstance" = none) (hx : x = Str.ofString t.nm) (hg2 : Gl X x) (hm2 : X.mg x = none) (hb : bootBuiltins x = some (.type t.nm)) (hn : nst a = true) (ha : PE X a (tF g fa)) :
    PE X (.Call (.Name "isinstance" p) [a, .Name x p2] [] pos) (tF g (one1 (isiB t) fa)) := by
  have h2 : PA X [a, .Name x p2] (tCons (tF g fa) (tCons (tC (.ty t.nm)) tNil)) := pa_cons ha (pa_cons (pe_bltn (v := .ty t.nm) hg2 hm2 hb rfl (by rw [hx]; cases t <;> decide) (by rw [hx]; cases t <;> decide)) pa_nil) (star_cons hn)
  refine PE.imp (pe_callB call_isi hg hm PyProof.Rows.boot_isinstance h2 (by decide) (by decide) (star_cons hn) (by rfl)) fun σ H Q ⟨F, ρ, s, q⟩ => ?_
  unfold one1 at q
  show tF g fa σ H _
  refine run1 s (fun bx v F1 H1 e1 g1 r1 => ?_) (fun c e => ?_) (fun e => ?_)
  · rw [e1, Res.ok_bind] at q
    unfold isiB at q
    by_cases hf : isFn (datOf (rd bx)) = true
    · rw [if_pos hf] at q
      exact q.elim
    · rw [if_neg hf] at q
      have s1 := (s.grow g1).sm
      refine ⟨v, _, _, _, _, rfl, ClsV.ty _, ?_, kit_ty (kit_all (tyD (datOf (rd bx))) t), ?_⟩
      · rw [← hK]
        exact rr_ty s1 r1 (by simpa using hf)
      · exact (q.later g1).bl s1
  · rw [e] at q
    exact q
  · rw [e] at q
    exact q
/-! ### slices -/
def PostO (g : G) (σ : L2.St) (F H : Hp) (r : Res (Option Int)) (Q : Option Int → Hp → Prop) : Prop := match r with
  | .ok b => ∀ F' H', Grow F H F' H' → Q b H'
  | .exc c => ∀ F' H', Grow F H F' H' → g.E c σ H'
  | .bad => False
def tFO (g : G) (f : Env → Res (Option Int)) : TO := fun σ H Q => ∃ F ρ, St g F H σ ρ ∧ PostO g σ F H (f ρ) Q
theorem PO.imp {e : Option Expr} {t t' : TO} (h : PO X e t) (i : ∀ σ H Q, t' σ H Q → t σ H Q) : PO X e t' := ⟨fun pins s σ H Q I w => h.run pins s σ H Q I (i σ H Q w)⟩
def partB (b : B) : Res (Option Int) := match b with
  | .dat (.int i) => .ok (some i)
  | _ => .bad
theorem fo_none : PO X none (tFO g fun _ => .ok none) := PO.imp po_none fun _ _ _ ⟨F, _, s, p⟩ => p F _ (Grow.refl s.sub)
theorem fo_some (ha : PE X a (tF g fa)) : PO X (some a) (tFO g fun ρ => (fa ρ).bind fun x => partB x) := by
  refine PO.imp (po_some ha) fun σ H Q ⟨F, ρ, s, p⟩ => ?_
  refine ⟨F, ρ, s, ?_⟩
  dsimp only at p
  cases e : fa ρ with
  | ok b =>
    rw [e, Res.ok_bind] at p
    intro v F' H' g1 r1
    unfold partB at p
    split at p
    · cases r1
      exact ⟨_, rfl, p F' H' g1⟩
    · exact p.elim
  | exc c =>
    rw [e] at p
    exact p
  | bad =>
    rw [e] at p
    exact p
def cutL {α : Type} (xs : List α) (lo hi : Option Int) : List α := (xs.drop (HT.sIx xs.length 0 lo)).take (HT.sIx xs.length xs.length hi - HT.sIx xs.length 0 lo)
def isTup? : B → Option (Bool × List D)
  | .dat (.tup xs) => some (false, xs)
  | .dat (.ctup xs) => some (true, xs)
  | _ => none
def sliceB (b : B) (lo hi : Option Int) : Res B := match b with
  | .dat (.str x) => if x.length ≤ sizeLine then .ok (.dat (.str (cutS x lo hi))) else .bad
  | .dat (.tup xs) => .ok (.dat (.tup (cutL xs lo hi)))
  | .dat (.ctup xs) => if HT.sIx xs.length 0 lo = 0 ∧ HT.sIx xs.length xs.length hi = xs.length then .ok (.dat (.ctup xs)) else .ok (.dat (.tup (cutL xs lo hi)))
  | b => match seqI b with
    | some ds => .ok (.own (.l (cutL ds lo hi)))
    | none => .bad
theorem cut_rp {K : PySem.W.Frag} {fa : Nat → Option Addr} {F : Hp} {xs : List V} {ds : List D} (r : RpAll K fa F xs ds) (lo hi : Option Int) : RpAll K fa F (cutV xs lo hi) (cutL ds lo hi) := by
  unfold cutV cutL
  rw [r.len]
  exact (r.drop _).take _
def rSlF (K : PySem.W.Frag) : V → Option Int → Option Int → Hp → VK → Prop := fun x lo hi H Q => rSlS x lo hi H Q ∨ rSlA K x lo hi H Q ∨ rSlL K x lo hi H Q
theorem sl_F : SlR X (rSlF X.K) := SlR.or sl_str (SlR.or sl_tupA sl_list)
theorem cut_whole {α : Type} {xs : List α} {lo hi : Option Int} (h : HT.sIx xs.length 0 lo = 0 ∧ HT.sIx xs.length xs.length hi = xs.length) : cutL xs lo hi = xs := by
  unfold cutL
  rw [h.1, h.2, List.drop_zero, Nat.sub_zero, List.take_length]
theorem g_slice {F H : Hp} {v : V} {b : B} {lo hi : Option Int} {Q : VK} (s : Sm g F H) (r : RR g F H v b) (p : Post g σ F H (sliceB b lo hi) Q) : rSlF g.K v lo hi H Q := by
  unfold sliceB at p
  split at p
  · split at p
    · cases r
      exact .inl ⟨_, rfl, by assumption, p.str s⟩
    · exact p.elim
  · cases r with
    | tup h1 h2 =>
      refine .inr (.inl ⟨_, _, rfl, SqT.of (s.fh _ _ h1), fun hw => ?_, fun _ => p.newT s (cut_rp h2 lo hi)⟩)
      rw [h2.len] at hw
      rw [cut_whole hw] at p
      exact p.dat s (.tup h1 h2)
  · cases r with
    | ctup h1 h2 =>
      refine .inr (.inl ⟨_, _, rfl, sqT_none h1, fun hw => ?_, fun hw => ?_⟩)
      · rw [h2.len] at hw
        rw [if_pos hw] at p
        exact p.dat s (.ctup h1 h2)
      · rw [h2.len] at hw
        rw [if_neg hw] at p
        exact p.newT s (cut_rp h2 lo hi)
  · rename_i n1 n2 n3
    split at p
    · rename_i ds hs
      obtain ⟨a, xs, rfl, h1, h2⟩ := seqI_list s r hs n2 n3
      exact .inr (.inr ⟨a, xs, rfl, h1, p.newL s (cut_rp h2 lo hi)⟩)
    · exact p.elim
def slcV (fa : Env → Res B) (fl fh : Env → Res (Option Int)) : Env → Res B := fun ρ => (fa ρ).bind fun x => (fl ρ).bind fun l => (fh ρ).bind fun h => sliceB (rd x) l h
theorem fe_slice {lo hi : Option Expr} {fl fh : Env → Res (Option Int)} {p2 : Pos} (hK : g.K = X.K) (ha : PE X a (tF g fa)) (hl : PO X lo (tFO g fl)) (hh : PO X hi (tFO g fh)) : PE X (.Subscript a (.Slice lo hi none p2) pos) (tF g (slcV fa fl fh)) := by
  refine PE.imp (pe_slice sl_F ha hl hh) fun σ H Q ⟨F, ρ, s, p⟩ => ?_
  unfold slcV at p
  show tF g fa σ H _
  refine run1 s (fun bx v F1 H1 e1 g1 r1 => ?_) (fun c e => ?_) (fun e => ?_)
  · rw [e1, Res.ok_bind] at p
    have s1 := s.grow g1
    refine ⟨F1, ρ, s1, ?_⟩
    cases e2 : fl ρ with
    | ok l =>
      rw [e2, Res.ok_bind] at p
      intro F2 H2 g2
      refine ⟨F2, ρ, s1.grow g2, ?_⟩
      cases e3 : fh ρ with
      | ok h =>
        rw [e3, Res.ok_bind] at p
        intro F3 H3 g3
        rw [← hK]
        exact g_slice (((s1.grow g2).grow g3).sm) ((r1.mono g2).mono g3) (p.later ((g1.trans g2).trans g3))
      | exc c =>
        rw [e3, Res.exc_bind] at p
        exact fun F' H' gr => p F' H' ((g1.trans g2).trans gr)
      | bad =>
        rw [e3] at p
        exact p
    | exc c =>
      rw [e2, Res.exc_bind] at p
      exact fun F' H' gr => p F' H' (g1.trans gr)
    | bad =>
      rw [e2] at p
      exact p
  · rw [e] at p
    exact p
  · rw [e] at p
    exact p
/-! ### calls of the text's own defs -/
structure En where
  name : Str
  n : Nat
  F : List B → Res B
/-- what a def sees of an argument -/
def toArg : B → B
  | .vw m => .bor m
  | b => b
def gOf (K : PySem.W.Frag) (fa : Nat → Option Addr) (cls : Nat → Value) (F H : Hp) (E : XK) (p : Option (Addr × Obj)) : G := ⟨K, fa, F, H, fun c _ H' => E (cls c) none H', p⟩
/-- the class of the error c -/
def clsOf (fa : Nat → Option Addr) (c : Nat) : Value := match fa (1000 + c) with
  | some C => .ref C
  | none => .none
def spP (K : PySem.W.Frag) (fa : Nat → Option Addr) (cls : Nat → Value) (n : Nat) (Fk : List B → Res B) (p : Option (Addr × Obj)) : Sp := fun vs H Q E =>
  vs.length = n ∧ ∃ F bs, Same F H ∧ Paired (RR (gOf K fa cls F H E p) F H) vs bs ∧ Post (gOf K fa cls F H E p) [] F H (Fk bs) Q
abbrev spF (K : PySem.W.Frag) (fa : Nat → Option Addr) (cls : Nat → Value) (n : Nat) (Fk : List B → Res B) : Sp := spP K fa cls n Fk none
structure TabOk (X : Cx) (fa : Nat → Option Addr) (cls : Nat → Value) (lv : Nat) (tab : List En) : Prop where
  at_ : ∀ (k : Nat) (en : En), tab[k]? = some en → ∃ f fd ps, X.mg en.name = some (.ref f) ∧ fa k = some f ∧ PySem.W.keepIn X.K (.ref f) = true ∧ Binds X.K fd ps [] ∧ FnOk X.prog X.w X.K X.mg X.base (L2.CX X.prog X.w) lv f fd ps (spF X.K fa cls en.n en.F)
/-- an error of a callee is let out as the wish says -/
def Pz (X : Cx) (g : G) (cls : Nat → Value) : Prop := ∃ E' : L2.St → XK, (∀ σ, PassesAt (L2.CX X.prog X.w) X σ (E' σ)) ∧ ∀ c σ H', g.E c σ H' → E' σ (cls c) none H'
theorem arg_ok {cls : Nat → Value} {F H : Hp} {E : XK} (s : Sm g F H) : ∀ {vs : List V} {bs : List B}, Paired (RR g F H) vs bs → Paired (RR (gOf g.K g.fa cls F H E g.h) F H) vs (bs.map toArg)
  | _, _, .nil => .nil
  | v :: vs, b :: bs, .cons r rs => by
    refine .cons ?_ (arg_ok s rs)
    cases b with
    | dat d => exact r
    | own m => exact r.elim
    | vw m => exact r
    | bor m =>
      obtain ⟨p, o, e, h, q⟩ := r
      exact ⟨p, o, e, s.gh _ _ h, q⟩
    | scr ns =>
      obtain ⟨p, e, h⟩ := r
      exact ⟨p, e, s.gh.seq h⟩
    | err k => exact r
/-- what comes back from a def, for its caller -/
theorem back_post {σ σ' : L2.St} {cls : Nat → Value} {F H : Hp} {E : XK} {r : Res B} {Q : VK} (hE : ∀ c H', g.E c σ H' → E (cls c) none H') (hb : ∀ b, r = .ok b → (∀ m, b ≠ .bor m) ∧ ∀ ns, b ≠ .scr ns) (h : Post g σ F H r Q) : Post (gOf g.K g.fa cls F H E g.h) σ' F H r Q := by
  cases r with
  | ok b =>
    intro v F' H' g1 r1
    refine h v F' H' g1 ?_
    cases b with
    | dat d => exact r1
    | own m => exact r1
    | vw m => exact r1
    | bor m => exact absurd rfl ((hb _ rfl).1 m)
    | scr ns => exact absurd rfl ((hb _ rfl).2 ns)
    | err k => exact r1
  | exc c => exact fun F' H' g1 => hE c H' (h F' H' g1)
  | bad => exact h
/-- what a def hands back must not be borrowed -/
def retB (b : B) : Res B := match b with
  | .bor _ => .bad
  | .scr _ => .bad
  | .vw _ => .bad
  | b => .ok b
def callV (en : En) (bs : List B) : Res B := (en.F (bs.map toArg)).bind retB
theorem call_run {σ : L2.St} {X : Cx} {cls : Nat → Value} {en : En} {E : XK} (hK : g.K = X.K) (hE : ∀ c H', g.E c σ H' → E (cls c) none H') (F H : Hp) (vs : List V) (bs : List B) (Q : VK) (hn : bs.length = en.n) (s : Sm g F H) (r : Paired (RR g F H) vs bs) (p : Post g σ F H (callV en bs) Q) : spP X.K g.fa cls en.n en.F g.h vs H Q E := by
  refine ⟨by rw [Paired.length r]; exact hn, F, bs.map toArg, s.fh, by rw [← hK]; exact arg_ok s r, ?_⟩
  rw [← hK]
  unfold callV at p
  cases e : en.F (bs.map toArg) with
  | ok b =>
    rw [e, Res.ok_bind] at p
    refine back_post hE (fun b' e' => ?_) ?_
    · cases e'
      constructor
      · rintro m rfl
        exact p.elim
      · rintro ns rfl
        exact p.elim
    · cases b with
      | dat d => exact p
      | own m => exact p
      | vw m => exact p.elim
      | bor m => exact p.elim
      | scr ns => exact p.elim
      | err k => exact p
  | exc c =>
    rw [e, Res.exc_bind] at p
    exact fun F' H' g1 => hE c H' (p F' H' g1)
  | bad =>
    rw [e] at p
    exact p
/-- the number of arguments -/
def lenA (n : Nat) (bs : List B) : Res (List B) := if bs.length = n then .ok bs else .bad
theorem fe_call (hgh : g.h = none) {lv : Nat} {tab : List En} {cls : Nat → Value} {k : Nat} {en : En} {x : Str} {p : Pos} {e : Expr} {es : List Expr} {fs : Env → Res (List B)} (T : TabOk X g.fa cls lv tab) (hr : Room lv X.A) (hp : Pz X g cls) (hk : tab[k]? = some en) (hx : x = en.name) (hK : g.K = X.K) (hg : Gl X x)
    (ha : PA X (e :: es) (tFA g fs)) (hdb : (x == ("__debug__" : Str)) = false) (hst : (e :: es).all nst = true) : PE X (.Call (.Name x p) (e :: es) [] pos) (tF g fun ρ => (fs ρ).bind fun bs => (lenA en.n bs).bind (callV en)) := by
  obtain ⟨f, fd, ps, hm, _, hkp, hb, F⟩ := T.at_ k en hk
  obtain ⟨E', hpass, hE⟩ := hp
  rw [List.all_cons, Bool.and_eq_true] at hst
  subst hx
  refine PE.imp (pe_callS F hr hg hm hkp hb hpass ha hdb (star_cons hst.1) (star_none hst.2)) fun σ H Q h => ?_
  refine runA (r := fun vs H1 Q => spF X.K g.fa cls en.n en.F vs H1 Q (E' σ)) (fun F H vs bs Q s r p => ?_) h
  unfold lenA at p
  split at p
  · rename_i hn
    have := call_run hK (fun c H' => hE c σ H') F H vs bs Q hn s r p
    rw [hgh] at this
    exact this
  · exact p.elim
end
end Fn
namespace Fn
open PySem PySem.Spec PyProof.Rows L2
/-! ### what is walked -/
structure ItOk (g : G) (P : Hp → Hp → Prop) (J : It) (ds : List D) : Prop where
  go : ∀ i F H, P F H → i < ds.length → J.go i H
  stop : ∀ i F H, P F H → ds.length ≤ i → J.stop i H
  yld : ∀ i F H x H' d, P F H → ds[i]? = some d → J.yld i H x H' → ∃ F', Grow F H F' H' ∧ Rp g.K g.fa F' x d
/-- what is sure of the heaps behind the turns: within a comprehension (lk) all stands; else what is locked, and what stood at the def's entry -/
def PP (g : G) (lk : Bool) (F1 H1 F H : Hp) : Prop := Same F1 F ∧ Same F H ∧ Same g.G0 H ∧ (lk = true → Same H1 H)
def PostI (g : G) (lk : Bool) (σ : L2.St) (F H : Hp) (r : Res (List D)) (R : It → Hp → Prop) : Prop := match r with
  | .ok ds => ∀ F1 H1 J, Grow F H F1 H1 → ItOk g (PP g lk F1 H1) J ds → R J H1
  | .exc c => ∀ F' H', Grow F H F' H' → g.E c σ H'
  | .bad => False
def tFI (g : G) (lk : Bool) (f : Env → Res (List D)) : TI := fun σ H R => ∃ F ρ, St g F H σ ρ ∧ PostI g lk σ F H (f ρ) R
theorem PI.imp {X : Cx} {tg e : Expr} {t t' : TI} (h : PI X tg e t) (i : ∀ σ H R, t' σ H R → t σ H R) : PI X tg e t' := ⟨fun pins s σ H R I w => h.run pins s σ H R I (i σ H R w)⟩
theorem PI.or {X : Cx} {tg e : Expr} {t u : TI} (h : PI X tg e t) (h' : PI X tg e u) : PI X tg e (fun σ H R => t σ H R ∨ u σ H R) :=
  ⟨fun pins s σ H R I w => w.elim (h.run pins s σ H R I) (h'.run pins s σ H R I)⟩
theorem PG.or {X : Cx} {tg : Expr} {t u : TG} (h : PG X tg t) (h' : PG X tg u) : PG X tg (fun v σ H Q => t v σ H Q ∨ u v σ H Q) :=
  ⟨fun pins s σ H v w Q I r q => q.elim (h.run pins s σ H v w Q I r) (h'.run pins s σ H v w Q I r)⟩
def itemsB (lk : Bool) (b : B) : Res (List D) := match b with
  | .dat (.str x) => .ok (x.cps.toList.map fun c => .str ⟨#[c]⟩)
  | .vw (.l ds) => if lk = true then .ok ds else .bad
  | b => match seqI b with
    | some ds => .ok ds
    | none => .bad
section
variable {X : Cx} {g : G} {a b : Expr} {pos : Pos} {fa fb : Env → Res B} {lk : Bool}
theorem list_it {F1 H1 : Hp} {p : Addr} {xs : List V} {ds : List D} (h : ∀ F H, PP g lk F1 H1 F H → SqL g.K H p xs) (r : RpAll g.K g.fa F1 xs ds) : ItOk g (PP g lk F1 H1) (Itl g.K p) ds where
  go := fun i F H q hi => ⟨xs, xs[i]'(by rw [r.len]; exact hi), h F H q, by simp⟩
  stop := fun i F H q hi => ⟨xs, h F H q, by rw [r.len]; exact hi⟩
  yld := fun i F H x H' d q hd hy => by
    obtain ⟨e, hy⟩ := hy
    subst e
    obtain ⟨v, h1, h2⟩ := r.get hd
    have e2 := hy xs (h F H' q)
    rw [h1] at e2
    cases e2
    exact ⟨F, Grow.refl q.2.1, h2.mono q.1⟩
theorem tup_it {F1 H1 : Hp} {p : Addr} {xs : List V} {ds : List D} (h : ∀ F H, PP g lk F1 H1 F H → SqT g.K H p xs) (r : RpAll g.K g.fa F1 xs ds) : ItOk g (PP g lk F1 H1) (Itt g.K p) ds where
  go := fun i F H q hi => ⟨xs, xs[i]'(by rw [r.len]; exact hi), h F H q, by simp⟩
  stop := fun i F H q hi => ⟨xs, h F H q, by rw [r.len]; exact hi⟩
  yld := fun i F H x H' d q hd hy => by
    obtain ⟨e, hy⟩ := hy
    subst e
    obtain ⟨v, h1, h2⟩ := r.get hd
    have e2 := hy xs (h F H' q)
    rw [h1] at e2
    cases e2
    exact ⟨F, Grow.refl q.2.1, h2.mono q.1⟩
theorem str_it {F1 H1 : Hp} {z : Str} : ItOk g (PP g lk F1 H1) (Its z) (z.cps.toList.map fun c => .str ⟨#[c]⟩) where
  go := fun i F H q hi => by
    rw [List.length_map, Array.length_toList] at hi
    exact hi
  stop := fun i F H q hi => by
    rw [List.length_map, Array.length_toList] at hi
    exact hi
  yld := fun i F H x H' d q hd hy => by
    obtain ⟨e, c, hc, hx⟩ := hy
    subst e hx
    rw [List.getElem?_map, Array.getElem?_toList, hc] at hd
    cases hd
    exact ⟨F, Grow.refl q.2.1, .str _⟩
theorem range_it {F1 H1 : Hp} {lo : Int} {n : Nat} : ItOk g (PP g lk F1 H1) (Itr lo n) ((List.range n).map fun (i : Nat) => D.int (lo + (i : Int))) where
  go := fun i F H q hi => by
    rw [List.length_map, List.length_range] at hi
    exact hi
  stop := fun i F H q hi => by
    rw [List.length_map, List.length_range] at hi
    exact hi
  yld := fun i F H x H' d q hd hy => by
    obtain ⟨e, hx⟩ := hy
    subst e hx
    rw [List.getElem?_map] at hd
    by_cases hi : i < n
    · rw [List.getElem?_range hi] at hd
      cases hd
      exact ⟨F, Grow.refl q.2.1, .int _⟩
    · rw [List.getElem?_eq_none (by simpa using hi)] at hd
      cases hd
theorem items_ok {F H F1 H1 : Hp} {v : V} {b : B} {ds : List D} {R : It → Hp → Prop} (s : Sm g F1 H1) (g1 : Grow F H F1 H1) (r : RR g F1 H1 v b) (h : itemsB lk b = .ok ds) (k : ∀ J, ItOk g (PP g lk F1 H1) J ds → R J H1) :
    (∃ a, v = .ref a ∧ (∃ xs, SqL g.K H1 a xs) ∧ R (Itl g.K a) H1) ∨ (∃ a, v = .ref a ∧ (∃ xs, SqT g.K H1 a xs) ∧ R (Itt g.K a) H1) ∨ ∃ z, v = .str z ∧ R (Its z) H1 := by
  have L : ∀ {p : Addr} {xs : List V}, (∀ F H, PP g lk F1 H1 F H → SqL g.K H p xs) → SqL g.K H1 p xs → RpAll g.K g.fa F1 xs ds → v = .ref p → (∃ a, v = .ref a ∧ (∃ xs, SqL g.K H1 a xs) ∧ R (Itl g.K a) H1) ∨ (∃ a, v = .ref a ∧ (∃ xs, SqT g.K H1 a xs) ∧ R (Itt g.K a) H1) ∨ ∃ z, v = .str z ∧ R (Its z) H1 :=
    fun {p xs} h1 h2 h3 e => .inl ⟨p, e, ⟨xs, h2⟩, k _ (list_it h1 h3)⟩
  have T : ∀ {p : Addr} {xs : List V}, (∀ F H, PP g lk F1 H1 F H → SqT g.K H p xs) → SqT g.K H1 p xs → RpAll g.K g.fa F1 xs ds → v = .ref p → (∃ a, v = .ref a ∧ (∃ xs, SqL g.K H1 a xs) ∧ R (Itl g.K a) H1) ∨ (∃ a, v = .ref a ∧ (∃ xs, SqT g.K H1 a xs) ∧ R (Itt g.K a) H1) ∨ ∃ z, v = .str z ∧ R (Its z) H1 :=
    fun {p xs} h1 h2 h3 e => .inr (.inl ⟨p, e, ⟨xs, h2⟩, k _ (tup_it h1 h3)⟩)
  unfold itemsB at h
  split at h
  · cases h
    cases r
    exact .inr (.inr ⟨_, rfl, k _ str_it⟩)
  · split at h
    · rename_i hl
      cases h
      obtain ⟨p, o, rfl, h1, h2⟩ := r
      cases h2 with
      | l h2 => exact L (fun F H q => SqL.of (q.2.2.2 hl _ _ h1)) (SqL.of h1) h2 rfl
    · cases h
  · rename_i n1 n2
    split at h
    · rename_i ds' hs
      cases h
      unfold seqI at hs
      split at hs
      · cases hs
        cases r with
        | tup h1 h2 => exact T (fun F H q => SqT.of (q.2.1 _ _ (q.1 _ _ h1))) (SqT.of (s.fh _ _ h1)) h2 rfl
      · cases hs
        cases r with
        | ctup h1 h2 => exact T (fun F H q => sqT_none h1) (sqT_none h1) h2 rfl
      · cases hs
        cases r with
        | lst h1 h2 => exact L (fun F H q => SqL.of (q.2.1 _ _ (q.1 _ _ h1))) (SqL.of (s.fh _ _ h1)) h2 rfl
      · rename_i xs
        exact absurd rfl (n2 xs)
      · cases hs
        obtain ⟨p, o, rfl, h1, h2⟩ := r
        cases h2 with
        | l h2 => exact L (fun F H q => SqL.of (q.2.2.1 _ _ h1)) (SqL.of (s.gh _ _ h1)) h2 rfl
      · cases hs
        obtain ⟨p, rfl, h1⟩ := r
        exact L (fun F H q => q.2.2.1.seq h1) (s.gh.seq h1) (RpAll.of_ints _) rfl
      · cases hs
    · cases h
theorem pi_any {tg : Expr} {tl : TE} (hl : PE X a tl) : PI X tg a fun σ H R => tl σ H fun x H1 => (∃ a, x = .ref a ∧ (∃ xs, SqL X.K H1 a xs) ∧ R (Itl X.K a) H1) ∨ (∃ a, x = .ref a ∧ (∃ xs, SqT X.K H1 a xs) ∧ R (Itt X.K a) H1) ∨ ∃ z, x = .str z ∧ R (Its z) H1 := by
  refine ⟨fun pins s σ H R I h => ?_⟩
  refine thn (hl.run pins s σ H _ I h) fun v s1 ⟨x, H1, I1, r1, q1⟩ => ?_
  rcases q1 with ⟨a, e, ⟨xs, hq⟩, q⟩ | ⟨a, e, ⟨xs, hq⟩, q⟩ | ⟨z, e, q⟩
  · subst e
    cases r1
    obtain ⟨its, rv, p, hz⟩ := I1.list hq
    refine wpAny_pyIter_list p.isList ?_
    refine ⟨s1.heap.objs.size, [s1.heap.objs.size], _, _, H1, rfl, I1.kept (t' := s1.toks) fun b o e => Heap.get?_push_of_some _ e, turn_list a _, ⟨_, Heap.get?_push_size _ rfl, rfl, rfl⟩, fun b hb => ?_, q⟩
    have e : b = s1.heap.objs.size := by simpa using hb
    subst e
    exact I1.fpOk (Nat.le_refl _) (I1.hok.fresh (Nat.le_refl _))
  · subst e
    cases r1
    obtain ⟨its, rv, p, hz⟩ := I1.tuple hq
    refine wpAny_pyIter_tuple (show s1.heap.IsTuple a its.toArray from p) ?_
    refine ⟨s1.heap.objs.size, [s1.heap.objs.size], _, _, H1, rfl, I1.kept (t' := s1.toks) fun b o e => Heap.get?_push_of_some _ e, turn_tuple a _, ⟨_, Heap.get?_push_size _ rfl, rfl, rfl⟩, fun b hb => ?_, q⟩
    have e : b = s1.heap.objs.size := by simpa using hb
    subst e
    exact I1.fpOk (Nat.le_refl _) (I1.hok.fresh (Nat.le_refl _))
  · subst e
    obtain ⟨t, rfl⟩ := r1
    cases ha : z.cps.all (· < 128)
    · exact wpAny_pyIter_wide ha (pi_one (tk := s1.toks) I1 _ (turn_str _ z t "str_iterator" (.inr rfl)) ⟨_, Heap.get?_push_size _ rfl, rfl, rfl⟩ q)
    · exact wpAny_pyIter_ascii ha (pi_one (tk := s1.toks) I1 _ (turn_str _ z t "str_ascii_iterator" (.inl rfl)) ⟨_, Heap.get?_push_size _ rfl, rfl, rfl⟩ q)
theorem fi_seq {tg : Expr} (hK : g.K = X.K) (ha : PE X a (tF g fa)) : PI X tg a (tFI g lk fun ρ => (fa ρ).bind fun x => itemsB lk (rd x)) := by
  refine PI.imp (pi_any ha) fun σ H R ⟨F, ρ, s, p⟩ => ?_
  dsimp only at p
  rw [← hK]
  refine run1 s (fun bx v F1 H1 e1 g1 r1 => ?_) (fun c e => ?_) (fun e => ?_)
  · rw [e1, Res.ok_bind] at p
    have s1 := s.grow g1
    cases e2 : itemsB lk (rd bx) with
    | ok ds =>
      rw [e2] at p
      exact items_ok s1.sm g1 r1 e2 fun J hJ => p F1 H1 J g1 hJ
    | exc c =>
      exfalso
      unfold itemsB at e2
      repeat (split at e2 <;> try cases e2)
    | bad =>
      rw [e2] at p
      exact p.elim
  · rw [e] at p
    exact p
  · rw [e] at p
    exact p
def rng (lo hi : Int) : List D := (List.range (hi - lo).toNat).map fun (i : Nat) => D.int (lo + (i : Int))
def rngA (bs : List B) : Res (List D) := match bs with
  | [.dat (.int j)] => if -(2 ^ 62) ≤ j ∧ j < 2 ^ 62 then .ok (rng 0 j) else .bad
  | [.dat (.int i), .dat (.int j)] => if -(2 ^ 62) ≤ i ∧ i < 2 ^ 62 ∧ -(2 ^ 62) ≤ j ∧ j < 2 ^ 62 then .ok (rng i j) else .bad
  | _ => .bad
theorem fi_range1 {tg : Expr} {p pos : Pos} {fs : Env → Res (List B)} (hg : Gl X "range") (hm : X.mg "range" = none) (hn : nst a = true) (ha : PA X [a] (tFA g fs)) (h1 : ∀ ρ bs, fs ρ = .ok bs → bs.length = 1) : PI X tg (.Call (.Name "range" p) [a] [] pos) (tFI g lk fun ρ => (fs ρ).bind rngA) := by
  refine PI.imp (pi_range1 hg hm ha (star_cons hn)) fun σ H R ⟨F, ρ, s, q⟩ => ?_
  refine ⟨F, ρ, s, ?_⟩
  dsimp only at q
  cases e : fs ρ with
  | ok bs =>
    rw [e, Res.ok_bind] at q
    intro vs F1 H1 g1 r1
    have hl := h1 ρ bs e
    match bs, hl, r1, q with
    | [b], _, r1, q =>
      obtain ⟨v, rfl, rv⟩ := paired1 r1
      unfold rngA at q
      split at q
      · rename_i j eb
        cases eb
        split at q
        · rename_i hj
          cases rv
          refine ⟨j, rfl, hj.1, hj.2, q F1 H1 _ g1 ?_⟩
          have z := range_it (g := g) (lk := lk) (F1 := F1) (H1 := H1) (lo := 0) (n := j.toNat)
          unfold rng
          rw [Int.sub_zero]
          exact z
        · exact q.elim
      · rename_i eb
        cases eb
      · exact q.elim
  | exc c =>
    rw [e, Res.exc_bind] at q
    exact q
  | bad =>
    rw [e] at q
    exact q
theorem fi_range2 {tg : Expr} {p pos : Pos} {fs : Env → Res (List B)} (hg : Gl X "range") (hm : X.mg "range" = none) (hn : nst a = true) (hn2 : nst b = true) (ha : PA X [a, b] (tFA g fs)) (h1 : ∀ ρ bs, fs ρ = .ok bs → bs.length = 2) : PI X tg (.Call (.Name "range" p) [a, b] [] pos) (tFI g lk fun ρ => (fs ρ).bind rngA) := by
  refine PI.imp (pi_range2 hg hm ha (by rw [star_cons hn, star_cons hn2]; rfl) (star_cons hn2)) fun σ H R ⟨F, ρ, s, q⟩ => ?_
  refine ⟨F, ρ, s, ?_⟩
  dsimp only at q
  cases e : fs ρ with
  | ok bs =>
    rw [e, Res.ok_bind] at q
    intro vs F1 H1 g1 r1
    have hl := h1 ρ bs e
    match bs, hl, r1, q with
    | [b, b'], _, r1, q =>
      obtain ⟨v, w, rfl, rv, rw'⟩ := paired2 r1
      unfold rngA at q
      split at q
      · rename_i eb
        cases eb
      · rename_i i j eb
        cases eb
        split at q
        · rename_i hj
          cases rv
          cases rw'
          exact ⟨i, j, rfl, hj, q F1 H1 _ g1 range_it⟩
        · exact q.elim
      · exact q.elim
  | exc c =>
    rw [e, Res.exc_bind] at q
    exact q
  | bad =>
    rw [e] at q
    exact q
/-! ### targets -/
inductive Tg where
  | one (i : Nat)
  | many (is : List Nat)
def putMany : List Nat → List D → Env → Env
  | i :: is, d :: ds, ρ => putMany is ds (ρ.set i (some (.dat d)))
  | _, _, ρ => ρ
def bindT (t : Tg) (d : D) (ρ : Env) : Option Env := match t with
  | .one i => some (ρ.set i (some (.dat d)))
  | .many is => match d with
    | .tup ds => if ds.length = is.length then some (putMany is ds ρ) else none
    | .ctup ds => if ds.length = is.length then some (putMany is ds ρ) else none
    | .lst ds => if ds.length = is.length then some (putMany is ds ρ) else none
    | _ => none
/-- a target: what it does with data in hand -/
def tFG (g : G) (t : Tg) : TG := fun v σ H Q => ∃ F ρ d ρ', St g F H σ ρ ∧ Rp g.K g.fa F v d ∧ bindT t d ρ = some ρ' ∧ ∀ σ', St g F H σ' ρ' → (∀ i, (∀ j, t = .one j → i ≠ j) → (∀ is, t = .many is → i ∉ is) → σ'[i]? = σ[i]?) → Q σ' H
theorem PG.imp {tg : Expr} {t t' : TG} (h : PG X tg t) (i : ∀ v σ H Q, t' v σ H Q → t v σ H Q) : PG X tg t' := ⟨fun pins s σ H v u Q I r w => h.run pins s σ H v u Q I r (i v σ H Q w)⟩
theorem fg_one {i : Nat} {x : Str} (hN : X.N.Nodup) (hi : X.N[i]? = some x) (hx : Loc X.env.scope x) (hf : X.fn x = true ∨ X.env.scope.names.lookup x = some .local) : PG X (.Name x pos) (tFG g (.one i)) :=
  PG.imp (pg_name hN hi hx hf) fun v σ H Q ⟨F, ρ, d, ρ', s, r, hb, q⟩ => by
    unfold bindT at hb
    cases hb
    exact q _ (s.put (b := .dat d) (Grow.refl s.sub) r i (by intro m z; cases z)) fun j hj _ => List.getElem?_set_ne (fun z => hj i rfl z.symm)
def gPut : List Nat → TGs
  | [] => gNil
  | i :: is => gCons (gName i) (gPut is)
theorem put_run {F H : Hp} {Q : L2.St → Hp → Prop} : ∀ {is : List Nat} {ds : List D} {vs : List V} {σ : L2.St} {ρ : Env}, ds.length = is.length → RpAll g.K g.fa F vs ds → St g F H σ ρ → (∀ σ', St g F H σ' (putMany is ds ρ) → (∀ i, i ∉ is → σ'[i]? = σ[i]?) → Q σ' H) → gPut is vs σ H Q
  | [], [], _, σ, ρ, _, .nil, s, q => ⟨rfl, q σ s fun _ _ => rfl⟩
  | i :: is, d :: ds, _, σ, ρ, h, .cons r rs, s, q => by
    refine ⟨_, _, rfl, put_run (by simpa using h) rs (s.put (b := .dat d) (Grow.refl s.sub) r i (by intro m z; cases z)) fun σ' s' k => q σ' s' fun j hj => ?_⟩
    rw [List.mem_cons, not_or] at hj
    rw [k j hj.2, List.getElem?_set_ne (fun z => hj.1 z.symm)]
  | [], _ :: _, _, _, _, h, _, _, _ => by simp at h
  | _ :: _, [], _, _, _, h, _, _, _ => by simp at h
theorem fg_many {is : List Nat} {es : List Expr} {k : Nat} (hc : X.calm = true) (hK : g.K = X.K) (h : PGs X es (gPut is)) (hn : (assignEach es X.env).length = is.length) (hst : (assignEach es X.env).findIdx? (·.1) = none) : PG X (.Tuple es k pos) (tFG g (.many is)) := by
  refine PG.imp (PG.or (pg_tup hc h hn hst) (pg_lst hc h hn hst)) fun v σ H Q ⟨F, ρ, d, ρ', s, r, hb, q⟩ => ?_
  rw [← hK]
  unfold bindT at hb
  dsimp only at hb
  split at hb
  · split at hb
    · rename_i hl
      cases hb
      cases r with
      | tup h1 h2 => exact .inl ⟨_, _, rfl, SqT.of (s.sub _ _ h1), by rw [h2.len]; exact hl, put_run hl h2 s fun σ' s' k => q σ' s' fun i _ hi => k i (hi is rfl)⟩
    · cases hb
  · split at hb
    · rename_i hl
      cases hb
      cases r with
      | ctup h1 h2 => exact .inl ⟨_, _, rfl, sqT_none h1, by rw [h2.len]; exact hl, put_run hl h2 s fun σ' s' k => q σ' s' fun i _ hi => k i (hi is rfl)⟩
    · cases hb
  · split at hb
    · rename_i hl
      cases hb
      cases r with
      | lst h1 h2 => exact .inr ⟨_, _, rfl, SqL.of (s.sub _ _ h1), by rw [h2.len]; exact hl, put_run hl h2 s fun σ' s' k => q σ' s' fun i _ hi => k i (hi is rfl)⟩
    · cases hb
  · cases hb
end
end Fn
namespace Fn
open PySem PySem.Spec PyProof.Rows L2
/-! ### comprehensions -/
def wipeE (ρ : Env) : List Nat → Env
  | [] => ρ
  | v :: vs => (wipeE ρ vs).set v none
def datOnly (b : B) : Res (Option D) := match b with
  | .dat d => .ok (some d)
  | _ => .bad
/-- one item: what it gives, if it is taken -/
def stepC (t : Tg) (c : Env → Res Bool) (fe : Env → Res B) (ρ : Env) (d : D) : Res (Option D) := match bindT t d ρ with
  | none => .bad
  | some ρ1 => match c ρ1 with
    | .ok true => (match fe ρ1 with
      | .ok b => datOnly (rd b)
      | _ => .bad)
    | .ok false => .ok none
    | _ => .bad
def mapC (f : D → Res (Option D)) : List D → Res (List D)
  | [] => .ok []
  | d :: ds => (f d).bind fun o => (mapC f ds).bind fun xs => .ok (o.toList ++ xs)
def compV (t : Tg) (it : Env → Res (List D)) (c : Env → Res Bool) (fe : Env → Res B) (vs : List Nat) : Env → Res B := fun ρ => (it ρ).bind fun ds =>
  if ds.length ≤ sizeLine then (mapC (stepC t c fe (wipeE ρ vs)) ds).bind fun out => .ok (.own (.l out)) else .bad
section
variable {X : Cx} {g : G}
theorem St.wipe {F H : Hp} {σ : L2.St} {ρ : Env} (s : St g F H σ ρ) : ∀ vs : List Nat, St g F H (L2.wipe σ vs) (wipeE ρ vs)
  | [] => s
  | v :: vs => (St.wipe s vs).drop v
/-- within a comprehension no error is let out -/
def G.mute (g : G) : G := { g with E := fun _ _ _ => False }
theorem St.mute {F H : Hp} {σ : L2.St} {ρ : Env} (s : St g F H σ ρ) : St g.mute F H σ ρ := ⟨s.gr, s.len, fun i b h => let ⟨v, h1, h2⟩ := s.at_ i b h; ⟨v, h1, by cases b <;> exact h2⟩, s.apart⟩
theorem wipe_in {σ : L2.St} {i : Nat} : ∀ {vs : List Nat}, i ∈ vs → (L2.wipe σ vs)[i]? = if i < σ.length then some none else none
  | v :: vs, h => by
    unfold L2.wipe
    by_cases e : v = i
    · subst e
      by_cases hl : v < σ.length
      · rw [if_pos hl, List.getElem?_set_self (by rw [L2.wipe_length]; exact hl)]
      · rw [if_neg hl, List.getElem?_eq_none (by rw [List.length_set, L2.wipe_length]; omega)]
    · rw [List.getElem?_set_ne e]
      exact wipe_in ((List.mem_cons.mp h).resolve_left fun z => e z.symm)
theorem wipe_again {σ σ2 : L2.St} {vs : List Nat} (hl : σ2.length = σ.length) (h : ∀ i, i ∉ vs → σ2[i]? = (L2.wipe σ vs)[i]?) : L2.wipe σ2 vs = L2.wipe σ vs := by
  apply List.ext_getElem?
  intro i
  by_cases hi : i ∈ vs
  · rw [wipe_in hi, wipe_in hi, hl]
  · rw [L2.wipe_out hi, h i hi]
def Tg.slots : Tg → List Nat
  | .one i => [i]
  | .many is => is
theorem putMany_len : ∀ (is : List Nat) (es : List D) (ρ : Env), (putMany is es ρ).length = ρ.length
  | [], _, _ => rfl
  | _ :: _, [], _ => rfl
  | a :: is, b :: es, ρ => by
    show (putMany is es (ρ.set a (some (.dat b)))).length = _
    rw [putMany_len is es, List.length_set]
theorem bindT_len {t : Tg} {d : D} {ρ ρ1 : Env} (hb : bindT t d ρ = some ρ1) : ρ1.length = ρ.length := by
  unfold bindT at hb
  split at hb
  · cases hb
    rw [List.length_set]
  · split at hb <;> first | (split at hb <;> first | (cases hb; exact putMany_len _ _ _) | cases hb) | cases hb
theorem fe_comp {t : Tg} {it : Env → Res (List D)} {c : Env → Res Bool} {fe : Env → Res B} {elt tg iter : Expr} {ifs : List Expr} {scope : Scope} {own : List (Str × Nat)} {pos : Pos} (hc : X.calm = true) (hN : X.N.Nodup) (hi : PI X tg iter (tFI g true it)) (ok : BlkOk X.N X.env.scope scope own)
    (hsl : ∀ i ∈ t.slots, i ∈ own.map (·.2))
    (hg : ∀ (s : Shared) (H : Hp) (C : Addr) (cl : List (Str × Addr)) (fp : List Addr), PG (X.blk s H scope (compEnvC scope cl C X.env) fp) tg (tFG g.mute t)) (ht : ∀ (s : Shared) (H : Hp) (C : Addr) (cl : List (Str × Addr)) (fp : List Addr), PTs (X.blk s H scope (compEnvC scope cl C X.env) fp) ifs (tFT g.mute c))
    (he : ∀ (s : Shared) (H : Hp) (C : Addr) (cl : List (Str × Addr)) (fp : List Addr), PE (X.blk s H scope (compEnvC scope cl C X.env) fp) elt (tF g.mute fe)) (hs : ∀ x, foldedSetIterable iter X.env x = pure x)
    {σ : L2.St} {H : Hp} {Q : VK} (h : tF g (compV t it c fe (own.map (·.2))) σ H Q) : tLc (tFI g true it) (tFG g.mute t) (tFT g.mute c) (tF g.mute fe) (own.map (·.2)) σ H Q := by
  obtain ⟨F, ρ, s, p⟩ := h
  unfold compV at p
  refine ⟨F, ρ, s, ?_⟩
  cases e : it ρ with
  | exc k =>
    rw [e, Res.exc_bind] at p
    exact p
  | bad =>
    rw [e] at p
    exact p
  | ok ds =>
    rw [e, Res.ok_bind] at p
    split at p
    · rename_i hz
      cases em : mapC (stepC t c fe (wipeE ρ (own.map (·.2)))) ds with
      | exc k =>
        exfalso
        have no : ∀ (ds : List D) (k : Nat), mapC (stepC t c fe (wipeE ρ (own.map (·.2)))) ds ≠ .exc k := by
          intro ds
          induction ds with
          | nil => intro k z; cases z
          | cons d ds ih =>
            intro k z
            unfold mapC at z
            cases e1 : stepC t c fe (wipeE ρ (own.map (·.2))) d with
            | ok o =>
              rw [e1, Res.ok_bind] at z
              cases e2 : mapC (stepC t c fe (wipeE ρ (own.map (·.2)))) ds with
              | ok xs => rw [e2] at z; cases z
              | exc k' => exact ih k' e2
              | bad => rw [e2] at z; cases z
            | exc k' =>
              unfold stepC at e1
              split at e1
              · cases e1
              · split at e1
                · split at e1
                  · unfold datOnly at e1
                    split at e1 <;> cases e1
                  · cases e1
                · cases e1
                · cases e1
            | bad => rw [e1] at z; cases z
        exact no ds k em
      | bad =>
        rw [em] at p
        exact p.elim
      | ok out =>
        rw [em, Res.ok_bind] at p
        intro F1 H1 J g1 hJ D hD
        have s1 : St g.mute F1 H1 (L2.wipe σ (own.map (·.2))) (wipeE ρ (own.map (·.2))) := ((s.grow g1).wipe _).mute
        have s1' := s.grow g1
        refine ⟨fun i m H => m = ds.length - i ∧ i ≤ ds.length ∧ ∃ F xs acc rest, Grow F1 H1 F H ∧ H D = some (.lst xs) ∧ F D = none ∧ RpAll g.K g.fa F xs acc ∧ acc.length ≤ i ∧ mapC (stepC t c fe (wipeE ρ (own.map (·.2)))) (ds.drop i) = .ok rest ∧ out = acc ++ rest,
          ⟨ds.length, by simp, Nat.zero_le _, F1, [], [], out, Grow.newH s1'.sub hD, upd_same, s1'.sub.free hD, .nil, Nat.le_refl _, by simpa using em, rfl⟩, ?_⟩
        rintro i m H2 ⟨rfl, hi2, F2, xs, acc, rest, g2, hx, hfx, hr, hal, hm, ho⟩
        have pp : PP g true F1 H1 F2 H2 := ⟨g2.fh, g2.sub, s1'.gr.hh.trans g2.hh, fun _ => g2.hh⟩
        by_cases hlt : i < ds.length
        · refine .inr ⟨hJ.go i F2 H2 pp hlt, fun H' => ∃ F xs acc rest, Grow F1 H1 F H' ∧ H' D = some (.lst xs) ∧ F D = none ∧ RpAll g.K g.fa F xs acc ∧ acc.length ≤ i + 1 ∧ mapC (stepC t c fe (wipeE ρ (own.map (·.2)))) (ds.drop (i + 1)) = .ok rest ∧ out = acc ++ rest,
            fun H' hn => ⟨ds.length - (i + 1), by omega, rfl, hlt, hn⟩, fun x H' hy => ?_⟩
          have hd : ds[i]? = some ds[i] := List.getElem?_eq_getElem hlt
          obtain ⟨F3, g3, r3⟩ := hJ.yld i F2 H2 x H' ds[i] pp hd hy
          have edrop : ds.drop i = ds[i] :: ds.drop (i + 1) := List.drop_eq_getElem_cons hlt
          rw [edrop] at hm
          unfold mapC at hm
          cases e1 : stepC t c fe (wipeE ρ (own.map (·.2))) ds[i] with
          | exc k => rw [e1] at hm; cases hm
          | bad => rw [e1] at hm; cases hm
          | ok o =>
            rw [e1, Res.ok_bind] at hm
            cases e2 : mapC (stepC t c fe (wipeE ρ (own.map (·.2)))) (ds.drop (i + 1)) with
            | exc k => rw [e2] at hm; cases hm
            | bad => rw [e2] at hm; cases hm
            | ok rest' =>
              rw [e2, Res.ok_bind] at hm
              have erest : rest = o.toList ++ rest' := by cases hm; rfl
              subst erest
              have g13 : Grow F1 H1 F3 H' := g2.trans g3
              have s3 := s1.grow g13
              have hx3 : H' D = some (.lst xs) := g3.hh _ _ hx
              have hf3 : F3 D = none := g3.new D _ hx (by intro _ z; cases z) hfx
              unfold stepC at e1
              split at e1
              · cases e1
              · rename_i ρ1 hb
                refine ⟨F3, wipeE ρ (own.map (·.2)), ds[i], ρ1, s3, r3, hb, fun σ2 s4 kp => ?_⟩
                refine ⟨wipe_again (by
                  have l1 := s4.len
                  have l2 := s3.len
                  have l3 : ρ1.length = (wipeE ρ (own.map (·.2))).length := by
                    exact bindT_len hb
                  rw [l1, l3, ← l2, L2.wipe_length]) fun j hj => kp j (fun i' ei z => hj (by
                    subst z
                    exact hsl j (by rw [ei]; exact List.mem_singleton.mpr rfl))) fun is ei z => hj (hsl j (by rw [ei]; exact z)), ?_⟩
                refine ⟨F3, ρ1, s4, ?_⟩
                split at e1
                · rename_i hc1
                  rw [hc1]
                  intro F5 H5 g5
                  rw [if_pos rfl]
                  have s5 := s4.grow g5
                  split at e1
                  · rename_i b hfe
                    refine run1 s5 (fun bx v F6 H6 e6 g6 r6 => ?_) (fun c' e6 => by rw [hfe] at e6; cases e6) (by rw [hfe]; intro z; cases z)
                    rw [hfe] at e6
                    cases e6
                    unfold datOnly at e1
                    split at e1
                    · rename_i d' hd'
                      cases e1
                      rw [hd'] at r6
                      have g36 : Grow F3 H' F6 H6 := g5.trans g6
                      have hx6 : H6 D = some (.lst xs) := g36.hh _ _ hx3
                      have hf6 : F6 D = none := g36.new D _ hx3 (by intro _ z; cases z) hf3
                      refine ⟨xs, hx6, by rw [hr.len]; omega, F6, xs ++ [v], acc ++ [d'], rest', ⟨(g13.trans g36).fh, fun b u q => ?_, fun b u q => ?_, (g13.trans g36).new⟩, upd_same, hf6, (hr.mono (g3.fh.trans g36.fh)).app (.cons r6 .nil), by rw [List.length_append]; simpa using hal, rfl, by rw [ho, List.append_assoc]; rfl⟩
                      · rw [upd_ne (ne_of_none q hD)]
                        exact (g13.trans g36).hh _ _ q
                      · rw [upd_ne (ne_of_none q hf6)]
                        exact (g13.trans g36).sub _ _ q
                    · cases e1
                  · cases e1
                · rename_i hc1
                  rw [hc1]
                  intro F5 H5 g5
                  rw [if_neg Bool.false_ne_true]
                  cases e1
                  have hx5 : H5 D = some (.lst xs) := g5.hh _ _ hx3
                  have hf5 : F5 D = none := g5.new D _ hx3 (by intro _ z; cases z) hf3
                  exact ⟨F5, xs, acc, rest', g13.trans g5, hx5, hf5, hr.mono (g3.fh.trans g5.fh), by omega, rfl, ho⟩
                · cases e1
        · have e : i = ds.length := by omega
          subst e
          refine .inl ⟨hJ.stop _ F2 H2 pp (Nat.le_refl _), ?_⟩
          rw [List.drop_length] at hm
          cases hm
          rw [List.append_nil] at ho
          subst ho
          exact p _ F2 H2 (g1.trans g2) ⟨D, .lst xs, rfl, g1.hh.free hD, hx, hfx, .l hr⟩
    · exact p.elim
theorem fe_lc {t : Tg} {it : Env → Res (List D)} {c : Env → Res Bool} {fe : Env → Res B} {elt tg iter : Expr} {ifs : List Expr} {scope : Scope} {own : List (Str × Nat)} {pos : Pos} (hc : X.calm = true) (hN : X.N.Nodup) (hi : PI X tg iter (tFI g true it)) (ok : BlkOk X.N X.env.scope scope own)
    (hsl : ∀ i ∈ t.slots, i ∈ own.map (·.2))
    (hg : ∀ (s : Shared) (H : Hp) (C : Addr) (cl : List (Str × Addr)) (fp : List Addr), PG (X.blk s H scope (compEnvC scope cl C X.env) fp) tg (tFG g.mute t)) (ht : ∀ (s : Shared) (H : Hp) (C : Addr) (cl : List (Str × Addr)) (fp : List Addr), PTs (X.blk s H scope (compEnvC scope cl C X.env) fp) ifs (tFT g.mute c))
    (he : ∀ (s : Shared) (H : Hp) (C : Addr) (cl : List (Str × Addr)) (fp : List Addr), PE (X.blk s H scope (compEnvC scope cl C X.env) fp) elt (tF g.mute fe)) (hs : ∀ x, foldedSetIterable iter X.env x = pure x) : PE X (.ListComp elt [⟨tg, iter, ifs, 0⟩] scope pos) (tF g (compV t it c fe (own.map (·.2)))) :=
  PE.imp (pe_lc hc hN hi ok hg ht he hs) fun _ _ _ h => fe_comp (pos := pos) hc hN hi ok hsl hg ht he hs h
end
end Fn
namespace Fn
open PySem PySem.Spec PyProof.Rows L2
/-! ### statements -/
inductive Out where
  | nx (ρ : Env) | rt (b : B) | bk (ρ : Env) | ct (ρ : Env) | exc (c : Nat) (ρ : Env) | bad
def PostS (g : G) (E : Ends) (r : Out) : Prop := match r with
  | .nx ρ' => ∀ σ' F' H', St g F' H' σ' ρ' → E.nx σ' H'
  | .bk ρ' => ∀ σ' F' H', St g F' H' σ' ρ' → E.bk σ' H'
  | .ct ρ' => ∀ σ' F' H', St g F' H' σ' ρ' → E.ct σ' H'
  | .rt b => ∀ v F' H', Grow g.F0 g.G0 F' H' → RB g g.F0 g.G0 F' H' v b → E.rt v H'
  | .exc c ρ' => ∀ σ' F' H', St g F' H' σ' ρ' → g.E c σ' H'
  | .bad => False
def tFS (g : G) (f : Env → Out) : TS := fun E σ H => ∃ F ρ, St g F H σ ρ ∧ PostS g E (f ρ)
theorem PS.imp {X : Cx} {st : Stmt} {t t' : TS} (h : PS X st t) (i : ∀ E σ H, t' E σ H → t E σ H) : PS X st t' := ⟨fun pins s σ H E I w => h.run pins s σ H E I (i E σ H w)⟩
theorem PSs.imp {X : Cx} {st : List Stmt} {t t' : TS} (h : PSs X st t) (i : ∀ E σ H, t' E σ H → t E σ H) : PSs X st t' := ⟨fun pins s σ H E I w => h.run pins s σ H E I (i E σ H w)⟩
def seqS (f h : Env → Out) : Env → Out := fun ρ => match f ρ with
  | .nx ρ' => h ρ'
  | o => o
section
variable {X : Cx} {g : G} {a b c : Expr} {pos : Pos} {fa fb fc : Env → Res B} {st : Stmt} {rest : List Stmt} {f h : Env → Out}
theorem fs_nil : PSs X [] (tFS g fun ρ => .nx ρ) := PSs.imp pss_nil fun E σ H ⟨F, ρ, s, p⟩ => p σ F H s
theorem fs_cons (h1 : PS X st (tFS g f)) (h2 : PSs X rest (tFS g h)) : PSs X (st :: rest) (tFS g (seqS f h)) := by
  refine PSs.imp (pss_cons h1 h2) fun E σ H ⟨F, ρ, s, p⟩ => ⟨F, ρ, s, ?_⟩
  unfold seqS at p
  cases e : f ρ with
  | nx ρ' =>
    rw [e] at p
    exact fun σ' F' H' s' => ⟨F', ρ', s', p⟩
  | rt b => rw [e] at p; exact p
  | bk ρ' => rw [e] at p; exact p
  | ct ρ' => rw [e] at p; exact p
  | exc k ρ' => rw [e] at p; exact p
  | bad => rw [e] at p; exact p
theorem fs_one (h1 : PS X st (tFS g f)) : PSs X [st] (tFS g f) := PSs.imp (pss_one h1) fun _ _ _ h => h
/-- an expression, then what is done with its value (as it came) -/
def thenS (fa : Env → Res B) (k : B → Env → Out) : Env → Out := fun ρ => match fa ρ with
  | .ok b => k b ρ
  | .exc c => .exc c ρ
  | .bad => .bad
theorem then_run {k : B → Env → Out} {E : Ends} {σ : L2.St} {H : Hp} {Q : VK} (h : tFS g (thenS fa k) E σ H)
    (hk : ∀ F ρ b v F1 H1, St g F H σ ρ → Grow F H F1 H1 → RB g F H F1 H1 v b → PostS g E (k b ρ) → Q v H1) : tF g fa σ H Q := by
  obtain ⟨F, ρ, s, p⟩ := h
  refine ⟨F, ρ, s, ?_⟩
  unfold thenS at p
  cases e : fa ρ with
  | ok b =>
    rw [e] at p
    exact fun v F1 H1 g1 r1 => hk F ρ b v F1 H1 s g1 r1 p
  | exc c =>
    rw [e] at p
    exact fun F' H' g1 => p σ F' H' (s.grow g1)
  | bad =>
    rw [e] at p
    exact p
/-- what a name may take: no look at another name's own object -/
def okV : B → Bool
  | .vw _ => false
  | _ => true
theorem okV_ne {b : B} (h : okV b = true) : ∀ m, b ≠ .vw m := by
  rintro m rfl
  cases h
def setV (i : Nat) (b : B) (ρ : Env) : Out := if okV b = true then .nx (ρ.set i (some b)) else .bad
theorem fs_asg {i : Nat} {x : Str} {e : Expr} {pos' : Pos} (hN : X.N.Nodup) (hi : X.N[i]? = some x) (hx : Loc X.env.scope x) (he : PE X e (tF g fa)) (hs : swapsWith e (some (.Name x pos')) pos.line X.env = pure false) (hf : X.fn x = true ∨ X.env.scope.names.lookup x = some .local) :
    PS X (.Assign [.Name x pos'] e pos) (tFS g (thenS fa (setV i))) := by
  refine PS.imp (ps_set hN hi hx he hs hf) fun E σ H h => ?_
  refine then_run (k := setV i) (E := E) (Q := fun v H1 => E.nx (σ.set i (some v)) H1) h fun F ρ b v F1 H1 s g1 r1 p => ?_
  unfold setV at p
  split at p
  · rename_i nb
    exact p _ F1 H1 (s.put g1 r1 i (okV_ne nb))
  · exact p.elim
theorem fs_asgLc {t : Tg} {it : Env → Res (List D)} {cnd : Env → Res Bool} {fe : Env → Res B} {i : Nat} {y : Str} {py : Pos} {elt tg iter : Expr} {ifs : List Expr} {scope : Scope} {own : List (Str × Nat)} {pos spos : Pos} (hc : X.calm = true) (hN : X.N.Nodup) (hy : X.N[i]? = some y) (hyl : X.env.scope.names.lookup y = some .local)
    (hsw : swapsWith (.ListComp elt [⟨tg, iter, ifs, 0⟩] scope pos) (some (.Name y py)) spos.line X.env = pure true) (hi : PI X tg iter (tFI g true it)) (ok : BlkOk X.N X.env.scope scope own)
    (hsl : ∀ i ∈ t.slots, i ∈ own.map (·.2))
    (hg : ∀ (s : Shared) (H : Hp) (C : Addr) (cl : List (Str × Addr)) (fp : List Addr), PG (X.blk s H scope (compEnvC scope cl C X.env) fp) tg (tFG g.mute t)) (ht : ∀ (s : Shared) (H : Hp) (C : Addr) (cl : List (Str × Addr)) (fp : List Addr), PTs (X.blk s H scope (compEnvC scope cl C X.env) fp) ifs (tFT g.mute cnd))
    (he : ∀ (s : Shared) (H : Hp) (C : Addr) (cl : List (Str × Addr)) (fp : List Addr), PE (X.blk s H scope (compEnvC scope cl C X.env) fp) elt (tF g.mute fe)) (hs : ∀ x, foldedSetIterable iter X.env x = pure x) :
    PS X (.Assign [.Name y py] (.ListComp elt [⟨tg, iter, ifs, 0⟩] scope pos) spos) (tFS g (thenS (compV t it cnd fe (own.map (·.2))) (setV i))) := by
  refine PS.imp (ps_setLc hc hN hy hyl hsw hi ok hg ht he hs) fun E σ H h => ?_
  refine fe_comp (pos := pos) (Q := fun v H1 => E.nx (σ.set i (some v)) H1) hc hN hi ok hsl hg ht he hs ?_
  refine then_run (k := setV i) (E := E) (Q := fun v H1 => E.nx (σ.set i (some v)) H1) h fun F ρ b v F1 H1 s g1 r1 p => ?_
  unfold setV at p
  split at p
  · rename_i nb
    exact p _ F1 H1 (s.put g1 r1 i (okV_ne nb))
  · exact p.elim
/-- a, b = (something that is data) -/
def bindV (t : Tg) (b : B) (ρ : Env) : Out := match rd b with
  | .dat d => (match bindT t d ρ with | some ρ' => .nx ρ' | none => .bad)
  | _ => .bad
theorem fs_asgT {t : Tg} {tg e : Expr} (he : PE X e (tF g fa)) (hg : PG X tg (tFG g t)) (hs : swapsWithSole [tg] e pos.line X.env = pure false) (hw : swappedStores [tg] e X.env = pure none) (h1 : (assignEach [tg] X.env).map (·.2) = [assign tg X.env]) :
    PS X (.Assign [tg] e pos) (tFS g (thenS fa (bindV t))) := by
  refine PS.imp (ps_asg he hg hs hw h1) fun E σ H h => ?_
  refine then_run (k := bindV t) (E := E) (Q := fun v H1 => tFG g t v σ H1 E.nx) h fun F ρ b v F1 H1 s g1 r1 p => ?_
  unfold bindV at p
  obtain ⟨F2, g2, r2⟩ := r1.rd g1
  split at p
  · rename_i d hd
    split at p
    · rename_i ρ' hb
      rw [hd] at r2
      exact ⟨F2, ρ, d, ρ', s.grow g2, r2, hb, fun σ' s' _ => p σ' F2 H1 s'⟩
    · exact p.elim
  · exact p.elim
/-- a, b = x, y stored one by one -/
def par2 (i j : Nat) (fa fb : Env → Res B) : Env → Out := fun ρ => match fa ρ with
  | .ok x => (match fb ρ with
    | .ok y => if (okV x && okV y) = true then .nx ((ρ.set i (some x)).set j (some y)) else .bad
    | .exc c => .exc c ρ
    | .bad => .bad)
  | .exc c => .exc c ρ
  | .bad => .bad
theorem RB.over {F H F1 H1 F2 H2 : Hp} {v : V} {b : B} (r : RB g F H F1 H1 v b) (e : Grow F1 H1 F2 H2) : RB g F H F2 H2 v b := by
  cases b with
  | dat d => exact Rp.mono e.fh r
  | own m =>
    obtain ⟨p, o, rfl, h, ho, f, q⟩ := r
    exact ⟨p, o, rfl, h, e.hh _ _ ho, e.new p o ho q.notTup f, q.mono e.fh⟩
  | vw m =>
    obtain ⟨p, o, rfl, h, q⟩ := r
    exact ⟨p, o, rfl, e.hh _ _ h, q.mono e.fh⟩
  | bor m =>
    obtain ⟨p, o, rfl, h, q⟩ := r
    exact ⟨p, o, rfl, h, q.mono e.fh⟩
  | scr ns => exact r
  | err c => exact r
theorem fs_par2 {i j : Nat} {x y : Str} {px py pt : Pos} {kt k2 pt2} (hc : X.calm = true) (hN : X.N.Nodup) (hi : X.N[i]? = some x) (hj : X.N[j]? = some y) (hij : i ≠ j)
    (hx : X.env.scope.names.lookup x = some .local) (hy : X.env.scope.names.lookup y = some .local) (hna : nst a = true) (hnb : nst b = true) (ha : PE X a (tF g fa)) (hb : PE X b (tF g fb))
    (hw : swappedStores [.Tuple [.Name x px, .Name y py] kt pt] (.Tuple [a, b] k2 pt2) X.env = pure (some [x, y])) (hs : swapsWithSole [.Tuple [.Name x px, .Name y py] kt pt] (.Tuple [a, b] k2 pt2) pos.line X.env = pure false) :
    PS X (.Assign [.Tuple [.Name x px, .Name y py] kt pt] (.Tuple [a, b] k2 pt2) pos) (tFS g (par2 i j fa fb)) := by
  refine PS.imp (ps_par hc hN hi hj hij hx hy (pa_cons ha (pa_cons hb pa_nil (star_cons hnb)) (star_cons hna)) hw hs) fun E σ H ⟨F, ρ, s, p⟩ => ?_
  unfold par2 at p
  show tF g fa σ H _
  refine ⟨F, ρ, s, ?_⟩
  cases e1 : fa ρ with
  | exc c => rw [e1] at p; exact fun F' H' g1 => p σ F' H' (s.grow g1)
  | bad => rw [e1] at p; exact p
  | ok x =>
    rw [e1] at p
    intro v F1 H1 g1 r1
    have s1 := s.grow g1
    refine ⟨F1, ρ, s1, ?_⟩
    dsimp only at p
    cases e2 : fb ρ with
    | exc c => rw [e2] at p; exact fun F' H' g2 => p σ F' H' (s1.grow g2)
    | bad => rw [e2] at p; exact p
    | ok y =>
      rw [e2] at p
      intro w F2 H2 g2 r2
      refine ⟨v, w, rfl, ?_⟩
      dsimp only at p
      split at p
      · rename_i ok
        rw [Bool.and_eq_true] at ok
        exact p _ F2 H2 ((s.put g1 r1 i (okV_ne ok.1)).put g2 r2 j (okV_ne ok.2))
      · exact p.elim
/-- a change of an owned object at a name -/
def ownAt (ρ : Env) (i : Nat) : Option M := match ρ[i]? with
  | some (some (.own m)) => some m
  | _ => none
theorem ownAt_ok {ρ : Env} {i : Nat} {m : M} (h : ownAt ρ i = some m) : ρ[i]? = some (some (.own m)) := by
  unfold ownAt at h
  split at h
  · cases h
    assumption
  · cases h
def appV (i : Nat) (fa : Env → Res B) : Env → Out := fun ρ => match ownAt ρ i with
  | some (.l ds) => (match fa ρ with
    | .ok b => (match rd b with
      | .dat d => if ds.length < sizeLine then .nx (ρ.set i (some (.own (.l (ds ++ [d]))))) else .bad
      | _ => .bad)
    | .exc c => .exc c ρ
    | .bad => .bad)
  | _ => .bad
theorem fs_append {i : Nat} {x : Str} {e : Expr} {p1 p2 p3 p4 : Pos} (hi : X.N[i]? = some x) (hv : Vis X.env.scope x) (hd : (x == ("__debug__" : Str)) = false) (hcd : (x == ("__classdict__" : Str)) = false) (hn : nst e = true) (hl : (p2.endLine == p3.line) = true) (he : PE X e (tF g fa)) :
    PS X (.Expr (.Call (.Attribute (.Name x p1) "append" p2) [e] [] p3) p4) (tFS g (appV i fa)) := by
  refine PS.imp (ps_expr (pe_bm PySem.F.plainAttrs_list PySem.F.slot_list_append PySem.F.type_list_append mt_append (pe_var hi hv hd hcd) (pa_cons he pa_nil (star_cons hn)) (by rfl) (by cases e <;> first | rfl | cases hn) hl (star_cons hn) (by rfl))) fun E σ H h => ?_
  show tVar i σ H fun v H1 => tyV X.K "list" v H1 ∧ tF g fa σ H1 fun w H2 => rAppend v [w] H2 fun _ H1 => E.nx σ H1
  obtain ⟨F, ρ, s, p⟩ := h
  unfold appV at p
  split at p
  · rename_i ds ho
    obtain ⟨q, o, a1, a2, a3, a4, a5⟩ := s.own_none (ownAt_ok ho)
    cases a5 with
    | l rl =>
      refine ⟨_, a1, Or.inl ⟨rfl, _, SqL.of a2⟩, ?_⟩
      refine run1 s (fun b v F1 H1 e2 g1 r1 => ?_) (fun c e => ?_) (fun e => ?_)
      · rw [e2] at p
        dsimp only at p
        split at p
        · rename_i d hd
          rw [hd] at r1
          split at p
          · rename_i hz
            refine ⟨q, _, v, rfl, rfl, g1.hh _ _ a2, by rw [rl.len]; exact hz, ?_⟩
            exact p σ F1 _ ((s.grow g1).change (ownAt_ok ho) a1 (.l ((rl.mono g1.fh).app (.cons r1 .nil))))
          · exact p.elim
        · exact p.elim
      · rw [e] at p
        exact fun F' H' g1 => p σ F' H' (s.grow g1)
      · rw [e] at p
        exact p
  · exact p.elim
/-! ### name[index] = value -/
theorem PS.or {t u : TS} (h : PS X st t) (h' : PS X st u) : PS X st (fun E σ H => t E σ H ∨ u E σ H) := ⟨fun pins s σ H E I w => w.elim (h.run pins s σ H E I) (h'.run pins s σ H E I)⟩
def storeM (m : M) (k : B) (d : D) : Option M := match m with
  | .k kvs => (match keyD (datOf k) with
    | some q => if kvs.length < sizeLine then some (.k (putD kvs q d)) else none
    | none => none)
  | .t kvs => (match tkey k with
    | some q => if kvs.length < sizeLine then some (.t (putD kvs q d)) else none
    | none => none)
  | .l xs => (match k with
    | .dat (.int j) => (match ixN xs.length j with
      | some n => some (.l (xs.set n d))
      | none => none)
    | _ => none)
def putS (i : Nat) (fk fv : Env → Res B) : Env → Out := fun ρ => match fv ρ with
  | .ok b => (match rd b, ownAt ρ i, fk ρ with
    | .dat d, some m, .ok k => (match storeM m (rd k) d with
      | some m' => .nx (ρ.set i (some (.own m')))
      | none => .bad)
    | .dat _, some _, .exc c => .exc c ρ
    | _, _, _ => .bad)
  | .exc c => .exc c ρ
  | .bad => .bad
theorem fs_store {i : Nat} {x : Str} {k v : Expr} {fk fv : Env → Res B} {p1 p2 : Pos} (hu : X.A.units + 1 < cLine) (hi : X.N[i]? = some x) (hv : Vis X.env.scope x) (hd : (x == ("__debug__" : Str)) = false) (hcd : (x == ("__classdict__" : Str)) = false) (hns : nsl k = true)
    (hk : PE X k (tF g fk)) (hval : PE X v (tF g fv)) (hs : swapsWith v (some (.Subscript (.Name x p1) k p2)) pos.line X.env = pure false) :
    PS X (.Assign [.Subscript (.Name x p1) k p2] v pos) (tFS g (putS i fk fv)) := by
  refine PS.imp (PS.or (ps_dput hu (pe_var hi hv hd hcd) hk hval hs) (ps_asg hval (pg_sub (pos := p2) (pe_var hi hv hd hcd) hk set_list (by intro v; cases k <;> first | rfl | cases hns)) (by cases v <;> first | rfl | exact hs) (by cases v <;> rfl) (by rfl))) fun E σ H h => ?_
  show (tF g fv σ H fun v H1 => tVar i σ H1 fun x H2 => tF g fk σ H2 fun y H3 => ∃ a H4, x = .ref a ∧ DPut H3 a y v H4 ∧ E.nx σ H4) ∨
    tF g fv σ H fun v H1 => tVar i σ H1 fun o H2 => tF g fk σ H2 fun j H3 => rSetL o j v H3 fun H4 => E.nx σ H4
  obtain ⟨F, ρ, s, p⟩ := h
  unfold putS at p
  -- the three shapes
  have run : ∀ {R : V → V → V → Hp → Prop}, (∀ b m, fv ρ = .ok b → ownAt ρ i = some m → ∀ (F3 H3 : Hp) (q : Addr) (o : HO) (w y : V) (k : B) (d : D) (m' : M), rd b = .dat d → fk ρ = .ok k → storeM m (rd k) d = some m' → St g F3 H3 σ ρ → Rp g.K g.fa F3 w d → RR g F3 H3 y (rd k) → σ[i]? = some (some (.ref q)) → H3 q = some o → RpM g.K g.fa F3 o m → PostS g E (.nx (ρ.set i (some (.own m')))) → R (.ref q) y w H3) →
      tF g fv σ H fun v H1 => tVar i σ H1 fun o H2 => tF g fk σ H2 fun j H3 => R o j v H3 := by
    intro R hR
    refine run1 s (fun b v F1 H1 e1 g1 r1 => ?_) (fun c e => ?_) (fun e => ?_)
    · rw [e1] at p
      dsimp only at p
      have s1 := s.grow g1
      cases hd : rd b with
      | dat d =>
        rw [hd] at p r1
        cases ho : ownAt ρ i with
        | none => rw [ho] at p; exact p.elim
        | some m =>
          rw [ho] at p
          obtain ⟨q, o, a1, a2, a3, a4, a5⟩ := s1.own_none (ownAt_ok ho)
          refine ⟨_, a1, ?_⟩
          refine run1 s1 (fun k y F2 H2 e2 g2 r2 => ?_) (fun c e => ?_) (fun e => ?_)
          · rw [e2] at p
            dsimp only at p
            split at p
            · rename_i m' hm
              exact hR b m e1 ho F2 H2 q o v y k d m' hd e2 hm (s1.grow g2) (Rp.mono g2.fh r1) r2 a1 (g2.hh _ _ a2) (a5.mono g2.fh) p
            · exact p.elim
          · rw [e] at p
            exact fun F' H' g2 => p σ F' H' (s1.grow g2)
          · rw [e] at p
            exact p
      | own _ => rw [hd] at p; exact p.elim
      | vw _ => rw [hd] at p; exact p.elim
      | bor _ => rw [hd] at p; exact p.elim
      | scr _ => rw [hd] at p; exact p.elim
      | err _ => rw [hd] at p; exact p.elim
    · rw [e] at p
      exact fun F' H' g1 => p σ F' H' (s.grow g1)
    · rw [e] at p
      exact p
  cases ho : ownAt ρ i with
  | none =>
    refine .inl (run (R := fun o y w H3 => ∃ a H4, o = .ref a ∧ DPut H3 a y w H4 ∧ E.nx σ H4) fun b m e1 e2 => ?_)
    rw [ho] at e2
    cases e2
  | some m0 =>
    cases m0 with
    | k kvs =>
      refine .inl (run (R := fun o y w H3 => ∃ a H4, o = .ref a ∧ DPut H3 a y w H4 ∧ E.nx σ H4) fun b m e1 e2 F3 H3 q o w y k d m' hd ek hm s3 rw_ ry hq hH ro post => ?_)
      rw [ho] at e2
      cases e2
      unfold storeM at hm
      dsimp only at hm
      split at hm
      · rename_i kk hkk
        split at hm
        · rename_i hz
          cases hm
          cases ro with
          | k q1 q2 =>
            have hy := rr_key ry hkk
            subst hy
            refine ⟨q, _, rfl, DPut.k hH ?_, post σ F3 _ (s3.change (ownAt_ok ho) hq (.k (put_keys q1 kk w d) (put_rel q1 q2 rw_)))⟩
            have := congrArg List.length q1
            rw [List.length_map, List.length_map] at this
            omega
        · cases hm
      · cases hm
    | t kvs =>
      refine .inl (run (R := fun o y w H3 => ∃ a H4, o = .ref a ∧ DPut H3 a y w H4 ∧ E.nx σ H4) fun b m e1 e2 F3 H3 q o w y k d m' hd ek hm s3 rw_ ry hq hH ro post => ?_)
      rw [ho] at e2
      cases e2
      unfold storeM at hm
      dsimp only at hm
      split at hm
      · rename_i kk hkk
        split at hm
        · rename_i hz
          cases hm
          cases ro with
          | t q1 q2 =>
            obtain ⟨b2, rfl, hb2⟩ := tkey_ok s3.sm ry hkk
            refine ⟨q, _, rfl, DPut.t hH hb2 ?_, post σ F3 _ (s3.change (ownAt_ok ho) hq (.t (put_keys q1 kk w d) (put_rel q1 q2 rw_)))⟩
            have := congrArg List.length q1
            rw [List.length_map, List.length_map] at this
            omega
        · cases hm
      · cases hm
    | l xs =>
      refine .inr (run (R := fun o y w H3 => rSetL o y w H3 fun H4 => E.nx σ H4) fun b m e1 e2 F3 H3 q o w y k d m' hd ek hm s3 rw_ ry hq hH ro post => ?_)
      rw [ho] at e2
      cases e2
      unfold storeM at hm
      dsimp only at hm
      split at hm
      · rename_i j hj
        rw [hj] at ry
        split at hm
        · rename_i n hn
          cases hm
          cases ro with
          | l q1 =>
            cases ry
            exact ⟨q, _, _, n, rfl, rfl, hH, by rw [q1.len]; exact hn, post σ F3 _ (s3.change (ownAt_ok ho) hq (.l (q1.set n rw_)))⟩
        · cases hm
      · cases hm
/-! ### if, for, while, return -/
def iteS (t : Env → Res Bool) (f h : Env → Out) : Env → Out := fun ρ => match t ρ with
  | .ok k => if k = true then f ρ else h ρ
  | .exc c => .exc c ρ
  | .bad => .bad
theorem fs_if {t : Env → Res Bool} {p q : List Stmt} (hc : PT X c (tFT g t)) (ha : PSs X p (tFS g f)) (hb : PSs X q (tFS g h)) : PS X (.If c p q pos) (tFS g (iteS t f h)) := by
  refine PS.imp (ps_if hc ha hb) fun E σ H ⟨F, ρ, s, w⟩ => ?_
  unfold iteS at w
  refine runT s (fun k F1 H1 e1 g1 => ?_) (fun c e => ?_) (fun e => ?_)
  · rw [e1] at w
    dsimp only at w
    split
    · rename_i hk
      rw [if_pos hk] at w
      exact ⟨F1, ρ, s.grow g1, w⟩
    · rename_i hk
      rw [if_neg hk] at w
      exact ⟨F1, ρ, s.grow g1, w⟩
  · rw [e] at w
    exact fun F' H' g1 => w σ F' H' (s.grow g1)
  · rw [e] at w
    exact w
theorem fs_never : PS X st (tFS g fun _ => .bad) := PS.imp ps_never fun _ _ _ ⟨_, _, _, p⟩ => p
theorem fs_pass : PS X (.Pass pos) (tFS g fun ρ => .nx ρ) := PS.imp ps_pass fun E σ H ⟨F, ρ, s, p⟩ => p σ F H s
theorem fs_break : PS X (.Break pos) (tFS g fun ρ => .bk ρ) := PS.imp ps_break fun E σ H ⟨F, ρ, s, p⟩ => p σ F H s
theorem fs_cont : PS X (.Continue pos) (tFS g fun ρ => .ct ρ) := PS.imp ps_continue fun E σ H ⟨F, ρ, s, p⟩ => p σ F H s
def okRet : B → Bool
  | .dat _ => true
  | .own _ => true
  | _ => false
def retV (b : B) (_ : Env) : Out := if okRet b = true then .rt b else .bad
theorem fs_ret {e : Expr} (he : PE X e (tF g fa)) : PS X (.Return (some e) pos) (tFS g (thenS fa retV)) := by
  refine PS.imp (ps_ret he) fun E σ H h => then_run (k := retV) h fun F ρ b v F1 H1 s g1 r1 p => ?_
  unfold retV at p
  split at p
  · exact p v F1 H1 (s.gr.trans g1) (r1.later s.gr)
  · exact p.elim
/-- return name -/
def retN (i : Nat) (ρ : Env) : Out := match ρ[i]? with
  | some (some (.dat d)) => .rt (.dat d)
  | some (some (.own m)) => .rt (.own m)
  | _ => .bad
theorem fs_retN {i : Nat} {x : Str} {p1 : Pos} (hi : X.N[i]? = some x) (hv : Vis X.env.scope x) (hd : (x == ("__debug__" : Str)) = false) (hcd : (x == ("__classdict__" : Str)) = false) : PS X (.Return (some (.Name x p1)) pos) (tFS g (retN i)) := by
  refine PS.imp (ps_ret (pe_var hi hv hd hcd)) fun E σ H ⟨F, ρ, s, p⟩ => ?_
  unfold retN at p
  split at p
  · rename_i d e
    obtain ⟨v, h1, h2⟩ := s.at_ i _ e
    exact ⟨v, h1, p v F H s.gr h2⟩
  · rename_i m e
    obtain ⟨q, o, a1, a2, a3, a4, a5⟩ := s.own_none e
    exact ⟨_, a1, p _ F H s.gr ⟨q, o, rfl, a4, a2, a3, a5⟩⟩
  · exact p.elim
theorem fs_retNone : PS X (.Return none pos) (tFS g fun _ => .rt (.dat .non)) := PS.imp ps_retN fun E σ H ⟨F, ρ, s, p⟩ => p .non F H s.gr .non
/-- an owned object is locked: no code -/
def lockE (i : Nat) (ρ : Env) : Env := match ownAt ρ i with
  | some m => ρ.set i (some (.dat (frzM m)))
  | none => ρ
theorem fs_lock {sts : List Stmt} (i : Nat) (h1 : PSs X sts (tFS g f)) : PSs X sts (tFS g fun ρ => f (lockE i ρ)) := by
  refine PSs.imp h1 fun E σ H ⟨F, ρ, s, p⟩ => ?_
  dsimp only at p
  unfold lockE at p
  split at p
  · rename_i m e
    obtain ⟨F', _, _, s'⟩ := s.lock (ownAt_ok e)
    exact ⟨F', _, s', p⟩
  · exact ⟨F, ρ, s, p⟩
/-! ### while -/
def whileN (t : Env → Res Bool) (body : Env → Out) : Nat → Env → Out
  | 0, _ => .bad
  | n + 1, ρ => match t ρ with
    | .ok false => .nx ρ
    | .ok true => (match body ρ with
      | .nx ρ2 => whileN t body n ρ2
      | .ct ρ2 => whileN t body n ρ2
      | .bk ρ2 => .nx ρ2
      | .rt b => .rt b
      | .exc c ρ2 => .exc c ρ2
      | .bad => .bad)
    | .exc c => .exc c ρ
    | .bad => .bad
/-- a loop's turns, bounded by what the proof says -/
def whileS (m : Env → Nat) (t : Env → Res Bool) (body : Env → Out) : Env → Out := fun ρ => whileN t body (m ρ) ρ
theorem fs_while {t : Env → Res Bool} {body : List Stmt} (m : Env → Nat) (hp : PassesOwn (model X.prog X.w) X.A X.env X.xe) (hc : PT X c (tFT g t)) (hb : PSs X body (tFS g f)) : PS X (.While c body [] pos) (tFS g (whileS m t f)) := by
  refine PS.imp (ps_while hp hc hb) fun E σ H ⟨F, ρ, s, p⟩ => ?_
  refine ⟨fun n σ H => ∃ F ρ, St g F H σ ρ ∧ PostS g E (whileN t f n ρ), ⟨m ρ, F, ρ, s, p⟩, ?_⟩
  rintro n σ H ⟨F, ρ, s, p⟩
  cases n with
  | zero => exact p.elim
  | succ n =>
    unfold whileN at p
    refine runT s (fun k F1 H1 e1 g1 => ?_) (fun c e => ?_) (fun e => ?_)
    · rw [e1] at p
      cases k with
      | false => exact p σ F1 H1 (s.grow g1)
      | true =>
        dsimp only at p
        refine ⟨fun σ2 H2 => ∃ F2 ρ2, St g F2 H2 σ2 ρ2 ∧ PostS g E (whileN t f n ρ2), fun σ2 H2 h => ⟨n, Nat.lt_succ_self n, h⟩, F1, ρ, s.grow g1, ?_⟩
        cases eb : f ρ with
        | nx ρ2 => rw [eb] at p; exact fun σ4 F4 H4 s4 => ⟨F4, ρ2, s4, p⟩
        | ct ρ2 => rw [eb] at p; exact fun σ4 F4 H4 s4 => ⟨F4, ρ2, s4, p⟩
        | bk ρ2 => rw [eb] at p; exact p
        | rt b => rw [eb] at p; exact p
        | exc c ρ2 => rw [eb] at p; exact p
        | bad => rw [eb] at p; exact p
    · rw [e] at p
      exact fun F' H' g1 => p σ F' H' (s.grow g1)
    · rw [e] at p
      exact p
/-! ### for -/
def loopF (t : Tg) (body : Env → Out) : List D → Env → Out
  | [], ρ => .nx ρ
  | d :: ds, ρ => match bindT t d ρ with
    | none => .bad
    | some ρ1 => match body ρ1 with
      | .nx ρ2 => loopF t body ds ρ2
      | .ct ρ2 => loopF t body ds ρ2
      | .bk ρ2 => .nx ρ2
      | .rt b => .rt b
      | .exc c ρ2 => .exc c ρ2
      | .bad => .bad
def forV (t : Tg) (it : Env → Res (List D)) (body : Env → Out) : Env → Out := fun ρ => match it ρ with
  | .ok ds => loopF t body ds ρ
  | .exc c => .exc c ρ
  | .bad => .bad
/-- another floor: what is locked by now -/
abbrev G.fl (g : G) (F0 : Hp) : G := { g with F0 := F0 }
theorem Grow.up {F H F1 H1 F2 H2 : Hp} (a : Grow F H F1 H1) (b : Grow F1 H F2 H2) : Grow F H F2 H2 := ⟨a.fh.trans b.fh, b.hh, b.sub, fun c o h n e => b.new c o h n (a.new c o h n e)⟩
theorem Grow.down {F H F1 F2 H2 : Hp} (a : Grow F H F2 H2) (e : Same F F1) (e' : Same F1 F2) : Grow F1 H F2 H2 := ⟨e', a.hh, a.sub, fun c o h n z => a.new c o h n (e.free z)⟩
theorem St.up {F1 H1 F H : Hp} {σ : L2.St} {ρ : Env} (a : Grow g.F0 g.G0 F1 H1) (s : St (g.fl F1) F H σ ρ) : St g F H σ ρ := ⟨a.up s.gr, s.len, fun i b h => let ⟨v, h1, h2⟩ := s.at_ i b h; ⟨v, h1, by cases b <;> exact h2⟩, s.apart⟩
theorem St.down {F1 F H : Hp} {σ : L2.St} {ρ : Env} (s : St g F H σ ρ) (e : Same g.F0 F1) (e' : Same F1 F) : St (g.fl F1) F H σ ρ := ⟨s.gr.down e e', s.len, fun i b h => let ⟨v, h1, h2⟩ := s.at_ i b h; ⟨v, h1, by cases b <;> exact h2⟩, s.apart⟩
theorem fs_for {t : Tg} {tg iter : Expr} {it : Env → Res (List D)} {body : List Stmt} (hp : PassesOwn (model X.prog X.w) X.A X.env X.xe) (hc : X.calm = true) (hi : PI X tg iter (tFI g false it)) (hg : PG X tg (tFG g t)) (hb : ∀ F0, PSs X body (tFS (g.fl F0) f))
    (hs : ∀ x, foldedSetIterable iter X.env x = pure x) : PS X (.For tg iter body [] pos) (tFS g (forV t it f)) := by
  have hb' : PSs X body (fun E σ H => ∃ F0, tFS (g.fl F0) f E σ H) := ⟨fun pins s σ H E I ⟨F0, w⟩ => (hb F0).run pins s σ H E I w⟩
  refine PS.imp (ps_for hp hc hi hg hb' hs) fun E σ H ⟨F, ρ, s, p⟩ => ⟨F, ρ, s, ?_⟩
  unfold forV at p
  cases e : it ρ with
  | exc c =>
    rw [e] at p
    exact fun F' H' g1 => p σ F' H' (s.grow g1)
  | bad =>
    rw [e] at p
    exact p
  | ok ds =>
    rw [e] at p
    intro F1 H1 J g1 ok
    refine ⟨fun i m σ' H' => m = ds.length - i ∧ i ≤ ds.length ∧ ∃ F' ρ', St g F' H' σ' ρ' ∧ PP g false F1 H1 F' H' ∧ PostS g E (loopF t f (ds.drop i) ρ'), ⟨_, rfl, Nat.zero_le _, F1, ρ, s.grow g1, ⟨Same.refl _, g1.sub, (s.gr.trans g1).hh, (fun z => by cases z)⟩, p⟩, ?_⟩
    rintro i m σ' H' ⟨rfl, hle, F', ρ', s', pp, q⟩
    by_cases hlt : i < ds.length
    · refine .inr ⟨ok.go i F' H' pp hlt, fun σ2 H2 => ∃ F2 ρ2, St g F2 H2 σ2 ρ2 ∧ PP g false F1 H1 F2 H2 ∧ PostS g E (loopF t f (ds.drop (i + 1)) ρ2), fun σ2 H2 ⟨F2, ρ2, s2, p2, q2⟩ => ⟨_, ?_, rfl, hlt, F2, ρ2, s2, p2, q2⟩, fun x H2 hy => ?_⟩
      · omega
      · have hd : ds[i]? = some ds[i] := List.getElem?_eq_getElem hlt
        obtain ⟨F2, g2, r2⟩ := ok.yld i F' H' x H2 _ pp hd hy
        have s2 := s'.grow g2
        rw [List.drop_eq_getElem_cons hlt] at q
        unfold loopF at q
        split at q
        · exact q.elim
        · rename_i ρ1 hb1
          have e01 : Same g.F0 F1 := s.gr.fh.trans g1.fh
          have a1 : Grow g.F0 g.G0 F1 H1 := s.gr.trans g1
          refine ⟨F2, ρ', _, ρ1, s2, r2, hb1, fun σ3 s3 _ => ⟨F1, F2, ρ1, s3.down e01 (pp.1.trans g2.fh), ?_⟩⟩
          cases eb : f ρ1 with
          | nx ρ2 =>
            rw [eb] at q
            exact fun σ4 F4 H4 s4 => ⟨F4, ρ2, s4.up a1, ⟨s4.gr.fh, s4.sub, s4.gr.hh, fun z => by cases z⟩, q⟩
          | ct ρ2 =>
            rw [eb] at q
            exact fun σ4 F4 H4 s4 => ⟨F4, ρ2, s4.up a1, ⟨s4.gr.fh, s4.sub, s4.gr.hh, fun z => by cases z⟩, q⟩
          | bk ρ2 =>
            rw [eb] at q
            exact fun σ4 F4 H4 s4 => q σ4 F4 H4 (s4.up a1)
          | rt b =>
            rw [eb] at q
            exact fun v F4 H4 g4 r4 => q v F4 H4 (a1.up g4) (by cases b <;> exact r4)
          | exc c ρ2 =>
            rw [eb] at q
            exact fun σ4 F4 H4 s4 => q σ4 F4 H4 (s4.up a1)
          | bad =>
            rw [eb] at q
            exact q
    · have he : i = ds.length := by omega
      subst he
      rw [List.drop_length] at q
      exact .inl ⟨ok.stop _ F' H' pp (Nat.le_refl _), q _ _ _ s'⟩
end
end Fn
namespace Fn
open PySem PySem.Spec PyProof.Rows L2
open L2H (RoomH PinOk cxH inv_startH)
/-! ### defs that are called where an error p is handled: p stands still meanwhile -/
/-- what such a def promises, for each p -/
structure FnP (P : Program) (w : World) (K : PySem.W.Frag) (mg : Str → Option Value) (base : Heap) (k : Nat) (f : Addr) (fd : FuncData) (ps : List Str) (sp : Option (Addr × Obj) → Sp) : Prop where
  len : ∀ p vs H Q E, sp p vs H Q E → vs.length = ps.length
  run : ∀ (p : Addr × Obj) (A : Around) (outer : List PySem.Env) (s : Shared) (H : Hp) (args : Args) (us : List Value) (vs : List V) (Q : VK) (E : XK), RoomH k A → PinOk outer H s p → Env0 P w K mg base A outer s H → BindsTo s fd args (ps.zip us) → Vals vs us → sp (some p) vs H Q E →
    codeAny (model P w) A (.call (.ref f) args) (CR (L2.CX P w) outer P w H s Q E) s
theorem FnP.mono {P : Program} {w : World} {K : PySem.W.Frag} {mg : Str → Option Value} {base : Heap} {j k : Nat} {f : Addr} {fd : FuncData} {ps : List Str} {sp : Option (Addr × Obj) → Sp} (F : FnP P w K mg base j f fd ps sp) (h : j ≤ k) : FnP P w K mg base k f fd ps sp :=
  ⟨F.len, fun p A outer s H args us vs Q E hr => F.run p A outer s H args us vs Q E (hr.mono h)⟩
/-- the rule for such a def -/
theorem fnP_of {P : Program} {w : World} {K : PySem.W.Frag} {mg : Str → Option Value} {base : Heap} {x qual : Str} {st : Stmt} {f : Addr} {fd : FuncData} {N ps : List Str} {k : Nat} {sp : Option (Addr × Obj) → Sp} (F : Fun K x qual st f fd) (S : FnScope N ps (defScope st)) (len : ∀ p vs H Q E, sp p vs H Q E → vs.length = ps.length)
    (hbody : ∀ (p : Addr × Obj) (cdv : Value) (A : Around) (outer : List PySem.Env) (s : Shared) (H : Hp) (vs : List V) (Q : VK) (E : XK), RoomH k (A.deeper (envOfC qual (defScope st) s.heap.objs.size f cdv)) → sp (some p) vs H Q E →
      ∃ t, PSs (cxH (L2.CX P w) P w K mg base N qual (defScope st) f cdv A outer s H E p) (defBody st) t ∧ t { nx := fun _ H' => Q .non H', rt := Q } (L2.start N vs) H) : FnP P w K mg base (k + 1) f fd ps sp := by
  obtain ⟨oc, od, kV, doc, pm, an, cdv, ct, osl, rfl, lk, hcd⟩ := F.ex
  refine ⟨len, fun p A outer s H args us vs Q E hr hpin e0 hb r hsp => ?_⟩
  have start : ∀ b o, K.lookup b = some o → s.heap.get? b = some o := e0.mod.kin.keeps fun b o e => (e0.bs b o e).1
  have kinds : ∀ y ∈ ps.zip us, (defScope st).names.lookup y.1 = some .local ∨ ((defScope st).names.lookup y.1 = some .cell ∧ ((cellsFrom (s.heap.objs.size + 1) (defScope st).names []).lookup y.1).isSome = true) := by
    rintro ⟨n, v⟩ hy
    cases S.par n (List.of_mem_zip hy).1 with
    | inl q => exact .inl q
    | inr q => exact .inr ⟨q, PySem.W.cellsFrom_some _ _ _ (.inl q)⟩
  refine codeAny_call_function hr.depth (start _ _ lk) rfl S.co S.gen rfl (PySem.W.codeRec_of start hcd) (hb _ _ _ _ ?_)
  refine wpAny_newFunctionEnv_cells S.kind kinds fun env he s1 c => ?_
  subst he
  refine ⟨(e0.mod.nolimit.keeps fun b o e => (e0.bs b o e).1).keeps c.toInCall.keep, codeAny_func ?_⟩
  obtain ⟨t, ht, hq⟩ := hbody p cdv A outer s H vs Q E (hr.deeper _) hsp
  refine wpAny_mono (ht.run [] s1 (L2.start N vs) H _ (inv_startH S hpin e0 (len _ _ _ _ _ hsp) r c) hq) (fun fl s' out => ?_) fun _ _ z => z
  cases fl with
  | ret u =>
    obtain ⟨v, σ', H', J, rv, q⟩ := out
    exact ⟨v, H', J.os, J.bare, J.base, J.hok, rv, q⟩
  | next =>
    obtain ⟨σ', H', J, q⟩ := out
    exact ⟨.non, H', J.os, J.bare, J.base, J.hok, rfl, q⟩
  | brk =>
    obtain ⟨_, _, _, q⟩ := out
    exact q.elim
  | cont =>
    obtain ⟨_, _, _, q⟩ := out
    exact q.elim
section
variable {X : Cx} {k : Nat} {f : Addr} {fd : FuncData} {ps : List Str} {sp : Option (Addr × Obj) → Sp} {E : L2.St → XK} {x : Str} {q pos : Pos} {e : Expr} {es : List Expr} {t : TA}
/-- its call -/
theorem pe_callP (F : FnP X.prog X.w X.K X.mg X.base k f fd ps sp) {p : Addr × Obj} (hp : p ∈ X.pn) (hr : RoomH k X.A) (hg : Gl X x) (hm : X.mg x = some (.ref f)) (hk : PySem.W.keepIn X.K (.ref f) = true) (hb : Binds X.K fd ps []) (hx : ∀ σ, PassesAt (L2.CX X.prog X.w) X σ (E σ))
    (ha : PA X (e :: es) t) (hdb : (x == ("__debug__" : Str)) = false) (he : starEach (e :: es) X.env = (false, eval e X.env) :: starEach es X.env) (hpl : (backTo pos (starEach es X.env)).any (·.1) = false) :
    PE X (.Call (.Name x q) (e :: es) [] pos) (tCallS (sp (some p)) E t) := by
  refine ⟨fun pins s σ H Q I h => wpAny_Call_Name_kw (ld_glob I hg hm ?_ hdb)⟩
  refine PySem.W.callWith_K (h₀ := X.base) I.ok.mod.kin hk (thn (ha.run pos pins s σ H _ I h) fun us s1 ⟨vs, H1, I1, r, w⟩ => ⟨I1.kIn, ?_⟩) he hpl
  have b := hb s1 us I1.kIn (by rw [List.append_nil, ← r.length]; exact F.len _ _ _ _ _ w)
  rw [List.append_nil] at b
  obtain ⟨p1, p2, p3, p4, p5⟩ := I1.pin p (List.mem_append_left _ hp)
  have hpin : PinOk X.stack H1 s1 p := ⟨p1, p2, fun hm => (List.mem_cons.mp (I1.stkSub p.1 hm)).elim p3 p4, p5⟩
  refine wpAny_call (codeAny_mono (F.run p X.A X.stack s1 H1 ⟨us, []⟩ us vs Q (E σ) hr hpin I1.env0 b r w) fun o s' out => ?_)
  cases o with
  | error u => exact hx σ pins H1 s1 u s' I1 out
  | ok fl =>
    cases fl with
    | ret u => exact I1.after out
    | next => exact False.elim out
    | brk => exact False.elim out
    | cont => exact False.elim out
/-- isinstance of the error that stands still -/
theorem isE_run {p : Addr × Obj} {D : Addr} (hp : p ∈ X.pn) (C : ExcC X.K D) (hz : Zc (.ref D) none p.2) (hf : ∃ vs, p.2.data = .fields vs) {pins : List (Addr × Obj)} {s : Shared} {σ : L2.St} {H : Hp} (I : Inv X pins σ H s) : PySem.W.InstAt s.heap p.1 p.2 D none := by
  obtain ⟨a, oc, od, oda, osl⟩ := p
  obtain ⟨vs, hv⟩ := hf
  obtain ⟨h1, h2⟩ := hz
  dsimp only at h1 h2 hv
  subst h1 h2 hv
  exact ⟨(I.pin _ (List.mem_append_left _ hp)).1, rfl, rfl, trivial⟩
def rIsP (K : PySem.W.Frag) (D a : Addr) : List V → Hp → VK → Prop := fun xs H Q => ∃ (c : V) (cv : Value) (b : Bool), xs = [.ref a, c] ∧ ClsV c cv ∧ PySem.W.kitOne K (.ref D) cv = some b ∧ Q (.bl b) H
theorem call_isP {p : Addr × Obj} {D : Addr} (hp : p ∈ X.pn) (C : ExcC X.K D) (hz : Zc (.ref D) none p.2) (hf : ∃ vs, p.2.data = .fields vs) : CallR X (.builtin "isinstance") (rIsP X.K D p.1) := by
  intro pins s σ H xs us Q I r h
  obtain ⟨c, cv, b, rfl, hcv, e, q⟩ := h
  obtain ⟨u1, u2, rfl, r1, r2⟩ := vals2 r
  have e2 := hcv.eq r2
  subst e2
  obtain rfl : u1 = Value.ref p.1 := r1
  exact PySem.W.kia_one (PySem.W.handS_kitx_exc C.hg C.hk C.hs C.hd C.ha C.hn C.ht C.hm) I.kIn (isE_run hp C hz hf I) e (fun z => nomatch z) fun tk => ⟨.bl b, H, I.tok tk, rfl, q⟩
def rIsPT (K : PySem.W.Frag) (D a : Addr) : List V → Hp → VK → Prop := fun xs H Q => ∃ (tp : Addr) (cs : List V) (us : List Value) (b : Bool), xs = [.ref a, .ref tp] ∧ H tp = some (.tup cs) ∧ Paired ClsV cs us ∧ PySem.W.kitAny K (.ref D) us = some b ∧ Q (.bl b) H
theorem call_isPT {p : Addr × Obj} {D : Addr} (hp : p ∈ X.pn) (C : ExcC X.K D) (hz : Zc (.ref D) none p.2) (hf : ∃ vs, p.2.data = .fields vs) : CallR X (.builtin "isinstance") (rIsPT X.K D p.1) := by
  intro pins s σ H xs us Q I r h
  obtain ⟨tp, cs, ws, b, rfl, hT, k, e, q⟩ := h
  obtain ⟨u1, u2, rfl, r1, r2⟩ := vals2 r
  obtain rfl : u1 = Value.ref p.1 := r1
  cases (show u2 = Value.ref tp from r2)
  obtain ⟨_, its, rv, o, h1, h2, n, h3⟩ := (show ObjOk X.prog X.w H s.heap tp (.tup cs) from I.hok tp _ hT)
  have e3 := ClsV.all k rv
  subst e3
  obtain ⟨oc, od, dt, sl⟩ := o
  simp only at h2 h3
  subst h2 h3
  exact PySem.W.kia_tup (PySem.W.handS_kitx_exc C.hg C.hk C.hs C.hd C.ha C.hn C.ht C.hm) I.kIn (isE_run hp C hz hf I) h1 e (fun z => nomatch z) fun tk => ⟨.bl b, H, I.tok tk, rfl, q⟩
end
end Fn
namespace Fn
open PySem PySem.Spec PyProof.Rows L2
/-! ### what a body's context gives -/
/-- names that the text reads beside its defs: builtins, and constants of the top with their values -/
structure Bt where
  bi : List Str
  cs : List (Str × D)
  /-- is an error handled here? the classes of errors by number (0 is above all), those that are raised, the defs that are called where an error is handled -/
  hot : Bool := false
  ex : List Str := []
  rs : List Nat := []
  hs : List En := []
structure BiOk (K : PySem.W.Frag) (fa : Nat → Option Addr) (mg : Str → Option Value) (bt : Bt) : Prop where
  bi : ∀ x ∈ bt.bi, mg x = none
  cs : ∀ p ∈ bt.cs, ∃ v u, mg p.1 = some u ∧ RelV v u ∧ ∀ F, Rp K fa F v p.2
/-- c' is c or above it -/
def subE (c c' : Nat) : Bool := c == c' || c' == 0
abbrev veM : List Value := [.type "ValueError", .type "Exception", .type "BaseException", .type "object"]
structure ErrOk (K : PySem.W.Frag) (C : Addr) : Prop where
  xk : PySem.W.excIn K C veM "ValueError.__new__" = true
  kp : PySem.W.keepIn K (.ref C) = true
  sb : PySem.W.subIn K (.ref C) (.type "BaseException") = some true
  ty : PySem.W.typeIn K (.ref C) = some (.type "type")
  ec : ExcC K C
  ve : PySem.W.subIn K (.ref C) (.type "ValueError") = some true
  sf : PySem.W.subIn K (.ref C) (.ref C) = some true
structure ExOk (K : PySem.W.Frag) (fa : Nat → Option Addr) (cls : Nat → Value) (mg : Str → Option Value) (bt : Bt) : Prop where
  at_ : ∀ c x, bt.ex[c]? = some x → ∃ C, mg x = some (.ref C) ∧ fa (1000 + c) = some C ∧ cls c = .ref C ∧ PySem.W.subIn K (.ref C) (.type "BaseException") = some true ∧ PySem.W.isClsIn K C = true ∧ PySem.W.typeIn K (.ref C) = some (.type "type")
  rs : ∀ c ∈ bt.rs, ∃ C, fa (1000 + c) = some C ∧ cls c = .ref C ∧ ErrOk K C
  sub : ∀ c ∈ bt.rs, ∀ c' C C', c' < bt.ex.length → fa (1000 + c) = some C → fa (1000 + c') = some C' → PySem.W.subIn K (.ref C) (.ref C') = some (subE c c')
structure HotOk (P : Program) (w : World) (K : PySem.W.Frag) (mg : Str → Option Value) (base : Heap) (fa : Nat → Option Addr) (cls : Nat → Value) (lv : Nat) (hs : List En) : Prop where
  at_ : ∀ (k : Nat) (en : En), hs[k]? = some en → ∃ f fd ps, mg en.name = some (.ref f) ∧ PySem.W.keepIn K (.ref f) = true ∧ Binds K fd ps [] ∧ FnP P w K mg base lv f fd ps (spP K fa cls en.n en.F)
theorem HotOk.mono {P : Program} {w : World} {K : PySem.W.Frag} {mg : Str → Option Value} {base : Heap} {fa : Nat → Option Addr} {cls : Nat → Value} {lv lv' : Nat} {hs : List En} (h : HotOk P w K mg base fa cls lv hs) (e : lv ≤ lv') : HotOk P w K mg base fa cls lv' hs :=
  ⟨fun k en q => let ⟨f, fd, ps, a, b, c, d⟩ := h.at_ k en q; ⟨f, fd, ps, a, b, c, d.mono e⟩⟩
theorem HotOk.nil {P : Program} {w : World} {K : PySem.W.Frag} {mg : Str → Option Value} {base : Heap} {fa : Nat → Option Addr} {cls : Nat → Value} {lv : Nat} : HotOk P w K mg base fa cls lv [] := ⟨fun k en q => by cases q⟩
/-- one more -/
theorem HotOk.snoc {P : Program} {w : World} {K : PySem.W.Frag} {mg : Str → Option Value} {base : Heap} {fa : Nat → Option Addr} {cls : Nat → Value} {lv : Nat} {hs : List En} (h : HotOk P w K mg base fa cls lv hs) {en : En} {f : Addr} {fd : FuncData} {ps : List Str} (hm : mg en.name = some (.ref f)) (hk : PySem.W.keepIn K (.ref f) = true) (hb : Binds K fd ps [])
    (F : FnP P w K mg base lv f fd ps (spP K fa cls en.n en.F)) : HotOk P w K mg base fa cls lv (hs ++ [en]) := ⟨fun k en' q => by
  by_cases hl : k < hs.length
  · rw [List.getElem?_append_left hl] at q
    exact h.at_ k en' q
  · rw [List.getElem?_append_right (Nat.le_of_not_lt hl)] at q
    cases z : k - hs.length with
    | zero => rw [z] at q; cases q; exact ⟨f, fd, ps, hm, hk, hb, F⟩
    | succ m => rw [z] at q; cases q⟩
structure CT (X : Cx) (g : G) (cls : Nat → Value) (k : Nat) (tab : List En) (N : List Str) (sc : Scope) (bt : Bt) : Prop where
  hK : g.K = X.K
  calm : bt.hot = false → X.calm = true
  hN : X.N = N
  nd : N.Nodup
  hS : X.env.scope = sc
  room : L2H.RoomH k X.A
  tab : TabOk X g.fa cls k tab
  pz : Pz X g cls
  bi : BiOk X.K g.fa X.mg bt
  hd : bt.hot = false → X.A.handled = none
  nh : bt.hot = false → g.h = none
  ph : ∀ p, g.h = some p → p ∈ X.pn
  eh : bt.hot = true → ∃ q, g.h = some q
  ex : ExOk X.K g.fa cls X.mg bt
  hs : HotOk X.prog X.w X.K X.mg X.base g.fa cls k bt.hs
def nmOk (x : Str) : Bool := !(x == ("__debug__" : Str)) && !(x == ("__classdict__" : Str)) && !(x == ("__name__" : Str))
def visC (sc : Scope) (x : Str) : Bool := match sc.names.lookup x with
  | some .local => true
  | some .cell => true
  | some .free => true
  | _ => false
def vOk (N : List Str) (sc : Scope) (i : Nat) (x : Str) : Bool := decide (N[i]? = some x) && visC sc x && nmOk x
def lOk (N : List Str) (sc : Scope) (i : Nat) (x : Str) : Bool := decide (N[i]? = some x) && decide (sc.names.lookup x = some .local)
def gOk (sc : Scope) (bt : Bt) (x : Str) : Bool := decide (sc.names.lookup x = some .globalImplicit) && decide (x ∈ bt.bi)
def dOk (sc : Scope) (x : Str) : Bool := decide (sc.names.lookup x = some .globalImplicit) && nmOk x
theorem nmOk_ok {x : Str} (h : nmOk x = true) : (x == ("__debug__" : Str)) = false ∧ (x == ("__classdict__" : Str)) = false ∧ (x == ("__name__" : Str)) = false := by
  unfold nmOk at h
  simp only [Bool.and_eq_true, Bool.not_eq_true'] at h
  exact ⟨h.1.1, h.1.2, h.2⟩
theorem visC_ok {sc : Scope} {x : Str} (h : visC sc x = true) : Vis sc x := by
  unfold visC at h
  split at h
  · rename_i e; exact .inl e
  · rename_i e; exact .inr (.inl e)
  · rename_i e; exact .inr (.inr e)
  · cases h
section
variable {X : Cx} {g : G} {cls : Nat → Value} {k : Nat} {tab : List En} {N : List Str} {sc : Scope} {bt : Bt} {a b c : Expr} {pos : Pos} {fa fb fc : Env → Res B}
theorem CT.fl (C : CT X g cls k tab N sc bt) (F0 : Hp) : CT X (g.fl F0) cls k tab N sc bt := ⟨C.hK, C.calm, C.hN, C.nd, C.hS, C.room, C.tab, C.pz, C.bi, C.hd, C.nh, C.ph, C.eh, C.ex, C.hs⟩
theorem CT.hu (C : CT X g cls k tab N sc bt) : X.A.units + 200 < cLine := by have := C.room.un; omega
theorem CT.gl (C : CT X g cls k tab N sc bt) {x : Str} (h : sc.names.lookup x = some .globalImplicit) : Gl X x := by
  show X.env.scope.names.lookup x = _
  rw [C.hS]
  exact h
theorem CT.bl (C : CT X g cls k tab N sc bt) {x : Str} (h : gOk sc bt x = true) : Gl X x ∧ X.mg x = none := by
  unfold gOk at h
  rw [Bool.and_eq_true, decide_eq_true_eq, decide_eq_true_eq] at h
  exact ⟨C.gl h.1, C.bi.bi x h.2⟩
theorem CT.vo (C : CT X g cls k tab N sc bt) {i : Nat} {x : Str} (h : vOk N sc i x = true) : X.N[i]? = some x ∧ Vis X.env.scope x ∧ (x == ("__debug__" : Str)) = false ∧ (x == ("__classdict__" : Str)) = false := by
  unfold vOk at h
  simp only [Bool.and_eq_true, decide_eq_true_eq] at h
  obtain ⟨⟨h1, h2⟩, h3⟩ := h
  exact ⟨by rw [C.hN]; exact h1, by rw [C.hS]; exact visC_ok h2, (nmOk_ok h3).1, (nmOk_ok h3).2.1⟩
theorem CT.lo (C : CT X g cls k tab N sc bt) {i : Nat} {x : Str} (h : lOk N sc i x = true) : X.N[i]? = some x ∧ X.env.scope.names.lookup x = some .local := by
  unfold lOk at h
  simp only [Bool.and_eq_true, decide_eq_true_eq] at h
  exact ⟨by rw [C.hN]; exact h.1, by rw [C.hS]; exact h.2⟩
theorem CT.nd' (C : CT X g cls k tab N sc bt) : X.N.Nodup := by rw [C.hN]; exact C.nd
theorem CT.var (C : CT X g cls k tab N sc bt) (i : Nat) {x : Str} (h : vOk N sc i x = true) : PE X (.Name x pos) (tF g (varB i)) := by
  obtain ⟨h1, h2, h3, h4⟩ := C.vo h
  exact PE.imp (pe_var h1 h2 h3 h4) fun _ _ _ q => var_run q
theorem fe_int {i : Int} {j} : PE X (.Constant (.int i) j pos) (tF g fun _ => .ok (.dat (.int i))) := PE.imp pe_int fun _ _ _ q => con_run (fun _ => .int i) q
theorem fe_bl {i : Bool} {j} : PE X (.Constant (.bool i) j pos) (tF g fun _ => .ok (.dat (.bl i))) := PE.imp pe_bl fun _ _ _ q => con_run (fun _ => .bl i) q
theorem fe_str {i : Str} {j} : PE X (.Constant (.str i) j pos) (tF g fun _ => .ok (.dat (.str i))) := PE.imp pe_str fun _ _ _ q => con_run (fun _ => .str i) q
theorem fe_non {j} : PE X (.Constant .none j pos) (tF g fun _ => .ok (.dat .non)) := PE.imp pe_non fun _ _ _ q => con_run (fun _ => .non) q
theorem CT.con (C : CT X g cls k tab N sc bt) (j : Nat) {x : Str} {d : D} (h : bt.cs[j]? = some (x, d)) (hg : dOk sc x = true) : PE X (.Name x pos) (tF g fun _ => .ok (.dat d)) := by
  unfold dOk at hg
  rw [Bool.and_eq_true, decide_eq_true_eq] at hg
  obtain ⟨v, u, h1, h2, h3⟩ := C.bi.cs (x, d) (List.mem_of_getElem? h)
  exact PE.imp (pe_glob (v := v) (C.gl hg.1) h1 h2 (nmOk_ok hg.2).1) fun _ _ _ q => con_run (fun F => by rw [C.hK]; exact h3 F) q
/-! operators -/
theorem CT.add (C : CT X g cls k tab N sc bt) (ha : PE X a (tF g fa)) (hb : PE X b (tF g fb)) : PE X (.BinOp a .Add b pos) (tF g (bin2 addB fa fb)) := fe_bin op_addF (g_add C.hK) ha hb
theorem CT.sub (C : CT X g cls k tab N sc bt) (ha : PE X a (tF g fa)) (hb : PE X b (tF g fb)) : PE X (.BinOp a .Sub b pos) (tF g (bin2 subB fa fb)) := fe_bin op_sub g_sub ha hb
theorem CT.mul (C : CT X g cls k tab N sc bt) (ha : PE X a (tF g fa)) (hb : PE X b (tF g fb)) : PE X (.BinOp a .Mult b pos) (tF g (bin2 mulB fa fb)) := fe_bin op_mulF g_mul ha hb
theorem CT.div (C : CT X g cls k tab N sc bt) (ha : PE X a (tF g fa)) (hb : PE X b (tF g fb)) : PE X (.BinOp a .FloorDiv b pos) (tF g (bin2 divB fa fb)) := fe_bin op_fdivG g_div ha hb
theorem CT.mod (C : CT X g cls k tab N sc bt) (ha : PE X a (tF g fa)) (hb : PE X b (tF g fb)) : PE X (.BinOp a .Mod b pos) (tF g (bin2 modB fa fb)) := fe_bin op_modG g_mod ha hb
theorem CT.shl (C : CT X g cls k tab N sc bt) (ha : PE X a (tF g fa)) (hb : PE X b (tF g fb)) : PE X (.BinOp a .LShift b pos) (tF g (bin2 shlB fa fb)) := fe_bin op_shl g_shl ha hb
theorem CT.shr (C : CT X g cls k tab N sc bt) (ha : PE X a (tF g fa)) (hb : PE X b (tF g fb)) : PE X (.BinOp a .RShift b pos) (tF g (bin2 shrB fa fb)) := fe_bin op_shr g_shr ha hb
theorem CT.band (C : CT X g cls k tab N sc bt) (ha : PE X a (tF g fa)) (hb : PE X b (tF g fb)) : PE X (.BinOp a .BitAnd b pos) (tF g (bin2 andB fa fb)) := fe_bin op_and g_and ha hb
theorem CT.pow (C : CT X g cls k tab N sc bt) (ha : PE X a (tF g fa)) (hb : PE X b (tF g fb)) : PE X (.BinOp a .Pow b pos) (tF g (bin2 powB fa fb)) := fe_bin op_pow g_pow ha hb
/-- a compare, as a pair of rule and reading -/
structure CmpW (X : Cx) (g : G) (op : CmpOp) (f : B → B → Res B) : Prop where
  ex : ∃ r, OpR X (compareOp op) r ∧ OpG g r f
theorem CT.hu64 (C : CT X g cls k tab N sc bt) : X.A.units + 64 < cLine := by have := C.hu; omega
theorem CT.hu100 (C : CT X g cls k tab N sc bt) : X.A.units + 100 < cLine := by have := C.hu; omega
theorem CT.hu1 (C : CT X g cls k tab N sc bt) : X.A.units + 1 < cLine := by have := C.hu; omega
def leF : B → B → Res B := cmpI fun i j => decide (i ≤ j)
def gtF : B → B → Res B := cmpI fun i j => decide (j < i)
def geF : B → B → Res B := cmpI fun i j => decide (j ≤ i)
theorem CT.eq (C : CT X g cls k tab N sc bt) : CmpW X g .Eq eqB := ⟨_, op_eqD C.hu64, g_eq C.hK⟩
theorem CT.ne (C : CT X g cls k tab N sc bt) : CmpW X g .NotEq neB := ⟨_, op_neD C.hu64, g_ne C.hK⟩
theorem CT.lt (C : CT X g cls k tab N sc bt) : CmpW X g .Lt ltB := ⟨_, op_ltF C.hu64, g_lt C.hK⟩
theorem CT.le (C : CT X g cls k tab N sc bt) : CmpW X g .LtE leF := ⟨_, op_le, g_cmpI⟩
theorem CT.gt (C : CT X g cls k tab N sc bt) : CmpW X g .Gt gtF := ⟨_, op_gt, g_cmpI⟩
theorem CT.ge (C : CT X g cls k tab N sc bt) : CmpW X g .GtE geF := ⟨_, op_ge, g_cmpI⟩
theorem CT.is (C : CT X g cls k tab N sc bt) : CmpW X g .Is (isB false) := ⟨_, op_isF, g_is⟩
theorem CT.isn (C : CT X g cls k tab N sc bt) : CmpW X g .IsNot (isB true) := ⟨_, op_isNotF, g_isNot⟩
theorem CT.inn (C : CT X g cls k tab N sc bt) : CmpW X g .In (inB false) := ⟨_, op_inF C.hu100, g_in C.hK⟩
theorem CT.nin (C : CT X g cls k tab N sc bt) : CmpW X g .NotIn (inB true) := ⟨_, op_notInF C.hu100, g_in C.hK⟩
theorem cmpE {op : CmpOp} {f : B → B → Res B} (w : CmpW X g op f) (ha : PE X a (tF g fa)) (hb : PE X b (tF g fb)) (hm : nset b = true) : PE X (.Compare a [op] [b] pos) (tF g (bin2 f fa fb)) := by
  obtain ⟨r, h1, h2⟩ := w.ex
  exact fe_cmp h1 h2 ha hb (nset_mark hm)
theorem cmpT {op : CmpOp} {f : B → B → Res B} (w : CmpW X g op f) (ha : PE X a (tF g fa)) (hb : PE X b (tF g fb)) (hm : nset b = true) : PT X (.Compare a [op] [b] pos) (tFT g fun ρ => (bin2 f fa fb ρ).bind tstB) := by
  obtain ⟨r, h1, h2⟩ := w.ex
  exact ft_cmp h1 h2 ha hb (nset_mark hm)
theorem chainE {op op' : CmpOp} {f f' : B → B → Res B} (w : CmpW X g op f) (w' : CmpW X g op' f') (ha : PE X a (tF g fa)) (hb : PE X b (tF g fb)) (hc : PE X c (tF g fc)) (hm : nset c = true) : PE X (.Compare a [op, op'] [b, c] pos) (tF g (chn f f' fa fb fc)) := by
  obtain ⟨r, h1, h2⟩ := w.ex
  obtain ⟨r', h1', h2'⟩ := w'.ex
  exact fe_chain h1 h2 h1' h2' ha hb hc hm
theorem chainT {op op' : CmpOp} {f f' : B → B → Res B} (w : CmpW X g op f) (w' : CmpW X g op' f') (ha : PE X a (tF g fa)) (hb : PE X b (tF g fb)) (hc : PE X c (tF g fc)) (hm : nset c = true) : PT X (.Compare a [op, op'] [b, c] pos) (tFT g fun ρ => (chn f f' fa fb fc ρ).bind tstB) := by
  obtain ⟨r, h1, h2⟩ := w.ex
  obtain ⟨r', h1', h2'⟩ := w'.ex
  exact ft_chain h1 h2 h1' h2' ha hb hc hm
theorem CT.val (C : CT X g cls k tab N sc bt) (ha : PE X a (tF g fa)) (hp : plainT a = true) : PT X a (tFT g (testV fa)) := ft_val C.hK hp ha
theorem CT.idx (C : CT X g cls k tab N sc bt) (ha : PE X a (tF g fa)) (hb : PE X b (tF g fb)) (hp : nsl b = true) : PE X (.Subscript a b pos) (tF g (bin2 idxB fa fb)) := fe_idx C.hu100 C.hK (nsl_ix hp) ha hb
theorem CT.slc (C : CT X g cls k tab N sc bt) {lo hi : Option Expr} {fl fh : Env → Res (Option Int)} {p2 : Pos} (ha : PE X a (tF g fa)) (hl : PO X lo (tFO g fl)) (hh : PO X hi (tFO g fh)) : PE X (.Subscript a (.Slice lo hi none p2) pos) (tF g (slcV fa fl fh)) := fe_slice C.hK ha hl hh
/-! builtins -/
variable {x : Str} {p : Pos} {e : Expr} {es : List Expr} {fs : Env → Res (List B)}
/-- a builtin, with what it reads as -/
structure BiW (X : Cx) (g : G) (x : Str) (f : List B → Res B) : Prop where
  ex : (∃ id r, CallR X (.builtin id) r ∧ bootBuiltins x = some (.builtin id) ∧ CallG g r f) ∨ ∃ T r, CallR X (.type T) r ∧ bootBuiltins x = some (.type T) ∧ CallG g r f
theorem CT.len (C : CT X g cls k tab N sc bt) : BiW X g "len" lenB := ⟨.inl ⟨_, _, c_len, PySem.boot_len, g_len C.hK⟩⟩
theorem CT.call (C : CT X g cls k tab N sc bt) {f : List B → Res B} (w : BiW X g x f) (ha : PA X (e :: es) (tFA g fs)) (hg : gOk sc bt x = true) (hn : nmOk x = true) (hst : (e :: es).all nst = true) : PE X (.Call (.Name x p) (e :: es) [] pos) (tF g fun ρ => (fs ρ).bind f) := by
  obtain ⟨h1, h2⟩ := C.bl hg
  obtain ⟨n1, _, n2⟩ := nmOk_ok hn
  have n3 : x ≠ "__name__" := fun z => by rw [z] at n2; revert n2; decide
  rcases w.ex with ⟨id, r, c1, c2, c3⟩ | ⟨T, r, c1, c2, c3⟩
  · exact fe_callB c1 h1 h2 c2 c3 ha n3 n1 hst
  · exact fe_callTy c1 h1 h2 c2 c3 ha n3 n1 hst
theorem CT.own (C : CT X g cls k tab N sc bt) (j : Nat) {en : En} (ha : PA X (e :: es) (tFA g fs)) (hk : tab[j]? = some en) (hx : x = en.name) (hg : dOk sc x = true) (hst : (e :: es).all nst = true) (hh : bt.hot = false := by rfl) : PE X (.Call (.Name x p) (e :: es) [] pos) (tF g fun ρ => (fs ρ).bind fun bs => (lenA en.n bs).bind (callV en)) := by
  unfold dOk at hg
  rw [Bool.and_eq_true, decide_eq_true_eq] at hg
  exact fe_call (C.nh hh) C.tab ⟨C.hd hh, C.room.dp, C.room.un⟩ C.pz hk hx C.hK (C.gl hg.1) ha (nmOk_ok hg.2).1 hst
theorem CT.isi (C : CT X g cls k tab N sc bt) (t : Ty) {p2 : Pos} (ha : PE X a (tF g fa)) (hx : x = Str.ofString t.nm) (h1 : gOk sc bt "isinstance" = true) (h2 : gOk sc bt x = true) (hb : bootBuiltins x = some (.type t.nm)) (hn : nst a = true) :
    PE X (.Call (.Name "isinstance" p) [a, .Name x p2] [] pos) (tF g (one1 (isiB t) fa)) := fe_isi C.hK (C.bl h1).1 (C.bl h1).2 hx (C.bl h2).1 (C.bl h2).2 hb hn ha
/-! comprehensions -/
theorem iter_plain {iter : Expr} (h : nset iter = true) (env : PySem.Env) : ∀ x, foldedSetIterable iter env x = pure x := by
  intro x
  cases iter <;> first | rfl | cases h
theorem pass0L {X : Cx} : Passes (L2.CX X.prog X.w) X (fun _ _ _ => False) := L2.passL
theorem CT.blk (C : CT X g cls k tab N sc bt) (hh : bt.hot = false) {scope : Scope} (s : Shared) (H : Hp) (A : Addr) (cl : List (Str × Addr)) (fp : List Addr) : CT (X.blk s H scope (compEnvC scope cl A X.env) fp) g.mute cls k tab N (relS scope sc) bt :=
  ⟨C.hK, C.calm, C.hN, C.nd, by rw [← C.hS]; rfl, C.room, ⟨fun j en h => C.tab.at_ j en h⟩, ⟨fun _ _ _ _ => False, fun σ pins H s e s' I c => pass0L pins σ H s e s' I c, fun _ _ _ h => h⟩, C.bi, C.hd, C.nh, (fun p h => by rw [show g.mute.h = g.h from rfl, C.nh hh] at h; cases h), C.eh, C.ex, ⟨fun j en h => C.hs.at_ j en h⟩⟩
structure Inn (X : Cx) (g : G) (tg : Expr) (ifs : List Expr) (elt : Expr) (t : Tg) (c : Env → Res Bool) (fe : Env → Res B) : Prop where
  tg : PG X tg (tFG g t)
  ifs : PTs X ifs (tFT g c)
  elt : PE X elt (tF g fe)
def lcOk (N : List Str) (sc scope : Scope) (own : List (Str × Nat)) (t : Tg) (iter : Expr) : Bool := blkC N sc scope own && (t.slots.all fun i => decide (i ∈ own.map (·.2))) && nset iter
theorem CT.lc (C : CT X g cls k tab N sc bt) {t : Tg} {it : Env → Res (List D)} {c : Env → Res Bool} {fe : Env → Res B} {elt tg iter : Expr} {ifs : List Expr} {scope : Scope} (own : List (Str × Nat)) (hi : PI X tg iter (tFI g true it))
    (inn : ∀ {X' : Cx} {g' : G}, CT X' g' cls k tab N (relS scope sc) bt → Inn X' g' tg ifs elt t c fe) (ok : lcOk N sc scope own t iter = true) (hh : bt.hot = false := by rfl) : PE X (.ListComp elt [⟨tg, iter, ifs, 0⟩] scope pos) (tF g (compV t it c fe (own.map (·.2)))) := by
  unfold lcOk at ok
  simp only [Bool.and_eq_true, List.all_eq_true, decide_eq_true_eq] at ok
  obtain ⟨⟨h1, h2⟩, h3⟩ := ok
  exact fe_lc (C.calm hh) C.nd' hi (by rw [C.hN, C.hS]; exact blkOk_by h1) h2 (fun s H A cl fp => (inn (C.blk hh s H A cl fp)).tg) (fun s H A cl fp => (inn (C.blk hh s H A cl fp)).ifs) (fun s H A cl fp => (inn (C.blk hh s H A cl fp)).elt) (iter_plain h3 _)
theorem ifs0 : PTs X [] (tFT g fun _ => .ok true) := ⟨fun pins s σ H Q I ⟨F, ρ, st, q⟩ => pts_nil.run pins s σ H Q I (q F H (Grow.refl st.sub))⟩
theorem ifs1 {t : Env → Res Bool} (h : PT X a (tFT g t)) : PTs X [a] (tFT g t) := pts_one h
theorem CT.g1 (C : CT X g cls k tab N sc bt) (i : Nat) (h : lOk N sc i x = true) : PG X (.Name x pos) (tFG g (.one i)) := fg_one C.nd' (C.lo h).1 (.inl (C.lo h).2) (.inr (C.lo h).2)
def namesOf : List Expr → Option (List Str)
  | [] => some []
  | .Name x _ :: r => (namesOf r).map (x :: ·)
  | _ => none
theorem CT.gs (C : CT X g cls k tab N sc bt) : ∀ (is : List Nat) (es : List Expr) (xs : List Str), namesOf es = some xs → xs.length = is.length → ((is.zip xs).all fun p => lOk N sc p.1 p.2) = true →
    PGs X es (gPut is) ∧ (assignEach es X.env).length = is.length ∧ (assignEach es X.env).findIdx? (·.1) = none
  | [], [], [], _, _, _ => ⟨pgs_nil, rfl, rfl⟩
  | i :: is, .Name x p :: es, xs, h, hl, ha => by
    unfold namesOf at h
    cases e : namesOf es with
    | none => rw [e] at h; cases h
    | some ys =>
      rw [e] at h
      cases h
      simp only [List.zip_cons_cons, List.all_cons, Bool.and_eq_true] at ha
      obtain ⟨q1, q2, q3⟩ := C.gs is es ys e (by simpa using hl) ha.2
      refine ⟨pgs_cons (pg_name C.nd' (C.lo ha.1).1 (.inl (C.lo ha.1).2) (.inr (C.lo ha.1).2)) q1, ?_, ?_⟩
      · show (_ :: assignEach es X.env).length = _
        rw [List.length_cons, q2, List.length_cons]
      · show List.findIdx? _ ((false, _) :: assignEach es X.env) = none
        rw [List.findIdx?_cons, q3]
        rfl
  | [], .Name _ _ :: _, xs, h, hl, _ => by
    unfold namesOf at h
    cases e : namesOf _ with
    | none => rw [e] at h; cases h
    | some ys => rw [e] at h; cases h; cases hl
  | _ :: _, [], xs, h, hl, _ => by cases h; cases hl
def gsOk (N : List Str) (sc : Scope) (is : List Nat) (es : List Expr) : Bool := match namesOf es with
  | some xs => decide (xs.length = is.length) && (is.zip xs).all fun p => lOk N sc p.1 p.2
  | none => false
theorem CT.gm (C : CT X g cls k tab N sc bt) (is : List Nat) {n : Nat} (h : gsOk N sc is es = true) (hh : bt.hot = false := by rfl) : PG X (.Tuple es n pos) (tFG g (.many is)) := by
  unfold gsOk at h
  split at h
  · rename_i xs e
    rw [Bool.and_eq_true, decide_eq_true_eq] at h
    obtain ⟨h1, h2, h3⟩ := C.gs is es xs e h.1 h.2
    exact fg_many (C.calm hh) C.hK h1 h2 h3
  · cases h
theorem CT.it (C : CT X g cls k tab N sc bt) {lk : Bool} {tg : Expr} (ha : PE X a (tF g fa)) : PI X tg a (tFI g lk fun ρ => (fa ρ).bind fun x => itemsB lk (rd x)) := fi_seq C.hK ha
theorem CT.rg1 (C : CT X g cls k tab N sc bt) {lk : Bool} {tg : Expr} (ha : PE X a (tF g fa)) (hg : gOk sc bt "range" = true) (hn : nst a = true) : PI X tg (.Call (.Name "range" p) [a] [] pos) (tFI g lk fun ρ => (consA fa (fun _ => .ok []) ρ).bind rngA) := by
  refine fi_range1 (C.bl hg).1 (C.bl hg).2 hn (fa_cons hn ha fa_nil) fun ρ bs h => ?_
  unfold consA at h
  cases e : fa ρ with
  | ok b => rw [e] at h; cases h; rfl
  | exc c => rw [e] at h; cases h
  | bad => rw [e] at h; cases h
theorem CT.rg2 (C : CT X g cls k tab N sc bt) {lk : Bool} {tg : Expr} (ha : PE X a (tF g fa)) (hb : PE X b (tF g fb)) (hg : gOk sc bt "range" = true) (hn : nst a = true) (hn2 : nst b = true) : PI X tg (.Call (.Name "range" p) [a, b] [] pos) (tFI g lk fun ρ => (consA fa (consA fb fun _ => .ok []) ρ).bind rngA) := by
  refine fi_range2 (C.bl hg).1 (C.bl hg).2 hn hn2 (fa_cons hn ha (fa_cons hn2 hb fa_nil)) fun ρ bs h => ?_
  unfold consA at h
  cases e : fa ρ with
  | ok b =>
    rw [e] at h
    cases e2 : fb ρ with
    | ok b2 => rw [Res.ok_bind, e2] at h; cases h; rfl
    | exc c => rw [Res.ok_bind, e2] at h; cases h
    | bad => rw [Res.ok_bind, e2] at h; cases h
  | exc c => rw [e] at h; cases h
  | bad => rw [e] at h; cases h
end
end Fn
namespace Fn
open PySem PySem.Spec PyProof.Rows L2
theorem boot_abs : bootBuiltins "abs" = some (.builtin "abs") := by decide +kernel
theorem boot_any : bootBuiltins "any" = some (.builtin "any") := by decide +kernel
theorem boot_all : bootBuiltins "all" = some (.builtin "all") := by decide +kernel
theorem boot_min : bootBuiltins "min" = some (.builtin "min") := by decide +kernel
theorem boot_max : bootBuiltins "max" = some (.builtin "max") := by decide +kernel
theorem boot_sum : bootBuiltins "sum" = some (.builtin "sum") := by decide +kernel
theorem boot_sorted : bootBuiltins "sorted" = some (.builtin "sorted") := by decide +kernel
theorem boot_int : bootBuiltins "int" = some (.type "int") := by decide +kernel
theorem boot_str : bootBuiltins "str" = some (.type "str") := by decide +kernel
theorem boot_tuple : bootBuiltins "tuple" = some (.type "tuple") := by decide +kernel
theorem boot_list : bootBuiltins "list" = some (.type "list") := by decide +kernel
theorem boot_dict : bootBuiltins "dict" = some (.type "dict") := by decide +kernel
theorem boot_bool : bootBuiltins "bool" = some (.type "bool") := by decide +kernel
section
variable {X : Cx} {g : G} {cls : Nat → Value} {k : Nat} {tab : List En} {N : List Str} {sc : Scope} {bt : Bt} {a b c : Expr} {pos : Pos} {fa fb fc : Env → Res B} {f h : Env → Out} {x : Str} {e : Expr} {st : Stmt} {rest body : List Stmt}
theorem CT.abs (C : CT X g cls k tab N sc bt) : BiW X g "abs" absF := ⟨.inl ⟨_, _, call_abs, boot_abs, g_abs⟩⟩
theorem CT.min (C : CT X g cls k tab N sc bt) (hh : bt.hot = false := by rfl) : BiW X g "min" minF := ⟨.inl ⟨_, _, c_min (C.calm hh), boot_min, g_min C.hK⟩⟩
theorem CT.max (C : CT X g cls k tab N sc bt) (hh : bt.hot = false := by rfl) : BiW X g "max" maxF := ⟨.inl ⟨_, _, c_max (C.calm hh), boot_max, g_max C.hK⟩⟩
theorem CT.sum (C : CT X g cls k tab N sc bt) (hh : bt.hot = false := by rfl) : BiW X g "sum" sumF := ⟨.inl ⟨_, _, cr_sum (C.calm hh), boot_sum, g_sum C.hK⟩⟩
theorem CT.any (C : CT X g cls k tab N sc bt) (hh : bt.hot = false := by rfl) : BiW X g "any" anyF := ⟨.inl ⟨_, _, cr_any (C.calm hh), boot_any, g_any C.hK⟩⟩
theorem CT.all (C : CT X g cls k tab N sc bt) (hh : bt.hot = false := by rfl) : BiW X g "all" allF := ⟨.inl ⟨_, _, cr_all (C.calm hh), boot_all, g_all C.hK⟩⟩
theorem CT.int (C : CT X g cls k tab N sc bt) : BiW X g "int" intF := ⟨.inr ⟨_, _, call_int1, boot_int, g_int⟩⟩
theorem CT.str (C : CT X g cls k tab N sc bt) : BiW X g "str" strF := ⟨.inr ⟨_, _, call_str_int, boot_str, g_str⟩⟩
theorem CT.tup (C : CT X g cls k tab N sc bt) : BiW X g "tuple" tupF := ⟨.inr ⟨_, _, call_tuple_of, boot_tuple, g_tupF C.hK⟩⟩
theorem CT.lst (C : CT X g cls k tab N sc bt) : BiW X g "list" lstF := ⟨.inr ⟨_, _, call_list_of, boot_list, g_lstF C.hK⟩⟩
theorem CT.sort (C : CT X g cls k tab N sc bt) (hh : bt.hot = false := by rfl) : BiW X g "sorted" sortF := ⟨.inl ⟨_, _, c_sort (C.calm hh) C.hu, boot_sorted, g_sort C.hK⟩⟩
end
/-! ### statements -/
def dropS (_ : B) (ρ : Env) : Out := .nx ρ
theorem fs_expr {X : Cx} {g : G} {e : Expr} {fa : Env → Res B} {pos : Pos} (he : PE X e (tF g fa)) (hs : swapsWith e none pos.line X.env = pure false) : PS X (.Expr e pos) (tFS g (thenS fa dropS)) := by
  refine PS.imp (ps_expr he hs) fun E σ H h => ?_
  exact then_run (k := dropS) (E := E) (Q := fun _ H1 => E.nx σ H1) h fun F ρ b v F1 H1 s g1 r1 p => p σ F1 H1 (s.grow g1)
structure CS (X : Cx) (g : G) (cls : Nat → Value) (k : Nat) (tab : List En) (N : List Str) (sc : Scope) (bt : Bt) : Prop where
  ct : CT X g cls k tab N sc bt
  po : PassesOwn (model X.prog X.w) X.A X.env X.xe
  fn : ∀ x, X.fn x = true
  tk : ∃ W : WX, Takes X W ∧ ∀ c σ H, g.E c σ H → W (cls c) none σ H
  stk : X.stack = X.env :: X.outer
  frm : X.env.frame = some X.env.locals
def nlc : Expr → Bool
  | .ListComp .. => false
  | .SetComp .. => false
  | .DictComp .. => false
  | _ => true
theorem sw_no {e : Expr} {t : Option Expr} {l : Nat} {env : PySem.Env} (h : nlc e = true) : swapsWith e t l env = pure false := by
  cases e <;> first | rfl | cases h
theorem sw_sub {e : Expr} {o i : Expr} {p : Pos} {l : Nat} {env : PySem.Env} : swapsWith e (some (.Subscript o i p)) l env = pure false := by
  cases e <;> rfl
def swC (sc scope : Scope) (t : Str) (l1 l2 : Nat) : Bool :=
  ((if sc.kind.isAnnotationScope then ScopeKind.function else sc.kind) == .function && sc.names.lookup t == some .local && l1 == l2) && !(scope.names.any fun (n, k) => n == t && (k == .local || k == .cell))
theorem sw_lc {elt : Expr} {gs : List Comprehension} {scope : Scope} {pos : Pos} {t : Str} {p : Pos} {l : Nat} {env : PySem.Env} {sc : Scope} (h : env.scope = sc) : swapsWith (.ListComp elt gs scope pos) (some (.Name t p)) l env = pure (swC sc scope t p.line pos.line) := by
  subst h
  rfl
def aOk (N : List Str) (sc : Scope) (i : Nat) (x : Str) : Bool := decide (N[i]? = some x) && (match sc.names.lookup x with
  | some .local => true
  | some .cell => true
  | _ => false)
section
variable {X : Cx} {g : G} {cls : Nat → Value} {k : Nat} {tab : List En} {N : List Str} {sc : Scope} {bt : Bt} {a b c : Expr} {pos : Pos} {fa fb fc : Env → Res B} {f h : Env → Out} {x y : Str} {e : Expr} {st : Stmt} {rest body : List Stmt} {i j : Nat} {t : Tg}
theorem CS.fl (C : CS X g cls k tab N sc bt) (F0 : Hp) : CS X (g.fl F0) cls k tab N sc bt := ⟨C.ct.fl F0, C.po, C.fn, C.tk, C.stk, C.frm⟩
theorem CS.ao (C : CS X g cls k tab N sc bt) {i : Nat} {x : Str} (h : aOk N sc i x = true) : X.N[i]? = some x ∧ Loc X.env.scope x := by
  unfold aOk at h
  rw [Bool.and_eq_true, decide_eq_true_eq] at h
  refine ⟨by rw [C.ct.hN]; exact h.1, ?_⟩
  rw [C.ct.hS]
  have h2 := h.2
  split at h2
  · rename_i e; exact .inl e
  · rename_i e; exact .inr e
  · cases h2
theorem CS.asg (C : CS X g cls k tab N sc bt) (i : Nat) {p : Pos} (he : PE X e (tF g fa)) (h : aOk N sc i x = true) (hl : nlc e = true) : PS X (.Assign [.Name x p] e pos) (tFS g (thenS fa (setV i))) :=
  fs_asg C.ct.nd' (C.ao h).1 (C.ao h).2 he (sw_no hl) (.inl (C.fn x))
theorem CS.asgLc (C : CS X g cls k tab N sc bt) (i : Nat) {it : Env → Res (List D)} {c : Env → Res Bool} {fe : Env → Res B} {elt tg iter : Expr} {ifs : List Expr} {scope : Scope} {p spos : Pos} (own : List (Str × Nat)) (hi : PI X tg iter (tFI g true it))
    (inn : ∀ {X' : Cx} {g' : G}, CT X' g' cls k tab N (relS scope sc) bt → Inn X' g' tg ifs elt t c fe) (ok : lcOk N sc scope own t iter = true) (h : aOk N sc i x = true) (hh : bt.hot = false := by rfl) : PS X (.Assign [.Name x p] (.ListComp elt [⟨tg, iter, ifs, 0⟩] scope pos) spos) (tFS g (thenS (compV t it c fe (own.map (·.2))) (setV i))) := by
  cases hs : swC sc scope x p.line pos.line with
  | false => exact fs_asg C.ct.nd' (C.ao h).1 (C.ao h).2 (C.ct.lc own hi inn ok hh) (by rw [sw_lc C.ct.hS, hs]) (.inl (C.fn x))
  | true =>
    have hl : X.env.scope.names.lookup x = some .local := by
      unfold swC at hs
      simp only [Bool.and_eq_true, beq_iff_eq] at hs
      rw [C.ct.hS]
      exact hs.1.1.2
    unfold lcOk at ok
    simp only [Bool.and_eq_true, List.all_eq_true, decide_eq_true_eq] at ok
    obtain ⟨⟨h1, h2⟩, h3⟩ := ok
    exact fs_asgLc (C.ct.calm hh) C.ct.nd' (C.ao h).1 hl (by rw [sw_lc C.ct.hS, hs]) hi (by rw [C.ct.hN, C.ct.hS]; exact blkOk_by h1) h2 (fun s H A cl fp => (inn (C.ct.blk hh s H A cl fp)).tg) (fun s H A cl fp => (inn (C.ct.blk hh s H A cl fp)).ifs) (fun s H A cl fp => (inn (C.ct.blk hh s H A cl fp)).elt) (iter_plain h3 _)
theorem CS.g1 (C : CS X g cls k tab N sc bt) (i : Nat) (h : aOk N sc i x = true) : PG X (.Name x pos) (tFG g (.one i)) := fg_one C.ct.nd' (C.ao h).1 (C.ao h).2 (.inl (C.fn x))
theorem CS.gs (C : CS X g cls k tab N sc bt) : ∀ (is : List Nat) (es : List Expr) (xs : List Str), namesOf es = some xs → xs.length = is.length → ((is.zip xs).all fun p => aOk N sc p.1 p.2) = true →
    PGs X es (gPut is) ∧ (assignEach es X.env).length = is.length ∧ (assignEach es X.env).findIdx? (·.1) = none
  | [], [], [], _, _, _ => ⟨pgs_nil, rfl, rfl⟩
  | i :: is, .Name x p :: es, xs, h, hl, ha => by
    unfold namesOf at h
    cases e : namesOf es with
    | none => rw [e] at h; cases h
    | some ys =>
      rw [e] at h
      cases h
      simp only [List.zip_cons_cons, List.all_cons, Bool.and_eq_true] at ha
      obtain ⟨q1, q2, q3⟩ := C.gs is es ys e (by simpa using hl) ha.2
      refine ⟨pgs_cons (pg_name C.ct.nd' (C.ao ha.1).1 (C.ao ha.1).2 (.inl (C.fn _))) q1, ?_, ?_⟩
      · show (_ :: assignEach es X.env).length = _
        rw [List.length_cons, q2, List.length_cons]
      · show List.findIdx? _ ((false, _) :: assignEach es X.env) = none
        rw [List.findIdx?_cons, q3]
        rfl
  | [], .Name _ _ :: _, xs, h, hl, _ => by
    unfold namesOf at h
    cases e : namesOf _ with
    | none => rw [e] at h; cases h
    | some ys => rw [e] at h; cases h; cases hl
  | _ :: _, [], xs, h, hl, _ => by cases h; cases hl
def gsOkS (N : List Str) (sc : Scope) (is : List Nat) (es : List Expr) : Bool := match namesOf es with
  | some xs => decide (xs.length = is.length) && (is.zip xs).all fun p => aOk N sc p.1 p.2
  | none => false
theorem CS.gm (C : CS X g cls k tab N sc bt) (is : List Nat) {es : List Expr} {n : Nat} (h : gsOkS N sc is es = true) (hh : bt.hot = false := by rfl) : PG X (.Tuple es n pos) (tFG g (.many is)) := by
  unfold gsOkS at h
  split at h
  · rename_i xs e
    rw [Bool.and_eq_true, decide_eq_true_eq] at h
    obtain ⟨h1, h2, h3⟩ := C.gs is es xs e h.1 h.2
    exact fg_many (C.ct.calm hh) C.ct.hK h1 h2 h3
  · cases h
/-- not a display of a tuple -/
def ntu : Expr → Bool
  | .Tuple .. => false
  | _ => true
theorem CS.asgT (C : CS X g cls k tab N sc bt) {es : List Expr} {n : Nat} {p : Pos} (he : PE X e (tF g fa)) (hg : PG X (.Tuple es n p) (tFG g t)) (hl : nlc e = true) (ht : ntu e = true) : PS X (.Assign [.Tuple es n p] e pos) (tFS g (thenS fa (bindV t))) :=
  fs_asgT he hg (by cases e <;> first | rfl | cases hl) (by cases e <;> first | rfl | cases ht) rfl
def parC (sc : Scope) (x y : Str) (l1 l2 : Nat) (a b : Expr) : Bool :=
  ((if sc.kind.isAnnotationScope then ScopeKind.function else sc.kind) == .function) && (nst a && nst b) && (sc.names.lookup x == some .local && sc.names.lookup y == some .local) && (l2 == l1) && ([x, y].eraseDups.length == 2) && !([a, b].all (foldedForSure 8)) && !([a, b].all (constantsAlone 8))
theorem sw_par {x y : Str} {px py pt pt2 : Pos} {kt k2 : Nat} {env : PySem.Env} {sc : Scope} (h : env.scope = sc) (hc : parC sc x y px.line py.line a b = true) : swappedStores [.Tuple [.Name x px, .Name y py] kt pt] (.Tuple [a, b] k2 pt2) env = pure (some [x, y]) := by
  subst h
  unfold parC at hc
  simp only [Bool.and_eq_true, Bool.not_eq_true'] at hc
  obtain ⟨⟨⟨⟨⟨⟨c1, c2, c3⟩, c4, c5⟩, c6⟩, c7⟩, c8⟩, c9⟩ := hc
  have nsa : ∀ {e : Expr}, nst e = true → (match e with | .Starred .. => true | _ => false) = false := fun {e} h => by cases e <;> first | rfl | cases h
  have e1 : (env.blockKind != .function) = false := by
    show (!(env.blockKind == .function)) = false
    rw [show (env.blockKind == .function) = true from c1]
    rfl
  unfold swappedStores
  have q1 : (env.kindOf x == some .local) = true := c4
  have q2 : (env.kindOf y == some .local) = true := c5
  have q3 : (px.line == px.line) = true := by simp
  simp only [e1, List.length_cons, List.length_nil, List.any_cons, List.any_nil, nsa c2, nsa c3, List.filterMap_cons, List.filterMap_nil, List.head?_cons, Option.map_some, Option.getD_some, Expr.pos, q1, q2, q3, c6, c8, c9]
  simp at c7 ⊢
  refine (if_neg ?_).trans (if_pos c7)
  intro h
  rcases h with h | h
  · cases a <;> first | (cases h; done) | (cases c2; done)
  · cases b <;> first | (cases h; done) | (cases c3; done)
theorem CS.par2 (C : CS X g cls k tab N sc bt) (i j : Nat) {px py pt pt2 : Pos} {kt k2 : Nat} (ha : PE X a (tF g fa)) (hb : PE X b (tF g fb)) (h1 : lOk N sc i x = true) (h2 : lOk N sc j y = true) (hij : i ≠ j) (hc : parC sc x y px.line py.line a b = true) (hh : bt.hot = false := by rfl) :
    PS X (.Assign [.Tuple [.Name x px, .Name y py] kt pt] (.Tuple [a, b] k2 pt2) pos) (tFS g (Fn.par2 i j fa fb)) := by
  have hc' := hc
  unfold parC at hc'
  simp only [Bool.and_eq_true] at hc'
  exact fs_par2 (C.ct.calm hh) C.ct.nd' (C.ct.lo h1).1 (C.ct.lo h2).1 hij (C.ct.lo h1).2 (C.ct.lo h2).2 hc'.1.1.1.1.1.2.1 hc'.1.1.1.1.1.2.2 ha hb (sw_par C.ct.hS hc) rfl
theorem CS.app (C : CS X g cls k tab N sc bt) (i : Nat) {p1 p2 p3 p4 : Pos} (he : PE X e (tF g fa)) (h : vOk N sc i x = true) (hn : (nst e && (p2.endLine == p3.line)) = true) : PS X (.Expr (.Call (.Attribute (.Name x p1) "append" p2) [e] [] p3) p4) (tFS g (appV i fa)) := by
  obtain ⟨h1, h2, h3, h4⟩ := C.ct.vo h
  rw [Bool.and_eq_true] at hn
  exact fs_append h1 h2 h3 h4 hn.1 hn.2 he
theorem CS.sto (C : CS X g cls k tab N sc bt) (i : Nat) {fk fv : Env → Res B} {p1 p2 : Pos} (hk : PE X a (tF g fk)) (hv : PE X b (tF g fv)) (h : vOk N sc i x = true) (hn : nsl a = true) : PS X (.Assign [.Subscript (.Name x p1) a p2] b pos) (tFS g (putS i fk fv)) := by
  obtain ⟨h1, h2, h3, h4⟩ := C.ct.vo h
  exact fs_store C.ct.hu1 h1 h2 h3 h4 hn hk hv sw_sub
theorem CS.ex (C : CS X g cls k tab N sc bt) {p : Pos} (he : PE X e (tF g fa)) (hl : nlc e = true) : PS X (.Expr e p) (tFS g (thenS fa dropS)) := fs_expr he (sw_no hl)
theorem CS.fo (C : CS X g cls k tab N sc bt) {tg iter : Expr} {it : Env → Res (List D)} (hi : PI X tg iter (tFI g false it)) (hg : PG X tg (tFG g t)) (hb : ∀ g', CS X g' cls k tab N sc bt → PSs X body (tFS g' f)) (hs : nset iter = true) (hh : bt.hot = false := by rfl) : PS X (.For tg iter body [] pos) (tFS g (forV t it f)) :=
  fs_for C.po (C.ct.calm hh) hi hg (fun F0 => hb _ (C.fl F0)) (iter_plain hs _)
theorem CS.wh (C : CS X g cls k tab N sc bt) (m : Env → Nat) {t : Env → Res Bool} (hc : PT X c (tFT g t)) (hb : PSs X body (tFS g f)) : PS X (.While c body [] pos) (tFS g (whileS m t f)) := fs_while m C.po hc hb
theorem CS.rn (C : CS X g cls k tab N sc bt) (i : Nat) {p1 : Pos} (h : vOk N sc i x = true) : PS X (.Return (some (.Name x p1)) pos) (tFS g (retN i)) := by
  obtain ⟨h1, h2, h3, h4⟩ := C.ct.vo h
  exact fs_retN h1 h2 h3 h4
end
/-! ### defs -/
def outR (o : Out) : Res B := match o with
  | .nx _ => .ok (.dat .non)
  | .rt b => .ok b
  | .exc c _ => .exc c
  | _ => .bad
def okArg : B → Bool
  | .own _ => false
  | .vw _ => false
  | _ => true
def envS (n : Nat) (bs : List B) : Env := bs.map some ++ List.replicate (n - bs.length) none
def defF (n : Nat) (body : Env → Out) (bs : List B) : Res B := if bs.all okArg = true then outR (body (envS n bs)) else .bad
theorem paired_get {α β : Type} {R : α → β → Prop} : ∀ {vs : List α} {bs : List β} {i : Nat} {b : β}, Paired R vs bs → bs[i]? = some b → ∃ v, vs[i]? = some v ∧ R v b
  | _, _, 0, _, .cons r _, h => by cases h; exact ⟨_, rfl, r⟩
  | _, _, i + 1, _, .cons _ rs, h => paired_get (i := i) rs h
theorem no_own {n : Nat} {bs : List B} {i : Nat} {m : M} (ok : bs.all okArg = true) (h : (envS n bs)[i]? = some (some (.own m))) : False := by
  unfold envS at h
  by_cases hi : i < bs.length
  · rw [List.getElem?_append_left (by simpa using hi), List.getElem?_map] at h
    cases hb : bs[i]? with
    | none => rw [hb] at h; cases h
    | some b' =>
      rw [hb] at h
      cases h
      have := List.all_eq_true.mp ok _ (List.mem_of_getElem? hb)
      cases this
  · rw [List.getElem?_append_right (by simpa using hi), List.getElem?_replicate] at h
    split at h <;> cases h
theorem start_st {K : PySem.W.Frag} {fa : Nat → Option Addr} {cls : Nat → Value} {F H : Hp} {E : XK} {N : List Str} {vs : List V} {bs : List B} (s : Same F H) {p : Option (Addr × Obj)} (r : Paired (RR (gOf K fa cls F H E p) F H) vs bs) (ok : bs.all okArg = true) :
    St (gOf K fa cls F H E p) F H (L2.start N vs) (envS N.length bs) := by
  have hl := r.length
  refine ⟨Grow.refl s, by unfold L2.start envS; simp [hl], fun i b h => ?_, fun i j m m' hij h1 h2 => ?_⟩
  · unfold envS at h
    by_cases hi : i < bs.length
    · rw [List.getElem?_append_left (by simpa using hi), List.getElem?_map] at h
      cases hb : bs[i]? with
      | none => rw [hb] at h; cases h
      | some b' =>
        rw [hb] at h
        cases h
        obtain ⟨v, hv, rv⟩ := paired_get r hb
        refine ⟨v, by unfold L2.start; rw [List.getElem?_append_left (by rw [List.length_map, hl]; exact hi), List.getElem?_map, hv]; rfl, ?_⟩
        have ob := List.all_eq_true.mp ok b (List.mem_of_getElem? hb)
        cases b with
        | dat d => exact rv
        | own m => cases ob
        | vw m => cases ob
        | bor m => exact rv
        | scr ns => exact rv
        | err c => exact rv
    · rw [List.getElem?_append_right (by simpa using hi), List.getElem?_replicate] at h
      split at h <;> cases h
  · have := no_own ok h1
    exact this.elim
theorem body_run {K : PySem.W.Frag} {fa : Nat → Option Addr} {cls : Nat → Value} {F H : Hp} {E : XK} {p : Option (Addr × Obj)} {N : List Str} {body : Env → Out} {vs : List V} {bs : List B} {Q : VK} (h2 : Same F H) (h3 : Paired (RR (gOf K fa cls F H E p) F H) vs bs) (h4 : Post (gOf K fa cls F H E p) [] F H (defF N.length body bs) Q) :
    tFS (gOf K fa cls F H E p) body { nx := fun _ H' => Q .non H', rt := Q } (L2.start N vs) H := by
  unfold defF at h4
  split at h4
  · rename_i ok
    refine ⟨F, envS N.length bs, start_st h2 h3 ok, ?_⟩
    cases e : body (envS N.length bs) with
    | nx ρ =>
      rw [e] at h4
      exact fun σ' F' H' s' => h4 .non F' H' s'.gr .non
    | rt b =>
      rw [e] at h4
      exact fun v F' H' g1 r1 => h4 v F' H' g1 r1
    | bk ρ => rw [e] at h4; exact h4.elim
    | ct ρ => rw [e] at h4; exact h4.elim
    | exc c ρ =>
      rw [e] at h4
      exact fun σ' F' H' s' => h4 F' H' s'.gr
    | bad => rw [e] at h4; exact h4.elim
  · exact h4.elim
/-- THE RULE for a def: its body's reading -/
theorem def_ok {P : Program} {w : World} {K : PySem.W.Frag} {mg : Str → Option Value} {base : Heap} {fa : Nat → Option Addr} {cls : Nat → Value} {q : Str} {st : Stmt} {f : Addr} {fd : FuncData} {N ps : List Str} {k n : Nat} {body : Env → Out} {tab : List En} {bt : Bt} (Fu : Fun K q q st f fd)
    (S : FnScope N ps (defScope st)) (hn : ps.length = n) (hbi : BiOk K fa mg bt) (hex : ExOk K fa cls mg bt) (hhs : HotOk P w K mg base fa cls k bt.hs) (T : ∀ X : Cx, X.prog = P → X.w = w → X.K = K → X.mg = mg → X.base = base → TabOk X fa cls k tab)
    (hb : ∀ (X : Cx) (g : G), g.fa = fa → CS X g cls k tab N (defScope st) bt → PSs X (defBody st) (tFS g body)) (hnot : bt.hot = false := by rfl) : FnOk P w K mg base (L2.CX P w) (k + 1) f fd ps (spF K fa cls n (defF N.length body)) := by
  refine Fu.okX S (fun vs H Q E h => h.1.trans hn.symm) fun cdv A outer s H vs Q E hr ⟨h1, F, bs, h2, h3, h4⟩ => ?_
  let X := cxOf (L2.CX P w) P w K mg base N q (defScope st) f cdv A outer s H E
  have tk : Takes X (fun cls d _ H => E cls d H) := takes_of (X := X) rfl rfl rfl rfl
  have C : CS X (gOf K fa cls F H E none) cls k tab N (defScope st) bt :=
    ⟨⟨rfl, fun _ => rfl, rfl, S.nd, rfl, ⟨hr.dp, hr.un⟩, T X rfl rfl rfl rfl rfl, ⟨fun _ => E, fun σ => passAt tk σ, fun _ _ _ h => h⟩, hbi, fun _ => hr.hd, fun _ => rfl, (fun _ z => by cases z), (fun z => by rw [hnot] at z; cases z), hex, hhs⟩, passes_of (X := X) (E₁ := fun e' s'' => L2.CX P w outer H s E e' s'') rfl, fun _ => rfl, ⟨_, tk, fun _ _ _ h => h⟩, rfl, rfl⟩
  exact ⟨_, hb X _ rfl C, body_run h2 h3 h4⟩
/-- the rule for a def that is called where an error is handled -/
theorem def_hot {P : Program} {w : World} {K : PySem.W.Frag} {mg : Str → Option Value} {base : Heap} {fa : Nat → Option Addr} {cls : Nat → Value} {q : Str} {st : Stmt} {f : Addr} {fd : FuncData} {N ps : List Str} {k n : Nat} {body : Env → Out} {bt : Bt} (Fu : Fun K q q st f fd)
    (S : FnScope N ps (defScope st)) (hn : ps.length = n) (hbi : BiOk K fa mg bt) (hex : ExOk K fa cls mg bt) (hhs : HotOk P w K mg base fa cls k bt.hs) (hot : bt.hot = true)
    (hb : ∀ (X : Cx) (g : G), g.fa = fa → CS X g cls k [] N (defScope st) bt → PSs X (defBody st) (tFS g body)) : FnP P w K mg base (k + 1) f fd ps (spP K fa cls n (defF N.length body)) := by
  refine fnP_of Fu S (fun p vs H Q E h => h.1.trans hn.symm) fun p cdv A outer s H vs Q E hr ⟨h1, F, bs, h2, h3, h4⟩ => ?_
  let X := L2H.cxH (L2.CX P w) P w K mg base N q (defScope st) f cdv A outer s H E p
  have tk : Takes X (fun cls d _ H => E cls d H) := takes_of (X := X) rfl rfl rfl rfl
  have no : bt.hot ≠ false := fun z => by rw [hot] at z; cases z
  have C : CS X (gOf K fa cls F H E (some p)) cls k [] N (defScope st) bt :=
    ⟨⟨rfl, fun z => absurd z no, rfl, S.nd, rfl, hr, ⟨fun _ _ z => by cases z⟩, ⟨fun _ => E, fun σ => passAt tk σ, fun _ _ _ h => h⟩, hbi, fun z => absurd z no, fun z => absurd z no, (fun p' z => by cases z; exact List.mem_cons_self), (fun _ => ⟨_, rfl⟩), hex, hhs⟩, passes_of (X := X) (E₁ := fun e' s'' => L2.CX P w outer H s E e' s'') rfl, fun _ => rfl, ⟨_, tk, fun _ _ _ h => h⟩, rfl, rfl⟩
  exact ⟨_, hb X _ rfl C, body_run h2 h3 h4⟩
end Fn
namespace Fn
open PySem PySem.Spec PyProof.Rows L2
/-! ### short names of readings -/
def nilA : Env → Res (List B) := fun _ => .ok []
def litI (i : Int) : Env → Res B := fun _ => .ok (.dat (.int i))
def litS (x : Str) : Env → Res B := fun _ => .ok (.dat (.str x))
def litB (b : Bool) : Env → Res B := fun _ => .ok (.dat (.bl b))
def litN : Env → Res B := fun _ => .ok (.dat .non)
def newK : Env → Res B := fun _ => .ok (.own (.k []))
def newT : Env → Res B := fun _ => .ok (.own (.t []))
def callF (f : List B → Res B) (fs : Env → Res (List B)) : Env → Res B := fun ρ => (fs ρ).bind f
def ownF (en : En) (fs : Env → Res (List B)) : Env → Res B := fun ρ => (fs ρ).bind fun bs => (lenA en.n bs).bind (callV en)
def tstF (f : Env → Res B) : Env → Res Bool := fun ρ => (f ρ).bind tstB
def yesF : Env → Res Bool := fun _ => .ok true
def itF (lk : Bool) (f : Env → Res B) : Env → Res (List D) := fun ρ => (f ρ).bind fun x => itemsB lk (rd x)
def rgF (fs : Env → Res (List B)) : Env → Res (List D) := fun ρ => (fs ρ).bind rngA
def noP : Env → Res (Option Int) := fun _ => .ok none
def atP (f : Env → Res B) : Env → Res (Option Int) := fun ρ => (f ρ).bind fun x => partB x
def nxS : Env → Out := fun ρ => .nx ρ
def bkS : Env → Out := fun ρ => .bk ρ
def ctS : Env → Out := fun ρ => .ct ρ
def badS : Env → Out := fun _ => .bad
def rtN : Env → Out := fun _ => .rt (.dat .non)
def litD (d : D) : Env → Res B := fun _ => .ok (.dat d)
def lockS (i : Nat) (f : Env → Out) : Env → Out := fun ρ => f (lockE i ρ)
/-! ### while, its turns found by the end -/
theorem whileN_mono {t : Env → Res Bool} {body : Env → Out} : ∀ (n m : Nat) (ρ : Env), whileN t body n ρ ≠ .bad → n ≤ m → whileN t body m ρ = whileN t body n ρ
  | 0, _, _, h, _ => absurd rfl h
  | n + 1, 0, _, _, h => absurd h (Nat.not_succ_le_zero n)
  | n + 1, m + 1, ρ, h, hm => by
    unfold whileN at h ⊢
    cases e : t ρ with
    | ok k =>
      rw [e] at h
      cases k with
      | false => rfl
      | true =>
        dsimp only at h ⊢
        cases e2 : body ρ with
        | nx ρ2 => rw [e2] at h; exact whileN_mono n m ρ2 h (Nat.le_of_succ_le_succ hm)
        | ct ρ2 => rw [e2] at h; exact whileN_mono n m ρ2 h (Nat.le_of_succ_le_succ hm)
        | bk ρ2 => rfl
        | rt b => rfl
        | exc c ρ2 => rfl
        | bad => rfl
    | exc c => rfl
    | bad => rfl
open Classical in
noncomputable def mW (t : Env → Res Bool) (body : Env → Out) (ρ : Env) : Nat := if h : ∃ n, whileN t body n ρ ≠ .bad then Classical.choose h else 0
noncomputable def whileC (t : Env → Res Bool) (body : Env → Out) : Env → Out := whileS (mW t body) t body
theorem whileC_eq {t : Env → Res Bool} {body : Env → Out} {ρ : Env} {n : Nat} (h : whileN t body n ρ ≠ .bad) : whileC t body ρ = whileN t body n ρ := by
  have ex : ∃ n, whileN t body n ρ ≠ .bad := ⟨n, h⟩
  unfold whileC whileS mW
  rw [dif_pos ex]
  have hc := Classical.choose_spec ex
  rcases Nat.le_total n (Classical.choose ex) with q | q
  · exact whileN_mono _ _ ρ h q
  · exact (whileN_mono _ _ ρ hc q).symm
theorem whileC_stop {t : Env → Res Bool} {body : Env → Out} {ρ : Env} (h : t ρ = .ok false) : whileC t body ρ = .nx ρ := by
  have e : whileN t body 1 ρ = .nx ρ := by unfold whileN; rw [h]
  rw [whileC_eq (n := 1) (by rw [e]; intro z; cases z), e]
theorem whileC_nx {t : Env → Res Bool} {body : Env → Out} {ρ ρ2 : Env} (h : t ρ = .ok true) (hb : body ρ = .nx ρ2) : whileC t body ρ = whileC t body ρ2 := by
  by_cases ex : ∃ n, whileN t body n ρ2 ≠ .bad
  · obtain ⟨n, hn⟩ := ex
    have e : whileN t body (n + 1) ρ = whileN t body n ρ2 := by
      rw [whileN, h]
      dsimp only
      rw [hb]
    rw [whileC_eq hn, whileC_eq (n := n + 1) (by rw [e]; exact hn), e]
  · have no : ¬ ∃ n, whileN t body n ρ ≠ .bad := by
      rintro ⟨n, hn⟩
      cases n with
      | zero => exact hn rfl
      | succ n =>
        rw [whileN, h] at hn
        dsimp only at hn
        rw [hb] at hn
        exact ex ⟨n, hn⟩
    unfold whileC whileS mW
    rw [dif_neg ex, dif_neg no]
    rfl
section
variable {X : Cx} {g : G} {cls : Nat → Value} {k : Nat} {tab : List En} {N : List Str} {sc : Scope} {bt : Bt} {c : Expr} {pos : Pos} {f : Env → Out} {body : List Stmt}
theorem CS.wc (C : CS X g cls k tab N sc bt) {t : Env → Res Bool} (hc : PT X c (tFT g t)) (hb : PSs X body (tFS g f)) : PS X (.While c body [] pos) (tFS g (whileC t f)) := C.wh _ hc hb
end
/-! ### the table of the text's defs -/
structure TabW (P : Program) (w : World) (K : PySem.W.Frag) (mg : Str → Option Value) (base : Heap) (fa : Nat → Option Addr) (cls : Nat → Value) (lv : Nat) (tab : List En) : Prop where
  at_ : ∀ (k : Nat) (en : En), tab[k]? = some en → ∃ f fd ps, mg en.name = some (.ref f) ∧ fa k = some f ∧ PySem.W.keepIn K (.ref f) = true ∧ Binds K fd ps [] ∧ FnOk P w K mg base (L2.CX P w) lv f fd ps (spF K fa cls en.n en.F)
section
variable {P : Program} {w : World} {K : PySem.W.Frag} {mg : Str → Option Value} {base : Heap} {fa : Nat → Option Addr} {cls : Nat → Value} {lv : Nat} {tab : List En}
theorem TabW.nil : TabW P w K mg base fa cls lv [] := ⟨fun k en h => by cases h⟩
theorem TabW.snoc (T : TabW P w K mg base fa cls lv tab) {en : En} {f : Addr} {fd : FuncData} {ps : List Str} (F : FnOk P w K mg base (L2.CX P w) (lv + 1) f fd ps (spF K fa cls en.n en.F)) (hm : mg en.name = some (.ref f)) (hfa : fa tab.length = some f) (hk : PySem.W.keepIn K (.ref f) = true) (hb : Binds K fd ps []) :
    TabW P w K mg base fa cls (lv + 1) (tab ++ [en]) := ⟨fun k en' h => by
  by_cases hl : k < tab.length
  · rw [List.getElem?_append_left hl] at h
    obtain ⟨f', fd', ps', a1, a2, a3, a4, a5⟩ := T.at_ k en' h
    exact ⟨f', fd', ps', a1, a2, a3, a4, a5.mono (Nat.le_succ lv)⟩
  · rw [List.getElem?_append_right (Nat.le_of_not_lt hl)] at h
    have e : k = tab.length := by
      by_cases z : k - tab.length = 0
      · omega
      · obtain ⟨m, hm2⟩ := Nat.exists_eq_succ_of_ne_zero z
        rw [hm2] at h
        cases h
    subst e
    rw [Nat.sub_self] at h
    cases h
    exact ⟨f, fd, ps, hm, hfa, hk, hb, F⟩⟩
theorem TabW.use (T : TabW P w K mg base fa cls lv tab) : ∀ X : Cx, X.prog = P → X.w = w → X.K = K → X.mg = mg → X.base = base → TabOk X fa cls lv tab := fun X h1 h2 h3 h4 h5 => by
  subst h1 h2 h3 h4 h5
  exact ⟨T.at_⟩
/-- one def more -/
theorem TabW.more (T : TabW P w K mg base fa cls lv tab) {en : En} {q : Str} {st : Stmt} {f : Addr} {fd : FuncData} {N ps : List Str} {body : Env → Out} {bt : Bt} (Fu : Fun K q q st f fd) (S : FnScope N ps (defScope st)) (hbi : BiOk K fa mg bt) (hex : ExOk K fa cls mg bt) (hhs : HotOk P w K mg base fa cls lv bt.hs)
    (he : en = ⟨q, ps.length, defF N.length body⟩) (hb : ∀ (X : Cx) (g : G), CS X g cls lv tab N (defScope st) bt → PSs X (defBody st) (tFS g body)) (hm : mg q = some (.ref f)) (hfa : fa tab.length = some f) (hbd : Binds K fd ps []) (hnot : bt.hot = false := by rfl) : TabW P w K mg base fa cls (lv + 1) (tab ++ [en]) := by
  subst he
  refine T.snoc (en := ⟨q, ps.length, defF N.length body⟩) ?_ hm hfa Fu.kp hbd
  exact def_ok Fu S rfl hbi hex hhs T.use (fun X g _ C => hb X g C) hnot
end
/-! ### law -/
def spLaw (K : PySem.W.Frag) : Sp := fun vs H Q _ => ∃ (a : Addr) (ns : List Int), vs = [.ref a] ∧ SqL K H a (ns.map V.int) ∧ ns.length ≤ 63 ∧ ∀ H', Q (.bl true) H'
theorem spLaw_of {K : PySem.W.Frag} {fa : Nat → Option Addr} {cls : Nat → Value} {L : List B → Res B} (h : ∀ ns : List Int, ns.length ≤ 63 → L [.scr ns] = .ok (.dat (.bl true))) : ∀ vs H Q E, spLaw K vs H Q E → spF K fa cls 1 L vs H Q E := by
  rintro vs H Q E ⟨a, ns, rfl, hS, hl, q⟩
  refine ⟨rfl, fun _ => none, [.scr ns], (fun _ _ z => by cases z), .cons ⟨a, rfl, hS⟩ .nil, ?_⟩
  rw [h ns hl]
  intro v F' H' g1 r1
  cases r1
  exact q H'
theorem no_exc {P : Program} {w : World} (H : Hp) (s : Shared) (e : Value) (s' : Shared) (z : L2.CX P w [] H s (fun _ _ _ => False) e s') : False := by
  obtain ⟨_, _, _, _, _, _, _, _, _, _, _, _, z⟩ := z
  exact z.elim
theorem walk {l : PySem.W.OpenLaw} {q : Program} {loose : List Str} {XP : (Str → Option Value) → Heap → Prop} {YP : World → Heap → Prop} {d : DefRec} {K : Params → PySem.W.Frag} {x : Str} (n : Nat) (hr : Room n callerA) (hn : l.most = some 63) (hdf : d.params.defaults = [])
    (hY : ∀ (w : World) (h : Heap), YP w h → (K w.params).In h)
    (F : ∀ (w : World) (mg : Str → Option Value) (fa : Addr) (h : Heap), (K w.params).In h → h.Ns mainGlobals mg → mg d.name = some (.ref fa) →
      ∃ fd : FuncData, (∀ (s : Shared) (u : Value), BindsTo s fd ⟨[u], []⟩ [(x, u)]) ∧ ∀ base : Heap, (K w.params).In base → base.Ns mainGlobals mg → FnOk l.prog w (K w.params) mg base (L2.CX l.prog w) n fa fd [x] (spLaw (K w.params))) :
    PySem.W.WalkO q loose XP YP l.row.toRowW d [] (fun f vs => PySem.call f vs) :=
  L2.walk_of (n := 63) (k := n) (x := x) (CX := fun w => L2.CX l.prog w) (sp := fun w => spLaw (K w.params)) hn (by decide) hdf hr hY F (fun _ _ a ns hl _ hS => ⟨a, ns, rfl, hS, hl, fun _ => rfl⟩) fun _ H s e s' z => no_exc H s e s' z
end Fn
namespace Fn
open PySem PySem.Spec PyProof.Rows L2
/-! ### what the readings' operators answer -/
theorem sz0 : (0 ≤ sizeLine) = True := eq_true (by decide)
theorem sz1 : (1 ≤ sizeLine) = True := eq_true (by decide)
theorem sz2 : (2 ≤ sizeLine) = True := eq_true (by decide)
theorem sz3 : (3 ≤ sizeLine) = True := eq_true (by decide)
theorem sz4 : (4 ≤ sizeLine) = True := eq_true (by decide)
theorem sz5 : (5 ≤ sizeLine) = True := eq_true (by decide)
theorem sz6 : (6 ≤ sizeLine) = True := eq_true (by decide)
abbrev Sm64 (i : Int) : Prop := i.natAbs < 2 ^ 64
theorem log2_lt {n : Nat} (h : n < 2 ^ 64) : n.log2 < 64 := by
  by_cases z : n = 0
  · subst z; decide
  · exact (Nat.log2_lt z).mpr h
theorem mul_ok {i j : Int} (hi : Sm64 i) (hj : Sm64 j) : mulB (.dat (.int i)) (.dat (.int j)) = .ok (.dat (.int (i * j))) := by
  unfold mulB
  dsimp only
  rw [if_pos (by have := log2_lt hi; have := log2_lt hj; omega)]
theorem mod_ok {i j : Int} (h : j ≠ 0) : modB (.dat (.int i)) (.dat (.int j)) = .ok (.dat (.int (i.fmod j))) := by
  unfold modB int2
  dsimp only
  rw [if_pos (decide_eq_true h)]
theorem mod_pos {i j : Int} (h : 0 < j) : modB (.dat (.int i)) (.dat (.int j)) = .ok (.dat (.int (i % j))) := by
  rw [mod_ok (by omega), Int.fmod_eq_emod_of_nonneg _ (by omega)]
theorem div_pos {i j : Int} (h : 0 < j) (hj : Sm64 j) : divB (.dat (.int i)) (.dat (.int j)) = .ok (.dat (.int (i / j))) := by
  unfold divB int2
  dsimp only
  rw [if_pos (by rw [Bool.and_eq_true, decide_eq_true_eq, decide_eq_true_eq]; exact ⟨by omega, by have := log2_lt hj; omega⟩), Int.fdiv_eq_ediv_of_nonneg _ (by omega)]
theorem add_ii {i j : Int} : addB (.dat (.int i)) (.dat (.int j)) = .ok (.dat (.int (i + j))) := rfl
theorem sub_ii {i j : Int} : subB (.dat (.int i)) (.dat (.int j)) = .ok (.dat (.int (i - j))) := rfl
theorem and_ii {i j : Int} : andB (.dat (.int i)) (.dat (.int j)) = .ok (.dat (.int (Builtin.bitAnd i j))) := rfl
theorem shr_ok {i j : Int} (h : 0 ≤ j) : shrB (.dat (.int i)) (.dat (.int j)) = .ok (.dat (.int (i / 2 ^ j.toNat))) := by
  unfold shrB int2
  dsimp only
  rw [if_pos (decide_eq_true h)]
theorem shl_ok {i j : Int} (h : 0 ≤ j) (h2 : j ≤ 1000000) (hi : Sm64 i) : shlB (.dat (.int i)) (.dat (.int j)) = .ok (.dat (.int (i * 2 ^ j.toNat))) := by
  unfold shlB int2
  dsimp only
  rw [if_pos (by rw [Bool.and_eq_true, Bool.and_eq_true, decide_eq_true_eq, decide_eq_true_eq, decide_eq_true_eq]; exact ⟨⟨h, h2⟩, hi⟩)]
theorem pow_ok {i j : Int} (h : 0 ≤ j) (h2 : j ≤ 1000000) (hi : Sm64 i) : powB (.dat (.int i)) (.dat (.int j)) = .ok (.dat (.int (i ^ j.toNat))) := by
  unfold powB int2
  dsimp only
  rw [if_pos (by rw [Bool.and_eq_true, Bool.and_eq_true, decide_eq_true_eq, decide_eq_true_eq, decide_eq_true_eq]; exact ⟨⟨h, h2⟩, hi⟩)]
theorem lt_ii {i j : Int} : ltB (.dat (.int i)) (.dat (.int j)) = .ok (.dat (.bl (decide (i < j)))) := rfl
theorem gt_ii {i j : Int} : gtF (.dat (.int i)) (.dat (.int j)) = .ok (.dat (.bl (decide (j < i)))) := rfl
theorem le_ii {i j : Int} : leF (.dat (.int i)) (.dat (.int j)) = .ok (.dat (.bl (decide (i ≤ j)))) := rfl
theorem ge_ii {i j : Int} : geF (.dat (.int i)) (.dat (.int j)) = .ok (.dat (.bl (decide (j ≤ i)))) := rfl
theorem beq_dec {i j : Int} : (i == j) = decide (i = j) := rfl
theorem eq_ii {i j : Int} : eqB (.dat (.int i)) (.dat (.int j)) = .ok (.dat (.bl (decide (i = j)))) := by
  show Res.ok (B.dat (D.bl (PyData.eqv (.int i) (.int j)))) = _
  simp [PyData.eqv, Bool.beq_eq_decide_eq]
theorem ne_ii {i j : Int} : neB (.dat (.int i)) (.dat (.int j)) = .ok (.dat (.bl (!decide (i = j)))) := by
  show Res.ok (B.dat (D.bl (!PyData.eqv (.int i) (.int j)))) = _
  simp [PyData.eqv, Bool.beq_eq_decide_eq]
theorem abs_nat {n : Nat} : absF [.dat (.int (n : Int))] = .ok (.dat (.int (n : Int))) := by
  show Res.ok (B.dat (D.int (if (n : Int) < 0 then _ else _))) = _
  rw [if_neg (by omega)]
theorem abs_i {i : Int} : absF [.dat (.int i)] = .ok (.dat (.int (i.natAbs : Int))) := by
  show Res.ok (B.dat (D.int (if i < 0 then _ else _))) = _
  split <;> (congr; omega)
theorem min_ii {i j : Int} : minF [.dat (.int i), .dat (.int j)] = .ok (.dat (.int (min i j))) := by
  show Res.ok (B.dat (D.int (if j < i then j else i))) = _
  rw [Int.min_def]
  split <;> split <;> first | rfl | (congr; omega)
theorem max_ii {i j : Int} : maxF [.dat (.int i), .dat (.int j)] = .ok (.dat (.int (max i j))) := by
  show Res.ok (B.dat (D.int (if j > i then j else i))) = _
  rw [Int.max_def]
  split <;> split <;> first | rfl | (congr; omega)
theorem int_bl {b : Bool} : intF [.dat (.bl b)] = .ok (.dat (.int (if b = true then 1 else 0))) := rfl
theorem len_tup {ds : List D} : lenB [.dat (.tup ds)] = .ok (.dat (.int ds.length)) := rfl
theorem len_lst {ds : List D} : lenB [.dat (.lst ds)] = .ok (.dat (.int ds.length)) := rfl
theorem len_vw {ds : List D} : lenB [.vw (.l ds)] = .ok (.dat (.int ds.length)) := rfl
theorem len_bor {ds : List D} : lenB [.bor (.l ds)] = .ok (.dat (.int ds.length)) := rfl
theorem len_vt {kvs : List (List Key × D)} : lenB [.vw (.t kvs)] = .ok (.dat (.int kvs.length)) := rfl
theorem len_vk {kvs : List (Key × D)} : lenB [.vw (.k kvs)] = .ok (.dat (.int kvs.length)) := rfl
theorem len_scr {ns : List Int} : lenB [.scr ns] = .ok (.dat (.int ns.length)) := by
  show Res.ok (B.dat (D.int ((ns.map D.int).length : Int))) = _
  rw [List.length_map]
theorem idx_tup {ds : List D} {k : Int} {d : D} (h : atI ds k = some d) : idxB (.dat (.tup ds)) (.dat (.int k)) = .ok (.dat d) := by
  show (match atI ds k with | some d => (.ok (.dat d) : Res B) | none => .bad) = _
  rw [h]
theorem idx_lst {ds : List D} {k : Int} {d : D} (h : atI ds k = some d) : idxB (.dat (.lst ds)) (.dat (.int k)) = .ok (.dat d) := by
  show (match atI ds k with | some d => (.ok (.dat d) : Res B) | none => .bad) = _
  rw [h]
theorem idx_vw {ds : List D} {k : Int} {d : D} (h : atI ds k = some d) : idxB (.vw (.l ds)) (.dat (.int k)) = .ok (.dat d) := by
  show (match atI ds k with | some d => (.ok (.dat d) : Res B) | none => .bad) = _
  rw [h]
theorem idx_bor {ds : List D} {k : Int} {d : D} (h : atI ds k = some d) : idxB (.bor (.l ds)) (.dat (.int k)) = .ok (.dat d) := by
  show (match atI ds k with | some d => (.ok (.dat d) : Res B) | none => .bad) = _
  rw [h]
theorem atI_map {α β : Type} (f : α → β) {xs : List α} {k : Int} {d : α} (h : atI xs k = some d) : atI (xs.map f) k = some (f d) := by
  unfold atI at h ⊢
  rw [List.length_map]
  cases e : ixN xs.length k with
  | none => rw [e] at h; cases h
  | some j =>
    rw [e] at h
    show (xs.map f)[j]? = _
    rw [List.getElem?_map, show xs[j]? = some d from h]
    rfl
theorem idx_scr {ns : List Int} {k d : Int} (h : atI ns k = some d) : idxB (.scr ns) (.dat (.int k)) = .ok (.dat (.int d)) := by
  show (match atI (ns.map D.int) k with | some d => (.ok (.dat d) : Res B) | none => .bad) = _
  rw [atI_map D.int h]
theorem atI_lt {α : Type} {xs : List α} {k : Int} (h0 : 0 ≤ k) (h : k < xs.length) : atI xs k = some (xs[k.toNat]'(by omega)) := by
  have e : k = ((k.toNat : Nat) : Int) := by omega
  have q : xs[k.toNat]? = some (xs[k.toNat]'(by omega)) := List.getElem?_eq_getElem (by omega)
  have := atI_nat q
  rw [← e] at this
  exact this
theorem def_rt {n : Nat} {body : Env → Out} {bs : List B} {r : Res B} (h1 : bs.all okArg = true) (h : outR (body (envS n bs)) = r) : defF n body bs = r := by
  unfold defF
  rw [if_pos h1, h]
/-- a def's answer at a call -/
theorem own_ok {en : En} {fs : Env → Res (List B)} {ρ : Env} {bs : List B} {r : B} (h1 : fs ρ = .ok bs) (h2 : bs.length = en.n) (h3 : en.F (bs.map toArg) = .ok r) (h4 : retB r = .ok r) : ownF en fs ρ = .ok r := by
  unfold ownF callV lenA
  rw [h1, Res.ok_bind, if_pos h2, Res.ok_bind, h3, Res.ok_bind, h4]
theorem le_sz {n : Nat} (h : n ≤ 1000) : n ≤ sizeLine := Nat.le_of_lt (small1000 h)
theorem lst_ok {bs : List B} {ds : List D} (h : dats bs = some ds) (hl : ds.length ≤ 1000) : lstB bs = .ok (.own (.l ds)) := by
  unfold lstB
  rw [h]
  exact if_pos (le_sz hl)
theorem tup_ok {bs : List B} {ds : List D} (h : dats bs = some ds) (hl : ds.length ≤ 1000) : tupB bs = .ok (.dat (.tup ds)) := by
  unfold tupB
  rw [h]
  exact if_pos (le_sz hl)
theorem lstB0 : lstB [] = .ok (.own (.l [])) := lst_ok rfl (by show 0 ≤ 1000; decide)
theorem tupB0 : tupB [] = .ok (.dat (.tup [])) := tup_ok rfl (by show 0 ≤ 1000; decide)
theorem lstB1 {d0 : D} : lstB [.dat d0] = .ok (.own (.l [d0])) := lst_ok rfl (by show 1 ≤ 1000; decide)
theorem tupB1 {d0 : D} : tupB [.dat d0] = .ok (.dat (.tup [d0])) := tup_ok rfl (by show 1 ≤ 1000; decide)
theorem lstB2 {d0 d1 : D} : lstB [.dat d0, .dat d1] = .ok (.own (.l [d0, d1])) := lst_ok rfl (by show 2 ≤ 1000; decide)
theorem tupB2 {d0 d1 : D} : tupB [.dat d0, .dat d1] = .ok (.dat (.tup [d0, d1])) := tup_ok rfl (by show 2 ≤ 1000; decide)
theorem lstB3 {d0 d1 d2 : D} : lstB [.dat d0, .dat d1, .dat d2] = .ok (.own (.l [d0, d1, d2])) := lst_ok rfl (by show 3 ≤ 1000; decide)
theorem tupB3 {d0 d1 d2 : D} : tupB [.dat d0, .dat d1, .dat d2] = .ok (.dat (.tup [d0, d1, d2])) := tup_ok rfl (by show 3 ≤ 1000; decide)
theorem lstB4 {d0 d1 d2 d3 : D} : lstB [.dat d0, .dat d1, .dat d2, .dat d3] = .ok (.own (.l [d0, d1, d2, d3])) := lst_ok rfl (by show 4 ≤ 1000; decide)
theorem tupB4 {d0 d1 d2 d3 : D} : tupB [.dat d0, .dat d1, .dat d2, .dat d3] = .ok (.dat (.tup [d0, d1, d2, d3])) := tup_ok rfl (by show 4 ≤ 1000; decide)
theorem lstB5 {d0 d1 d2 d3 d4 : D} : lstB [.dat d0, .dat d1, .dat d2, .dat d3, .dat d4] = .ok (.own (.l [d0, d1, d2, d3, d4])) := lst_ok rfl (by show 5 ≤ 1000; decide)
theorem tupB5 {d0 d1 d2 d3 d4 : D} : tupB [.dat d0, .dat d1, .dat d2, .dat d3, .dat d4] = .ok (.dat (.tup [d0, d1, d2, d3, d4])) := tup_ok rfl (by show 5 ≤ 1000; decide)
theorem lstB6 {d0 d1 d2 d3 d4 d5 : D} : lstB [.dat d0, .dat d1, .dat d2, .dat d3, .dat d4, .dat d5] = .ok (.own (.l [d0, d1, d2, d3, d4, d5])) := lst_ok rfl (by show 6 ≤ 1000; decide)
theorem tupB6 {d0 d1 d2 d3 d4 d5 : D} : tupB [.dat d0, .dat d1, .dat d2, .dat d3, .dat d4, .dat d5] = .ok (.dat (.tup [d0, d1, d2, d3, d4, d5])) := tup_ok rfl (by show 6 ≤ 1000; decide)
theorem seq_nx {f h : Env → Out} {ρ ρ' : Env} (e : f ρ = .nx ρ') : seqS f h ρ = h ρ' := by
  unfold seqS
  rw [e]
theorem seq_rt {f h : Env → Out} {ρ : Env} {b : B} (e : f ρ = .rt b) : seqS f h ρ = .rt b := by
  unfold seqS
  rw [e]
theorem for_ok {t : Tg} {it : Env → Res (List D)} {body : Env → Out} {ρ : Env} {ds : List D} (h : it ρ = .ok ds) : forV t it body ρ = loopF t body ds ρ := by
  unfold forV
  rw [h]
theorem rg_ok {fs : Env → Res (List B)} {ρ : Env} {bs : List B} {ds : List D} (h1 : fs ρ = .ok bs) (h2 : rngA bs = .ok ds) : rgF fs ρ = .ok ds := by
  unfold rgF
  rw [h1, Res.ok_bind, h2]
theorem call_ok {f : List B → Res B} {fs : Env → Res (List B)} {ρ : Env} {bs : List B} {b : Res B} (h1 : fs ρ = .ok bs) (h2 : f bs = b) : callF f fs ρ = b := by
  unfold callF
  rw [h1, Res.ok_bind, h2]
theorem it_ok {lk : Bool} {f : Env → Res B} {ρ : Env} {b : B} {ds : List D} (h1 : f ρ = .ok b) (h2 : itemsB lk (rd b) = .ok ds) : itF lk f ρ = .ok ds := by
  unfold itF
  rw [h1, Res.ok_bind, h2]
theorem set_ok {fa : Env → Res B} {i : Nat} {b : B} {ρ : Env} (h : fa ρ = .ok b) (hv : okV b = true) : thenS fa (setV i) ρ = .nx (ρ.set i (some b)) := by
  unfold thenS setV
  rw [h]
  exact if_pos hv
theorem ret_ok {fa : Env → Res B} {b : B} {ρ : Env} (h : fa ρ = .ok b) (hv : okRet b = true) : thenS fa retV ρ = .rt b := by
  unfold thenS retV
  rw [h]
  exact if_pos hv
theorem bind_ok {fa : Env → Res B} {b : B} {t : Tg} {ρ ρ' : Env} {d : D} (h : fa ρ = .ok b) (hr : rd b = .dat d) (hb : bindT t d ρ = some ρ') : thenS fa (bindV t) ρ = .nx ρ' := by
  unfold thenS bindV
  rw [h]
  dsimp only
  rw [hr]
  dsimp only
  rw [hb]
theorem bin_ok {f : B → B → Res B} {fa fb : Env → Res B} {x y : B} {r : Res B} {ρ : Env} (h1 : fa ρ = .ok x) (h2 : fb ρ = .ok y) (h3 : f (rd x) (rd y) = r) : bin2 f fa fb ρ = r := by
  unfold bin2
  rw [h1, Res.ok_bind, h2, Res.ok_bind, h3]
theorem cons_ok {fa : Env → Res B} {fs : Env → Res (List B)} {x : B} {xs : List B} {ρ : Env} (h1 : fa ρ = .ok x) (h2 : fs ρ = .ok xs) : consA fa fs ρ = .ok (rd x :: xs) := by
  unfold consA
  rw [h1, Res.ok_bind, h2, Res.ok_bind]
theorem nil_ok {ρ : Env} : nilA ρ = .ok [] := rfl
theorem one_ok {f : B → Res B} {fa : Env → Res B} {x : B} {r : Res B} {ρ : Env} (h1 : fa ρ = .ok x) (h2 : f (rd x) = r) : one1 f fa ρ = r := by
  unfold one1
  rw [h1, Res.ok_bind, h2]
theorem tst_ok {f : Env → Res B} {k : Bool} {ρ : Env} (h : f ρ = .ok (.dat (.bl k))) : tstF f ρ = .ok k := by
  unfold tstF
  rw [h]
  rfl
theorem tv_ok {f : Env → Res B} {b : B} {k : Bool} {ρ : Env} (h : f ρ = .ok b) (ht : truB (rd b) = .ok k) : testV f ρ = .ok k := by
  unfold testV
  rw [h, Res.ok_bind, ht]
theorem not_ok {t : Env → Res Bool} {k : Bool} {ρ : Env} (h : t ρ = .ok k) : notT t ρ = .ok !k := by
  unfold notT
  rw [h]
  rfl
theorem and_ok {t u : Env → Res Bool} {k j : Bool} {ρ : Env} (h : t ρ = .ok k) (h2 : k = true → u ρ = .ok j) : andT t u ρ = .ok (k && j) := by
  unfold andT
  rw [h, Res.ok_bind]
  cases k with
  | true => exact h2 rfl
  | false => rfl
theorem or_ok {t u : Env → Res Bool} {k j : Bool} {ρ : Env} (h : t ρ = .ok k) (h2 : k = false → u ρ = .ok j) : orT t u ρ = .ok (k || j) := by
  unfold orT
  rw [h, Res.ok_bind]
  cases k with
  | true => rfl
  | false => exact h2 rfl
theorem if_t {t : Env → Res Bool} {f h : Env → Out} {ρ : Env} (e : t ρ = .ok true) : iteS t f h ρ = f ρ := by
  unfold iteS
  rw [e]
  rfl
theorem if_f {t : Env → Res Bool} {f h : Env → Out} {ρ : Env} (e : t ρ = .ok false) : iteS t f h ρ = h ρ := by
  unfold iteS
  rw [e]
  rfl
theorem app_ok {i : Nat} {fa : Env → Res B} {ds : List D} {b : B} {d : D} {ρ : Env} (h1 : ownAt ρ i = some (.l ds)) (h2 : fa ρ = .ok b) (h3 : rd b = .dat d) (h4 : ds.length < sizeLine) : appV i fa ρ = .nx (ρ.set i (some (.own (.l (ds ++ [d]))))) := by
  unfold appV
  rw [h1]
  dsimp only
  rw [h2]
  dsimp only
  rw [h3]
  exact if_pos h4
theorem put_ok {i : Nat} {fk fv : Env → Res B} {ρ : Env} {b kb : B} {d : D} {m m' : M} (hv : fv ρ = .ok b) (hb : rd b = .dat d) (ho : ownAt ρ i = some m) (hk : fk ρ = .ok kb) (hm : storeM m (rd kb) d = some m') : putS i fk fv ρ = .nx (ρ.set i (some (.own m'))) := by
  unfold putS
  rw [hv]
  dsimp only
  rw [hb, ho, hk]
  dsimp only
  rw [hm]
/-! ### loops -/
theorem loop_nx {t : Tg} {body : Env → Out} (I : Nat → Env → Prop) {ds : List D} : ∀ (n : Nat) {ρ : Env}, n ≤ ds.length → I n ρ →
    (∀ i d ρ, ds[i]? = some d → I i ρ → ∃ ρ1 ρ2, bindT t d ρ = some ρ1 ∧ (body ρ1 = .nx ρ2 ∨ body ρ1 = .ct ρ2) ∧ I (i + 1) ρ2) → ∃ ρ', loopF t body (ds.drop n) ρ = .nx ρ' ∧ I ds.length ρ' := by
  intro n
  generalize hk : ds.length - n = k
  induction k generalizing n with
  | zero =>
    intro ρ hn h st
    have e : n = ds.length := by omega
    subst e
    rw [List.drop_length]
    exact ⟨ρ, rfl, h⟩
  | succ k ih =>
    intro ρ hn h st
    have hlt : n < ds.length := by omega
    obtain ⟨ρ1, ρ2, h1, h2, h3⟩ := st n ds[n] ρ (List.getElem?_eq_getElem hlt) h
    obtain ⟨ρ', h4, h5⟩ := ih (n + 1) (by omega) hlt h3 st
    refine ⟨ρ', ?_, h5⟩
    rw [List.drop_eq_getElem_cons hlt]
    unfold loopF
    rw [h1]
    dsimp only
    rcases h2 with h2 | h2 <;> (rw [h2]; exact h4)
theorem loop_all {t : Tg} {body : Env → Out} (I : Nat → Env → Prop) {ds : List D} {ρ : Env} (h : I 0 ρ) (st : ∀ i d ρ, ds[i]? = some d → I i ρ → ∃ ρ1 ρ2, bindT t d ρ = some ρ1 ∧ (body ρ1 = .nx ρ2 ∨ body ρ1 = .ct ρ2) ∧ I (i + 1) ρ2) :
    ∃ ρ', loopF t body ds ρ = .nx ρ' ∧ I ds.length ρ' := loop_nx I 0 (Nat.zero_le _) h st
theorem rng_get {lo hi : Int} {i : Nat} {d : D} (h : (rng lo hi)[i]? = some d) : d = .int (lo + (i : Int)) ∧ i < (hi - lo).toNat := by
  unfold rng at h
  rw [List.getElem?_map] at h
  cases e : (List.range (hi - lo).toNat)[i]? with
  | none => rw [e] at h; cases h
  | some j =>
    rw [e] at h
    obtain ⟨h1, h2⟩ := List.getElem?_eq_some_iff.mp e
    rw [List.getElem_range] at h2
    subst h2
    cases h
    exact ⟨rfl, by simpa using h1⟩
theorem rng_1 {n : Int} (h1 : -2 ^ 62 ≤ n) (h2 : n < 2 ^ 62) : rngA [.dat (.int n)] = .ok (rng 0 n) := by
  unfold rngA
  dsimp only
  rw [if_pos ⟨h1, h2⟩]
theorem rng_nat {n : Nat} (h : n < 2 ^ 62) : rngA [.dat (.int (n : Int))] = .ok (rng 0 (n : Int)) := rng_1 (by omega) (by omega)
theorem rng_len {lo hi : Int} : (rng lo hi).length = (hi - lo).toNat := by unfold rng; simp
theorem slc_lst {ds : List D} {lo hi : Option Int} : sliceB (.dat (.lst ds)) lo hi = .ok (.own (.l (cutL ds lo hi))) := by
  unfold sliceB
  rfl
theorem cut_tail {α : Type} (x : α) (xs : List α) : cutL (x :: xs) (some 1) none = xs := by
  have e : HT.sIx (x :: xs).length 0 (some 1) = 1 := by
    have := HT.sIx_nat (x :: xs).length 0 1
    rw [List.length_cons] at this ⊢
    rw [Nat.min_eq_left (by omega)] at this
    exact this
  unfold cutL
  rw [e, HT.sIx_none, List.drop_one, List.tail_cons, List.take_of_length_le (by rw [List.length_cons]; omega)]
/-! ### comprehensions -/
theorem mapC_ok {f : D → Res (Option D)} (o : D → Option D) : ∀ {ds : List D}, (∀ d ∈ ds, f d = .ok (o d)) → mapC f ds = .ok (ds.filterMap o)
  | [], _ => rfl
  | d :: ds, h => by
    unfold mapC
    rw [h d List.mem_cons_self, Res.ok_bind, mapC_ok o (fun e he => h e (List.mem_cons_of_mem _ he)), Res.ok_bind, List.filterMap_cons]
    cases o d <;> rfl
theorem comp_ok {t : Tg} {it : Env → Res (List D)} {c : Env → Res Bool} {fe : Env → Res B} {vs : List Nat} {ρ : Env} {ds : List D} (o : D → Option D) (h1 : it ρ = .ok ds) (hl : ds.length ≤ sizeLine) (h2 : ∀ d ∈ ds, stepC t c fe (wipeE ρ vs) d = .ok (o d)) :
    compV t it c fe vs ρ = .ok (.own (.l (ds.filterMap o))) := by
  unfold compV
  rw [h1, Res.ok_bind, if_pos hl, mapC_ok o h2, Res.ok_bind]
theorem step_yes {t : Tg} {c : Env → Res Bool} {fe : Env → Res B} {ρ ρ1 : Env} {d r : D} {b : B} (h1 : bindT t d ρ = some ρ1) (h2 : c ρ1 = .ok true) (h3 : fe ρ1 = .ok b) (h4 : rd b = .dat r) : stepC t c fe ρ d = .ok (some r) := by
  unfold stepC
  rw [h1]
  dsimp only
  rw [h2]
  dsimp only
  rw [h3]
  dsimp only
  rw [h4]
  rfl
theorem step_no {t : Tg} {c : Env → Res Bool} {fe : Env → Res B} {ρ ρ1 : Env} {d : D} (h1 : bindT t d ρ = some ρ1) (h2 : c ρ1 = .ok false) : stepC t c fe ρ d = .ok none := by
  unfold stepC
  rw [h1]
  dsimp only
  rw [h2]
theorem comp_map {t : Tg} {it : Env → Res (List D)} {c : Env → Res Bool} {fe : Env → Res B} {vs : List Nat} {ρ : Env} {α : Type} {as : List α} {f : α → D} (k : α → Bool) (h : α → D) (h1 : it ρ = .ok (as.map f)) (hl : as.length ≤ 1000) (h2 : ∀ a ∈ as, stepC t c fe (wipeE ρ vs) (f a) = .ok (if k a = true then some (h a) else none)) :
    compV t it c fe vs ρ = .ok (.own (.l ((as.filter k).map h))) := by
  unfold compV
  rw [h1, Res.ok_bind, if_pos (le_sz (by rw [List.length_map]; exact hl))]
  have : ∀ as : List α, (∀ a ∈ as, stepC t c fe (wipeE ρ vs) (f a) = .ok (if k a = true then some (h a) else none)) → mapC (stepC t c fe (wipeE ρ vs)) (as.map f) = .ok ((as.filter k).map h) := by
    intro as
    induction as with
    | nil => intro _; rfl
    | cons a as ih =>
      intro h2
      rw [List.map_cons]
      unfold mapC
      rw [h2 a List.mem_cons_self, Res.ok_bind, ih fun b hb => h2 b (List.mem_cons_of_mem _ hb), Res.ok_bind, List.filter_cons]
      cases k a <;> rfl
  rw [this as h2, Res.ok_bind]
theorem cat_tt {P Q : List D} (h : P.length + Q.length ≤ 1000) : addB (.dat (.tup P)) (.dat (.tup Q)) = .ok (.dat (.tup (P ++ Q))) := by
  show (if P.length + Q.length ≤ sizeLine then (.ok (.dat (.tup (P ++ Q))) : Res B) else .bad) = _
  exact if_pos (le_sz h)
theorem cat_vl {P Q : List D} (h : P.length + Q.length ≤ 1000) : addB (.vw (.l P)) (.dat (.lst Q)) = .ok (.own (.l (P ++ Q))) := by
  show (if P.length + Q.length ≤ sizeLine then (.ok (.own (.l (P ++ Q))) : Res B) else .bad) = _
  exact if_pos (le_sz h)
theorem slc_ok {fa : Env → Res B} {fl fh : Env → Res (Option Int)} {ρ : Env} {x : B} {l h : Option Int} {r : Res B} (h1 : fa ρ = .ok x) (h2 : fl ρ = .ok l) (h3 : fh ρ = .ok h) (h4 : sliceB (rd x) l h = r) : slcV fa fl fh ρ = r := by
  unfold slcV
  rw [h1, Res.ok_bind, h2, Res.ok_bind, h3, Res.ok_bind, h4]
theorem cut_take {α : Type} (xs : List α) (n : Nat) : cutL xs none (some (n : Int)) = xs.take n := by
  unfold cutL
  rw [HT.sIx_none, HT.sIx_nat, List.drop_zero, Nat.sub_zero, ← List.take_take, List.take_length]
/-! ### texts as data -/
abbrev txs (xs : List Str) : List D := xs.map D.str
abbrev Lays (xs : List Str) : Prop := ∀ x ∈ xs, PyData.strOk x = true
theorem lay_strs : ∀ {xs : List Str}, Lays xs → PyData.canLayAll0 (toPys (txs xs)) = true ∧ PyData.depthAll (toPys (txs xs)) = 0
  | [], _ => ⟨rfl, rfl⟩
  | x :: xs, h => by
    obtain ⟨h1, h2⟩ := lay_strs (xs := xs) fun y hy => h y (List.mem_cons_of_mem _ hy)
    show (PyData.canLay0 (.str x) && PyData.canLayAll0 (toPys (txs xs))) = true ∧ Nat.max (PyData.depth (.str x)) (PyData.depthAll (toPys (txs xs))) = 0
    rw [h1, h2]
    simp only [PyData.canLay0, PyData.depth, h x List.mem_cons_self]
    exact ⟨rfl, rfl⟩
theorem shaped_str {x : Str} (h : PyData.strOk x = true) : SeqAt.shaped (toPy (.str x)) = true := by
  show (PyData.canLay0 (.str x) && decide (PyData.depth (.str x) ≤ 64)) = true
  simp only [PyData.canLay0, PyData.depth, h]
  rfl
theorem shaped_strs {xs : List Str} (h : Lays xs) : SeqAt.shaped (.tuple (toPys (txs xs))) = true ∧ SeqAt.shaped (.list (toPys (txs xs))) = true := by
  obtain ⟨h1, h2⟩ := lay_strs h
  constructor
  · show (PyData.canLay0 (.tuple _) && decide (PyData.depth (.tuple _) ≤ 64)) = true
    simp only [PyData.canLay0, PyData.depth, h1, h2]
    rfl
  · show (PyData.canLay0 (.list _) && decide (PyData.depth (.list _) ≤ 64)) = true
    simp only [PyData.canLay0, PyData.depth, h1, h2]
    rfl
theorem eqv_strs : ∀ {xs ys : List Str}, PyData.eqvAll (toPys (txs xs)) (toPys (txs ys)) = decide (xs = ys)
  | [], [] => by simp [toPys, PyData.eqvAll]
  | [], _ :: _ => by simp [toPys, PyData.eqvAll]
  | _ :: _, [] => by simp [toPys, PyData.eqvAll]
  | x :: xs, y :: ys => by
    show (PyData.eqv (.str x) (.str y) && PyData.eqvAll (toPys (txs xs)) (toPys (txs ys))) = _
    rw [eqv_strs]
    simp [PyData.eqv, Bool.beq_eq_decide_eq]
/-- a text among texts -/
theorem in_strs {x : Str} {xs : List Str} (hx : PyData.strOk x = true) (h : Lays xs) : inB false (.dat (.str x)) (.dat (.tup (txs xs))) = .ok (.dat (.bl (decide (x ∈ xs)))) := by
  show ((inSeq (.str x) (txs xs) true).bind fun k => (.ok (.dat (.bl (k != false))) : Res B)) = _
  unfold inSeq
  rw [if_pos (by rw [Bool.and_eq_true]; exact ⟨shaped_str hx, (shaped_strs h).2⟩), Res.ok_bind]
  congr 3
  rw [Bool.bne_false]
  induction xs with
  | nil => rfl
  | cons y ys ih =>
    show (PyData.eqv (.str y) (.str x) || (txs ys).any _) = _
    rw [ih fun z hz => h z (List.mem_cons_of_mem _ hz)]
    simp only [PyData.eqv, List.mem_cons]
    by_cases e : y = x
    · subst e; simp
    · have e' : ¬ x = y := fun z => e z.symm
      simp [e, e']
/-! ### the order of data -/
theorem leD_law : PySem.W.TotalLe leD := PySem.W.sortLe_total (PyProof.Rows.listOrd PyProof.Rows.itemOrd) false fun b : D => PySem.W.keyToks (toPy b)
theorem leD_iff {a b : D} : leD a b = true ↔ PyProof.Rows.lexLt PyProof.Rows.itemOrd (PySem.W.keyToks (toPy b)) (PySem.W.keyToks (toPy a)) = false := by
  show (!PyProof.Rows.lexLt PyProof.Rows.itemOrd _ _) = true ↔ _
  rw [Bool.not_eq_true']
theorem leD_anti {a b : D} (h1 : leD a b = true) (h2 : leD b a = true) : PySem.W.keyToks (toPy a) = PySem.W.keyToks (toPy b) :=
  PyProof.Rows.lex_total _ _ (leD_iff.mp h2) (leD_iff.mp h1)
theorem sortD_pair (ds : List D) : (ds.mergeSort leD).Pairwise fun a b => leD a b = true :=
  List.pairwise_mergeSort leD_law.trans (fun a b => by rw [Bool.or_eq_true]; exact leD_law.total a b) ds
theorem leD_str {x y : Str} (h1 : leD (.str x) (.str y) = true) (h2 : leD (.str y) (.str x) = true) : x = y := by
  have e := leD_anti h1 h2
  simp only [toPy, PySem.W.keyToks, List.cons.injEq, Sum.inr.injEq, and_true] at e
  exact PySem.W.str_of_cps e
/-- texts that are the same, sorted, are the same list -/
theorem txs_sorted {xs ys : List Str} (h1 : (txs xs).Pairwise fun a b => leD a b = true) (h2 : (txs ys).Pairwise fun a b => leD a b = true) (hp : xs.Perm ys) : xs = ys := by
  have e : txs xs = txs ys := List.Perm.eq_of_pairwise (le := fun a b => leD a b = true) (fun a b ha hb l1 l2 => by
    obtain ⟨x, _, rfl⟩ := List.mem_map.mp ha
    obtain ⟨y, _, rfl⟩ := List.mem_map.mp hb
    rw [leD_str l1 l2]) h1 h2 (hp.map _)
  exact List.map_inj_right (fun a b h => by cases h; rfl) |>.mp e
theorem txs_of : ∀ {ds : List D}, (∀ d ∈ ds, ∃ x, d = .str x) → ∃ xs, ds = txs xs
  | [], _ => ⟨[], rfl⟩
  | d :: ds, h => by
    obtain ⟨x, rfl⟩ := h d List.mem_cons_self
    obtain ⟨xs, rfl⟩ := txs_of fun e he => h e (List.mem_cons_of_mem _ he)
    exact ⟨x :: xs, rfl⟩
def unS : D → Str
  | .str x => x
  | _ => Str.empty
theorem unS_txs (xs : List Str) : (txs xs).map unS = xs := by
  rw [List.map_map]
  exact List.map_id' xs
theorem txs_perm {xs ys : List Str} (h : (txs xs).Perm (txs ys)) : xs.Perm ys := by
  have := h.map unS
  rw [unS_txs, unS_txs] at this
  exact this
theorem alike_txs : ∀ (xs ys : List Str), PySem.W.alikeAll (toPys (txs xs)) (toPys (txs ys)) = true
  | [], _ => by simp [toPys, PySem.W.alikeAll]
  | _ :: _, [] => by simp [toPys, PySem.W.alikeAll]
  | x :: xs, y :: ys => by
    show (PySem.W.alike (.str x) (.str y) && PySem.W.alikeAll (toPys (txs xs)) (toPys (txs ys))) = true
    rw [alike_txs]
    simp [PySem.W.alike]
theorem sortOk_txs {xs : List Str} (h : Lays xs) : sortOk (txs xs) = true := by
  unfold sortOk
  rw [toPys_map]
  simp only [Bool.and_eq_true, Bool.or_eq_true, List.all_eq_true, List.mem_map]
  refine ⟨?_, ?_, .inr ?_⟩
  · rintro _ ⟨_, ⟨x, hx, rfl⟩, rfl⟩
    exact shaped_str (h x hx)
  · rintro _ ⟨_, ⟨x, hx, rfl⟩, rfl⟩ _ ⟨_, ⟨y, hy, rfl⟩, rfl⟩
    simp [toPy, PySem.W.alike]
  · rintro _ ⟨_, ⟨x, hx, rfl⟩, rfl⟩
    rfl
end Fn
namespace Fn
open PySem PySem.Spec PyProof.Rows L2
/-! ### evaluation by rewriting: combinators applied to an environment -/
section
variable {ρ ρ' : Env} {f h : Env → Out} {fa fb fc : Env → Res B} {fs : Env → Res (List B)} {i j k : Nat} {b x y : B} {c c' : Nat} {d : D} {m : M} {ds : List D} {bs : List B} {ns : List Int}
def Out.sq (o : Out) (h : Env → Out) : Out := match o with
  | .nx ρ => h ρ
  | o => o
theorem e_seq : seqS f h ρ = (f ρ).sq h := by unfold seqS Out.sq; cases f ρ <;> rfl
theorem sq_nx : (Out.nx ρ).sq h = h ρ := (rfl)
theorem sq_rt : (Out.rt b).sq h = .rt b := (rfl)
theorem sq_bk : (Out.bk ρ).sq h = .bk ρ := (rfl)
theorem sq_ct : (Out.ct ρ).sq h = .ct ρ := (rfl)
theorem sq_exc : (Out.exc c ρ).sq h = .exc c ρ := (rfl)
def thenK (r : Res B) (k : B → Env → Out) (ρ : Env) : Out := match r with
  | .ok b => k b ρ
  | .exc c => .exc c ρ
  | .bad => .bad
variable {kk : B → Env → Out}
theorem e_then : thenS fa kk ρ = thenK (fa ρ) kk ρ := (rfl)
theorem then_ok : thenK (.ok b) kk ρ = kk b ρ := (rfl)
theorem then_exc : thenK (.exc c) kk ρ = .exc c ρ := (rfl)
theorem set_dat : setV i (.dat d) ρ = .nx (ρ.set i (some (.dat d))) := (rfl)
theorem set_own : setV i (.own m) ρ = .nx (ρ.set i (some (.own m))) := (rfl)
theorem set_bor : setV i (.bor m) ρ = .nx (ρ.set i (some (.bor m))) := (rfl)
theorem set_scr : setV i (.scr ns) ρ = .nx (ρ.set i (some (.scr ns))) := (rfl)
/-- a name takes a value that is not changed later: what is fresh is locked -/
def setL (i : Nat) (b : B) (ρ : Env) : Out := match setV i b ρ with
  | .nx ρ' => .nx (lockE i ρ')
  | o => o
theorem ret_dat : retV (.dat d) ρ = .rt (.dat d) := (rfl)
theorem ret_own : retV (.own m) ρ = .rt (.own m) := (rfl)
theorem rd_dat : rd (.dat d) = .dat d := (rfl)
theorem rd_own : rd (.own m) = .dat (frzM m) := (rfl)
theorem rd_vw : rd (.vw m) = .vw m := (rfl)
theorem rd_bor : rd (.bor m) = .bor m := (rfl)
theorem rd_scr : rd (.scr ns) = .scr ns := (rfl)
theorem frz_l : frzM (.l ds) = .lst ds := (rfl)
theorem frz_k {kvs : List (Key × D)} : frzM (.k kvs) = .dk kvs := (rfl)
theorem frz_t {kvs : List (List Key × D)} : frzM (.t kvs) = .dt kvs := (rfl)
def look (o : Option (Option B)) : Res B := match o with
  | some (some (.dat d)) => .ok (.dat d)
  | some (some (.own m)) => .ok (.vw m)
  | some (some (.bor m)) => .ok (.bor m)
  | some (some (.scr ns)) => .ok (.scr ns)
  | some (some (.err c)) => .ok (.err c)
  | _ => .bad
theorem e_var : varB i ρ = look ρ[i]? := (rfl)
theorem look_dat : look (some (some (.dat d))) = .ok (.dat d) := (rfl)
theorem look_own : look (some (some (.own m))) = .ok (.vw m) := (rfl)
theorem look_bor : look (some (some (.bor m))) = .ok (.bor m) := (rfl)
theorem look_scr : look (some (some (.scr ns))) = .ok (.scr ns) := (rfl)
theorem look_err : look (some (some (.err c))) = .ok (.err c) := (rfl)
theorem rd_err : rd (.err c) = .err c := (rfl)
theorem arg_err : toArg (.err c) = .err c := (rfl)
theorem set_err : setV i (.err c) ρ = .nx (ρ.set i (some (.err c))) := (rfl)
def lookN (o : Option (Option B)) : Out := match o with
  | some (some (.dat d)) => .rt (.dat d)
  | some (some (.own m)) => .rt (.own m)
  | _ => .bad
theorem e_retN : retN i ρ = lookN ρ[i]? := (rfl)
theorem lookN_dat : lookN (some (some (.dat d))) = .rt (.dat d) := (rfl)
theorem lookN_own : lookN (some (some (.own m))) = .rt (.own m) := (rfl)
def bin2K (f : B → B → Res B) (ra rb : Res B) : Res B := ra.bind fun x => rb.bind fun y => f (rd x) (rd y)
variable {f2 : B → B → Res B} {f1 : B → Res B} {r ra rb : Res B}
theorem e_bin2 : bin2 f2 fa fb ρ = bin2K f2 (fa ρ) (fb ρ) := (rfl)
theorem bin2_ok : bin2K f2 (.ok x) (.ok y) = f2 (rd x) (rd y) := (rfl)
theorem bin2_exc : bin2K f2 (.exc c) rb = .exc c := (rfl)
theorem bin2_exc2 : bin2K f2 (.ok x) (.exc c) = .exc c := (rfl)
def one1K (f : B → Res B) (r : Res B) : Res B := r.bind fun x => f (rd x)
theorem e_one1 : one1 f1 fa ρ = one1K f1 (fa ρ) := (rfl)
theorem one1_ok : one1K f1 (.ok x) = f1 (rd x) := (rfl)
theorem one1_exc : one1K f1 (.exc c) = .exc c := (rfl)
def consK (ra : Res B) (rs : Res (List B)) : Res (List B) := ra.bind fun x => rs.bind fun xs => .ok (rd x :: xs)
theorem e_cons : consA fa fs ρ = consK (fa ρ) (fs ρ) := (rfl)
theorem cons_okK : consK (.ok x) (.ok bs) = .ok (rd x :: bs) := (rfl)
theorem cons_exc {rs : Res (List B)} : consK (.exc c) rs = .exc c := (rfl)
theorem cons_exc2 : consK (.ok x) (.exc c) = .exc c := (rfl)
theorem e_nil : nilA ρ = .ok [] := (rfl)
variable {g : List B → Res B}
theorem e_call : callF g fs ρ = (fs ρ).bind g := (rfl)
theorem bnd_ok {α β : Type} {a : α} {f : α → Res β} : (Res.ok a).bind f = f a := (rfl)
theorem bnd_exc {α β : Type} {f : α → Res β} : (Res.exc c : Res α).bind f = .exc c := (rfl)
def callE (en : En) (bs : List B) : Res B := (lenA en.n bs).bind (callV en)
theorem e_own {en : En} : ownF en fs ρ = (fs ρ).bind (callE en) := (rfl)
theorem arg_dat : toArg (.dat d) = .dat d := (rfl)
theorem arg_vw : toArg (.vw m) = .bor m := (rfl)
theorem arg_bor : toArg (.bor m) = .bor m := (rfl)
theorem arg_scr : toArg (.scr ns) = .scr ns := (rfl)
theorem retB_dat : retB (.dat d) = .ok (.dat d) := (rfl)
theorem retB_own : retB (.own m) = .ok (.own m) := (rfl)
theorem callE_of {en : En} (h : en.n = bs.length) : callE en bs = (en.F (bs.map toArg)).bind retB := by
  unfold callE lenA callV
  rw [if_pos h.symm]
  rfl
theorem e_tst : tstF fa ρ = (fa ρ).bind tstB := (rfl)
theorem tst_bl {v : Bool} : tstB (.dat (.bl v)) = .ok v := (rfl)
def testK (r : Res B) : Res Bool := r.bind fun x => truB (rd x)
theorem e_testV : testV fa ρ = testK (fa ρ) := (rfl)
theorem test_ok : testK (.ok x) = truB (rd x) := (rfl)
theorem test_exc : testK (.exc c) = .exc c := (rfl)
theorem tru_bl {v : Bool} : truB (.dat (.bl v)) = .ok v := (rfl)
theorem tru_int {n : Int} : truB (.dat (.int n)) = .ok (n != 0) := (rfl)
theorem tru_non : truB (.dat .non) = .ok false := (rfl)
theorem tru_tup : truB (.dat (.tup ds)) = .ok (!ds.isEmpty) := (rfl)
theorem tru_lst : truB (.dat (.lst ds)) = .ok (!ds.isEmpty) := (rfl)
theorem tru_vw : truB (.vw (.l ds)) = .ok (!ds.isEmpty) := (rfl)
variable {t u : Env → Res Bool} {s : Res Bool} {p q : Bool}
def notK (r : Res Bool) : Res Bool := r.bind fun k => .ok !k
theorem e_notT : notT t ρ = notK (t ρ) := (rfl)
theorem notK_ok : notK (.ok p) = .ok !p := (rfl)
theorem notK_exc : notK (.exc c) = .exc c := (rfl)
def andTK (r : Res Bool) (u : Env → Res Bool) (ρ : Env) : Res Bool := r.bind fun k => if k = true then u ρ else .ok false
def orTK (r : Res Bool) (u : Env → Res Bool) (ρ : Env) : Res Bool := r.bind fun k => if k = true then .ok true else u ρ
theorem e_and : andT t u ρ = andTK (t ρ) u ρ := by unfold andT andTK; cases t ρ <;> first | rfl | (rename_i a; cases a <;> rfl)
theorem e_or : orT t u ρ = orTK (t ρ) u ρ := by unfold orT orTK; cases t ρ <;> first | rfl | (rename_i a; cases a <;> rfl)
theorem and_t : andTK (.ok true) u ρ = u ρ := (rfl)
theorem and_f : andTK (.ok false) u ρ = .ok false := (rfl)
theorem or_t : orTK (.ok true) u ρ = .ok true := (rfl)
theorem or_f : orTK (.ok false) u ρ = u ρ := (rfl)
theorem and_exc : andTK (.exc c) u ρ = .exc c := (rfl)
theorem or_exc : orTK (.exc c) u ρ = .exc c := (rfl)
theorem and_go : andTK (.ok p) u ρ = if p = true then u ρ else .ok false := (rfl)
theorem or_go : orTK (.ok p) u ρ = if p = true then .ok true else u ρ := (rfl)
theorem and_r : (if p = true then (.ok q : Res Bool) else .ok false) = .ok (p && q) := by cases p <;> rfl
theorem or_r : (if p = true then (.ok true : Res Bool) else .ok q) = .ok (p || q) := by cases p <;> rfl
def iteVK (r : Res Bool) (fa fb : Env → Res B) (ρ : Env) : Res B := r.bind fun k => if k = true then fa ρ else fb ρ
theorem e_iteV : iteV t fa fb ρ = iteVK (t ρ) fa fb ρ := by unfold iteV iteVK; cases t ρ <;> first | rfl | (rename_i a; cases a <;> rfl)
theorem iteV_t : iteVK (.ok true) fa fb ρ = fa ρ := (rfl)
theorem iteV_f : iteVK (.ok false) fa fb ρ = fb ρ := (rfl)
theorem iteV_go : iteVK (.ok p) fa fb ρ = if p = true then fa ρ else fb ρ := (rfl)
def andVK (r : Res B) (fb : Env → Res B) (ρ : Env) : Res B := r.bind fun x => match x with
  | .dat (.bl true) => fb ρ
  | .dat (.bl false) => .ok (.dat (.bl false))
  | _ => .bad
def orVK (r : Res B) (fb : Env → Res B) (ρ : Env) : Res B := r.bind fun x => match x with
  | .dat (.bl false) => fb ρ
  | .dat (.bl true) => .ok (.dat (.bl true))
  | _ => .bad
theorem e_andV : andV fa fb ρ = andVK (fa ρ) fb ρ := (rfl)
theorem e_orV : orV fa fb ρ = orVK (fa ρ) fb ρ := (rfl)
theorem andV_t : andVK (.ok (.dat (.bl true))) fb ρ = fb ρ := (rfl)
theorem andV_f : andVK (.ok (.dat (.bl false))) fb ρ = .ok (.dat (.bl false)) := (rfl)
theorem andV_exc : andVK (.exc c) fb ρ = .exc c := (rfl)
theorem orV_t : orVK (.ok (.dat (.bl true))) fb ρ = .ok (.dat (.bl true)) := (rfl)
theorem orV_f : orVK (.ok (.dat (.bl false))) fb ρ = fb ρ := (rfl)
theorem orV_exc : orVK (.exc c) fb ρ = .exc c := (rfl)
theorem andV_go : andVK (.ok (.dat (.bl p))) fb ρ = if p = true then fb ρ else .ok (.dat (.bl false)) := by cases p <;> rfl
theorem orV_go : orVK (.ok (.dat (.bl p))) fb ρ = if p = true then .ok (.dat (.bl true)) else fb ρ := by cases p <;> rfl
theorem andV_r : (if p = true then (.ok (.dat (.bl q)) : Res B) else .ok (.dat (.bl false))) = .ok (.dat (.bl (p && q))) := by cases p <;> rfl
theorem orV_r : (if p = true then (.ok (.dat (.bl true)) : Res B) else .ok (.dat (.bl q))) = .ok (.dat (.bl (p || q))) := by cases p <;> rfl
def iteSK (r : Res Bool) (f h : Env → Out) (ρ : Env) : Out := match r with
  | .ok k => if k = true then f ρ else h ρ
  | .exc c => .exc c ρ
  | .bad => .bad
theorem e_iteS : iteS t f h ρ = iteSK (t ρ) f h ρ := (rfl)
theorem iteS_t : iteSK (.ok true) f h ρ = f ρ := (rfl)
theorem iteS_f : iteSK (.ok false) f h ρ = h ρ := (rfl)
theorem iteS_go : iteSK (.ok p) f h ρ = if p = true then f ρ else h ρ := (rfl)
theorem iteS_exc : iteSK (.exc c) f h ρ = .exc c ρ := (rfl)
def itK (lk : Bool) (r : Res B) : Res (List D) := r.bind fun x => itemsB lk (rd x)
variable {lk : Bool}
theorem e_it : itF lk fa ρ = itK lk (fa ρ) := (rfl)
theorem itK_ok : itK lk (.ok x) = itemsB lk (rd x) := (rfl)
theorem itK_exc : itK lk (.exc c) = .exc c := (rfl)
theorem it_tup : itemsB lk (.dat (.tup ds)) = .ok ds := (rfl)
theorem it_ctup : itemsB lk (.dat (.ctup ds)) = .ok ds := (rfl)
theorem it_lst : itemsB lk (.dat (.lst ds)) = .ok ds := (rfl)
theorem it_bor : itemsB lk (.bor (.l ds)) = .ok ds := (rfl)
theorem it_vw : itemsB true (.vw (.l ds)) = .ok ds := (rfl)
theorem it_scr : itemsB lk (.scr ns) = .ok (ns.map .int) := (rfl)
theorem it_str {z : Str} : itemsB lk (.dat (.str z)) = .ok (z.cps.toList.map fun c => .str ⟨#[c]⟩) := (rfl)
/-! sealed: no defeq check looks into these -/
noncomputable def rgZ : List B → Res (List D) := Classical.choose (⟨rngA, rfl⟩ : ∃ f, f = rngA)
theorem rgZ_eq : rgZ = rngA := Classical.choose_spec (⟨rngA, rfl⟩ : ∃ f, f = rngA)
noncomputable def shlZ : B → B → Res B := Classical.choose (⟨shlB, rfl⟩ : ∃ f, f = shlB)
theorem e_shl : shlB = shlZ := (Classical.choose_spec (⟨shlB, rfl⟩ : ∃ f, f = shlB)).symm
noncomputable def powZ : B → B → Res B := Classical.choose (⟨powB, rfl⟩ : ∃ f, f = powB)
theorem e_pow : powB = powZ := (Classical.choose_spec (⟨powB, rfl⟩ : ∃ f, f = powB)).symm
theorem e_rg : rgF fs ρ = (fs ρ).bind rgZ := by rw [rgZ_eq]; rfl
theorem e_noP : noP ρ = .ok none := (rfl)
theorem e_atP : atP fa ρ = (fa ρ).bind partB := (rfl)
theorem part_int {n : Int} : partB (.dat (.int n)) = .ok (some n) := (rfl)
def slcK (r : Res B) (rl rh : Res (Option Int)) : Res B := r.bind fun x => rl.bind fun l => rh.bind fun h => sliceB (rd x) l h
variable {fl fh : Env → Res (Option Int)} {lo hi : Option Int}
theorem e_slc : slcV fa fl fh ρ = slcK (fa ρ) (fl ρ) (fh ρ) := (rfl)
theorem slc_okK : slcK (.ok x) (.ok lo) (.ok hi) = sliceB (rd x) lo hi := (rfl)
variable {tg : Tg} {it : Env → Res (List D)} {vs : List Nat}
def compD (tg : Tg) (t : Env → Res Bool) (fe : Env → Res B) (ρ : Env) (ds : List D) : Res B := if ds.length ≤ sizeLine then (mapC (stepC tg t fe ρ) ds).bind fun out => .ok (.own (.l out)) else .bad
def compK (tg : Tg) (t : Env → Res Bool) (fe : Env → Res B) (ρ : Env) (r : Res (List D)) : Res B := r.bind (compD tg t fe ρ)
theorem e_comp : compV tg it t fe vs ρ = compK tg t fe (wipeE ρ vs) (it ρ) := (rfl)
theorem compK_ok {fe : Env → Res B} : compK tg t fe ρ (.ok ds) = compD tg t fe ρ ds := (rfl)
theorem compK_exc {fe : Env → Res B} : compK tg t fe ρ (.exc c) = .exc c := (rfl)
theorem wipe_nil : wipeE ρ [] = ρ := (rfl)
theorem wipe_cons : wipeE ρ (i :: vs) = (wipeE ρ vs).set i none := (rfl)
def forK (tg : Tg) (body : Env → Out) (r : Res (List D)) (ρ : Env) : Out := match r with
  | .ok ds => loopF tg body ds ρ
  | .exc c => .exc c ρ
  | .bad => .bad
theorem e_for : forV tg it f ρ = forK tg f (it ρ) ρ := (rfl)
theorem forK_ok : forK tg f (.ok ds) ρ = loopF tg f ds ρ := (rfl)
theorem forK_exc : forK tg f (.exc c) ρ = .exc c ρ := (rfl)
def bindO (o : Option Env) : Out := match o with
  | some ρ' => .nx ρ'
  | none => .bad
theorem bindV_dat : bindV tg (.dat d) ρ = bindO (bindT tg d ρ) := (rfl)
theorem bindV_own : bindV tg (.own m) ρ = bindO (bindT tg (frzM m) ρ) := (rfl)
theorem bindO_some : bindO (some ρ) = .nx ρ := (rfl)
variable {is : List Nat}
theorem bt_one : bindT (.one i) d ρ = some (ρ.set i (some (.dat d))) := (rfl)
theorem bt_tup (h : ds.length = is.length) : bindT (.many is) (.tup ds) ρ = some (putMany is ds ρ) := if_pos h
theorem bt_ctup (h : ds.length = is.length) : bindT (.many is) (.ctup ds) ρ = some (putMany is ds ρ) := if_pos h
theorem bt_lst (h : ds.length = is.length) : bindT (.many is) (.lst ds) ρ = some (putMany is ds ρ) := if_pos h
theorem pm_nil : putMany [] ds ρ = ρ := (rfl)
theorem pm_nil2 : putMany is [] ρ = ρ := by cases is <;> rfl
theorem pm_cons : putMany (i :: is) (d :: ds) ρ = putMany is ds (ρ.set i (some (.dat d))) := (rfl)
def par2K (i j : Nat) (ra rb : Res B) (ρ : Env) : Out := match ra with
  | .ok x => (match rb with
    | .ok y => if (okV x && okV y) = true then .nx ((ρ.set i (some x)).set j (some y)) else .bad
    | .exc c => .exc c ρ
    | .bad => .bad)
  | .exc c => .exc c ρ
  | .bad => .bad
theorem e_par2 : par2 i j fa fb ρ = par2K i j (fa ρ) (fb ρ) ρ := (rfl)
variable {d' : D} {m' : M}
theorem par2_dd : par2K i j (.ok (.dat d)) (.ok (.dat d')) ρ = .nx ((ρ.set i (some (.dat d))).set j (some (.dat d'))) := (rfl)
theorem par2_od : par2K i j (.ok (.own m)) (.ok (.dat d')) ρ = .nx ((ρ.set i (some (.own m))).set j (some (.dat d'))) := (rfl)
theorem par2_do : par2K i j (.ok (.dat d)) (.ok (.own m')) ρ = .nx ((ρ.set i (some (.dat d))).set j (some (.own m'))) := (rfl)
theorem par2_oo : par2K i j (.ok (.own m)) (.ok (.own m')) ρ = .nx ((ρ.set i (some (.own m))).set j (some (.own m'))) := (rfl)
def lockO (i : Nat) (ρ : Env) (o : Option (Option B)) : Env := match o with
  | some (some (.own m)) => ρ.set i (some (.dat (frzM m)))
  | _ => ρ
theorem e_lock : lockE i ρ = lockO i ρ ρ[i]? := by
  unfold lockE lockO ownAt
  split <;> split <;> first | rfl | (rename_i h1 _ _ h2; rw [h2] at h1; simp_all) | simp_all
theorem lock_own : lockO i ρ (some (some (.own m))) = ρ.set i (some (.dat (frzM m))) := (rfl)
theorem lock_dat : lockO i ρ (some (some (.dat d))) = ρ := (rfl)
theorem lock_bor : lockO i ρ (some (some (.bor m))) = ρ := (rfl)
theorem lock_none : lockO i ρ (some none) = ρ := (rfl)
theorem e_lockS : lockS i f ρ = f (lockE i ρ) := (rfl)
theorem setL_dat (h : i < ρ.length) : setL i (.dat d) ρ = .nx (ρ.set i (some (.dat d))) := by
  unfold setL
  rw [set_dat]
  dsimp only
  rw [e_lock, List.getElem?_set_self h]
  rfl
theorem setL_own (h : i < ρ.length) : setL i (.own m) ρ = .nx (ρ.set i (some (.dat (frzM m)))) := by
  unfold setL
  rw [set_own]
  dsimp only
  rw [e_lock, List.getElem?_set_self h]
  show Out.nx ((ρ.set i _).set i _) = _
  rw [List.set_set]
theorem setL_bor (h : i < ρ.length) : setL i (.bor m) ρ = .nx (ρ.set i (some (.bor m))) := by
  unfold setL
  rw [set_bor]
  dsimp only
  rw [e_lock, List.getElem?_set_self h]
  rfl
theorem outR_nx : outR (.nx ρ) = .ok (.dat .non) := (rfl)
theorem outR_rt : outR (.rt b) = .ok b := (rfl)
theorem outR_exc : outR (.exc c ρ) = .exc c := (rfl)
theorem e_litI {n : Int} : litI n ρ = .ok (.dat (.int n)) := (rfl)
theorem e_litS {z : Str} : litS z ρ = .ok (.dat (.str z)) := (rfl)
theorem e_litB : litB p ρ = .ok (.dat (.bl p)) := (rfl)
theorem e_litN : litN ρ = .ok (.dat .non) := (rfl)
theorem e_litD : litD d ρ = .ok (.dat d) := (rfl)
theorem e_newK : newK ρ = .ok (.own (.k [])) := (rfl)
theorem e_newT : newT ρ = .ok (.own (.t [])) := (rfl)
theorem e_nx : nxS ρ = .nx ρ := (rfl)
theorem e_bk : bkS ρ = .bk ρ := (rfl)
theorem e_ct : ctS ρ = .ct ρ := (rfl)
theorem e_rtN : rtN ρ = .rt (.dat .non) := (rfl)
theorem e_yes : yesF ρ = .ok true := (rfl)
def ownOf (o : Option (Option B)) : Option M := match o with
  | some (some (.own m)) => some m
  | _ => none
theorem e_ownAt : ownAt ρ i = ownOf ρ[i]? := (rfl)
def appK (i : Nat) (o : Option M) (r : Res B) (ρ : Env) : Out := match o with
  | some (.l ds) => (match r with
    | .ok b => (match rd b with
      | .dat d => if ds.length < sizeLine then .nx (ρ.set i (some (.own (.l (ds ++ [d]))))) else .bad
      | _ => .bad)
    | .exc c => .exc c ρ
    | .bad => .bad)
  | _ => .bad
theorem e_app : appV i fa ρ = appK i (ownOf ρ[i]?) (fa ρ) ρ := (rfl)
theorem own_of : ownOf (some (some (.own m))) = some m := (rfl)
theorem app_dat (h : ds.length < sizeLine) : appK i (some (.l ds)) (.ok (.dat d)) ρ = .nx (ρ.set i (some (.own (.l (ds ++ [d]))))) := if_pos h
theorem app_own (h : ds.length < sizeLine) : appK i (some (.l ds)) (.ok (.own m)) ρ = .nx (ρ.set i (some (.own (.l (ds ++ [frzM m]))))) := if_pos h
theorem app_exc : appK i (some (.l ds)) (.exc c) ρ = .exc c ρ := (rfl)
def putK (i : Nat) (rv : Res B) (o : Option M) (rk : Res B) (ρ : Env) : Out := match rv with
  | .ok b => (match rd b, o, rk with
    | .dat d, some m, .ok k => (match storeM m (rd k) d with
      | some m' => .nx (ρ.set i (some (.own m')))
      | none => .bad)
    | .dat _, some _, .exc c => .exc c ρ
    | _, _, _ => .bad)
  | .exc c => .exc c ρ
  | .bad => .bad
theorem e_put : putS i fa fb ρ = putK i (fb ρ) (ownOf ρ[i]?) (fa ρ) ρ := (rfl)
def putO (i : Nat) (o : Option M) (ρ : Env) : Out := match o with
  | some m' => .nx (ρ.set i (some (.own m')))
  | none => .bad
theorem put_dat : putK i (.ok (.dat d)) (some m) (.ok x) ρ = putO i (storeM m (rd x) d) ρ := (rfl)
theorem put_own : putK i (.ok (.own m')) (some m) (.ok x) ρ = putO i (storeM m (rd x) (frzM m')) ρ := (rfl)
theorem putO_some : putO i (some m) ρ = .nx (ρ.set i (some (.own m))) := (rfl)
/-! ### steps -/
variable {fe : Env → Res B}
theorem mapC_nil {g : D → Res (Option D)} : mapC g [] = .ok [] := (rfl)
def consC (r : Res (Option D)) (rs : Res (List D)) : Res (List D) := r.bind fun o => rs.bind fun xs => .ok (o.toList ++ xs)
theorem mapC_cons {g : D → Res (Option D)} : mapC g (d :: ds) = consC (g d) (mapC g ds) := (rfl)
theorem consC_ok {o : Option D} : consC (.ok o) (.ok ds) = .ok (o.toList ++ ds) := (rfl)
def stepV (r : Res Bool) (fe : Env → Res B) (ρ : Env) : Res (Option D) := match r with
  | .ok true => (match fe ρ with
    | .ok b => datOnly (rd b)
    | _ => .bad)
  | .ok false => .ok none
  | _ => .bad
def stepK (o : Option Env) (t : Env → Res Bool) (fe : Env → Res B) : Res (Option D) := match o with
  | none => .bad
  | some ρ1 => stepV (t ρ1) fe ρ1
theorem e_step : stepC tg t fe ρ d = stepK (bindT tg d ρ) t fe := (rfl)
theorem stepK_some : stepK (some ρ) t fe = stepV (t ρ) fe ρ := (rfl)
def datR (r : Res B) : Res (Option D) := match r with
  | .ok b => datOnly (rd b)
  | _ => .bad
theorem stepV_t : stepV (.ok true) fe ρ = datR (fe ρ) := (rfl)
theorem stepV_f : stepV (.ok false) fe ρ = .ok none := (rfl)
theorem stepV_go : stepV (.ok p) fe ρ = if p = true then datR (fe ρ) else .ok none := by cases p <;> rfl
theorem datR_dat : datR (.ok (.dat d)) = .ok (some d) := (rfl)
theorem datR_own : datR (.ok (.own m)) = .ok (some (frzM m)) := (rfl)
theorem loop_nil : loopF tg f [] ρ = .nx ρ := (rfl)
def loopK (o : Out) (tg : Tg) (body : Env → Out) (ds : List D) : Out := match o with
  | .nx ρ2 => loopF tg body ds ρ2
  | .ct ρ2 => loopF tg body ds ρ2
  | .bk ρ2 => .nx ρ2
  | .rt b => .rt b
  | .exc c ρ2 => .exc c ρ2
  | .bad => .bad
theorem loop_one (h : bindT tg d ρ = some ρ') : loopF tg f (d :: ds) ρ = loopK (f ρ') tg f ds := by
  conv => lhs; unfold loopF
  rw [h]
  rfl
theorem lk_nx : loopK (.nx ρ) tg f ds = loopF tg f ds ρ := (rfl)
theorem lk_ct : loopK (.ct ρ) tg f ds = loopF tg f ds ρ := (rfl)
theorem lk_bk : loopK (.bk ρ) tg f ds = .nx ρ := (rfl)
theorem lk_rt : loopK (.rt b) tg f ds = .rt b := (rfl)
theorem lk_exc : loopK (.exc c ρ) tg f ds = .exc c ρ := (rfl)
/-! ### comprehensions over mapped lists -/
section
variable {α : Type} {as : List α} {e : α → D}
theorem mapC_if (k : α → Bool) (h : α → D) : ∀ {as : List α}, (∀ a ∈ as, stepC tg t fe ρ (e a) = .ok (if k a = true then some (h a) else none)) → mapC (stepC tg t fe ρ) (as.map e) = .ok ((as.filter k).map h)
  | [], _ => rfl
  | a :: as, hs => by
    rw [List.map_cons, mapC_cons, hs a List.mem_cons_self, mapC_if k h fun b hb => hs b (List.mem_cons_of_mem _ hb), consC_ok, List.filter_cons]
    cases k a <;> rfl
theorem compD_if (k : α → Bool) (h : α → D) (hl : as.length ≤ sizeLine) (hs : ∀ a ∈ as, stepC tg t fe ρ (e a) = .ok (if k a = true then some (h a) else none)) :
    compD tg t fe ρ (as.map e) = .ok (.own (.l ((as.filter k).map h))) := by
  unfold compD
  rw [if_pos (by rw [List.length_map]; exact hl), mapC_if k h hs]
  rfl
theorem compD_all (h : α → D) (hl : as.length ≤ sizeLine) (hs : ∀ a ∈ as, stepC tg t fe ρ (e a) = .ok (some (h a))) :
    compD tg t fe ρ (as.map e) = .ok (.own (.l (as.map h))) := by
  rw [compD_if (fun _ => true) h hl fun a ha => by rw [hs a ha]; rfl, List.filter_eq_self.mpr fun _ _ => rfl]
theorem compD_D (h : D → D) (hl : ds.length ≤ sizeLine) (hs : ∀ a ∈ ds, stepC tg t fe ρ a = .ok (some (h a))) :
    compD tg t fe ρ ds = .ok (.own (.l (ds.map h))) := by
  have := compD_all (e := id) h hl hs
  rwa [List.map_id] at this
theorem compD_Dif (k : D → Bool) (h : D → D) (hl : ds.length ≤ sizeLine) (hs : ∀ a ∈ ds, stepC tg t fe ρ a = .ok (if k a = true then some (h a) else none)) :
    compD tg t fe ρ ds = .ok (.own (.l ((ds.filter k).map h))) := by
  have := compD_if (e := id) k h hl hs
  rwa [List.map_id] at this
/-! ### loops over mapped lists -/
/-- each turn leaves the names as they were -/
theorem loop_same : ∀ {as : List α}, (∀ a ∈ as, ∃ ρ1, bindT tg (e a) ρ = some ρ1 ∧ (f ρ1 = .nx ρ ∨ f ρ1 = .ct ρ)) → loopF tg f (as.map e) ρ = .nx ρ
  | [], _ => rfl
  | a :: as, hs => by
    obtain ⟨ρ1, h1, h2⟩ := hs a List.mem_cons_self
    rw [List.map_cons, loop_one h1]
    have ih := loop_same fun b hb => hs b (List.mem_cons_of_mem _ hb)
    rcases h2 with h2 | h2 <;> rw [h2] <;> exact ih
/-- the first thing with p ends it -/
theorem loop_any (p : α → Bool) : ∀ {as : List α}, (∀ a ∈ as, ∃ ρ1, bindT tg (e a) ρ = some ρ1 ∧ (f ρ1 = (if p a = true then .rt b else .nx ρ) ∨ f ρ1 = (if p a = true then .rt b else .ct ρ))) → loopF tg f (as.map e) ρ = if as.any p = true then .rt b else .nx ρ
  | [], _ => rfl
  | a :: as, hs => by
    obtain ⟨ρ1, h1, h2⟩ := hs a List.mem_cons_self
    rw [List.map_cons, loop_one h1, List.any_cons]
    have ih := loop_any p fun b hb => hs b (List.mem_cons_of_mem _ hb)
    rcases h2 with h2 | h2 <;> (rw [h2]; cases p a <;> simp only [Bool.true_or, Bool.false_or, if_true, Bool.false_eq_true, if_false, lk_rt, lk_nx, lk_ct]; exact ih)
/-- a fold: σ is what the names hold between turns -/
theorem loop_fold {σ : Type} (enc : σ → Env) (st : σ → α → σ) (I : List α → σ → Prop) : ∀ {as : List α} {s : σ}, I as s → (∀ a as s, I (a :: as) s → I as (st s a) ∧ ∃ ρ1, bindT tg (e a) (enc s) = some ρ1 ∧ (f ρ1 = .nx (enc (st s a)) ∨ f ρ1 = .ct (enc (st s a)))) → loopF tg f (as.map e) (enc s) = .nx (enc (as.foldl st s)) ∧ I [] (as.foldl st s)
  | [], _, hi, _ => ⟨rfl, hi⟩
  | a :: as, s, hi, hs => by
    obtain ⟨h0, ρ1, h1, h2⟩ := hs a as s hi
    have ih := loop_fold enc st I h0 hs
    rw [List.map_cons, loop_one h1, List.foldl_cons]
    rcases h2 with h2 | h2 <;> (rw [h2]; exact ih)
end
/-! ### forgetting names that are not read again -/
def mapO (w : Env → Env) (o : Out) : Out := match o with
  | .nx ρ => .nx (w ρ)
  | .bk ρ => .bk (w ρ)
  | .ct ρ => .ct (w ρ)
  | o => o
def forget (ws : List Nat) (f : Env → Out) : Env → Out := fun ρ => mapO (fun ρ => wipeE ρ ws) (f ρ)
def fgK (ws : List Nat) (o : Out) : Out := mapO (fun ρ => wipeE ρ ws) o
theorem e_forget {ws : List Nat} : forget ws f ρ = fgK ws (f ρ) := (rfl)
theorem fg_nx {ws : List Nat} : fgK ws (.nx ρ) = .nx (wipeE ρ ws) := (rfl)
theorem fg_bk {ws : List Nat} : fgK ws (.bk ρ) = .bk (wipeE ρ ws) := (rfl)
theorem fg_ct {ws : List Nat} : fgK ws (.ct ρ) = .ct (wipeE ρ ws) := (rfl)
theorem fg_rt {ws : List Nat} : fgK ws (.rt b) = .rt b := (rfl)
theorem fg_exc {ws : List Nat} : fgK ws (.exc c ρ) = .exc c ρ := (rfl)
end
section
variable {g : G} {f : Env → Out} {X : Cx} {st : Stmt} {sts : List Stmt}
/-- what the proof forgets, the run may keep -/
theorem St.fewer {F H : Hp} {σ : L2.St} {ρ : Env} (s : St g F H σ ρ) (i : Nat) : St g F H σ (ρ.set i none) := by
  refine ⟨s.gr, by simp [s.len], fun j b h => ?_, fun j k m m' hjk h1 h2 => ?_⟩
  · rcases set_some h with ⟨rfl, h1, h2⟩ | ⟨h1, h2⟩
    · cases h1
    · exact s.at_ j b h2
  · rcases set_some h1 with ⟨rfl, e1, l1⟩ | ⟨n1, e1⟩
    · cases e1
    rcases set_some h2 with ⟨rfl, e2, l2⟩ | ⟨n2, e2⟩
    · cases e2
    exact s.apart j k m m' hjk e1 e2
theorem St.fewers {F H : Hp} {σ : L2.St} : ∀ {ws : List Nat} {ρ : Env}, St g F H σ ρ → St g F H σ (wipeE ρ ws)
  | [], _, s => s
  | w :: ws, ρ, s => (St.fewers (ws := ws) s).fewer w
theorem post_forget {ws : List Nat} {E : Ends} {o : Out} (h : PostS g E (mapO (fun ρ => wipeE ρ ws) o)) : PostS g E o := by
  cases o with
  | nx ρ => exact fun σ F H s => h σ F H s.fewers
  | bk ρ => exact fun σ F H s => h σ F H s.fewers
  | ct ρ => exact fun σ F H s => h σ F H s.fewers
  | rt b => exact h
  | exc c ρ => exact h
  | bad => exact h
theorem fs_forget (ws : List Nat) (h : PS X st (tFS g f)) : PS X st (tFS g (forget ws f)) := PS.imp h fun E σ H ⟨F, ρ, s, p⟩ => ⟨F, ρ, s, post_forget p⟩
theorem fs_forgets (ws : List Nat) (h : PSs X sts (tFS g f)) : PSs X sts (tFS g (forget ws f)) := PSs.imp h fun E σ H ⟨F, ρ, s, p⟩ => ⟨F, ρ, s, post_forget p⟩
theorem post_lock {i : Nat} {E : Ends} {ρ : Env} (h : PostS g E (.nx (lockE i ρ))) : PostS g E (.nx ρ) := fun σ F H s => by
  unfold lockE at h
  cases e : ownAt ρ i with
  | none => rw [e] at h; exact h σ F H s
  | some m =>
    rw [e] at h
    obtain ⟨F', _, _, s'⟩ := s.lock (ownAt_ok e)
    exact h σ F' H s'
/-- a name takes a value, locked where it is fresh -/
theorem fs_setL {fa : Env → Res B} {i : Nat} (h : PS X st (tFS g (thenS fa (setV i)))) : PS X st (tFS g (thenS fa (setL i))) := PS.imp h fun E σ H ⟨F, ρ, s, p⟩ => ⟨F, ρ, s, by
  unfold thenS at p ⊢
  cases e : fa ρ with
  | ok b =>
    rw [e] at p
    dsimp only at p ⊢
    unfold setL at p
    unfold setV at p ⊢
    split
    · rename_i hb
      rw [if_pos hb] at p
      exact post_lock p
    · rename_i hb
      rw [if_neg hb] at p
      exact p
  | exc c => rw [e] at p; exact p
  | bad => rw [e] at p; exact p⟩
end
end Fn
namespace HT
open PySem PySem.Spec PyProof.Rows
section
variable {prog : Program} {w : World} {A : Around} {E : Value → Shared → Prop} {s : Shared}
theorem fm_congr {α β : Type} {f g : α → Option β} : ∀ {l : List α}, (∀ a ∈ l, f a = g a) → l.filterMap f = l.filterMap g
  | [], _ => rfl
  | a :: l, h => by
    rw [List.filterMap_cons, List.filterMap_cons, h a List.mem_cons_self, fm_congr fun b hb => h b (List.mem_cons_of_mem _ hb)]
theorem adjust_back (n : Nat) : Builtin.Slice.sliceAdjust none none (-1) (n : Int) = ((n : Int) - 1, -1) := by
  unfold Builtin.Slice.sliceAdjust
  simp only [show ((-1 : Int) < 0) from by omega, if_true]
theorem places_back (n : Nat) : Builtin.Slice.slicePlaces ((n : Int) - 1) (-1) (-1) = n := by
  unfold Builtin.Slice.slicePlaces
  simp only [show ¬ ((-1 : Int) > 0) from by omega, if_false, Int.neg_neg, Int.ediv_one]
  split <;> omega
theorem pick_back (xs : Array Value) : ((List.range xs.size).filterMap fun (k : Nat) => xs[(((xs.size : Int) - 1) + (k : Int) * (-1)).toNat]?).toArray = xs.toList.reverse.toArray := by
  have e : ∀ k ∈ List.range xs.size, xs[(((xs.size : Int) - 1) + (k : Int) * (-1)).toNat]? = xs[xs.size - 1 - k]? := fun k hk => by
    have := List.mem_range.mp hk
    congr 1
    omega
  rw [fm_congr e]
  have := PySem.W.krv_range xs.size
  rw [← PySem.W.krv_all xs, ← List.filterMap_reverse, ← this, List.filterMap_map]
  rfl
theorem sliceApplied_back {sl : Addr} {vl vu vs : Value} {n : Nat} {Q : Int × Int × Nat → Shared → Prop} (hs : s.heap.IsSliceOf sl vl vu vs) (pl : IsPart vl none) (pu : IsPart vu none) (ps : IsPart vs (some (-1)))
    (h : Q ((n : Int) - 1, -1, n) s) : wpAny (model prog w) A (Builtin.Slice.sliceApplied (.ref sl) (pure (n : Int))) Q E s := by
  obtain ⟨os, hos, hcs, hds⟩ := id hs
  unfold Builtin.Slice.sliceApplied Builtin.Slice.sliceFields
  refine wpAny_bind (wpAny_bind (wpAny_field hos hds (x := vl) rfl (wpAny_bind (wpAny_field hos hds (x := vu) rfl (wpAny_bind (wpAny_field hos hds (x := vs) rfl (wpAny_pure ?_)))))))
  refine wpAny_bind (slicePart_ ps ?_)
  show wpAny _ _ (if ((-1 : Int) == 0) = true then _ else _) _ _ s
  rw [if_neg (by decide)]
  refine wpAny_bind (slicePart_ pl (wpAny_bind (slicePart_ pu (wpAny_bind (wpAny_pure ?_)))))
  show wpAny _ _ (match Builtin.Slice.sliceAdjust none none (-1) (n : Int) with | (lo, hi) => pure (lo, (-1 : Int), Builtin.Slice.slicePlaces lo hi (-1))) _ _ s
  rw [adjust_back n]
  show wpAny _ _ (pure ((n : Int) - 1, (-1 : Int), Builtin.Slice.slicePlaces ((n : Int) - 1) (-1) (-1))) _ _ s
  rw [places_back]
  exact wpAny_pure h
theorem getItem_tuple_back {t sl : Addr} {items : Array Value} {vl vu vs : Value} {Q : Value → Shared → Prop} (ht : IsTup s.heap t items) (hs : s.heap.IsSliceOf sl vl vu vs) (pl : IsPart vl none) (pu : IsPart vu none) (ps : IsPart vs (some (-1)))
    (h : Q (.ref s.heap.objs.size) { s with heap := s.heap.push { cls := .type "tuple", data := .seq items.toList.reverse.toArray } })
    (hsz : items.size ≤ sizeLine) : wpAny (model prog w) A (getItem (.ref t) (.ref sl)) Q E s := by
  have htake : sizeOk (.seq items.toList.reverse.toArray) := by
    show items.toList.reverse.toArray.size ≤ sizeLine
    rw [List.size_toArray, List.length_reverse, Array.length_toList]
    exact hsz
  obtain ⟨os, hos, hcs, hds⟩ := id hs
  have hTs : s.TypeIs (.ref sl) "slice" := ⟨os, hos, hcs⟩
  unfold getItem
  try with_reducible refine wpAny_holding ?_
  first | refine wpAny_bind (wpAny_pure ?_) | skip
  refine wpAny_bind (wpAny_sequenceKey ht.typeIs (by decide) ?_)
  refine wpAny_bind (wpAny_callSpecial?_slot (name := Str.ofString "__getitem__") ht.typeIs PyProof.Rows.slot_tuple_getitem
    (wpAny_call_entry PyProof.Rows.slot_tuple_getitem ht.typeIs entry_tuple_getitem ?_ (args_tuple_getitem _ _)))
  show wpAny _ _ (Builtin.Tuple.tupleItemsOf (.ref t) >>= _) _ _ s
  refine wpAny_bind (tupleItemsOf_ ht ?_)
  refine wpAny_bind (wpAny_typeOf hTs ?_)
  rw [if_pos (by decide)]
  refine wpAny_bind (sliceApplied_back hs pl pu ps ?_)
  show wpAny _ _ (if (((items.size : Int) - 1) == 0 && (-1 : Int) == 1 && items.size == items.size) = true then _ else _) _ _ s
  rw [if_neg (by rw [show ((-1 : Int) == 1) = false from rfl, Bool.and_false, Bool.false_and]; decide), pick_back]
  first
    | exact wpAny_bind (m := Builtin.Tuple.tupleExact _) (wpAny_newObj_type (wpAny_pure ⟨_, rfl, wpAny_pure h⟩) htake)
    | exact wpAny_bind (m := Builtin.Tuple.tupleExact _) (wpAny_newObj_type (wpAny_bind (wpAny_pure (wpAny_pure ⟨_, rfl, wpAny_pure h⟩))) htake)
    | exact wpAny_bind (wpAny_bind (m := Builtin.Tuple.tupleExact _) (wpAny_newObj_type (wpAny_pure (wpAny_pure ⟨_, rfl, wpAny_pure h⟩)) htake))
    | exact wpAny_bind (wpAny_bind (m := Builtin.Tuple.tupleExact _) (wpAny_newObj_type (wpAny_pure ⟨_, rfl, wpAny_pure h⟩) htake))
end
end HT
namespace Fn
open PySem PySem.Spec PyProof.Rows L2
section
variable {X : Cx} {g : G} {e : Expr} {te : TE} {pos : Pos}
/-! ### xs[::-1] of lists and tuples -/
def rBack (K : PySem.W.Frag) : V → Hp → VK → Prop := fun x H Q => ∃ a xs, x = .ref a ∧ ((SqL K H a xs ∧ ∀ p, H p = none → Q (.ref p) (upd H p (.lst xs.reverse))) ∨ (SqT K H a xs ∧ ∀ p, H p = none → Q (.ref p) (upd H p (.tup xs.reverse))))
def tBack (K : PySem.W.Frag) (te : TE) : TE := fun σ H Q => te σ H fun x H1 => rBack K x H1 Q
theorem pe_back {k : Nat} {p1 p2 p3 : Pos} (he : PE X e te) : PE X (.Subscript e (.Slice none none (some (.UnaryOp .USub (.Constant (.int 1) k p1) p2)) p3) pos) (tBack X.K te) := by
  refine ⟨fun pins s σ H Q I h => ?_⟩
  refine Subscript_ (thn (he.run pins s σ H _ I h) fun v s1 ⟨x, H1, I1, r1, q1⟩ => ?_)
  obtain ⟨a, xs, ex, hx⟩ := q1
  subst ex
  cases r1
  have hst : PO X (some (.UnaryOp .USub (.Constant (.int 1) k p1) p2)) (tPart (tUn (rU fun i => .int (-i)) (tC (.int 1)))) := po_some (pe_un un_neg pe_int)
  refine wpAny_Slice (thn (po_none.run pins s1 σ H1 (fun o H2 => o = none ∧ H2 = H1) I1 ⟨rfl, rfl⟩) fun vl s2 ⟨l, H2, I2, pl, el, e2⟩ => ?_)
  subst el e2
  refine thn (po_none.run pins s2 σ H2 (fun o H3 => o = none ∧ H3 = H2) I2 ⟨rfl, rfl⟩) fun vu s3 ⟨u, H3, I3, pu, eu, e3⟩ => ?_
  subst eu e3
  refine thn (hst.run pins s3 σ H3 (fun o H4 => o = some (-1) ∧ H4 = H3) I3 ⟨1, rfl, -1, rfl, rfl, rfl⟩) fun vs s4 ⟨o, H4, I4, ps, eo, e4⟩ => ?_
  subst eo e4
  have I5 : Inv X pins σ H4 { s4 with heap := s4.heap.push { cls := .type "slice", data := .fields #[vl, vu, vs] } } := I4.kept (t' := s4.toks) fun b ob q => Heap.get?_push_of_some _ q
  show wpAny (model X.prog X.w) X.A (subscriptTail e (.Slice none none (some (.UnaryOp .USub (.Constant (.int 1) k p1) p2)) p3) (.ref a) (.ref s4.heap.objs.size)) (EP X pins σ Q) X.xe { s4 with heap := s4.heap.push { cls := .type "slice", data := .fields #[vl, vu, vs] } }
  rcases hx with ⟨hx, q⟩ | ⟨hx, q⟩
  · obtain ⟨its, r, ht, hz⟩ := I5.list hx
    have hlen := r.length
    refine tail_any (ops := [.ref a, .ref s4.heap.objs.size]) ht.isList.typeIs (PySem.slot_list_getitem.lookup) ?_ (by with_unfolding_all rfl)
    refine wpAny_getItem_list_slice ht.isList (Heap.IsSliceOf.new _ vl vu vs) pl pu ps (by decide) ?_ (by rw [List.size_toArray]; omega)
    rw [PySem.W.krv_pick]
    refine ⟨.ref _, _, I5.laid (t' := s4.toks) (o := .lst xs.reverse) (fun b ob q => Heap.get?_push_of_some _ q) (Nat.le_refl _) ?_, rfl, q _ (I5.hok.fresh (Nat.le_refl _))⟩
    exact ⟨by rw [List.length_reverse]; exact hz, _, 0, r.reverse, Heap.get?_push_size _ rfl⟩
  · obtain ⟨its, r, ht, hz⟩ := I5.tuple hx
    have hlen := r.length
    refine tail_any (ops := [.ref a, .ref s4.heap.objs.size]) ht.typeIs (PyProof.Rows.slot_tuple_getitem.lookup) ?_ (by with_unfolding_all rfl)
    refine HT.getItem_tuple_back ht (Heap.IsSliceOf.new _ vl vu vs) pl pu ps ?_ (by rw [List.size_toArray]; omega)
    refine ⟨.ref _, _, I5.laid (t' := s4.toks) (o := .tup xs.reverse) (fun b ob q => Heap.get?_push_of_some _ q) (Nat.le_refl _) ?_, rfl, q _ (I5.hok.fresh (Nat.le_refl _))⟩
    exact ⟨by rw [List.length_reverse]; exact hz, _, r.reverse, IsTup.new _ _⟩
def backB (b : B) : Res B := match b with
  | .dat (.tup xs) => .ok (.dat (.tup xs.reverse))
  | .dat (.ctup xs) => .ok (.dat (.tup xs.reverse))
  | b => match seqI b with
    | some ds => .ok (.own (.l ds.reverse))
    | none => .bad
theorem g_back {σ : L2.St} {F H : Hp} {v : V} {b : B} {Q : VK} (s : Sm g F H) (r : RR g F H v b) (p : Post g σ F H (backB b) Q) : rBack g.K v H Q := by
  unfold backB at p
  split at p
  · cases r with
    | tup h1 h2 => exact ⟨_, _, rfl, .inr ⟨SqT.of (s.fh _ _ h1), p.newT s h2.rev⟩⟩
  · cases r with
    | ctup h1 h2 => exact ⟨_, _, rfl, .inr ⟨sqT_none h1, p.newT s h2.rev⟩⟩
  · rename_i n2 n3
    split at p
    · rename_i ds hs
      obtain ⟨a, xs, rfl, h1, h2⟩ := seqI_list s r hs n2 n3
      exact ⟨a, xs, rfl, .inl ⟨h1, p.newL s h2.rev⟩⟩
    · exact p.elim
theorem fe_back {fa : Env → Res B} {k : Nat} {p1 p2 p3 : Pos} (hK : g.K = X.K) (ha : PE X e (tF g fa)) : PE X (.Subscript e (.Slice none none (some (.UnaryOp .USub (.Constant (.int 1) k p1) p2)) p3) pos) (tF g (one1 backB fa)) := by
  refine PE.imp (pe_back ha) fun σ H Q ⟨F, ρ, s, p⟩ => ?_
  refine run1 s (fun b v F1 H1 e g1 r => ?_) (fun c e F' H' g1 => ?_) (fun e => ?_)
  · rw [← hK]
    refine g_back (σ := σ) ⟨(s.grow g1).sub, (s.grow g1).gr.hh⟩ r ?_
    unfold one1 at p
    rw [e, Res.ok_bind] at p
    exact p.later g1
  · unfold one1 at p
    rw [e] at p
    exact p F' H' g1
  · unfold one1 at p
    rw [e] at p
    exact p
theorem back_tup {ds : List D} : backB (.dat (.tup ds)) = .ok (.dat (.tup ds.reverse)) := rfl
theorem back_lst {ds : List D} : backB (.dat (.lst ds)) = .ok (.own (.l ds.reverse)) := rfl
variable {cls : Nat → Value} {k : Nat} {tab : List En} {N : List Str} {sc : Scope} {bt : Bt}
theorem CT.back (C : CT X g cls k tab N sc bt) {fa : Env → Res B} {k : Nat} {p1 p2 p3 : Pos} (ha : PE X e (tF g fa)) : PE X (.Subscript e (.Slice none none (some (.UnaryOp .USub (.Constant (.int 1) k p1) p2)) p3) pos) (tF g (one1 backB fa)) := fe_back C.hK ha
/-! ### tuple(text) -/
theorem signs_at : ∀ {us : List Value} {cs : List Nat}, us.length = cs.length → (∀ (j : Nat) (v : Value), us[j]? = some v → ∃ c u, cs[j]? = some c ∧ v = .str ⟨#[c]⟩ u) → Vals (cs.map fun c => V.str ⟨#[c]⟩) us
  | [], [], _, _ => .nil
  | u :: us, c :: cs, hl, h => by
    obtain ⟨c', t, e1, e2⟩ := h 0 u rfl
    cases e1
    refine .cons ⟨t, e2⟩ (signs_at (by simpa using hl) fun j v e => ?_)
    exact h (j + 1) v e
theorem call_tupS (hcalm : X.calm = true) : CallR X (.type "tuple") (fun xs H Q => ∃ z : Str, xs = [.str z] ∧ z.length ≤ sizeLine ∧ ∀ l, H l = none → Q (.ref l) (upd H l (.tup (z.cps.toList.map fun c => V.str ⟨#[c]⟩)))) := by
  intro pins s σ H xs us Q I r q
  obtain ⟨z, ex, hz, q⟩ := q
  subst ex
  obtain ⟨u, rfl, t, rfl⟩ := vals1 r
  refine call_tuple_str (I.ok.hd hcalm) z t (fun h' tk acc hk hacc => ?_) hz
  have hv : Vals (z.cps.toList.map fun c => V.str ⟨#[c]⟩) acc.toList := signs_at (by rw [Array.length_toList, Array.length_toList]; exact hacc.1) fun j v e => by
    obtain ⟨c, u, h1, h2⟩ := hacc.2 j v (by rw [← Array.getElem?_toList]; exact e)
    exact ⟨c, u, by rw [Array.getElem?_toList]; exact h1, h2⟩
  have I1 : Inv X pins σ H { s with heap := h', toks := tk } := I.kept (t' := tk) hk
  have I2 : Inv X pins σ (upd H h'.objs.size (.tup (z.cps.toList.map fun c => V.str ⟨#[c]⟩))) { s with heap := h'.push { cls := .type "tuple", data := .seq acc }, toks := tk } :=
    I1.laid (t' := tk) (fun b o e => Heap.get?_push_of_some _ e) (Nat.le_refl _) (show ObjOk X.prog X.w _ _ _ (.tup _) from ⟨by rw [List.length_map, Array.length_toList]; exact hz, acc.toList, hv, by rw [Array.toArray_toList]; exact IsTup.new _ _⟩)
  exact ⟨.ref h'.objs.size, _, I2, rfl, q _ (I1.hok.fresh (Nat.le_refl _))⟩
def tupS (bs : List B) : Res B := match bs with
  | [.dat (.str z)] => if z.length ≤ sizeLine then .ok (.dat (.tup (z.cps.toList.map fun c => .str ⟨#[c]⟩))) else .bad
  | _ => .bad
theorem rp_signs {K : PySem.W.Frag} {fa : Nat → Option Addr} {F : Hp} : ∀ {cs : List Nat}, RpAll K fa F (cs.map fun c => V.str ⟨#[c]⟩) (cs.map fun c => D.str ⟨#[c]⟩)
  | [] => .nil
  | c :: cs => .cons (.str _) rp_signs
theorem g_tupS : CallG g (fun xs H Q => ∃ z : Str, xs = [.str z] ∧ z.length ≤ sizeLine ∧ ∀ l, H l = none → Q (.ref l) (upd H l (.tup (z.cps.toList.map fun c => V.str ⟨#[c]⟩)))) tupS := by
  intro σ F H vs bs Q s r p
  unfold tupS at p
  split at p
  · obtain ⟨v, rfl, rv⟩ := paired1 r
    cases rv
    split at p
    · exact ⟨_, rfl, by assumption, p.newT s rp_signs⟩
    · exact p.elim
  · exact p.elim
theorem CT.tupS (C : CT X g cls k tab N sc bt) (hh : bt.hot = false := by rfl) : BiW X g "tuple" Fn.tupS := ⟨.inr ⟨_, _, call_tupS (C.calm hh), boot_tuple, g_tupS⟩⟩
end
end Fn
namespace PySem.SeqAt
open PySem PySem.Calls PyProof.Rows
section
variable {A : Around} {s : Shared}
theorem call_tuple_lt0 {prog : Program} {w : World} {E : Value → Shared → Prop} {Q : Value → Shared → Prop} {l b : Addr} {items items2 : Array Value} {e r : Nat → Bool} (hl : s.heap.IsTuple l items) (hb : s.heap.IsTuple b items2)
    (he : ∀ j (h1 : j < items.size) (h2 : j < items2.size), EqAt A.in1 s items[j] items2[j] (e j)) (hr : ∀ j (h1 : j < items.size) (h2 : j < items2.size), e j = false → RcLt A.in1 s items[j] items2[j] (r j))
    (h : Q (.bool (firstLt e r (decide (items.size < items2.size)) (List.range (min items.size items2.size)))) s) : wpAny (model prog w) A (call (.builtin "tuple.__lt__") [.ref l, .ref b]) Q E s := by
  obtain ⟨⟨cls, dd, data, sl⟩, ho, hc, n, hd⟩ := id hl
  obtain ⟨⟨cls2, dd2, data2, sl2⟩, ho2, hc2, n2, hd2⟩ := id hb
  simp only at hc hd hc2 hd2
  subst hc hd hc2 hd2
  exact call_meets F.slot_tuple_lt ⟨_, ho, rfl⟩ F.entry_tuple_lt (F.args_tuple_lt_2 _ _) (tuple_ltAt l b items items2 n n2 dd dd2 sl sl2 e r) ⟨ho, ho2, he, hr, h⟩
end
end PySem.SeqAt
namespace PySem.W
open PySem PySem.Calls PyProof.Rows PySem.SeqAt
section
variable {prog : Program} {w : World} {A : Around} {E : Value → Shared → Prop} {s : Shared}
/-- two tuples, by their own comparison -/
theorem oneLt_tuples {xs ys : List PyData} {a b : Value} {as bs : List Addr} {Q : Bool → Shared → Prop} (ra : Reads s.heap a (.tuple xs) as) (rb : Reads s.heap b (.tuple ys) bs) (hal : alikeAll xs ys = true)
    (hu : A.units + min (PyData.depth (.tuple xs)) (PyData.depth (.tuple ys)) < cLine) (hq : Q (dataLt (.tuple xs) (.tuple ys)) s) : wpAny (model prog w) A (oneLt' true a b) Q E s := by
  cases ra with
  | @tuple l o vs n _ as₁ h1 h2 h3 h4 =>
    cases rb with
    | @tuple l' o' vs' n' _ bs₁ k1 k2 k3 k4 =>
      have n1 : vs.size = xs.length := by simpa using ReadsAll.length _ _ _ h4
      have n2 : vs'.size = ys.length := by simpa using ReadsAll.length _ _ _ k4
      rw [dataLt_tuple, ← firstLt_toks xs ys hal, ← n1, ← n2] at hq
      rw [oneLt'_eq]
      simp only [if_true]
      refine wpAny_bind (wpAny_cRoomFor (room_here hu) ?_)
      refine wpAny_bind (wpAny_callSpecialIfBound?_slot (T := "tuple") ⟨_, h1, h2⟩ F.slot_tuple_lt (call_tuple_lt0 (e := pairEq xs ys) (r := fun j => dataLt (xs.getD j .none) (ys.getD j .none)) ⟨_, h1, h2, _, h3⟩ ⟨_, k1, k2, _, k3⟩ (fun j j1 j2 => ?_) (fun j j1 j2 hj => ?_) ?_))
      · have := eqAt_alikeAll xs ys A.in1 s vs.toList vs'.toList _ _ h4 k4 hal (room_in hu) j (by simpa using j1) (by simpa using j2)
        simpa using this
      · have := rcLt_alikeAll xs ys A.in1 s vs.toList vs'.toList _ _ h4 k4 hal (room_in hu) j (by simpa using j1) (by simpa using j2) hj
        simpa using this
      · exact wpAny_truthy_bool hq
theorem mapM_is {M : Model} {α β : Type} {f : α → Sem β} {g : α → β} : ∀ (l : List α) {Q : List β → Shared → Prop}, (∀ v ∈ l, ∀ (Q' : β → Shared → Prop), Q' (g v) s → wpAny M A (f v) Q' E s) → Q (l.map g) s → wpAny M A (l.mapM f) Q E s
  | [], _, _, h => by rw [List.mapM_nil]; exact wpAny_pure h
  | x :: l, Q, hf, h => by
    rw [List.mapM_cons]
    exact wpAny_bind (hf x (.head _) _ (wpAny_bind (mapM_is l (Q := fun bs s' => wpAny M A (pure (g x :: bs)) Q E s') (fun v hv => hf v (.tail _ hv)) (wpAny_pure h))))
/-- the kind of keys where the first is () and all are tuples -/
theorem kae_kind {vs : List Value} {Q : SortKind → Shared → Prop} (h2 : 2 ≤ vs.length) (hT : ∀ v ∈ vs, ∃ a its, v = .ref a ∧ s.heap.IsTuple a its) (h0 : ∀ v, vs.head? = some v → ∃ a, v = .ref a ∧ s.heap.IsTuple a #[]) (h : Q oneType' s) : wpAny (model prog w) A (keyKind' vs.toArray) Q E s := by
  obtain ⟨v₁, v₂, rest, rfl⟩ : ∃ v₁ v₂ rest, vs = v₁ :: v₂ :: rest := by
    match vs, h2 with
    | [], h2 => simp at h2
    | [_], h2 => simp at h2
    | v₁ :: v₂ :: rest, _ => exact ⟨v₁, v₂, rest, rfl⟩
  rw [keyKind'_eq, List.mapM_toArray, map_eq_pure_bind]
  -- what stands first in each
  let g : Value → Option Value := fun v => open Classical in if q : ∃ its, ∃ a, v = .ref a ∧ s.heap.IsTuple a its then (Classical.choose q)[0]? else none
  have uniq : ∀ {a : Addr} {its its' : Array Value}, s.heap.IsTuple a its → s.heap.IsTuple a its' → its = its' := by
    rintro a its its' ⟨o, ho, _, n, hd⟩ ⟨o', ho', _, n', hd'⟩
    rw [ho] at ho'; cases ho'; rw [hd] at hd'; cases hd'; rfl
  have gs : ∀ a its, s.heap.IsTuple a its → g (.ref a) = its[0]? := by
    intro a its hi
    have q : ∃ its, ∃ a', Value.ref a = .ref a' ∧ s.heap.IsTuple a' its := ⟨its, a, rfl, hi⟩
    have e : g (.ref a) = (Classical.choose q)[0]? := dif_pos q
    rw [e]
    obtain ⟨a', h1, h2⟩ := Classical.choose_spec q
    cases h1
    rw [uniq h2 hi]
  refine wpAny_bind (wpAny_bind (mapM_is (g := g) _ (fun v hv Q' hq => ?_) (wpAny_pure ?_)))
  · obtain ⟨a, its, rfl, hi⟩ := hT v hv
    rw [kas_first_eq]
    obtain ⟨o, ho, hc, n, hd⟩ := id hi
    refine wpAny_bind (wpAny_typeOf ⟨o, ho, hc⟩ ?_)
    rw [if_neg (by decide)]
    rw [gs a its hi] at hq
    exact wpAny_bind (listItems_at ho hd (wpAny_pure hq))
  · obtain ⟨a, rfl, hi⟩ := h0 v₁ rfl
    have g1 : g (.ref a) = none := by rw [gs a _ hi]; rfl
    rw [List.map_cons, g1]
    rw [if_neg (by simp), if_neg (by simp)]
    rw [oneTypeOnly'_eq, List.mapM_toArray, map_eq_pure_bind]
    refine wpAny_bind (wpAny_bind (wpAny_bind (kas_mapM (r := Value.type "tuple") _ (fun v hv Q' hq => ?_) (wpAny_pure ?_))))
    · obtain ⟨a, its, rfl, o, ho, hc, n, hd⟩ := hT v hv
      exact wpAny_typeOf ⟨o, ho, hc⟩ hq
    have hall : ((List.map (fun _ => Value.type "tuple") (Value.ref a :: v₂ :: rest)).toArray.all fun x => x == Value.type "tuple") = true := by
      simp only [List.all_toArray, List.all_map, List.all_eq_true]
      intro _ _
      exact beq_self_eq_true _
    have h0 : (List.map (fun _ => Value.type "tuple") (Value.ref a :: v₂ :: rest)).toArray[0]? = some (Value.type "tuple") := by simp
    rw [h0]
    simp only [hall, if_true]
    exact wpAny_pure (wpAny_pure h)
/-- the first is () and all are tuples -/
def Sortable0 (ds : List PyData) : Prop := ds.head? = some (.tuple []) ∧ ∀ d, d ∈ ds → ∃ xs, d = .tuple xs
theorem SortsAt.data0 {vs : List Value} {ds : List PyData} (e : EachIs (fun v d => ∃ as, Reads s.heap v d as) vs ds) (hal : AllAlike ds) (hk : Sortable0 ds) (hu : ∀ d, d ∈ ds → A.units + d.depth < cLine) : SortsAt prog w A s (dataKind s.heap ds) vs := by
  have room : ∀ {d d' : PyData}, d ∈ ds → A.units + min d.depth d'.depth < cLine := fun {d d'} hd => Nat.lt_of_le_of_lt (Nat.add_le_add_left (Nat.min_le_left _ _) _) (hu d hd)
  refine ⟨fun v hv => ?_, oneType', ?_, fun h2 E Q hq => ?_⟩
  · obtain ⟨d, hd, as, r⟩ := e.left v hv
    exact ⟨_, dataKind_some hal hd r⟩
  · intro E x y a b Q ha hb hq
    obtain ⟨d, as, hd, ra, rfl⟩ := dataKind_inv ha
    obtain ⟨d', as', hd', rb, rfl⟩ := dataKind_inv hb
    rw [keyLt'_oneType]
    obtain ⟨xs, rfl⟩ := hk.2 d hd
    obtain ⟨ys, rfl⟩ := hk.2 d' hd'
    exact oneLt_tuples ra rb (by simpa [alike] using hal _ hd _ hd') (room hd) hq
  · refine kae_kind h2 (fun v hv => ?_) (fun v hv => ?_) hq
    · obtain ⟨d, hd, as, r⟩ := e.left v hv
      obtain ⟨xs, rfl⟩ := hk.2 d hd
      cases r with
      | @tuple l o vs n _ as₁ k1 k2 k3 k4 => exact ⟨l, vs, rfl, o, k1, k2, n, k3⟩
    · cases e with
      | nil => cases hv
      | @cons v' d vs' ds' r t =>
        cases hv
        obtain ⟨as, r⟩ := r
        have e0 : d = .tuple [] := Option.some.inj hk.1
        subst e0
        cases r with
        | @tuple l o vs n _ as₁ k1 k2 k3 k4 =>
          have : vs = #[] := by
            have := ReadsAll.length _ _ _ k4
            exact Array.eq_empty_of_size_eq_zero (by simpa using this)
          subst this
          exact ⟨l, rfl, o, k1, k2, n, k3⟩
end
end PySem.W
namespace PySem.W
open PySem PySem.Calls PyProof.Rows PySem.SeqAt
section
variable {prog : Program} {w : World} {A : Around} {E : Value → Shared → Prop} {s : Shared} {β : Type} {R : Value → β → Prop} {enc : β → PyData} {vs : List Value} {bs : List β}
theorem list_sort_data2 {a : Addr} {n : Nat} {Q : Value → Shared → Prop} (ho : s.heap.get? a = some (seqObj "list" vs.toArray n)) (e : EachIs R vs bs) (er : EachIs (fun v b => ∃ as, Reads s.heap v (enc b) as ∧ a ∉ as) vs bs) (hal : AllAlike (bs.map enc)) (hk : Sortable (bs.map enc) ∨ Sortable0 (bs.map enc)) (hL : bs.length ≤ sizeLine)
    (hu : ∀ b, b ∈ bs → A.units + 1 + (enc b).depth < cLine) (h : ∀ out, out.length = bs.length → EachIs R out (bs.mergeSort (dataLe false enc)) → Q .none { s with heap := sortedHeap s.heap a vs (List.toArray out) }) :
    wpAny (model prog w) A (call (.builtin "list.sort") [.ref a]) Q E s := by
  have er' : EachIs (fun v b => ∃ as, Reads (sortingHeap s.heap a vs) v (enc b) as) vs bs := each_keepBut (h' := sortingHeap s.heap a vs) (fun _ _ hb q => sortingHeap_old hb q) (fun o q => by rw [ho] at q; rw [← Option.some.inj q]) hal er
  have S : SortsAt prog w A.in1 { s with heap := sortingHeap s.heap a vs } (dataKind (sortingHeap s.heap a vs) (bs.map enc)) vs := by
    rcases hk with hk | hk
    · exact SortsAt.data (s := { s with heap := sortingHeap s.heap a vs }) (each_map (R := fun v d => ∃ as, Reads (sortingHeap s.heap a vs) v d as) enc er') hal hk (bound_map hu)
    · exact SortsAt.data0 (s := { s with heap := sortingHeap s.heap a vs }) (each_map (R := fun v d => ∃ as, Reads (sortingHeap s.heap a vs) v d as) enc er') hal hk (bound_map hu)
  refine wpAny_call_entry slot_list_sort ⟨_, ho, rfl⟩ entry_list_sort (list_sort_vals (κ := dataKind (sortingHeap s.heap a vs) (bs.map enc)) ho S (by rw [e.length]; exact hL) ⟨.none, rfl, ?_⟩) (args_list_sort _)
  exact h _ (by rw [sortVals_length false rfl]; exact e.length) (sortVals_data false e er' hal)
end
end PySem.W
namespace Fn
open PySem PySem.Spec PyProof.Rows L2
def isTupP : PyData → Bool
  | .tuple _ => true
  | _ => false
def head0 : List PyData → Bool
  | .tuple [] :: _ => true
  | _ => false
/-- data that sorted() takes: as before, or tuples with () ahead -/
def sortOk2 (ds : List D) : Bool := (toPys ds).all SeqAt.shaped && ((toPys ds).all (fun a => (toPys ds).all fun b => PySem.W.alike a b) && ((toPys ds).all isTup1 || ((toPys ds).all isPlain || (head0 (toPys ds) && (toPys ds).all isTupP))))
theorem sortOk2_iff {ds : List D} (h : sortOk2 ds = true) : (∀ d ∈ ds, SeqAt.shaped (toPy d) = true) ∧ PySem.W.AllAlike (ds.map toPy) ∧ (PySem.W.Sortable (ds.map toPy) ∨ PySem.W.Sortable0 (ds.map toPy)) := by
  unfold sortOk2 at h
  rw [Bool.and_eq_true, Bool.and_eq_true, Bool.or_eq_true, Bool.or_eq_true, Bool.and_eq_true] at h
  obtain ⟨h1, h2, h3⟩ := h
  rcases h3 with h3 | h3 | h3
  · obtain ⟨a, b, c⟩ := sortOk_iff (ds := ds) (by unfold sortOk; rw [h1, h2, h3]; rfl)
    exact ⟨a, b, .inl c⟩
  · obtain ⟨a, b, c⟩ := sortOk_iff (ds := ds) (by unfold sortOk; rw [h1, h2, h3, Bool.or_true]; rfl)
    exact ⟨a, b, .inl c⟩
  · rw [toPys_map] at h1 h2 h3
    rw [List.all_eq_true] at h1 h2
    obtain ⟨h3, h4⟩ := h3
    rw [List.all_eq_true] at h4
    refine ⟨fun d hd => h1 _ (List.mem_map.mpr ⟨d, hd, rfl⟩), fun d hd d' hd' => List.all_eq_true.mp (h2 d hd) d' hd', .inr ⟨?_, fun d hd => ?_⟩⟩
    · unfold head0 at h3
      split at h3
      · rename_i e; rw [e]; rfl
      · cases h3
    · have := h4 d hd
      cases d with
      | tuple xs => exact ⟨xs, rfl⟩
      | _ => cases this
section
variable {X : Cx} {pins : List (Addr × Obj)} {σ : L2.St} {H : Hp} {s : Shared}
theorem sort_new2 {A : Around} {E : Value → Shared → Prop} {xs : List V} {us : List Value} {ds : List D} {Q : VK} {tk : Nat} {h' : Heap} (hu : A.units + 100 < cLine) (I : Inv X pins σ H { s with heap := h', toks := tk }) (rv : Vals xs us) (hd : DpAll X.K H xs (toPys ds)) (hl : xs.length = ds.length)
    (ho : sortOk2 ds = true) (hz : xs.length ≤ sizeLine) (q : ∀ p, H p = none → Q (.ref p) (upd H p (.lst ((sortZ xs ds).map (·.1))))) :
    wpAny (model X.prog X.w) A (call (.builtin "list.sort") [.ref h'.objs.size]) (fun _ s' => EP X pins σ Q (.ref h'.objs.size) s') E { s with heap := h'.push (seqObj "list" us.toArray 0), toks := tk } := by
  obtain ⟨o1, o2, o3⟩ := sortOk2_iff ho
  obtain ⟨e1, e2⟩ := each_of I rv hd
  have hlz : (xs.zip ds).length = xs.length := by rw [List.length_zip, ← hl]; exact Nat.min_self _
  have hoL : (h'.push (seqObj "list" us.toArray 0)).get? h'.objs.size = some (seqObj "list" us.toArray 0) := Heap.get?_push_size _ rfl
  have e3 : PySem.W.EachIs (fun v (b : V × D) => ∃ as, Reads (h'.push (seqObj "list" us.toArray 0)) v (toPy b.2) as ∧ h'.objs.size ∉ as) us (xs.zip ds) := by
    have go : ∀ {vs : List Value} {bs : List (V × D)}, (∀ b ∈ bs, SeqAt.shaped (toPy b.2) = true) → PySem.W.EachIs (fun v (b : V × D) => ∃ as, Reads h' v (toPy b.2) as) vs bs → PySem.W.EachIs (fun v (b : V × D) => ∃ as, Reads (h'.push (seqObj "list" us.toArray 0)) v (toPy b.2) as ∧ h'.objs.size ∉ as) vs bs := by
      intro vs bs hs e
      induction e with
      | nil => exact .nil
      | cons r t ih =>
        obtain ⟨as, rr⟩ := r
        refine .cons ⟨as, PyProof.Rows.Reads.keeps (fun b o e => Heap.get?_push_of_some _ e) rr, fun hm => Nat.lt_irrefl _ (reads_lt _ _ _ (SeqAt.canLay_of_shaped (hs _ List.mem_cons_self)) rr _ hm)⟩ (ih fun b hb => hs b (List.mem_cons_of_mem _ hb))
    exact go (fun b hb => o1 b.2 (List.of_mem_zip hb).2) e2
  refine PySem.W.list_sort_data2 (bs := xs.zip ds) (enc := fun b => toPy b.2) (s := { s with heap := h'.push (seqObj "list" us.toArray 0), toks := tk }) hoL e1 e3
    (by rw [map_toPy_zip hl]; exact o2) (by rw [map_toPy_zip hl]; exact o3) (by rw [hlz]; exact hz) (fun b hb => ?_) fun out ho1 ho2 => ?_
  · have := SeqAt.depth_of_shaped (o1 b.2 (List.of_mem_zip hb).2)
    omega
  · have hv : Vals ((sortZ xs ds).map (·.1)) out := each_vals ho2
    have hlen : ((sortZ xs ds).map (·.1)).length ≤ sizeLine := by rw [hv.length, ho1, hlz]; exact hz
    obtain ⟨e', he'⟩ := PyProof.Rows.sortedHeap_at (vs := us) (out := out.toArray) hoL
    refine ⟨.ref h'.objs.size, upd H h'.objs.size (.lst ((sortZ xs ds).map (·.1))), I.laid (t' := tk) (fun b u e => ?_) (Nat.le_refl _) (show ObjOk X.prog X.w _ _ _ (.lst ((sortZ xs ds).map (·.1))) from ⟨hlen, out, e', hv, he'⟩), rfl, q _ (I.hok.fresh (Nat.le_refl _))⟩
    have hb : b < h'.objs.size := Heap.lt_size e
    rw [PyProof.Rows.sortedHeap_old (Nat.ne_of_lt hb) (by rw [size_push']; exact Nat.lt_succ_of_lt hb)]
    exact Heap.get?_push_of_some _ e
/-- sorted of a list or a tuple -/
def rSortS (K : PySem.W.Frag) : List V → Hp → VK → Prop := fun vs H Q => ∃ (a : Addr) (xs : List V) (ds : List D), vs = [.ref a] ∧ (SqL K H a xs ∨ SqT K H a xs) ∧ DpAll K H xs (toPys ds) ∧ xs.length = ds.length ∧ sortOk2 ds = true ∧
  ∀ p, H p = none → Q (.ref p) (upd H p (.lst ((sortZ xs ds).map (·.1))))
theorem cr_sortS (hc : X.calm = true) (hu : X.A.units + 200 < cLine) : CallR X (.builtin "sorted") (rSortS X.K) := by
  intro pins s σ H vs us Q I r h
  obtain ⟨a, xs, ds, rfl, hs, hdp, hl, ho, q⟩ := h
  rw [Vals.ref1 r]
  obtain ⟨T, o, its, n, hT, hg, hcl, hdt, rv, hz⟩ : ∃ (T : String) (o : Obj) (its : List Value) (n : Nat), (T = "list" ∨ T = "tuple") ∧ s.heap.get? a = some o ∧ o.cls = .type T ∧ o.data = .seq its.toArray n ∧ Vals xs its ∧ xs.length ≤ sizeLine := by
    rcases hs with hs | hs
    · obtain ⟨its, rv, pl, hz⟩ := I.list hs
      obtain ⟨o, h1, h2, n, h3⟩ := pl.isList
      exact ⟨"list", o, its, n, .inl rfl, h1, h2, h3, rv, hz⟩
    · obtain ⟨its, rv, pl, hz⟩ := I.tuple hs
      obtain ⟨o, h1, h2, n, h3⟩ := pl
      exact ⟨"tuple", o, its, n, .inr rfl, h1, h2, h3, rv, hz⟩
  refine Calls.call_function_entry PyProof.Rows.kind_sorted PyProof.Rows.plain_sorted PyProof.Rows.entry_sorted (PyProof.Rows.args_sorted1 _) ?_
  unfold Builtin.«sorted»
  refine wpAny_bind (m := checkCount "sorted" 1 1 _) (wpAny_pure ?_)
  refine wpAny_bind (wpAny_collect_seq a hT hg hcl hdt (fun h' hk => ?_) (by rw [List.size_toArray, ← rv.length]; exact hz))
  have I1 : Inv X pins σ H { s with heap := h', toks := s.toks } := I.kept (t' := s.toks) hk
  refine wpAny_bind (wpAny_newList ?_ (by show its.length ≤ _; rw [← rv.length]; exact hz))
  refine wpAny_bind (wpAny_holding (wpAny_mono (sort_new2 (A := X.A.in1) (E := X.xe) (s := s) (tk := s.toks) (Q := Q) (by show X.A.units + 1 + 100 < cLine; omega) I1 rv hdp hl ho hz q) (fun _ s' x => ?_) fun _ _ e => e))
  exact wpAny_pure ⟨_, rfl, x⟩
end
section
variable {g : G}
theorem lay_of2 {ds : List D} (h : sortOk2 ds = true) : PyData.canLayAll0 (toPys ds) = true := by
  obtain ⟨h1, _, _⟩ := sortOk2_iff h
  have go : ∀ ds : List D, (∀ d ∈ ds, SeqAt.shaped (toPy d) = true) → PyData.canLayAll0 (toPys ds) = true := by
    intro ds
    induction ds with
    | nil => intro _; simp [toPys, PyData.canLayAll0]
    | cons d ds ih =>
      intro h
      rw [toPys, PyData.canLayAll0, SeqAt.canLay_of_shaped (h d List.mem_cons_self), ih fun e he => h e (List.mem_cons_of_mem _ he)]
      rfl
  exact go ds h1
def isDict : B → Bool
  | .dat (.dk _) => true
  | .dat (.dt _) => true
  | .vw (.k _) => true
  | .vw (.t _) => true
  | .bor (.k _) => true
  | .bor (.t _) => true
  | _ => false
/-- sorted(..) -/
def sortG (bs : List B) : Res B := match bs with
  | [b] => if isDict b = true then sortF [b] else (match seqI b with
    | some ds => if sortOk2 ds = true then .ok (.own (.l (ds.mergeSort leD))) else .bad
    | none => .bad)
  | _ => .bad
theorem g_sortG {K : PySem.W.Frag} (hK : g.K = K) : CallG g (fun xs H Q => rSortAll K xs H Q ∨ rSortS K xs H Q) sortG := by
  intro σ F H vs bs Q s r p
  unfold sortG at p
  split at p
  · split at p
    · exact .inl (g_sort hK σ F H vs _ Q s r p)
    · subst hK
      obtain ⟨v, rfl, rv⟩ := paired1 r
      split at p
      · rename_i ds hs
        split at p
        · rename_i ho
          have fin : ∀ (a : Addr) (xs : List V), v = .ref a → (SqL g.K H a xs ∨ SqT g.K H a xs) → RpAll g.K g.fa F xs ds → rSortS g.K [v] H Q := fun a xs ev hq hr => by
            subst ev
            exact ⟨a, xs, ds, rfl, hq, RpAll.dp s.fh hr (lay_of2 ho), hr.len, ho, p.newL s (sortZ_rp hr)⟩
          rename_i b _ _
          by_cases t1 : ∃ xs, b = .dat (.tup xs)
          · obtain ⟨xs, rfl⟩ := t1
            cases hs
            cases rv with
            | tup h1 h2 => exact .inr (fin _ _ rfl (.inr (SqT.of (s.fh _ _ h1))) h2)
          · by_cases t2 : ∃ xs, b = .dat (.ctup xs)
            · obtain ⟨xs, rfl⟩ := t2
              cases hs
              cases rv with
              | ctup h1 h2 => exact .inr (fin _ _ rfl (.inr (sqT_none h1)) h2)
            · obtain ⟨a, xs, e, h1, h2⟩ := seqI_list s rv hs (fun xs z => t1 ⟨xs, z⟩) (fun xs z => t2 ⟨xs, z⟩)
              exact .inr (fin a xs e (.inl h1) h2)
        · exact p.elim
      · exact p.elim
  · exact p.elim
variable {X : Cx} {cls : Nat → Value} {k : Nat} {tab : List En} {N : List Str} {sc : Scope} {bt : Bt}
theorem CT.sortG (C : CT X g cls k tab N sc bt) (hh : bt.hot = false := by rfl) : BiW X g "sorted" Fn.sortG := ⟨.inl ⟨_, _, CallR.or (c_sort (C.calm hh) C.hu) (cr_sortS (C.calm hh) C.hu), boot_sorted, g_sortG C.hK⟩⟩
end
end Fn
namespace Fn
open PySem PySem.Spec PyProof.Rows L2
section
variable {X : Cx} {g : G} {cls : Nat → Value} {k : Nat} {tab : List En} {N : List Str} {sc : Scope} {bt : Bt} {a b e : Expr} {fa fb : Env → Res B} {p1 p2 p3 p4 : Pos}
/-! ### xs.index(x) -/
def ixOf (ds : List D) (d : D) : Option Nat := ds.findIdx? fun z => PyData.eqv (toPy z) (toPy d)
def indexB (a b : B) : Res B := match seqL a with
  | some ds => if (SeqAt.shaped (.list (toPys ds)) && SeqAt.shaped (toPy (datOf b))) = true then (match ixOf ds (datOf b) with
    | some j => .ok (.dat (.int (j : Nat)))
    | none => .bad) else .bad
  | none => .bad
theorem toPys_get : ∀ {ds : List D} {i : Nat}, (toPys ds)[i]? = (ds[i]?).map toPy
  | [], i => by simp [toPys]
  | d :: ds, 0 => rfl
  | d :: ds, i + 1 => by rw [toPys, List.getElem?_cons_succ, List.getElem?_cons_succ, toPys_get]
theorem g_index {σ : L2.St} {F H : Hp} {x y : V} {u w : B} {Q : VK} (s : Sm g F H) (r1 : RR g F H x u) (r2 : RR g F H y w) (p : Post g σ F H (indexB u w) Q) : rIndexD g.K x [y] H Q := by
  unfold indexB at p
  split at p
  · rename_i ds hs
    split at p
    · rename_i ho
      rw [Bool.and_eq_true] at ho
      split at p
      · rename_i j hj
        obtain ⟨a, xs, rfl, h1, h2⟩ := seqL_ok s r1 hs
        have hc : PyData.canLayAll0 (toPys ds) = true := by
          have := SeqAt.canLay_of_shaped ho.1
          simpa [PyData.canLay0] using this
        obtain ⟨hlt, h3, h4⟩ := List.findIdx?_eq_some_iff_getElem.mp hj
        refine ⟨a, y, toPy (datOf w), toPys ds, j, toPy ds[j], rfl, rfl, .lst (SqL.of h1) (RpAll.dp s.fh h2 hc), RR.dp s r2 (SeqAt.canLay_of_shaped ho.2), ho.1, ho.2, ?_, h3, ?_, p.dat s (.int _)⟩
        · rw [toPys_get, List.getElem?_eq_getElem hlt]; rfl
        · intro m z' hm hz
          rw [toPys_get, List.getElem?_eq_getElem (Nat.lt_trans hm hlt)] at hz
          cases hz
          have := h4 m hm
          simpa using this
      · exact p.elim
    · exact p.elim
  · exact p.elim
def indexE (fa fb : Env → Res B) : Env → Res B := fun ρ => (fa ρ).bind fun x => match seqL (rd x) with
  | some _ => (fb ρ).bind fun y => indexB (rd x) (rd y)
  | none => .bad
def indexK (ra rb : Res B) : Res B := ra.bind fun x => match seqL (rd x) with
  | some _ => rb.bind fun y => indexB (rd x) (rd y)
  | none => .bad
theorem e_index {ρ : Env} : indexE fa fb ρ = indexK (fa ρ) (fb ρ) := (rfl)
theorem index_ok {x y : B} : indexK (.ok x) (.ok y) = indexB (rd x) (rd y) := by
  show (match seqL (rd x) with | some _ => indexB (rd x) (rd y) | none => .bad) = _
  unfold indexB
  cases seqL (rd x) <;> rfl
theorem CT.index (C : CT X g cls k tab N sc bt) (ha : PE X a (tF g fa)) (hb : PE X b (tF g fb)) (hn : (nst b && (p2.endLine == p3.line)) = true) (hbase : attributeBase a "index" X.env (eval a X.env) = eval a X.env := by rfl) :
    PE X (.Call (.Attribute a "index" p2) [b] [] p3) (tF g (indexE fa fb)) := by
  rw [Bool.and_eq_true] at hn
  refine PE.imp (pe_bm PySem.F.plainAttrs_list PySem.F.slot_list_index PySem.F.type_list_index (mt_indexD (by have := C.hu; omega)) ha (pa_cons hb pa_nil (star_cons hn.1)) hbase (by cases b <;> first | rfl | cases hn.1) hn.2 (star_cons hn.1) (by rfl)) fun σ H Q h => ?_
  obtain ⟨F, ρ, s, p⟩ := h
  unfold indexE at p
  refine run1 s (fun bx v F1 H1 e1 g1 r1 => ?_) (fun c e => ?_) (fun e => ?_)
  · rw [e1, Res.ok_bind] at p
    have s1 := s.grow g1
    split at p
    · rename_i ds hs
      obtain ⟨q, xs, rfl, h1, h2⟩ := seqL_ok s1.sm r1 hs
      refine ⟨.inl ⟨rfl, xs, SqL.of h1⟩, ?_⟩
      refine run1 s1 (fun by_ w2 F2 H2 e2 g2 r2 => ?_) (fun c e => ?_) (fun e => ?_)
      · rw [e2, Res.ok_bind] at p
        rw [← C.hK]
        exact g_index (σ := σ) (s1.sm.grow g2) (r1.mono g2) r2 (p.later (g1.trans g2))
      · rw [e, Res.exc_bind] at p
        exact fun F' H' gr => p F' H' (g1.trans gr)
      · rw [e] at p
        exact p
    · exact p.elim
  · rw [e] at p
    exact p
  · rw [e] at p
    exact p
/-! ### methods that change an owned list -/
def mutP (f : M → Option M) (i : Nat) : Env → Out := fun ρ => match ownAt ρ i with
  | some m => (match f m with
    | some m' => .nx (ρ.set i (some (.own m')))
    | none => .bad)
  | none => .bad
def mutK (f : M → Option M) (i : Nat) (o : Option M) (ρ : Env) : Out := match o with
  | some m => (match f m with
    | some m' => .nx (ρ.set i (some (.own m')))
    | none => .bad)
  | none => .bad
theorem e_mut {f : M → Option M} {i : Nat} {ρ : Env} : mutP f i ρ = mutK f i (ownOf ρ[i]?) ρ := (rfl)
def revM : M → Option M
  | .l ds => some (.l ds.reverse)
  | _ => none
theorem mut_rev {ds : List D} {i : Nat} {ρ : Env} : mutK revM i (some (.l ds)) ρ = .nx (ρ.set i (some (.own (.l ds.reverse)))) := (rfl)
theorem CS.rev (C : CS X g cls k tab N sc bt) (i : Nat) {x : Str} (h : vOk N sc i x = true) (hl : (p2.endLine == p3.line) = true) : PS X (.Expr (.Call (.Attribute (.Name x p1) "reverse" p2) [] [] p3) p4) (tFS g (mutP revM i)) := by
  obtain ⟨h1, h2, h3, h4⟩ := C.ct.vo h
  refine PS.imp (ps_expr (pe_bm0 PySem.F.plainAttrs_list PySem.F.slot_list_reverse PySem.F.type_list_reverse mt_reverse (pe_var h1 h2 h3 h4) (by rfl) hl) (by rfl)) fun E σ H h => ?_
  show tVar i σ H fun v H1 => tyV X.K "list" v H1 ∧ rReverse v [] H1 fun _ H1 => E.nx σ H1
  obtain ⟨F, ρ, s, p⟩ := h
  unfold mutP at p
  split at p
  · rename_i m ho
    obtain ⟨q, o, a1, a2, a3, a4, a5⟩ := s.own_none (ownAt_ok ho)
    cases a5 with
    | l rl =>
      refine ⟨_, a1, Or.inl ⟨rfl, _, SqL.of a2⟩, q, _, rfl, rfl, a2, ?_⟩
      exact p σ F _ (s.change (ownAt_ok ho) a1 (.l rl.rev))
    | k _ _ => exact p.elim
    | t _ _ => exact p.elim
  · exact p.elim
def extV (i : Nat) (fa : Env → Res B) : Env → Out := fun ρ => match ownAt ρ i with
  | some (.l ds) => (match fa ρ with
    | .ok b => (match seqL (rd b) with
      | some es => if ds.length + es.length ≤ sizeLine then .nx (ρ.set i (some (.own (.l (ds ++ es))))) else .bad
      | none => .bad)
    | .exc c => .exc c ρ
    | .bad => .bad)
  | _ => .bad
def extK (i : Nat) (o : Option M) (r : Res B) (ρ : Env) : Out := match o with
  | some (.l ds) => (match r with
    | .ok b => (match seqL (rd b) with
      | some es => if ds.length + es.length ≤ sizeLine then .nx (ρ.set i (some (.own (.l (ds ++ es))))) else .bad
      | none => .bad)
    | .exc c => .exc c ρ
    | .bad => .bad)
  | _ => .bad
theorem e_ext {i : Nat} {ρ : Env} : extV i fa ρ = extK i (ownOf ρ[i]?) (fa ρ) ρ := (rfl)
theorem ext_own {i : Nat} {ρ : Env} {ds es : List D} (h : ds.length + es.length ≤ 1000) : extK i (some (.l ds)) (.ok (.own (.l es))) ρ = .nx (ρ.set i (some (.own (.l (ds ++ es))))) := if_pos (le_sz h)
theorem ext_dat {i : Nat} {ρ : Env} {ds es : List D} (h : ds.length + es.length ≤ 1000) : extK i (some (.l ds)) (.ok (.dat (.lst es))) ρ = .nx (ρ.set i (some (.own (.l (ds ++ es))))) := if_pos (le_sz h)
theorem CS.ext (C : CS X g cls k tab N sc bt) (i : Nat) {x : Str} (he : PE X e (tF g fa)) (h : vOk N sc i x = true) (hn : (nst e && (p2.endLine == p3.line)) = true) : PS X (.Expr (.Call (.Attribute (.Name x p1) "extend" p2) [e] [] p3) p4) (tFS g (extV i fa)) := by
  obtain ⟨h1, h2, h3, h4⟩ := C.ct.vo h
  rw [Bool.and_eq_true] at hn
  refine PS.imp (ps_expr (pe_bm PySem.F.plainAttrs_list PySem.F.slot_list_extend PySem.F.type_list_extend mt_extend (pe_var h1 h2 h3 h4) (pa_cons he pa_nil (star_cons hn.1)) (by rfl) (by cases e <;> first | rfl | cases hn.1) hn.2 (star_cons hn.1) (by rfl))) fun E σ H h => ?_
  show tVar i σ H fun v H1 => tyV X.K "list" v H1 ∧ tF g fa σ H1 fun w H2 => rExtend v [w] H2 fun _ H1 => E.nx σ H1
  obtain ⟨F, ρ, s, p⟩ := h
  unfold extV at p
  split at p
  · rename_i ds ho
    obtain ⟨q, o, a1, a2, a3, a4, a5⟩ := s.own_none (ownAt_ok ho)
    cases a5 with
    | l rl =>
      refine ⟨_, a1, Or.inl ⟨rfl, _, SqL.of a2⟩, ?_⟩
      refine run1 s (fun b v F1 H1 e2 g1 r1 => ?_) (fun c e => ?_) (fun e => ?_)
      · rw [e2] at p
        dsimp only at p
        split at p
        · rename_i es hs
          obtain ⟨a, zs, rfl, z1, z2⟩ := seqL_ok (s.grow g1).sm r1 hs
          split at p
          · rename_i hz
            refine ⟨q, a, _, zs, rfl, rfl, g1.hh _ _ a2, z1, by rw [rl.len, z2.len]; exact hz, ?_⟩
            exact p σ F1 _ ((s.grow g1).change (ownAt_ok ho) a1 (.l ((rl.mono g1.fh).app z2)))
          · exact p.elim
        · exact p.elim
      · rw [e] at p
        exact fun F' H' g1 => p σ F' H' (s.grow g1)
      · rw [e] at p
        exact p
  · exact p.elim
end
end Fn
namespace Fn
open PySem PySem.Spec PyProof.Rows L2
/-! ### more evaluation: chains, displays of any length, builtins -/
section
variable {ρ : Env} {fa fb fc : Env → Res B} {f f' : B → B → Res B} {b x y : B} {c : Nat} {d : D} {m : M} {ds es : List D} {bs : List B} {ns : List Int} {p q : Bool} {i j k n : Int}
def chnV (f' : B → B → Res B) (r : Res B) (y : B) (fc : Env → Res B) (ρ : Env) : Res B := r.bind fun z => match z with
  | .dat (.bl true) => bin2K f' (.ok y) (fc ρ)
  | .dat (.bl false) => .ok (.dat (.bl false))
  | _ => .bad
def chnK (f f' : B → B → Res B) (ra rb : Res B) (fc : Env → Res B) (ρ : Env) : Res B := ra.bind fun x => rb.bind fun y => chnV f' (f (rd x) (rd y)) y fc ρ
theorem e_chn : chn f f' fa fb fc ρ = chnK f f' (fa ρ) (fb ρ) fc ρ := (rfl)
theorem chn_ok : chnK f f' (.ok x) (.ok y) fc ρ = chnV f' (f (rd x) (rd y)) y fc ρ := (rfl)
theorem chnV_t : chnV f' (.ok (.dat (.bl true))) y fc ρ = bin2K f' (.ok y) (fc ρ) := (rfl)
theorem chnV_f : chnV f' (.ok (.dat (.bl false))) y fc ρ = .ok (.dat (.bl false)) := (rfl)
theorem chnV_go : chnV f' (.ok (.dat (.bl p))) y fc ρ = if p = true then bin2K f' (.ok y) (fc ρ) else .ok (.dat (.bl false)) := by cases p <;> rfl
def lstK (o : Option (List D)) : Res B := match o with
  | some ds => if ds.length ≤ sizeLine then .ok (.own (.l ds)) else .bad
  | none => .bad
def tupK (o : Option (List D)) : Res B := match o with
  | some ds => if ds.length ≤ sizeLine then .ok (.dat (.tup ds)) else .bad
  | none => .bad
theorem e_lstB : lstB bs = lstK (dats bs) := (rfl)
theorem e_tupB : tupB bs = tupK (dats bs) := (rfl)
def datsO (d : D) (o : Option (List D)) : Option (List D) := match o with
  | some ds => some (d :: ds)
  | none => none
theorem dats_nil : dats [] = some [] := (rfl)
theorem dats_cons : dats (.dat d :: bs) = datsO d (dats bs) := (rfl)
theorem datsO_some : datsO d (some ds) = some (d :: ds) := (rfl)
theorem lstK_ok (h : ds.length ≤ 1000) : lstK (some ds) = .ok (.own (.l ds)) := if_pos (le_sz h)
theorem tupK_ok (h : ds.length ≤ 1000) : tupK (some ds) = .ok (.dat (.tup ds)) := if_pos (le_sz h)
theorem len_S {z : Str} (h : z.length ≤ 1000) : lenB [.dat (.str z)] = .ok (.dat (.int z.length)) := if_pos (le_sz h)
theorem neg_i : negB (.dat (.int i)) = .ok (.dat (.int (-i))) := (rfl)
theorem not_bl : notB (.dat (.bl p)) = .ok (.dat (.bl !p)) := (rfl)
theorem tupF_lst : tupF [.dat (.lst ds)] = .ok (.dat (.tup ds)) := (rfl)
theorem tupF_tup : tupF [.dat (.tup ds)] = .ok (.dat (.tup ds)) := (rfl)
theorem tupF_vw : tupF [.vw (.l ds)] = .ok (.dat (.tup ds)) := (rfl)
theorem tupF_bor : tupF [.bor (.l ds)] = .ok (.dat (.tup ds)) := (rfl)
theorem lstF_tup : lstF [.dat (.tup ds)] = .ok (.own (.l ds)) := (rfl)
theorem lstF_lst : lstF [.dat (.lst ds)] = .ok (.own (.l ds)) := (rfl)
theorem int_i : intF [.dat (.int i)] = .ok (.dat (.int i)) := (rfl)
theorem is_t : isB false (.dat (.bl p)) (.dat (.bl q)) = .ok (.dat (.bl (decide (p = q)))) := by show Res.ok (B.dat (D.bl _)) = _; rw [Bool.bne_false]
theorem isn_t : isB true (.dat (.bl p)) (.dat (.bl q)) = .ok (.dat (.bl (!decide (p = q)))) := by show Res.ok (B.dat (D.bl _)) = _; rw [Bool.bne_true]
theorem is_n : isB false (.dat d) (.dat .non) = .ok (.dat (.bl (isNone d))) := by show Res.ok (B.dat (D.bl _)) = _; rw [Bool.bne_false]; rfl
theorem isn_n : isB true (.dat d) (.dat .non) = .ok (.dat (.bl (!isNone d))) := by show Res.ok (B.dat (D.bl _)) = _; rw [Bool.bne_true]; rfl
theorem eq_bl : eqB (.dat (.bl p)) (.dat (.bl q)) = .ok (.dat (.bl (decide (p = q)))) := by
  show Res.ok (B.dat (D.bl (PyData.eqv (.bool p) (.bool q)))) = _
  cases p <;> cases q <;> rfl
theorem ne_bl : neB (.dat (.bl p)) (.dat (.bl q)) = .ok (.dat (.bl (!decide (p = q)))) := by
  show Res.ok (B.dat (D.bl (!PyData.eqv (.bool p) (.bool q)))) = _
  cases p <;> cases q <;> rfl
/-! ### sorted -/
theorem sortOk_two {ds : List D} (h : sortOk ds = true) : sortOk2 ds = true := by
  unfold sortOk at h
  unfold sortOk2
  rw [Bool.and_eq_true, Bool.and_eq_true, Bool.or_eq_true] at h
  obtain ⟨h1, h2, h3⟩ := h
  rw [h1, h2]
  rcases h3 with h3 | h3 <;> rw [h3] <;> simp
theorem sort_l {ds : List D} (h : sortOk2 ds = true) : sortG [.dat (.lst ds)] = .ok (.own (.l (ds.mergeSort leD))) := if_pos h
theorem sort_t {ds : List D} (h : sortOk2 ds = true) : sortG [.dat (.tup ds)] = .ok (.own (.l (ds.mergeSort leD))) := if_pos h
theorem sort_dt {kvs : List (List Key × D)} : sortG [.dat (.dt kvs)] = sortF [.dat (.dt kvs)] := (rfl)
theorem sort_vt {kvs : List (List Key × D)} : sortG [.vw (.t kvs)] = sortF [.vw (.t kvs)] := (rfl)
/-! ### isinstance -/
def D.isS : D → Bool
  | .str _ => true
  | _ => false
def D.isT : D → Bool
  | .tup _ => true
  | .ctup _ => true
  | _ => false
def D.isF : D → Bool
  | .fn _ => true
  | _ => false
theorem isi_bl {t : Ty} : isiB t (.dat (.bl p)) = .ok (.dat (.bl (isTy t (.bl p)))) := (rfl)
theorem isi_str (h : d.isF = false) : isiB .str (.dat d) = .ok (.dat (.bl d.isS)) := by cases d <;> first | rfl | cases h
theorem isi_tup (h : d.isF = false) : isiB .tuple (.dat d) = .ok (.dat (.bl d.isT)) := by cases d <;> first | rfl | cases h
/-! ### all, any, sum over mapped lists -/
variable {α : Type} {as : List α} {h : α → Bool} {g : α → Int}
theorem blsD_as : ∀ {as : List α}, blsD (as.map fun a => D.bl (h a)) = some (as.map h)
  | [] => rfl
  | a :: as => by rw [List.map_cons]; unfold blsD; rw [blsD_as]; rfl
theorem intsD_as : ∀ {as : List α}, intsD (as.map fun a => D.int (g a)) = some (as.map g)
  | [] => rfl
  | a :: as => by rw [List.map_cons]; unfold intsD; rw [intsD_as]; rfl
theorem all_map : allF [.dat (.lst (as.map fun a => D.bl (h a)))] = .ok (.dat (.bl (as.all h))) := by
  show (match blsD (as.map fun a => D.bl (h a)) with | some ns => (.ok (.dat (.bl (ns.all id))) : Res B) | none => .bad) = _
  rw [blsD_as]
  simp [List.all_map]
theorem any_map : anyF [.dat (.lst (as.map fun a => D.bl (h a)))] = .ok (.dat (.bl (as.any h))) := by
  show (match blsD (as.map fun a => D.bl (h a)) with | some ns => (.ok (.dat (.bl (ns.any id))) : Res B) | none => .bad) = _
  rw [blsD_as]
  simp [List.any_map]
theorem sum_map : sumF [.dat (.lst (as.map fun a => D.int (g a)))] = .ok (.dat (.int (as.map g).sum)) := by
  show (match intsD (as.map fun a => D.int (g a)) with | some ns => (.ok (.dat (.int ns.sum)) : Res B) | none => .bad) = _
  rw [intsD_as]
/-! ### subscripts -/
def pick (ds : List D) (k : Int) : D := ds.getD k.toNat .non
theorem atI_pick (h0 : 0 ≤ k) (h1 : k < (ds.length : Int)) : atI ds k = some (pick ds k) := by
  rw [atI_lt h0 h1]
  unfold pick
  rw [List.getD_eq_getElem?_getD, List.getElem?_eq_getElem (by omega)]
  rfl
theorem idx_pT (h0 : 0 ≤ k) (h1 : k < (ds.length : Int)) : idxB (.dat (.tup ds)) (.dat (.int k)) = .ok (.dat (pick ds k)) := idx_tup (atI_pick h0 h1)
theorem idx_pL (h0 : 0 ≤ k) (h1 : k < (ds.length : Int)) : idxB (.dat (.lst ds)) (.dat (.int k)) = .ok (.dat (pick ds k)) := idx_lst (atI_pick h0 h1)
theorem idx_pV (h0 : 0 ≤ k) (h1 : k < (ds.length : Int)) : idxB (.vw (.l ds)) (.dat (.int k)) = .ok (.dat (pick ds k)) := idx_vw (atI_pick h0 h1)
theorem idx_pB (h0 : 0 ≤ k) (h1 : k < (ds.length : Int)) : idxB (.bor (.l ds)) (.dat (.int k)) = .ok (.dat (pick ds k)) := idx_bor (atI_pick h0 h1)
theorem pick_mem (h0 : 0 ≤ k) (h1 : k < (ds.length : Int)) : pick ds k ∈ ds := by
  unfold pick
  rw [List.getD_eq_getElem?_getD, List.getElem?_eq_getElem (by omega : k.toNat < ds.length)]
  exact List.getElem_mem _
theorem pick_map {e : α → D} [Inhabited α] (h0 : 0 ≤ k) (h1 : k < (as.length : Int)) : pick (as.map e) k = e (as.getD k.toNat default) := by
  unfold pick
  rw [List.getD_eq_getElem?_getD, List.getD_eq_getElem?_getD, List.getElem?_map, List.getElem?_eq_getElem (by omega : k.toNat < as.length)]
  rfl
/-- the items of a list of numbers, with what a literal index says -/
theorem ixI {l : List Int} (h0 : 0 ≤ k) (h1 : k < (l.length : Int)) : idxB (.dat (.lst (l.map .int))) (.dat (.int k)) = .ok (.dat (.int (l.getD k.toNat 0))) := by
  rw [idx_pL h0 (by rwa [List.length_map]), pick_map h0 h1]; rfl
theorem pick_S {l : List Str} (h0 : 0 ≤ k) (h1 : k < (l.length : Int)) : pick (l.map .str) k = .str (l.getD k.toNat Str.empty) := by
  unfold pick
  rw [List.getD_eq_getElem?_getD, List.getD_eq_getElem?_getD, List.getElem?_map, List.getElem?_eq_getElem (by omega : k.toNat < l.length)]
  rfl
theorem ixS {l : List Str} (h0 : 0 ≤ k) (h1 : k < (l.length : Int)) : idxB (.dat (.lst (l.map .str))) (.dat (.int k)) = .ok (.dat (.str (l.getD k.toNat Str.empty))) := by
  rw [idx_pL h0 (by rwa [List.length_map]), pick_S h0 h1]
theorem ixSt {l : List Str} (h0 : 0 ≤ k) (h1 : k < (l.length : Int)) : idxB (.dat (.tup (l.map .str))) (.dat (.int k)) = .ok (.dat (.str (l.getD k.toNat Str.empty))) := by
  rw [idx_pT h0 (by rwa [List.length_map]), pick_S h0 h1]
/-! ### slices -/
theorem slc_tup {lo hi : Option Int} : sliceB (.dat (.tup ds)) lo hi = .ok (.dat (.tup (cutL ds lo hi))) := (rfl)
theorem slc_l {lo hi : Option Int} : sliceB (.dat (.lst ds)) lo hi = .ok (.own (.l (cutL ds lo hi))) := (rfl)
theorem slc_vw {lo hi : Option Int} : sliceB (.vw (.l ds)) lo hi = .ok (.own (.l (cutL ds lo hi))) := (rfl)
theorem slc_bor {lo hi : Option Int} : sliceB (.bor (.l ds)) lo hi = .ok (.own (.l (cutL ds lo hi))) := (rfl)
theorem slc_str {lo hi : Option Int} {z : Str} (h : z.length ≤ 1000) : sliceB (.dat (.str z)) lo hi = .ok (.dat (.str (cutS z lo hi))) := if_pos (le_sz h)
theorem sIx_pos {n e : Nat} (h : 0 ≤ k) : HT.sIx n e (some k) = min k.toNat n := by
  have := HT.sIx_nat n e k.toNat
  rwa [show ((k.toNat : Nat) : Int) = k from by omega] at this
theorem cut_drop {l : List α} (h : 0 ≤ k) : cutL l (some k) none = l.drop k.toNat := by
  unfold cutL
  rw [sIx_pos h, HT.sIx_none, List.take_of_length_le (by rw [List.length_drop]; omega)]
  by_cases z : k.toNat ≤ l.length
  · rw [Nat.min_eq_left z]
  · rw [Nat.min_eq_right (by omega), List.drop_of_length_le (Nat.le_refl _), List.drop_of_length_le (by omega)]
theorem cut_tak {l : List α} (h : 0 ≤ k) : cutL l none (some k) = l.take k.toNat := by
  have := cut_take l k.toNat
  rwa [show ((k.toNat : Nat) : Int) = k from by omega] at this
theorem cut_mid {l : List α} (h : 0 ≤ i) (h2 : 0 ≤ k) : cutL l (some i) (some k) = (l.take k.toNat).drop i.toNat := by
  unfold cutL
  rw [sIx_pos h, sIx_pos h2]
  generalize i.toNat = a
  generalize k.toNat = b
  apply List.ext_getElem?
  intro m
  rw [List.getElem?_take, List.getElem?_drop, List.getElem?_drop, List.getElem?_take]
  by_cases hm : m < min b l.length - min a l.length
  · rw [if_pos hm, show min a l.length = a by omega, if_pos (by omega)]
  · rw [if_neg hm]
    split
    · rw [List.getElem?_eq_none (by omega)]
    · rfl
theorem cat_t (h : ds.length + es.length ≤ 1000) : addB (.dat (.tup ds)) (.dat (.tup es)) = .ok (.dat (.tup (ds ++ es))) := cat_tt h
theorem cat_l (h : ds.length + es.length ≤ 1000) : addB (.dat (.lst ds)) (.dat (.lst es)) = .ok (.own (.l (ds ++ es))) := if_pos (le_sz h)
theorem cat_v (h : ds.length + es.length ≤ 1000) : addB (.vw (.l ds)) (.dat (.lst es)) = .ok (.own (.l (ds ++ es))) := if_pos (le_sz h)
theorem cat_s {y z : Str} (h : y.length + z.length ≤ 1000) : addB (.dat (.str y)) (.dat (.str z)) = .ok (.dat (.str (y ++ z))) := if_pos (le_sz h)
theorem app_l (h : ds.length < 1000) {i : Nat} {ρ : Env} : appK i (some (.l ds)) (.ok (.dat d)) ρ = .nx (ρ.set i (some (.own (.l (ds ++ [d]))))) := app_dat (Nat.lt_of_lt_of_le h (le_sz (Nat.le_refl _)))
theorem app_m (h : ds.length < 1000) {i : Nat} {ρ : Env} : appK i (some (.l ds)) (.ok (.own m)) ρ = .nx (ρ.set i (some (.own (.l (ds ++ [frzM m]))))) := app_own (Nat.lt_of_lt_of_le h (le_sz (Nat.le_refl _)))
theorem rg1 (h0 : -1000000000 ≤ k) (h1 : k ≤ 1000000000) : rgZ [.dat (.int k)] = .ok ((List.range k.toNat).map fun (i : Nat) => D.int i) := by
  rw [rgZ_eq, rng_1 (by omega) (by omega)]
  unfold rng
  rw [Int.sub_zero]
  simp only [Int.zero_add]
theorem rg2 (h0 : -1000000000 ≤ i) (h1 : i ≤ 1000000000) (h2 : -1000000000 ≤ k) (h3 : k ≤ 1000000000) : rgZ [.dat (.int i), .dat (.int k)] = .ok ((List.range (k - i).toNat).map fun (j : Nat) => D.int (i + (j : Int))) := by
  rw [rgZ_eq]
  unfold rngA
  dsimp only
  rw [if_pos (by omega)]
  rfl
end
theorem pow_z {i k : Int} (h : 0 ≤ k) (h2 : k ≤ 1000) (hi : Sm64 i) : powZ (.dat (.int i)) (.dat (.int k)) = .ok (.dat (.int (i ^ k.toNat))) := by
  rw [← e_pow]; exact pow_ok h (by omega) hi
theorem shl_z {i k : Int} (h : 0 ≤ k) (h2 : k ≤ 1000) (hi : Sm64 i) : shlZ (.dat (.int i)) (.dat (.int k)) = .ok (.dat (.int (i * 2 ^ k.toNat))) := by
  rw [← e_shl]; exact shl_ok h (by omega) hi
/-! ### data of any kind, of small size -/
def fit : Nat → D → Bool
  | 0, .tup ds => ds.isEmpty
  | 0, .lst ds => ds.isEmpty
  | n + 1, .tup ds => decide (ds.length ≤ 1000) && ds.all (fit n)
  | n + 1, .lst ds => decide (ds.length ≤ 1000) && ds.all (fit n)
  | _, .str x => PyData.strOk x && decide (x.length ≤ 1000)
  | _, .ctup _ => false
  | _, .fn _ => false
  | _, _ => true
theorem fit_up : ∀ {n : Nat} {d : D}, fit n d = true → fit (n + 1) d = true
  | 0, .tup ds, h => by
    have e : ds = [] := List.isEmpty_iff.mp h
    subst e; rfl
  | 0, .lst ds, h => by
    have e : ds = [] := List.isEmpty_iff.mp h
    subst e; rfl
  | n + 1, .tup ds, h => by
    unfold fit at h ⊢
    rw [Bool.and_eq_true, List.all_eq_true] at h ⊢
    exact ⟨h.1, fun d hd => fit_up (h.2 d hd)⟩
  | n + 1, .lst ds, h => by
    unfold fit at h ⊢
    rw [Bool.and_eq_true, List.all_eq_true] at h ⊢
    exact ⟨h.1, fun d hd => fit_up (h.2 d hd)⟩
  | 0, .str x, h => h
  | _ + 1, .str x, h => h
  | 0, .non, _ => rfl
  | _ + 1, .non, _ => rfl
  | 0, .bl _, _ => rfl
  | _ + 1, .bl _, _ => rfl
  | 0, .int _, _ => rfl
  | _ + 1, .int _, _ => rfl
  | 0, .dk _, _ => rfl
  | _ + 1, .dk _, _ => rfl
  | 0, .dt _, _ => rfl
  | _ + 1, .dt _, _ => rfl
theorem fit_le {n m : Nat} {d : D} (h : n ≤ m) (f : fit n d = true) : fit m d = true := by
  induction h with
  | refl => exact f
  | step _ ih => exact fit_up ih
theorem fit_noF {n : Nat} {d : D} (h : fit n d = true) : d.isF = false := by
  cases d <;> first | rfl | (cases n <;> cases h)
theorem fit_str {n : Nat} {x : Str} (h : fit n (.str x) = true) : PyData.strOk x = true ∧ x.length ≤ 1000 := by
  have : (PyData.strOk x && decide (x.length ≤ 1000)) = true := by cases n <;> exact h
  rw [Bool.and_eq_true, decide_eq_true_eq] at this
  exact this
theorem fit_tup {n : Nat} {ds : List D} (h : fit n (.tup ds) = true) : ds.length ≤ 1000 ∧ ∀ d ∈ ds, fit n d = true := by
  cases n with
  | zero =>
    have e : ds = [] := List.isEmpty_iff.mp h
    subst e
    exact ⟨Nat.zero_le _, fun _ q => nomatch q⟩
  | succ n =>
    have : (decide (ds.length ≤ 1000) && ds.all (fit n)) = true := h
    rw [Bool.and_eq_true, decide_eq_true_eq, List.all_eq_true] at this
    exact ⟨this.1, fun d hd => fit_up (this.2 d hd)⟩
/-! ### sizes of numbers, by instances -/
class ISz (i : Int) (n : outParam Nat) : Prop where
  h : i.natAbs < 2 ^ n
theorem ISz.up {i : Int} {n m : Nat} (a : ISz i n) (h : n ≤ m) : ISz i m := ⟨Nat.lt_of_lt_of_le a.h (Nat.pow_le_pow_right (by decide) h)⟩
theorem isz_of {i : Int} {n : Nat} (h1 : -(2 ^ n) < i) (h2 : i < 2 ^ n) : ISz i n := ⟨by
  have : ((2 ^ n : Nat) : Int) = 2 ^ n := by simp
  omega⟩
instance isz_lit {k : Nat} : ISz (no_index (OfNat.ofNat k)) (k.log2 + 1) := ⟨by
  show ((k : Nat) : Int).natAbs < _
  rw [Int.natAbs_natCast]
  exact Nat.lt_log2_self⟩
class Ps (k : Nat) : Prop where
  h : 0 < k
instance ps_succ {k : Nat} : Ps (k + 1) := ⟨Nat.succ_pos k⟩
instance isz_neg {i : Int} {n : Nat} [a : ISz i n] : ISz (-i) n := ⟨by rw [Int.natAbs_neg]; exact a.h⟩
theorem two_pow_add {a b n m : Nat} (h1 : a < 2 ^ n) (h2 : b < 2 ^ m) : a + b < 2 ^ (max n m + 1) := by
  have := Nat.lt_of_lt_of_le h1 (Nat.pow_le_pow_right (by decide) (Nat.le_max_left n m))
  have := Nat.lt_of_lt_of_le h2 (Nat.pow_le_pow_right (by decide) (Nat.le_max_right n m))
  rw [Nat.pow_succ]
  omega
instance isz_add {i j : Int} {n m : Nat} [a : ISz i n] [b : ISz j m] : ISz (i + j) (max n m + 1) := ⟨Nat.lt_of_le_of_lt (Int.natAbs_add_le i j) (two_pow_add a.h b.h)⟩
instance isz_sub {i j : Int} {n m : Nat} [a : ISz i n] [b : ISz j m] : ISz (i - j) (max n m + 1) := ⟨Nat.lt_of_le_of_lt (Int.natAbs_sub_le i j) (two_pow_add a.h b.h)⟩
instance isz_mul {i j : Int} {n m : Nat} [a : ISz i n] [b : ISz j m] : ISz (i * j) (n + m) := ⟨by
  rw [Int.natAbs_mul, Nat.pow_add]
  exact Nat.mul_lt_mul'' a.h b.h⟩
instance isz_mod {i : Int} {k : Nat} [hp : Ps k] : ISz (i % (no_index (OfNat.ofNat k))) (k.log2 + 1) := ⟨by
  have h : 0 < k := hp.h
  show (i % ((k : Nat) : Int)).natAbs < _
  have h1 := Int.emod_nonneg i (show ((k : Nat) : Int) ≠ 0 by omega)
  have h2 := Int.emod_lt_of_pos i (show (0 : Int) < ((k : Nat) : Int) by omega)
  have h3 : k < 2 ^ (k.log2 + 1) := Nat.lt_log2_self
  omega⟩
instance isz_div {i : Int} {n : Nat} [a : ISz i n] {j : Int} : ISz (i / j) n := ⟨Nat.lt_of_le_of_lt (Int.natAbs_ediv_le_natAbs i j) a.h⟩
theorem isz_log {i : Int} {n : Nat} (a : ISz i n) : i.natAbs.log2 ≤ n := by
  by_cases z : i.natAbs = 0
  · rw [z]; exact Nat.zero_le _
  · exact Nat.le_of_lt ((Nat.log2_lt z).mpr a.h)
theorem mul_z {i j : Int} {n m : Nat} [a : ISz i n] [b : ISz j m] (h : n + m < 1000000) : mulB (.dat (.int i)) (.dat (.int j)) = .ok (.dat (.int (i * j))) := by
  unfold mulB
  dsimp only
  have := isz_log a
  have := isz_log b
  rw [if_pos (by omega)]
theorem div_z {i j : Int} {m : Nat} [b : ISz j m] (h : 0 < j) (h2 : m < 8999) : divB (.dat (.int i)) (.dat (.int j)) = .ok (.dat (.int (i / j))) := by
  unfold divB int2
  dsimp only
  have := isz_log b
  rw [if_pos (by rw [Bool.and_eq_true, decide_eq_true_eq, decide_eq_true_eq]; exact ⟨by omega, by omega⟩), Int.fdiv_eq_ediv_of_nonneg _ (by omega)]
end Fn
namespace Fn
open PySem PySem.Spec PyProof.Rows L2
/-! ### texts by signs, names as the laws draw them -/
/-- a text by its signs -/
abbrev sC (l : List Nat) : Str := ⟨l.toArray⟩
theorem sC_inj {a b : List Nat} (h : sC a = sC b) : a = b := by
  injection h with h
  simpa using h
theorem idx_str {x : Str} {k : Int} {c : Nat} (h : atI x.cps.toList k = some c) (hl : x.length ≤ 1000) : idxB (.dat (.str x)) (.dat (.int k)) = .ok (.dat (.str (sC [c]))) := by
  show (match atI x.cps.toList k with | some c => (if x.length ≤ sizeLine then (.ok (.dat (.str ⟨#[c]⟩)) : Res B) else .bad) | none => .bad) = _
  rw [h]
  exact if_pos (le_sz hl)
theorem idxL {ds : List D} {n : Nat} {d : D} (k : Int) (hk : k = (n : Int)) (h : ds[n]? = some d) : idxB (.dat (.lst ds)) (.dat (.int k)) = .ok (.dat d) := by
  subst hk
  exact idx_lst (atI_nat h)
theorem rep_ok {c : Nat} {m : Int} (h1 : 0 ≤ m) (h2 : m ≤ 1000) : mulB (.dat (.str (sC [c]))) (.dat (.int m)) = .ok (.dat (.str (sC (List.replicate m.toNat c)))) := by
  show (if -1000 ≤ m ∧ m ≤ 1000 ∧ (sC [c]).length ≤ 1000 then (.ok (.dat (.str (repS (sC [c]) m))) : Res B) else .bad) = _
  rw [if_pos ⟨by omega, h2, by show 1 ≤ 1000; decide⟩]
  unfold repS
  congr 4
  simp
theorem cat_ok {a b : List Nat} (h : a.length + b.length ≤ 1000) : addB (.dat (.str (sC a))) (.dat (.str (sC b))) = .ok (.dat (.str (sC (a ++ b)))) := by
  show (if (sC a).length + (sC b).length ≤ sizeLine then (.ok (.dat (.str (sC a ++ sC b))) : Res B) else .bad) = _
  rw [if_pos (le_sz (by show a.toArray.size + b.toArray.size ≤ 1000; simpa using h))]
  congr 3
  show (⟨a.toArray ++ b.toArray⟩ : Str) = _
  simp
def abc : Str := "abcdefghijklmnopqrstuvwxyz"
theorem abc_cps : abc.cps.toList = (List.range 26).map (97 + ·) := by decide +kernel
theorem letter {j : Int} (h0 : 0 ≤ j) (h1 : j < 26) : idxB (.dat (.str abc)) (.dat (.int j)) = .ok (.dat (.str (sC [97 + j.toNat]))) := by
  refine idx_str ?_ (by decide +kernel)
  rw [abc_cps]
  have e : j = ((j.toNat : Nat) : Int) := by omega
  have q : ((List.range 26).map (97 + ·))[j.toNat]? = some (97 + j.toNat) := by
    rw [List.getElem?_map, List.getElem?_range (by omega)]
    rfl
  have := atI_nat q
  rw [← e] at this
  exact this
def abc8 : Str := "abcdefgh"
theorem abc8_cps : abc8.cps.toList = (List.range 8).map (97 + ·) := by decide +kernel
theorem letter8 {k : Nat} (h1 : k < 8) : idxB (.dat (.str abc8)) (.dat (.int (k : Int))) = .ok (.dat (.str (sC [97 + k]))) := by
  refine idx_str ?_ (by decide +kernel)
  rw [abc8_cps]
  exact atI_nat (by rw [List.getElem?_map, List.getElem?_range (by omega)]; rfl)
def nmC (x0 x1 x2 x3 : Int) (k : Nat) : List Nat :=
  if x1 % 4 = 1 then (97 + k) :: List.replicate (x3 % 8).toNat (97 + (x2 % 26).toNat)
  else if x1 % 4 = 2 then List.replicate (1 + k) (97 + (x2 % 26).toNat)
  else if x1 % 4 = 3 then [97 + (x2 % 26).toNat, 97 + ((x3 + 5 * (k : Int)) % 26).toNat, 97 + (x0 % 26).toNat]
  else List.replicate (1 + (x2 + 3 * (k : Int)) % (if x3 % 2 = 0 then 1 else 5)).toNat (97 + ((x0 + 7 * (k : Int)) % 26).toNat)
theorem repl_head {n m a b : Nat} (h : List.replicate n a = List.replicate m b) (hn : 0 < n) : a = b := by
  cases n with
  | zero => omega
  | succ n =>
    cases m with
    | zero => simp at h
    | succ m =>
      rw [List.replicate_succ, List.replicate_succ] at h
      injection h
theorem nmC_inj {x0 x1 x2 x3 : Int} {k j : Nat} (hk : k < 8) (hj : j < 8) (h : nmC x0 x1 x2 x3 k = nmC x0 x1 x2 x3 j) : k = j := by
  unfold nmC at h
  split at h
  · injection h with h _
    omega
  · split at h
    · have := congrArg List.length h
      rw [List.length_replicate, List.length_replicate] at this
      omega
    · split at h
      · injection h with _ h
        injection h with h _
        omega
      · have := repl_head h (by split <;> omega)
        omega
theorem nmC_lay (x0 x1 x2 x3 : Int) {k : Nat} (hk : k < 8) : PyData.strOk (sC (nmC x0 x1 x2 x3 k)) = true := by
  have all : ∀ c ∈ nmC x0 x1 x2 x3 k, c < 0x110000 := by
    intro c hc
    unfold nmC at hc
    split at hc
    · rcases List.mem_cons.mp hc with rfl | hc
      · omega
      · have := List.eq_of_mem_replicate hc
        omega
    · split at hc
      · have := List.eq_of_mem_replicate hc
        omega
      · split at hc
        · simp only [List.mem_cons, List.not_mem_nil, or_false] at hc
          rcases hc with rfl | rfl | rfl <;> omega
        · have := List.eq_of_mem_replicate hc
          omega
  show (nmC x0 x1 x2 x3 k).toArray.all (fun c => decide (c < 0x110000)) = true
  rw [List.all_toArray, List.all_eq_true]
  exact fun c hc => decide_eq_true (all c hc)
/-- a name: one to eight signs from a to z -/
def isNm (x : Str) : Prop := 1 ≤ x.length ∧ x.length ≤ 8 ∧ ∀ c ∈ x.cps.toList, 97 ≤ c ∧ c < 123
theorem isNm_ok {x : Str} (h : isNm x) : PyData.strOk x = true := by
  show x.cps.all (fun c => decide (c < 0x110000)) = true
  rw [← Array.all_toList, List.all_eq_true]
  exact fun c hc => decide_eq_true (by have := h.2.2 c hc; omega)
theorem nmC_nm (x0 x1 x2 x3 : Int) {k : Nat} (hk : k < 8) : isNm (sC (nmC x0 x1 x2 x3 k)) := by
  have main : 1 ≤ (nmC x0 x1 x2 x3 k).length ∧ (nmC x0 x1 x2 x3 k).length ≤ 8 ∧ ∀ c ∈ nmC x0 x1 x2 x3 k, 97 ≤ c ∧ c < 123 := by
    unfold nmC
    split
    · refine ⟨by simp, by simp only [List.length_cons, List.length_replicate]; omega, fun c hc => ?_⟩
      rcases List.mem_cons.mp hc with rfl | hc
      · omega
      · have := List.eq_of_mem_replicate hc
        omega
    · split
      · refine ⟨by simp only [List.length_replicate]; omega, by simp only [List.length_replicate]; omega, fun c hc => ?_⟩
        have := List.eq_of_mem_replicate hc
        omega
      · split
        · refine ⟨by simp, by simp, fun c hc => ?_⟩
          simp only [List.mem_cons, List.not_mem_nil, or_false] at hc
          rcases hc with rfl | rfl | rfl <;> omega
        · refine ⟨by simp only [List.length_replicate]; split <;> omega, by simp only [List.length_replicate]; split <;> omega, fun c hc => ?_⟩
          have := List.eq_of_mem_replicate hc
          omega
  exact ⟨main.1, main.2.1, by simpa using main.2.2⟩
/-- the names: n texts, sorted, no two alike -/
structure Nms (ns : List Str) (n : Nat) : Prop where
  len : ns.length = n
  nm : ∀ x ∈ ns, isNm x
  nd : ns.Nodup
  srt : (txs ns).Pairwise fun a b => leD a b = true
theorem Nms.lay {ns : List Str} {n : Nat} (h : Nms ns n) : Lays ns := fun x hx => isNm_ok (h.nm x hx)
theorem txs_sort (ns0 : List Str) : ∃ ns : List Str, (txs ns0).mergeSort leD = txs ns ∧ ns.Perm ns0 := by
  have all : ∀ d ∈ (txs ns0).mergeSort leD, ∃ x, d = .str x := fun d hd => by
    obtain ⟨x, _, rfl⟩ := List.mem_map.mp (List.mem_mergeSort.mp hd)
    exact ⟨x, rfl⟩
  obtain ⟨ns, hns⟩ := txs_of all
  exact ⟨ns, hns, txs_perm (by rw [← hns]; exact List.mergeSort_perm (txs ns0) leD)⟩
theorem sort_txs {ns0 ns : List Str} (h : Lays ns0) (hs : (txs ns0).mergeSort leD = txs ns) : sortG [.dat (.lst (txs ns0))] = .ok (.own (.l (txs ns))) := by
  rw [sort_l (sortOk_two (sortOk_txs h)), hs]
/-- names drawn by nmC, sorted -/
theorem nms_draw (x0 x1 x2 x3 : Int) {n : Nat} (hn : n ≤ 8) : ∃ ns : List Str, Nms ns n ∧ sortG [.dat (.lst ((List.range n).map fun k => D.str (sC (nmC x0 x1 x2 x3 k))))] = .ok (.own (.l (txs ns))) := by
  let ns0 : List Str := (List.range n).map fun k => sC (nmC x0 x1 x2 x3 k)
  have e0 : ((List.range n).map fun k => D.str (sC (nmC x0 x1 x2 x3 k))) = txs ns0 := by simp [ns0, txs]
  have nm0 : ∀ x ∈ ns0, isNm x := by
    intro x hx
    obtain ⟨k, hk, rfl⟩ := List.mem_map.mp hx
    exact nmC_nm _ _ _ _ (by have := List.mem_range.mp hk; omega)
  have nd0 : ns0.Nodup := by
    refine List.pairwise_map.mpr (List.Pairwise.imp_of_mem (fun {a b} ha hb hne h => ?_) (List.nodup_range (n := n)))
    have := List.mem_range.mp ha
    have := List.mem_range.mp hb
    exact hne (nmC_inj (by omega) (by omega) (sC_inj h))
  obtain ⟨ns, hns, hp⟩ := txs_sort ns0
  refine ⟨ns, ⟨?_, fun x hx => nm0 x (hp.mem_iff.mp hx), hp.nodup_iff.mpr nd0, by rw [← hns]; exact sortD_pair _⟩, ?_⟩
  · rw [hp.length_eq]; simp [ns0]
  · rw [e0]
    exact sort_txs (fun x hx => isNm_ok (nm0 x hx)) hns
theorem idx_26 {z : Int} : idxB (.dat (.str "abcdefghijklmnopqrstuvwxyz")) (.dat (.int (z % 26))) = .ok (.dat (.str (sC [97 + (z % 26).toNat]))) := letter (by omega) (by omega)
end Fn
namespace Fn
open PySem PySem.Spec PyProof.Rows L2
/-! ### loops whose state is told by a wish -/
theorem loop_inv {tg : Tg} {f : Env → Out} {α : Type} {e : α → D} (I : List α → Env → Prop) : ∀ {as : List α} {ρ : Env}, I as ρ → (∀ a as ρ, I (a :: as) ρ → ∃ ρ1 ρ2, bindT tg (e a) ρ = some ρ1 ∧ (f ρ1 = .nx ρ2 ∨ f ρ1 = .ct ρ2) ∧ I as ρ2) → ∃ ρ', loopF tg f (as.map e) ρ = .nx ρ' ∧ I [] ρ'
  | [], ρ, hi, _ => ⟨ρ, rfl, hi⟩
  | a :: as, ρ, hi, hs => by
    obtain ⟨ρ1, ρ2, h1, h2, h3⟩ := hs a as ρ hi
    obtain ⟨ρ', h4, h5⟩ := loop_inv I h3 hs
    refine ⟨ρ', ?_, h5⟩
    rw [List.map_cons, loop_one h1]
    rcases h2 with h2 | h2 <;> (rw [h2]; exact h4)
/-! ### pairs of texts, graphs as the laws draw them -/
abbrev pK (p : Str × Str) : List Key := [Sum.inr p.1, Sum.inr p.2]
abbrev pD (p : Str × Str) : D := .tup [.str p.1, .str p.2]
abbrev pKv (p : Str × Str) : List Key × D := (pK p, .bl true)
theorem put_pair (ps : List (Str × Str)) (p : Str × Str) : putD (ps.map pKv) (pK p) (.bl true) = (if p ∈ ps then ps else ps ++ [p]).map pKv := by
  have inj : ∀ q : Str × Str, (pK q = pK p) ↔ q = p := by
    intro q
    constructor
    · intro h
      simp only [pK, List.cons.injEq, Sum.inr.injEq, and_true] at h
      exact Prod.ext h.1 h.2
    · rintro rfl; rfl
  unfold putD
  have e1 : ((ps.map pKv).any fun kv => decide (kv.1 = pK p)) = decide (p ∈ ps) := by
    rw [List.any_map]
    induction ps with
    | nil => rfl
    | cons q qs ih =>
      rw [List.any_cons, ih]
      simp only [Function.comp, inj, List.mem_cons]
      by_cases h : q = p
      · subst h; simp
      · have h' : ¬ p = q := fun z => h z.symm
        simp [h, h']
  rw [e1]
  by_cases h : p ∈ ps
  · rw [if_pos (decide_eq_true h), if_pos h]
    rw [List.map_map]
    refine List.map_congr_left fun q _ => ?_
    show (if pK q = pK p then (pK q, D.bl true) else pKv q) = pKv q
    split <;> rfl
  · rw [if_neg (by rw [decide_eq_false h]; decide), if_neg h, List.map_append]
    rfl
structure Prs (ns : List Str) (ps : List (Str × Str)) : Prop where
  l : ∀ p ∈ ps, p.1 ∈ ns
  r : ∀ p ∈ ps, p.2 ∈ ns
theorem sort_pairs {ns : List Str} {n : Nat} (h : Nms ns n) (ps : List (Str × Str)) (hp : Prs ns ps) : ∃ qs : List (Str × Str), qs.Perm ps ∧ sortG [.dat (.dt (ps.map pKv))] = .ok (.own (.l (qs.map pD))) := by
  have e0 : ((ps.map pKv).map fun kv => kD kv.1) = ps.map pD := by
    rw [List.map_map]
    rfl
  have so : sortOk (ps.map pD) = true := by
    unfold sortOk
    rw [toPys_map]
    simp only [Bool.and_eq_true, Bool.or_eq_true, List.all_eq_true, List.mem_map]
    refine ⟨?_, ?_, .inl ?_⟩
    · rintro _ ⟨_, ⟨p, hq, rfl⟩, rfl⟩
      exact (shaped_strs (xs := [p.1, p.2]) (fun x hx => by
        simp only [List.mem_cons, List.not_mem_nil, or_false] at hx
        rcases hx with rfl | rfl
        · exact h.lay _ (hp.l p hq)
        · exact h.lay _ (hp.r p hq))).1
    · rintro _ ⟨_, ⟨p, _, rfl⟩, rfl⟩ _ ⟨_, ⟨q, _, rfl⟩, rfl⟩
      have := alike_txs [p.1, p.2] [q.1, q.2]
      simpa [pD, toPy, PySem.W.alike] using this
    · rintro _ ⟨_, ⟨p, _, rfl⟩, rfl⟩
      rfl
  have pm := List.mergeSort_perm (ps.map pD) leD
  let un : D → Str × Str := fun d => match d with
    | .tup [.str a, .str b] => (a, b)
    | _ => (Str.empty, Str.empty)
  have unD : ∀ p : Str × Str, un (pD p) = p := fun p => rfl
  refine ⟨((ps.map pD).mergeSort leD).map un, ?_, ?_⟩
  · have := pm.map un
    rw [List.map_map, show (un ∘ pD) = id from funext unD, List.map_id] at this
    exact this
  · rw [sort_dt]
    show (if sortOk ((ps.map pKv).map fun kv => kD kv.1) = true then (.ok (.own (.l (((ps.map pKv).map fun kv => kD kv.1).mergeSort leD))) : Res B) else .bad) = _
    rw [e0, if_pos so]
    congr 3
    rw [List.map_map]
    have : ∀ d ∈ (ps.map pD).mergeSort leD, (pD ∘ un) d = d := fun d hd => by
      obtain ⟨p, _, rfl⟩ := List.mem_map.mp (List.mem_mergeSort.mp hd)
      rfl
    rw [List.map_congr_left this, List.map_id']
/-- a graph's names and pairs -/
structure Gph (ns : List Str) (ps : List (Str × Str)) : Prop where
  nm : Nms ns ns.length
  pos : 0 < ns.length
  le : ns.length ≤ 7
  pr : Prs ns ps
  few : ps.length ≤ 12
abbrev gD (ns : List Str) (ps : List (Str × Str)) : D := .tup [.tup (txs ns), .tup (ps.map pD)]
theorem sto_pair {ps : List (Str × Str)} {s t : Str} (hl : ps.length < 900) : storeM (.t (ps.map pKv)) (.dat (.tup [.str s, .str t])) (.bl true) = some (.t ((if (s, t) ∈ ps then ps else ps ++ [(s, t)]).map pKv)) := by
  show (if (ps.map pKv).length < sizeLine then some (M.t (putD (ps.map pKv) (pK (s, t)) (.bl true))) else none) = _
  rw [if_pos (small1000 (by rw [List.length_map]; omega)), put_pair]
end Fn
namespace Fn
open PySem PySem.Spec PyProof.Rows L2
theorem loop_anyD {tg : Tg} {f : Env → Out} {b : B} {ρ : Env} (p : D → Bool) {ds : List D} (h : ∀ a ∈ ds, ∃ ρ1, bindT tg a ρ = some ρ1 ∧ (f ρ1 = (if p a = true then .rt b else .nx ρ) ∨ f ρ1 = (if p a = true then .rt b else .ct ρ))) : loopF tg f ds ρ = if ds.any p = true then .rt b else .nx ρ := by
  have := loop_any (e := id) p h
  rwa [List.map_id] at this
theorem loop_sameD {tg : Tg} {f : Env → Out} {ρ : Env} {ds : List D} (h : ∀ a ∈ ds, ∃ ρ1, bindT tg a ρ = some ρ1 ∧ (f ρ1 = .nx ρ ∨ f ρ1 = .ct ρ)) : loopF tg f ds ρ = .nx ρ := by
  have := loop_same (e := id) h
  rwa [List.map_id] at this
theorem lt_D {a b : D} : ltB (.dat a) (.dat b) = (ltD a b).bind fun k => .ok (.dat (.bl k)) := rfl
def okT (r : Res Bool) : Bool := match r with
  | .ok b => b
  | _ => false
/-- the things rise -/
def risB (ds : List D) : Bool := (List.range (ds.length - 1)).all fun k => okT (ltD (pick ds (k : Int)) (pick ds ((k : Int) + 1)))
/-! ### a name, of any kind -/
abbrev aToZ : Str := "abcdefghijklmnopqrstuvwxyz"
def nmB (x : Str) : Bool := decide (1 ≤ x.length) && (decide (x.length ≤ 8) && x.cps.toList.all fun c => strIn ⟨#[c]⟩ aToZ)
def isNmD : D → Bool
  | .str x => nmB x
  | _ => false
theorem isNmD_str {d : D} (h : isNmD d = true) : ∃ x, d = .str x ∧ nmB x = true := by
  cases d <;> first | exact ⟨_, rfl, h⟩ | cases h
theorem isS_str {d : D} (h : d.isS = true) : ∃ x, d = .str x := by
  cases d <;> first | exact ⟨_, rfl⟩ | cases h
theorem isT_tup {n : Nat} {d : D} (f : fit n d = true) (h : d.isT = true) : ∃ ds, d = .tup ds := by
  cases d <;> first | exact ⟨_, rfl⟩ | (exfalso; simp [D.isT] at h; done) | (exfalso; cases n <;> simp [fit] at f)
theorem in_tt {x y : Str} : inB false (.dat (.str x)) (.dat (.str y)) = .ok (.dat (.bl (strIn x y))) := by
  show Res.ok (B.dat (D.bl (strIn x y != false))) = _
  rw [Bool.bne_false]
theorem in_ns {x : Str} {xs : List Str} (hx : PyData.strOk x = true) (h : Lays xs) : inB false (.dat (.str x)) (.dat (.tup (xs.map .str))) = .ok (.dat (.bl (decide (x ∈ xs)))) := in_strs hx h
theorem nin_ns {x : Str} {xs : List Str} (hx : PyData.strOk x = true) (h : Lays xs) : inB true (.dat (.str x)) (.dat (.tup (xs.map .str))) = .ok (.dat (.bl (!decide (x ∈ xs)))) := by
  have := in_strs hx h
  show ((inSeq (.str x) (txs xs) true).bind fun k => (.ok (.dat (.bl (k != true))) : Res B)) = _
  have h2 : ((inSeq (.str x) (txs xs) true).bind fun k => (.ok (.dat (.bl (k != false))) : Res B)) = .ok (.dat (.bl (decide (x ∈ xs)))) := this
  cases e : inSeq (.str x) (txs xs) true with
  | ok b =>
    rw [e] at h2
    have : (b != false) = decide (x ∈ xs) := by
      have h3 : Res.ok (B.dat (D.bl (b != false))) = Res.ok (B.dat (D.bl (decide (x ∈ xs)))) := h2
      simpa using h3
    show Res.ok (B.dat (D.bl (b != true))) = _
    rw [← this]
    cases b <;> rfl
  | exc c => rw [e] at h2; cases h2
  | bad => rw [e] at h2; cases h2
theorem lt_ss {x y : Str} : ltB (.dat (.str x)) (.dat (.str y)) = .ok (.dat (.bl (decide (x.cps.toList < y.cps.toList)))) := rfl
/-! ### graphs of any kind -/
def prB (ns : List Str) : D → Bool
  | .tup [.str a, .str b] => decide (a ∈ ns) && (decide (b ∈ ns) && decide (a.cps.toList < b.cps.toList))
  | _ => false
def grB : D → Bool
  | .tup [.tup ns, .tup ps] => (decide (1 ≤ ns.length) && (decide (ns.length ≤ 7) && decide (ps.length ≤ 12))) && (ns.all isNmD && (risB ns && (ps.all (prB (ns.map unS)) && risB ps)))
  | _ => false
theorem prB_pair {ns : List Str} {d : D} (h : prB ns d = true) : ∃ a b, d = .tup [.str a, .str b] ∧ a ∈ ns ∧ b ∈ ns := by
  unfold prB at h
  split at h
  · rw [Bool.and_eq_true, Bool.and_eq_true, decide_eq_true_eq, decide_eq_true_eq] at h
    exact ⟨_, _, rfl, h.1, h.2.1⟩
  · cases h
theorem lt_all {ds : List D} (h : ∀ d ∈ ds, ∀ e ∈ ds, ∃ b, ltD d e = .ok b) (k : Nat) (hk : k < ds.length - 1) : ∃ b, ltD (pick ds (k : Int)) (pick ds ((k : Int) + 1)) = .ok b :=
  h _ (pick_mem (by omega) (by omega)) _ (pick_mem (by omega) (by omega))
theorem lt_nms {ds : List D} (h : ds.all isNmD = true) : ∀ d ∈ ds, ∀ e ∈ ds, ∃ b, ltD d e = .ok b := by
  rw [List.all_eq_true] at h
  intro d hd e he
  obtain ⟨x, rfl, _⟩ := isNmD_str (h d hd)
  obtain ⟨y, rfl, _⟩ := isNmD_str (h e he)
  exact ⟨_, rfl⟩
theorem lt_prs {ns : List Str} {ds : List D} (hn : Lays ns) (h : ds.all (prB ns) = true) : ∀ d ∈ ds, ∀ e ∈ ds, ∃ b, ltD d e = .ok b := by
  rw [List.all_eq_true] at h
  intro d hd e he
  obtain ⟨a, b, rfl, ha, hb⟩ := prB_pair (h d hd)
  obtain ⟨a', b', rfl, ha', hb'⟩ := prB_pair (h e he)
  have s : ∀ a b : Str, a ∈ ns → b ∈ ns → SeqAt.shaped (toPy (.tup [.str a, .str b])) = true := fun a b ha hb => (shaped_strs (xs := [a, b]) (fun x hx => by
    simp only [List.mem_cons, List.not_mem_nil, or_false] at hx
    rcases hx with rfl | rfl
    · exact hn _ ha
    · exact hn _ hb)).1
  refine ⟨PySem.W.dataLt (toPy (.tup [.str a, .str b])) (toPy (.tup [.str a', .str b'])), ?_⟩
  show ltPy (toPy (.tup [.str a, .str b])) (toPy (.tup [.str a', .str b'])) = _
  unfold ltPy
  rw [s a b ha hb, s a' b' ha' hb', if_pos (by
    have := alike_txs [a, b] [a', b']
    simpa [toPy, toPys, PySem.W.alike, notNone] using this)]
theorem fit_lays {n : Nat} {ns : List D} (f : ∀ d ∈ ns, fit n d = true) (h : ns.all isNmD = true) : ∃ xs : List Str, ns = txs xs ∧ Lays xs := by
  rw [List.all_eq_true] at h
  obtain ⟨xs, rfl⟩ := txs_of fun d hd => let ⟨x, e, _⟩ := isNmD_str (h d hd); ⟨x, e⟩
  exact ⟨xs, rfl, fun x hx => (fit_str (f (.str x) (List.mem_map.mpr ⟨x, hx, rfl⟩))).1⟩
/-! ### masks -/
theorem and_1 (m k : Nat) : Builtin.bitAnd ((m / 2 ^ k : Nat) : Int) 1 = ((m / 2 ^ k % 2 : Nat) : Int) := by
  have := PySem.W.os_band (m / 2 ^ k) 1
  rw [Nat.and_one_is_mod] at this
  exact this
theorem shr_n {m k : Nat} : shrB (.dat (.int (m : Int))) (.dat (.int (k : Int))) = .ok (.dat (.int ((m / 2 ^ k : Nat) : Int))) := by
  rw [shr_ok (by omega), Int.toNat_natCast]
  congr 3
theorem shl_n {k : Nat} (h : k ≤ 1000) : shlZ (.dat (.int 1)) (.dat (.int (k : Int))) = .ok (.dat (.int ((2 ^ k : Nat) : Int))) := by
  rw [shl_z (by omega) (by omega) (by decide), Int.toNat_natCast]
  congr 3
  push_cast
  omega
/-- the things of a mask -/
def maskOf {α : Type} (xs : List α) (m : Nat) : List α := (List.range xs.length).filterMap fun k => if m / 2 ^ k % 2 = 1 then xs[k]? else none
end Fn
namespace Fn
open PySem PySem.Spec PyProof.Rows L2
/-! ### data that can be compared -/
structure Shp (d : D) (n : Nat) : Prop where
  lay : PyData.canLay0 (toPy d) = true
  dep : PyData.depth (toPy d) ≤ n
theorem Shp.shaped {d : D} {n : Nat} (h : Shp d n) (hn : n ≤ 64) : SeqAt.shaped (toPy d) = true := by
  show (PyData.canLay0 (toPy d) && decide (PyData.depth (toPy d) ≤ 64)) = true
  rw [h.lay, decide_eq_true (Nat.le_trans h.dep hn)]
  rfl
theorem Shp.up {d : D} {n m : Nat} (h : Shp d n) (hn : n ≤ m) : Shp d m := ⟨h.lay, Nat.le_trans h.dep hn⟩
theorem shp_int (i : Int) : Shp (.int i) 0 := ⟨rfl, Nat.le_refl _⟩
theorem shp_bl (b : Bool) : Shp (.bl b) 0 := ⟨rfl, Nat.le_refl _⟩
theorem shp_non : Shp .non 0 := ⟨rfl, Nat.le_refl _⟩
theorem shp_str {x : Str} (h : PyData.strOk x = true) : Shp (.str x) 0 := ⟨by show PyData.canLay0 (.str x) = true; simp only [PyData.canLay0, h], by show PyData.depth (.str x) ≤ 0; simp [PyData.depth]⟩
theorem shp_all {n : Nat} : ∀ {ds : List D}, (∀ d ∈ ds, Shp d n) → PyData.canLayAll0 (toPys ds) = true ∧ PyData.depthAll (toPys ds) ≤ n
  | [], _ => ⟨rfl, Nat.zero_le _⟩
  | d :: ds, h => by
    obtain ⟨h1, h2⟩ := shp_all (ds := ds) fun e he => h e (List.mem_cons_of_mem _ he)
    obtain ⟨h3, h4⟩ := h d List.mem_cons_self
    constructor
    · show (PyData.canLay0 (toPy d) && PyData.canLayAll0 (toPys ds)) = true
      rw [h1, h3]; rfl
    · show max (PyData.depth (toPy d)) (PyData.depthAll (toPys ds)) ≤ n
      omega
theorem shp_tup {n : Nat} {ds : List D} (h : ∀ d ∈ ds, Shp d n) : Shp (.tup ds) (n + 1) := by
  obtain ⟨h1, h2⟩ := shp_all h
  constructor
  · show PyData.canLay0 (.tuple (toPys ds)) = true
    simp only [PyData.canLay0, h1]
  · show PyData.depth (.tuple (toPys ds)) ≤ _
    simp only [PyData.depth]
    omega
theorem shp_lst {n : Nat} {ds : List D} (h : ∀ d ∈ ds, Shp d n) : Shp (.lst ds) (n + 1) := by
  obtain ⟨h1, h2⟩ := shp_all h
  constructor
  · show PyData.canLay0 (.list (toPys ds)) = true
    simp only [PyData.canLay0, h1]
  · show PyData.depth (.list (toPys ds)) ≤ _
    simp only [PyData.depth]
    omega
theorem eq_shp {a b : D} {n m : Nat} (ha : Shp a n) (hb : Shp b m) (hn : n ≤ 64) (hm : m ≤ 64) : eqB (.dat a) (.dat b) = .ok (.dat (.bl (PyData.eqv (toPy a) (toPy b)))) := by
  unfold eqB eqD
  rw [if_pos (by rw [show datOf (.dat a) = a from rfl, show datOf (.dat b) = b from rfl, ha.shaped hn, hb.shaped hm]; rfl)]
  rfl
theorem ne_shp {a b : D} {n m : Nat} (ha : Shp a n) (hb : Shp b m) (hn : n ≤ 64) (hm : m ≤ 64) : neB (.dat a) (.dat b) = .ok (.dat (.bl (!PyData.eqv (toPy a) (toPy b)))) := by
  unfold neB eqD
  rw [if_pos (by rw [show datOf (.dat a) = a from rfl, show datOf (.dat b) = b from rfl, ha.shaped hn, hb.shaped hm]; rfl)]
  rfl
theorem ne_nil {ds : List D} {n : Nat} (h : ∀ d ∈ ds, Shp d n) (hn : n ≤ 60) : neB (.dat (.tup ds)) (.dat (.tup [])) = .ok (.dat (.bl (!ds.isEmpty))) := by
  rw [ne_shp (shp_tup h) (shp_tup (n := 0) (ds := []) fun _ z => nomatch z) (by omega) (by omega)]
  cases ds <;> simp [toPy, toPys, PyData.eqv, PyData.eqvAll]
/-! ### texts -/
theorem strOk_iff {x : Str} : PyData.strOk x = true ↔ ∀ c ∈ x.cps.toList, c < 0x110000 := by
  show x.cps.all (fun c => decide (c < 0x110000)) = true ↔ _
  rw [← Array.all_toList, List.all_eq_true]
  exact ⟨fun h c hc => of_decide_eq_true (h c hc), fun h c hc => decide_eq_true (h c hc)⟩
theorem str_len {x : Str} : x.length = x.cps.toList.length := Array.length_toList.symm
theorem cutS_ok {x : Str} (h : PyData.strOk x = true) (lo hi : Option Int) : PyData.strOk (cutS x lo hi) = true ∧ (cutS x lo hi).length ≤ x.length := by
  constructor
  · rw [strOk_iff] at h ⊢
    intro c hc
    have : c ∈ (x.cps.toList.drop (HT.sIx x.length 0 lo)).take (HT.sIx x.length x.length hi - HT.sIx x.length 0 lo) := by simpa [cutS] using hc
    exact h c (List.mem_of_mem_drop (List.mem_of_mem_take this))
  · show ((x.cps.toList.drop (HT.sIx x.length 0 lo)).take (HT.sIx x.length x.length hi - HT.sIx x.length 0 lo)).toArray.size ≤ _
    rw [List.size_toArray, List.length_take, List.length_drop, str_len]
    omega
theorem app_cps (x y : Str) : (x ++ y).cps.toList = x.cps.toList ++ y.cps.toList := by
  show (x.cps ++ y.cps).toList = _
  rw [Array.toList_append]
theorem app_len (x y : Str) : (x ++ y).length = x.length + y.length := by
  rw [str_len, app_cps, List.length_append, ← str_len, ← str_len]
theorem app_ok2 {x y : Str} (hx : PyData.strOk x = true) (hy : PyData.strOk y = true) : PyData.strOk (x ++ y) = true := by
  rw [strOk_iff] at *
  intro c hc
  rw [app_cps] at hc
  rcases List.mem_append.mp hc with h | h
  · exact hx c h
  · exact hy c h
theorem idx_chr {x : Str} {k : Int} (hx : PyData.strOk x = true) (hl : x.length ≤ 1000) (h0 : 0 ≤ k) (h1 : k < (x.length : Int)) : ∃ y : Str, idxB (.dat (.str x)) (.dat (.int k)) = .ok (.dat (.str y)) ∧ PyData.strOk y = true ∧ y.length = 1 := by
  rw [str_len] at h1
  refine ⟨_, idx_str (atI_lt h0 h1) hl, ?_, rfl⟩
  rw [strOk_iff] at *
  intro c hc
  have : c = x.cps.toList[k.toNat]'(by omega) := by simpa using hc
  rw [this]
  exact hx _ (List.getElem_mem _)
theorem fit_s {n : Nat} {x : Str} (hx : PyData.strOk x = true) (hl : x.length ≤ 1000) : fit n (.str x) = true := by
  have : (PyData.strOk x && decide (x.length ≤ 1000)) = true := by rw [hx, decide_eq_true hl]; rfl
  cases n <;> exact this
theorem fit_t {n : Nat} {ds : List D} (hl : ds.length ≤ 1000) (h : ∀ d ∈ ds, fit n d = true) : fit (n + 1) (.tup ds) = true := by
  show (decide (ds.length ≤ 1000) && ds.all (fit n)) = true
  rw [decide_eq_true hl, List.all_eq_true.mpr h]; rfl
theorem fit_l {n : Nat} {ds : List D} (hl : ds.length ≤ 1000) (h : ∀ d ∈ ds, fit n d = true) : fit (n + 1) (.lst ds) = true := by
  show (decide (ds.length ≤ 1000) && ds.all (fit n)) = true
  rw [decide_eq_true hl, List.all_eq_true.mpr h]; rfl
theorem all_nil_ {p : D → Prop} : ∀ d ∈ ([] : List D), p d := fun _ h => nomatch h
theorem all_cons_ {p : D → Prop} {a : D} {ds : List D} (h : p a) (t : ∀ d ∈ ds, p d) : ∀ d ∈ a :: ds, p d := fun d hd => by
  rcases List.mem_cons.mp hd with rfl | hd
  · exact h
  · exact t d hd
theorem all_app_ {p : D → Prop} {ds es : List D} (h : ∀ d ∈ ds, p d) (t : ∀ d ∈ es, p d) : ∀ d ∈ ds ++ es, p d := fun d hd => by
  rcases List.mem_append.mp hd with hd | hd
  · exact h d hd
  · exact t d hd
theorem all_take_ {p : D → Prop} {ds : List D} (h : ∀ d ∈ ds, p d) (n : Nat) : ∀ d ∈ ds.take n, p d := fun d hd => h d (List.mem_of_mem_take hd)
theorem all_drop_ {p : D → Prop} {ds : List D} (h : ∀ d ∈ ds, p d) (n : Nat) : ∀ d ∈ ds.drop n, p d := fun d hd => h d (List.mem_of_mem_drop hd)
theorem all_rev_ {p : D → Prop} {ds : List D} (h : ∀ d ∈ ds, p d) : ∀ d ∈ ds.reverse, p d := fun d hd => h d (List.mem_reverse.mp hd)
theorem all_map_ {p : D → Prop} {α : Type} {as : List α} {f : α → D} (h : ∀ a ∈ as, p (f a)) : ∀ d ∈ as.map f, p d := fun d hd => by
  obtain ⟨a, ha, rfl⟩ := List.mem_map.mp hd
  exact h a ha
end Fn
namespace Fn
open PySem PySem.Spec PyProof.Rows L2
/-! ### webs as the laws draw them -/
structure Plc where
  n : Str
  a : Int
  b : Int
  c : Int
  d : Int
abbrev plD (p : Plc) : D := .tup [.str p.n, .int p.a, .int p.b, .int p.c, .int p.d]
structure PlOk (top : Int) (p : Plc) : Prop where
  a0 : 0 ≤ p.a
  a1 : p.a ≤ 99
  b0 : 0 ≤ p.b
  b1 : p.b ≤ 99
  c0 : p.d * top ≤ p.c
  c1 : p.c ≤ 999
  d0 : 0 ≤ p.d
  d1 : p.d ≤ 99
abbrev Tie := (Str × Str) × Int
abbrev tKv (t : Tie) : List Key × D := (pK t.1, .int t.2)
abbrev tiD (t : Tie) : D := .tup [.str t.1.1, .str t.1.2, .int t.2]
abbrev webD (top : Int) (ps : List Plc) (ts : List Tie) : D := .tup [.int top, .tup (ps.map plD), .tup (ts.map tiD)]
theorem pK_inj {p q : Str × Str} : pK p = pK q ↔ p = q := by
  constructor
  · intro h
    simp only [pK, List.cons.injEq, Sum.inr.injEq, and_true] at h
    exact Prod.ext h.1 h.2
  · rintro rfl; rfl
structure Tgood (ns : List Str) (t : Tie) : Prop where
  l : t.1.1 ∈ ns
  r : t.1.2 ∈ ns
  ne : t.1.1 ≠ t.1.2
  lo : 1 ≤ t.2
  hi : t.2 ≤ 999
structure WebOk (top : Int) (ps : List Plc) (ts : List Tie) : Prop where
  t1 : 1 ≤ top
  t9 : top ≤ 9
  nm : Nms (ps.map Plc.n) ps.length
  pos : 0 < ps.length
  le : ps.length ≤ 8
  pl : ∀ p ∈ ps, PlOk top p
  ti : ∀ t ∈ ts, Tgood (ps.map Plc.n) t
  few : ts.length ≤ 16
  tnd : (ts.map (·.1)).Nodup
  tsr : ((ts.map (·.1)).map pD).Pairwise fun a b => leD a b = true
theorem putT (ns : List Str) (L : List Tie) (p : Str × Str) (v : Int) (hL : ∀ t ∈ L, Tgood ns t) (hn : (L.map (·.1)).Nodup) (hp : Tgood ns (p, v)) : ∃ L' : List Tie, (∀ t ∈ L', Tgood ns t) ∧ (L'.map (·.1)).Nodup ∧ L'.length ≤ L.length + 1 ∧ putD (L.map tKv) (pK p) (.int v) = L'.map tKv := by
  unfold putD
  split
  · refine ⟨L.map fun t => if t.1 = p then (p, v) else t, ?_, ?_, by rw [List.length_map]; omega, ?_⟩
    · intro t ht
      obtain ⟨u, hu, rfl⟩ := List.mem_map.mp ht
      split
      · exact hp
      · exact hL u hu
    · rw [List.map_map]
      have e : ((fun t : Tie => t.1) ∘ fun t : Tie => if t.1 = p then (p, v) else t) = fun t : Tie => t.1 := by
        funext t
        show (if t.1 = p then (p, v) else t).1 = t.1
        split
        · rename_i h; exact h.symm
        · rfl
      rw [e]
      exact hn
    · rw [List.map_map, List.map_map]
      refine List.map_congr_left fun t _ => ?_
      show (if pK t.1 = pK p then (pK t.1, D.int v) else tKv t) = tKv (if t.1 = p then (p, v) else t)
      by_cases e : t.1 = p
      · rw [if_pos (pK_inj.mpr e), if_pos e, e]
      · rw [if_neg (fun z => e (pK_inj.mp z)), if_neg e]
  · rename_i ha
    refine ⟨L ++ [(p, v)], ?_, ?_, by rw [List.length_append]; exact Nat.le_refl _, by rw [List.map_append]; rfl⟩
    · intro t ht
      rcases List.mem_append.mp ht with h | h
      · exact hL t h
      · rw [List.mem_singleton.mp h]; exact hp
    · rw [List.map_append, List.nodup_append]
      refine ⟨hn, by simp, fun a ha' b hb => ?_⟩
      rw [List.map_cons, List.map_nil, List.mem_singleton] at hb
      subst hb
      rintro rfl
      obtain ⟨t, ht, e⟩ := List.mem_map.mp ha'
      refine ha (List.any_eq_true.mpr ⟨tKv t, List.mem_map.mpr ⟨t, ht, rfl⟩, decide_eq_true ?_⟩)
      exact pK_inj.mpr e
theorem getT (L : List Tie) {p : Str × Str} (h : p ∈ L.map (·.1)) : ∃ v, (p, v) ∈ L ∧ getK (L.map tKv) (pK p) = some (.int v) := by
  induction L with
  | nil => cases h
  | cons t L ih =>
    by_cases e : t.1 = p
    · subst e
      refine ⟨t.2, List.mem_cons_self, ?_⟩
      simp [getK, List.find?_cons]
    · have hp : p ∈ L.map (·.1) := by
        rw [List.map_cons] at h
        rcases List.mem_cons.mp h with z | z
        · exact absurd z.symm e
        · exact z
      obtain ⟨v, h1, h2⟩ := ih hp
      refine ⟨v, List.mem_cons_of_mem _ h1, ?_⟩
      have ne : ¬ pK t.1 = pK p := fun z => e (pK_inj.mp z)
      unfold getK at h2 ⊢
      rw [List.map_cons, List.find?_cons, decide_eq_false ne]
      exact h2
theorem sortT {ns : List Str} {n : Nat} (h : Nms ns n) (L : List Tie) (hL : ∀ t ∈ L, Tgood ns t) : ∃ qs : List (Str × Str), qs.Perm (L.map (·.1)) ∧ (qs.map pD).Pairwise (fun a b => leD a b = true) ∧ sortG [.dat (.dt (L.map tKv))] = .ok (.own (.l (qs.map pD))) := by
  have e0 : ((L.map tKv).map fun kv => kD kv.1) = (L.map (·.1)).map pD := by
    rw [List.map_map, List.map_map]
    rfl
  have so : sortOk ((L.map (·.1)).map pD) = true := by
    unfold sortOk
    rw [toPys_map]
    simp only [Bool.and_eq_true, Bool.or_eq_true, List.all_eq_true, List.mem_map]
    refine ⟨?_, ?_, .inl ?_⟩
    · rintro _ ⟨_, ⟨p, ⟨t, ht, rfl⟩, rfl⟩, rfl⟩
      exact (shaped_strs (xs := [t.1.1, t.1.2]) (fun x hx => by
        simp only [List.mem_cons, List.not_mem_nil, or_false] at hx
        rcases hx with rfl | rfl
        · exact h.lay _ (hL t ht).l
        · exact h.lay _ (hL t ht).r)).1
    · rintro _ ⟨_, ⟨p, _, rfl⟩, rfl⟩ _ ⟨_, ⟨q, _, rfl⟩, rfl⟩
      have := alike_txs [p.1, p.2] [q.1, q.2]
      simpa [pD, toPy, PySem.W.alike] using this
    · rintro _ ⟨_, ⟨p, _, rfl⟩, rfl⟩
      rfl
  generalize L.map (·.1) = ks at *
  have pm := List.mergeSort_perm (ks.map pD) leD
  let un : D → Str × Str := fun d => match d with
    | .tup [.str a, .str b] => (a, b)
    | _ => (Str.empty, Str.empty)
  have unD : ∀ p : Str × Str, un (pD p) = p := fun p => rfl
  have e1 : ((ks.map pD).mergeSort leD).map (pD ∘ un) = (ks.map pD).mergeSort leD := by
    have : ∀ d ∈ (ks.map pD).mergeSort leD, (pD ∘ un) d = d := fun d hd => by
      obtain ⟨p, _, rfl⟩ := List.mem_map.mp (List.mem_mergeSort.mp hd)
      rfl
    rw [List.map_congr_left this, List.map_id']
  refine ⟨((ks.map pD).mergeSort leD).map un, ?_, ?_, ?_⟩
  · have := pm.map un
    rw [List.map_map, show (un ∘ pD) = id from funext unD, List.map_id] at this
    exact this
  · rw [List.map_map, e1]
    exact sortD_pair _
  · rw [sort_dt]
    show (if sortOk ((L.map tKv).map fun kv => kD kv.1) = true then (.ok (.own (.l (((L.map tKv).map fun kv => kD kv.1).mergeSort leD))) : Res B) else .bad) = _
    rw [e0, if_pos so, List.map_map, e1]
theorem sto_tie {L : List Tie} {s t : Str} {v : Int} {L' : List Tie} (hl : L.length < 900) (h : putD (L.map tKv) (pK (s, t)) (.int v) = L'.map tKv) : storeM (.t (L.map tKv)) (.dat (.tup [.str s, .str t])) (.int v) = some (.t (L'.map tKv)) := by
  show (if (L.map tKv).length < sizeLine then some (M.t (putD (L.map tKv) (pK (s, t)) (.int v))) else none) = _
  rw [if_pos (small1000 (by rw [List.length_map]; omega)), h]
theorem four {a b c d w : Int} (h0 : 0 ≤ w) (h1 : w ≤ 3) : idxB (.dat (.lst [.int a, .int b, .int c, .int d])) (.dat (.int w)) = .ok (.dat (.int (if w = 0 then a else if w = 1 then b else if w = 2 then c else d))) := by
  obtain rfl | rfl | rfl | rfl : w = 0 ∨ w = 1 ∨ w = 2 ∨ w = 3 := by omega
  · exact idx_lst rfl
  · exact idx_lst rfl
  · exact idx_lst rfl
  · exact idx_lst rfl
/-- the dict of ties, asked -/
theorem get_tie {L : List Tie} {p : Str × Str} {v : Int} (h : getK (L.map tKv) (pK p) = some (.int v)) : idxB (.dat (.dt (L.map tKv))) (.dat (pD p)) = .ok (.dat (.int v)) := by
  show (match dgetB (.dat (.dt (L.map tKv))) (.dat (pD p)) with | some (some d) => (.ok (.dat d) : Res B) | some none => .bad | none => _) = _
  rw [show dgetB (.dat (.dt (L.map tKv))) (.dat (pD p)) = some (getK (L.map tKv) (pK p)) from rfl, h]
theorem nms_get {ns : List Str} {w : Int} (h0 : 0 ≤ w) (h1 : w < (ns.length : Int)) : ns.getD w.toNat Str.empty ∈ ns := by
  rw [List.getD_eq_getElem?_getD, List.getElem?_eq_getElem (by omega : w.toNat < ns.length)]; exact List.getElem_mem _
theorem nms_ne {ns : List Str} (hn : ns.Nodup) {w v : Int} (h0 : 0 ≤ w) (h1 : w < (ns.length : Int)) (h2 : 0 ≤ v) (h3 : v < (ns.length : Int)) (h : w ≠ v) : ns.getD w.toNat Str.empty ≠ ns.getD v.toNat Str.empty := by
  rw [List.getD_eq_getElem?_getD, List.getElem?_eq_getElem (by omega : w.toNat < ns.length), List.getD_eq_getElem?_getD, List.getElem?_eq_getElem (by omega : v.toNat < ns.length)]
  intro e
  have := (List.getElem_inj hn).mp (show ns[w.toNat]'(by omega) = ns[v.toNat]'(by omega) from e)
  omega
end Fn
namespace Fn
open PySem PySem.Spec PyProof.Rows L2
/-! ### the order of texts -/
theorem leD_str2 {x y : Str} : leD (.str x) (.str y) = decide (x.cps.toList ≤ y.cps.toList) := by
  have := congrFun (congrFun (PySem.W.dataLe_str (fun z : Str => z)) x) y
  exact this
theorem str_eq {x y : Str} (h : x.cps.toList = y.cps.toList) : x = y := by
  cases x; cases y
  congr 1
  exact Array.toList_inj.mp h
abbrev Strict (ns : List Str) : Prop := ns.Pairwise fun a b => a.cps.toList < b.cps.toList
theorem strict_of {ns : List Str} (hn : ns.Nodup) (hs : (txs ns).Pairwise fun a b => leD a b = true) : Strict ns := by
  have h2 : ns.Pairwise fun a b => leD (.str a) (.str b) = true := List.pairwise_map.mp hs
  refine (List.pairwise_and_iff.mpr ⟨hn, h2⟩).imp fun {a b} h => ?_
  rw [leD_str2, decide_eq_true_eq] at h
  exact Std.lt_of_le_of_ne h.2 fun e => h.1 (str_eq e)
theorem Nms.strict {ns : List Str} {n : Nat} (h : Nms ns n) : Strict ns := strict_of h.nd h.srt
/-! ### rising texts -/
def risL : List Str → Bool
  | x :: y :: r => decide (x.cps.toList < y.cps.toList) && risL (y :: r)
  | _ => true
theorem pick_succ {d : D} {ds : List D} {k : Nat} : pick (d :: ds) ((k : Int) + 1) = pick ds (k : Int) := by
  unfold pick
  rw [show ((k : Int) + 1).toNat = k + 1 by omega, Int.toNat_natCast]
  rfl
theorem risB_cons {d e : D} {ds : List D} : risB (d :: e :: ds) = (okT (ltD d e) && risB (e :: ds)) := by
  unfold risB
  rw [show (d :: e :: ds).length - 1 = ((e :: ds).length - 1) + 1 by simp, List.range_succ_eq_map, List.all_cons, List.all_map]
  have e0 : pick (d :: e :: ds) ((0 : Nat) : Int) = d := rfl
  have e1 : pick (d :: e :: ds) (((0 : Nat) : Int) + 1) = e := rfl
  rw [e0, e1]
  congr 1
theorem risB_txs : ∀ {xs : List Str}, risB (txs xs) = risL xs
  | [] => rfl
  | [x] => rfl
  | x :: y :: r => by
    show risB (.str x :: .str y :: txs r) = _
    rw [risB_cons, risL]
    have := risB_txs (xs := y :: r)
    rw [← this]
    rfl
/-! ### places of names -/
def posN (ns : List Str) (x : Str) : Nat := (ixOf (txs ns) (.str x)).getD 0
theorem ix_txs {ns : List Str} {x : Str} (h : x ∈ ns) : ∃ hl : posN ns x < ns.length, ns[posN ns x] = x ∧ ixOf (txs ns) (.str x) = some (posN ns x) := by
  have ev : ∀ y : Str, PyData.eqv (toPy (.str y)) (toPy (.str x)) = decide (y = x) := fun y => by
    show PyData.eqv (.str y) (.str x) = _
    simp [PyData.eqv, Bool.beq_eq_decide_eq]
  cases e : ixOf (txs ns) (.str x) with
  | none =>
    have := List.findIdx?_eq_none_iff.mp e (.str x) (List.mem_map.mpr ⟨x, h, rfl⟩)
    rw [ev] at this
    simp at this
  | some i =>
    have hp : posN ns x = i := by unfold posN; rw [e]; rfl
    obtain ⟨hl, h1, h2⟩ := List.findIdx?_eq_some_iff_getElem.mp e
    rw [List.length_map] at hl
    rw [hp]
    refine ⟨hl, ?_, rfl⟩
    rw [List.getElem_map, ev, decide_eq_true_eq] at h1
    exact h1
theorem strict_lt {ns : List Str} (hs : Strict ns) {i j : Nat} (hi : i < ns.length) (hj : j < ns.length) : ns[i].cps.toList < ns[j].cps.toList ↔ i < j := by
  have go : ∀ {i j : Nat} (hi : i < ns.length) (hj : j < ns.length), i < j → ns[i].cps.toList < ns[j].cps.toList := fun hi hj h => List.pairwise_iff_getElem.mp hs _ _ hi hj h
  constructor
  · intro h
    by_cases hij : i < j
    · exact hij
    · by_cases e : i = j
      · subst e; exact absurd h (List.lt_irrefl _)
      · exact absurd h (List.lt_asymm (go hj hi (by omega)))
  · exact go hi hj
theorem pos_lt {ns : List Str} (hs : Strict ns) {x y : Str} (hx : x ∈ ns) (hy : y ∈ ns) : posN ns x < posN ns y ↔ x.cps.toList < y.cps.toList := by
  obtain ⟨h1, h2, _⟩ := ix_txs hx
  obtain ⟨h3, h4, _⟩ := ix_txs hy
  rw [← strict_lt hs h1 h3, h2, h4]
/-- a rising row of names, by their places -/
def chkL (ns : List Str) : Int → List Str → Bool
  | _, [] => true
  | a, x :: r => decide (x ∈ ns) && (decide (a < (posN ns x : Int)) && chkL ns (posN ns x) r)
theorem chkL_eq {ns : List Str} (hs : Strict ns) : ∀ {a : Int} {xs : List Str}, chkL ns a xs = (xs.all (fun x => decide (x ∈ ns)) && ((match xs with | [] => true | x :: _ => decide (a < (posN ns x : Int))) && risL xs))
  | a, [] => rfl
  | a, x :: r => by
    rw [chkL, chkL_eq hs, List.all_cons]
    cases h1 : decide (x ∈ ns) with
    | false => rfl
    | true =>
      rw [decide_eq_true_eq] at h1
      cases r with
      | nil => simp [risL]
      | cons y r =>
        cases h2 : (y :: r).all fun x => decide (x ∈ ns) with
        | false => simp
        | true =>
          have hy : y ∈ ns := by
            rw [List.all_cons, Bool.and_eq_true, decide_eq_true_eq] at h2
            exact h2.1
          rw [risL]
          have : decide ((posN ns x : Int) < (posN ns y : Int)) = decide (x.cps.toList < y.cps.toList) := decide_eq_decide.mpr (by rw [← pos_lt hs h1 hy]; omega)
          simp only [this, Bool.true_and]
/-! ### all cuts -/
def bitsOf (ns : List Str) (m : Nat) : List Str := ((List.range ns.length).filter fun k => decide (m / 2 ^ k % 2 = 1)).map fun k => ns.getD k Str.empty
theorem bits_mem {ns : List Str} {m : Nat} : ∀ x ∈ bitsOf ns m, x ∈ ns := fun x hx => by
  obtain ⟨k, hk, rfl⟩ := List.mem_map.mp hx
  have := List.mem_range.mp (List.mem_filter.mp hk).1
  rw [List.getD_eq_getElem?_getD, List.getElem?_eq_getElem this]
  exact List.getElem_mem _
theorem bits_app (ns : List Str) (y : Str) (m : Nat) : bitsOf (ns ++ [y]) m = bitsOf ns m ++ (if m / 2 ^ ns.length % 2 = 1 then [y] else []) := by
  unfold bitsOf
  rw [List.length_append, show ns.length + [y].length = ns.length + 1 from rfl, List.range_succ, List.filter_append, List.map_append]
  congr 1
  · refine List.map_congr_left fun k hk => ?_
    have := List.mem_range.mp (List.mem_filter.mp hk).1
    rw [List.getD_eq_getElem?_getD, List.getD_eq_getElem?_getD, List.getElem?_append_left this]
  · rw [List.filter_cons]
    by_cases h : m / 2 ^ ns.length % 2 = 1
    · rw [if_pos (decide_eq_true h), if_pos h, List.filter_nil, List.map_cons, List.getD_eq_getElem?_getD, List.getElem?_append_right (Nat.le_refl _), Nat.sub_self]
      rfl
    · rw [if_neg (by rw [decide_eq_false h]; decide), if_neg h]
      rfl
theorem bits_high (ns : List Str) (j : Nat) : bitsOf ns (2 ^ ns.length + j) = bitsOf ns j := by
  unfold bitsOf
  congr 1
  apply List.filter_congr
  intro k hk
  have hk := List.mem_range.mp hk
  apply decide_eq_decide.mpr
  have : (2 ^ ns.length + j) / 2 ^ k = 2 * 2 ^ (ns.length - k - 1) + j / 2 ^ k := by
    rw [show 2 ^ ns.length = 2 ^ k * (2 * 2 ^ (ns.length - k - 1)) by rw [← Nat.pow_succ', ← Nat.pow_add]; congr 1; omega, Nat.mul_add_div (Nat.pow_pos (by decide))]
  rw [this]
  omega
def cutsL (ns : List Str) : List D := (List.range (2 ^ ns.length)).map fun m => .tup (txs (bitsOf ns m))
theorem cutsL_app (ns : List Str) (y : Str) : cutsL (ns ++ [y]) = cutsL ns ++ (List.range (2 ^ ns.length)).map fun m => .tup (txs (bitsOf ns m) ++ [.str y]) := by
  unfold cutsL
  rw [List.length_append, show ns.length + [y].length = ns.length + 1 from rfl, Nat.pow_succ, Nat.mul_two, List.range_add, List.map_append]
  congr 1
  · refine List.map_congr_left fun m hm => ?_
    have hm := List.mem_range.mp hm
    rw [bits_app, Nat.div_eq_of_lt hm]
    simp
  · rw [List.map_map]
    refine List.map_congr_left fun m hm => ?_
    have hm := List.mem_range.mp hm
    show D.tup (txs (bitsOf (ns ++ [y]) (2 ^ ns.length + m))) = _
    rw [bits_app, bits_high]
    have : (2 ^ ns.length + m) / 2 ^ ns.length % 2 = 1 := by
      rw [Nat.add_div_left _ (Nat.pow_pos (by decide)), Nat.div_eq_of_lt hm]
    rw [if_pos this, txs, List.map_append]
    rfl
def cutsR (ns : List Str) : List D := (cutsL ns).mergeSort leD
theorem cutsR_mem {ns : List Str} {d : D} (h : d ∈ cutsR ns) : ∃ m, d = .tup (txs (bitsOf ns m)) := by
  obtain ⟨m, _, e⟩ := List.mem_map.mp (List.mem_mergeSort.mp h)
  exact ⟨m, e.symm⟩
theorem cutsR_len {ns : List Str} : (cutsR ns).length = 2 ^ ns.length := by
  unfold cutsR cutsL
  rw [List.length_mergeSort, List.length_map, List.length_range]
theorem bits_lays {ns : List Str} (h : Lays ns) (m : Nat) : Lays (bitsOf ns m) := fun x hx => h x (bits_mem x hx)
theorem shp_txs {xs : List Str} (h : Lays xs) : Shp (.tup (txs xs)) 1 := shp_tup (all_map_ fun x hx => shp_str (h x hx))
theorem sortOk_cuts {ns : List Str} (h : Lays ns) : sortOk2 (cutsL ns) = true := by
  unfold sortOk2
  rw [toPys_map]
  rw [Bool.and_eq_true, Bool.and_eq_true, Bool.or_eq_true, Bool.or_eq_true, Bool.and_eq_true]
  unfold cutsL
  rw [List.map_map]
  refine ⟨?_, ?_, .inr (.inr ⟨?_, ?_⟩)⟩
  · rw [List.all_map, List.all_eq_true]
    exact fun m _ => (shp_txs (bits_lays h m)).shaped (by decide)
  · rw [List.all_map, List.all_eq_true]
    intro m _
    show ((List.map _ _).all _) = true
    rw [List.all_map, List.all_eq_true]
    intro j _
    have := alike_txs (bitsOf ns m) (bitsOf ns j)
    simpa [toPy, PySem.W.alike] using this
  · obtain ⟨n, hn⟩ : ∃ n, 2 ^ ns.length = n + 1 := ⟨2 ^ ns.length - 1, by have := Nat.pow_pos (n := ns.length) (show 0 < 2 by decide); omega⟩
    rw [hn, List.range_succ_eq_map, List.map_cons]
    have : bitsOf ns 0 = [] := by
      unfold bitsOf
      have : (List.range ns.length).filter (fun k => decide (0 / 2 ^ k % 2 = 1)) = [] := by
        rw [List.filter_eq_nil_iff]
        intro k _
        simp
      rw [this]; rfl
    show head0 (toPy (.tup (txs (bitsOf ns 0))) :: _) = true
    rw [this]
    rfl
  · rw [List.all_map, List.all_eq_true]
    exact fun m _ => rfl
theorem alike_cuts {ns : List Str} : ∀ {ds : List D}, (∀ d ∈ ds, ∃ m, d = .tup (txs (bitsOf ns m))) → PySem.W.alikeAll (toPys ds) (toPys ds) = true
  | [], _ => by simp [toPys, PySem.W.alikeAll]
  | d :: ds, h => by
    obtain ⟨m, rfl⟩ := h d List.mem_cons_self
    show (PySem.W.alike (.tuple _) (.tuple _) && PySem.W.alikeAll (toPys ds) (toPys ds)) = true
    rw [alike_cuts fun e he => h e (List.mem_cons_of_mem _ he), Bool.and_true]
    have := alike_txs (bitsOf ns m) (bitsOf ns m)
    simpa [toPy, PySem.W.alike] using this
/-- the cuts, compared with themselves -/
theorem ne_cuts {ns : List Str} (h : Lays ns) : neB (.dat (.lst (cutsR ns))) (.dat (.lst (cutsR ns))) = .ok (.dat (.bl false)) := by
  have s : Shp (.lst (cutsR ns)) 2 := shp_lst fun d hd => by
    obtain ⟨m, rfl⟩ := cutsR_mem hd
    exact shp_txs (bits_lays h m)
  rw [ne_shp s s (by decide) (by decide)]
  have : PyData.eqv (toPy (.lst (cutsR ns))) (toPy (.lst (cutsR ns))) = true := by
    show PyData.eqv (.list (toPys (cutsR ns))) (.list (toPys (cutsR ns))) = true
    simp only [PyData.eqv]
    exact PySem.W.eqvAll_refl_alike _ (alike_cuts fun d hd => cutsR_mem hd)
  rw [this]
  rfl
/-! ### cuts of any kind -/
def inD (ns : List Str) : D → Bool
  | .str x => decide (x ∈ ns)
  | _ => false
def isCutB (ns : List Str) : D → Bool
  | .tup ds => ds.all D.isS && (ds.all (inD ns) && risB ds)
  | _ => false
theorem all_strs {ds : List D} (h : ds.all D.isS = true) : ∃ xs, ds = txs xs := txs_of fun d hd => isS_str (List.all_eq_true.mp h d hd)
theorem inD_txs {ns xs : List Str} : (txs xs).all (inD ns) = xs.all fun x => decide (x ∈ ns) := by
  rw [List.all_map]; rfl
theorem isS_txs {xs : List Str} : (txs xs).all D.isS = true := by
  rw [List.all_map, List.all_eq_true]; exact fun _ _ => rfl
theorem isCut_txs {ns xs : List Str} (hs : Strict ns) : isCutB ns (.tup (txs xs)) = chkL ns (-1) xs := by
  show ((txs xs).all D.isS && ((txs xs).all (inD ns) && risB (txs xs))) = _
  rw [isS_txs, Bool.true_and, inD_txs, risB_txs, chkL_eq hs]
  congr 1
  cases xs with
  | nil => simp
  | cons x r =>
    have : decide ((-1 : Int) < (posN ns x : Int)) = true := decide_eq_true (by omega)
    show _ = (decide ((-1 : Int) < (posN ns x : Int)) && _)
    rw [this, Bool.true_and]
end Fn
namespace Fn
open PySem PySem.Spec PyProof.Rows L2
/-! ### errors: raise, isinstance, try -/
theorem exm_of {K : PySem.W.Frag} {C : Addr} {cls : Value} {b : Bool} (h1 : PySem.W.subIn K (.ref C) (.type "BaseException") = some true) (h2 : PySem.W.isClsIn K C = true) (h3 : PySem.W.typeIn K (.ref C) = some (.type "type")) (h4 : PySem.W.subIn K cls (.ref C) = some b) : PySem.W.exmOne K cls (.ref C) = some b := by
  have e2 : ((PySem.W.clsIn K C).isSome && PySem.W.typeIn K (.ref C) == some (.type "type")) = true := by
    rw [show (PySem.W.clsIn K C).isSome = true from h2, h3] <;> rfl
  unfold PySem.W.exmOne PySem.W.kitCls
  rw [h1, if_pos (by rfl)]
  dsimp only
  rw [if_pos e2]
  exact h4
theorem kit_of_sub {K : PySem.W.Frag} {C D : Addr} {b : Bool} (h2 : PySem.W.isClsIn K C = true) (h3 : PySem.W.typeIn K (.ref C) = some (.type "type")) (h4 : PySem.W.subIn K (.ref D) (.ref C) = some b) (self : D = C → b = true) : PySem.W.kitOne K (.ref D) (.ref C) = some b := by
  have e2 : ((PySem.W.clsIn K C).isSome && PySem.W.typeIn K (.ref C) == some (.type "type")) = true := by
    rw [show (PySem.W.clsIn K C).isSome = true from h2, h3] <;> rfl
  unfold PySem.W.kitOne PySem.W.kitCls
  split
  · rename_i e
    have : D = C := by simpa using e
    rw [self this]
  · show (if ((PySem.W.clsIn K C).isSome && PySem.W.typeIn K (.ref C) == some (.type "type")) = true then PySem.W.subIn K (.ref D) (.ref C) else none) = some b
    rw [if_pos e2]
    exact h4
def rIsX (X : Cx) : List V → Hp → VK → Prop := fun xs H Q => ∃ (p : Addr × Obj) (D : Addr), p ∈ X.pn ∧ ExcC X.K D ∧ Zc (.ref D) none p.2 ∧ (∃ vs, p.2.data = .fields vs) ∧ rIsP X.K D p.1 xs H Q
theorem call_isX {X : Cx} : CallR X (.builtin "isinstance") (rIsX X) := fun pins s σ H xs us Q I r ⟨p, D, h1, h2, h3, h4, h5⟩ => call_isP h1 h2 h3 h4 pins s σ H xs us Q I r h5
/-- isinstance(e, C), C the class c' -/
def errI (rs : List Nat) (c' : Nat) (b : B) : Res B := match b with
  | .err c => if c ∈ rs then .ok (.dat (.bl (subE c c'))) else .bad
  | _ => .bad
def errV (rs : List Nat) (b : B) : Res B := match b with
  | .err c => if c ∈ rs then .ok (.dat (.bl true)) else .bad
  | _ => .bad
def noErrB : B → Bool
  | .err _ => false
  | _ => true
def noErrO : Option B → Bool
  | some b => noErrB b
  | none => true
def noErr (ρ : Env) : Bool := ρ.all noErrO
def Bt.ht (bt : Bt) : Bt := { bt with hot := true }
section
variable {X : Cx} {g : G} {cls : Nat → Value} {k : Nat} {tab : List En} {N : List Str} {sc : Scope} {bt : Bt} {a : Expr} {pos pos2 p p2 p3 : Pos} {fa : Env → Res B} {x y m : Str} {j : Nat}
theorem CS.rz (C : CS X g cls k tab N sc bt) (c : Nat) (h : bt.ex[c]? = some x) (hr : c ∈ bt.rs) (hg : dOk sc x = true) (hh : bt.hot = false := by rfl) :
    PS X (.Raise (some (.Call (.Name x p) [.Constant (.str m) j p2] [] pos)) none pos2) (tFS g fun ρ => .exc c ρ) := by
  obtain ⟨W, tk, hW⟩ := C.tk
  obtain ⟨D, hm, hf, hc, _⟩ := C.ct.ex.at_ c x h
  obtain ⟨D', hf', hc', eo⟩ := C.ct.ex.rs c hr
  obtain rfl : D' = D := Option.some.inj (hf'.symm.trans hf)
  unfold dOk at hg
  rw [Bool.and_eq_true, decide_eq_true_eq] at hg
  refine PS.imp (ps_raise (C.ct.calm hh) tk (pmk_own PySem.F.excBase_ValueError eo.xk hm eo.kp (raises_own eo.sb eo.ty) (C.ct.gl hg.1) (nmOk_ok hg.2).1)) fun E σ H ⟨F, ρ, s, p⟩ => ?_
  show W (.ref D') none σ H
  rw [← hc]
  exact hW c σ H (p σ F H s)
theorem err_at (C : CT X g cls k tab N sc bt) {v : V} {c : Nat} (r : ErrAt g v c) (hr : c ∈ bt.rs) : ∃ (q : Addr × Obj) (D : Addr), q ∈ X.pn ∧ v = .ref q.1 ∧ g.fa (1000 + c) = some D ∧ ErrOk X.K D ∧ Zc (.ref D) none q.2 ∧ ∃ vs, q.2.data = .fields vs := by
  obtain ⟨a, D, oe, h1, h2, h3, h4, h5⟩ := r
  obtain ⟨D', h6, _, h7⟩ := C.ex.rs c hr
  obtain rfl : D' = D := Option.some.inj (h6.symm.trans h3)
  exact ⟨(a, oe), D', C.ph _ h1, h2, h3, h7, h4, h5⟩
theorem CT.isE (C : CT X g cls k tab N sc bt) (c' : Nat) (ha : PE X a (tF g fa)) (h : bt.ex[c']? = some y) (hi : gOk sc bt "isinstance" = true) (hg : dOk sc y = true) (hn : nst a = true) :
    PE X (.Call (.Name "isinstance" p) [a, .Name y p2] [] pos) (tF g (one1 (errI bt.rs c') fa)) := by
  obtain ⟨D', hm, hf, _, hs1, hs2, hs3⟩ := C.ex.at_ c' y h
  have hl : c' < bt.ex.length := (List.getElem?_eq_some_iff.mp h).1
  unfold dOk at hg
  rw [Bool.and_eq_true, decide_eq_true_eq] at hg
  have h2 : PA X [a, .Name y p2] (tCons (tF g fa) (tCons (tC (.ref D')) tNil)) := pa_cons ha (pa_cons (pe_glob (v := .ref D') (C.gl hg.1) hm rfl (nmOk_ok hg.2).1) pa_nil) (star_cons hn)
  refine PE.imp (pe_callB call_isX (C.bl hi).1 (C.bl hi).2 PyProof.Rows.boot_isinstance h2 (by decide) (by decide) (star_cons hn) (by rfl)) fun σ H Q ⟨F, ρ, s, q⟩ => ?_
  unfold one1 at q
  show tF g fa σ H _
  refine run1 s (fun bx v F1 H1 e1 g1 r1 => ?_) (fun c e => ?_) (fun e => ?_)
  · rw [e1, Res.ok_bind] at q
    unfold errI at q
    split at q
    · rename_i c hb
      split at q
      · rename_i hr
        rw [hb] at r1
        obtain ⟨p, D, k1, rfl, k3, k4, k5, k6⟩ := err_at C r1 hr
        refine ⟨p, D, k1, k4.ec, k5, k6, .ref D', .ref D', subE c c', rfl, .own D', kit_of_sub hs2 hs3 (C.ex.sub c hr c' D D' hl k3 hf) (fun e => ?_), ?_⟩
        · subst e
          exact Option.some.inj ((C.ex.sub c hr c' D D hl k3 hf).symm.trans k4.sf)
        · exact (q.later g1).bl (s.grow g1).sm
      · exact q.elim
    · exact q.elim
  · rw [e, Res.exc_bind] at q
    exact q
  · rw [e] at q
    exact q
theorem CT.isEV (C : CT X g cls k tab N sc bt) (ha : PE X a (tF g fa)) (hi : gOk sc bt "isinstance" = true) (hg : gOk sc bt "ValueError" = true) (hn : nst a = true) :
    PE X (.Call (.Name "isinstance" p) [a, .Name "ValueError" p2] [] pos) (tF g (one1 (errV bt.rs) fa)) := by
  have h2 : PA X [a, .Name "ValueError" p2] (tCons (tF g fa) (tCons (tC (.ty "ValueError")) tNil)) := pa_cons ha (pa_cons (pe_bltn (v := .ty "ValueError") (C.bl hg).1 (C.bl hg).2 (by rfl) rfl (by decide) (by decide)) pa_nil) (star_cons hn)
  refine PE.imp (pe_callB call_isX (C.bl hi).1 (C.bl hi).2 PyProof.Rows.boot_isinstance h2 (by decide) (by decide) (star_cons hn) (by rfl)) fun σ H Q ⟨F, ρ, s, q⟩ => ?_
  unfold one1 at q
  show tF g fa σ H _
  refine run1 s (fun bx v F1 H1 e1 g1 r1 => ?_) (fun c e => ?_) (fun e => ?_)
  · rw [e1, Res.ok_bind] at q
    unfold errV at q
    split at q
    · rename_i c hb
      split at q
      · rename_i hr
        rw [hb] at r1
        obtain ⟨p, D, k1, rfl, k3, k4, k5, k6⟩ := err_at C r1 hr
        refine ⟨p, D, k1, k4.ec, k5, k6, .ty "ValueError", .type "ValueError", true, rfl, .ty _, ?_, (q.later g1).bl (s.grow g1).sm⟩
        unfold PySem.W.kitOne
        rw [if_neg (by simp)]
        show (if PySem.W.kitMeta "ValueError" = true then PySem.W.subIn X.K (.ref D) (.type "ValueError") else none) = some true
        rw [if_pos (by decide +kernel)]
        exact k4.ve
      · exact q.elim
    · exact q.elim
  · rw [e, Res.exc_bind] at q
    exact q
  · rw [e] at q
    exact q
/-! the state, with an error in hand and without -/
theorem St.withH {F H : Hp} {σ : L2.St} {ρ : Env} {E' : Nat → L2.St → Hp → Prop} {o : Option (Addr × Obj)} (s : St g F H σ ρ) (h : g.h = none) : St { g with E := E', h := o } F H σ ρ :=
  ⟨s.gr, s.len, fun i b e => by
    obtain ⟨v, h1, h2⟩ := s.at_ i b e
    refine ⟨v, h1, ?_⟩
    cases b with
    | err c => obtain ⟨a, D, oe, z, _⟩ := h2; rw [h] at z; cases z
    | _ => exact h2, s.apart⟩
theorem St.noH {F H : Hp} {σ : L2.St} {ρ : Env} {E' : Nat → L2.St → Hp → Prop} {o : Option (Addr × Obj)} (s : St { g with E := E', h := o } F H σ ρ) (h : noErr ρ = true) : St g F H σ ρ :=
  ⟨s.gr, s.len, fun i b e => by
    obtain ⟨v, h1, h2⟩ := s.at_ i b e
    refine ⟨v, h1, ?_⟩
    cases b with
    | err c =>
      have := List.all_eq_true.mp h _ (List.mem_of_getElem? e)
      cases this
    | _ => exact h2, s.apart⟩
theorem RB.noH {F H F' H' : Hp} {v : V} {b : B} {E' : Nat → L2.St → Hp → Prop} {o : Option (Addr × Obj)} (r : RB { g with E := E', h := o } F H F' H' v b) (h : noErrB b = true) : RB g F H F' H' v b := by
  cases b with
  | err c => cases h
  | _ => exact r
theorem CS.tr (C : CS X g cls k tab N sc bt) {pn : List (Addr × Obj)} {xe : Value → Shared → Prop} {W : WX} (tk : Takes (X.tr pn xe) W) (po : PassesOwn (model X.prog X.w) X.A X.env xe) (hh : bt.hot = false) : CS (X.tr pn xe) { g with E := fun c σ H => W (cls c) none σ H, h := none } cls k tab N sc bt :=
  ⟨⟨C.ct.hK, C.ct.calm, C.ct.hN, C.ct.nd, C.ct.hS, C.ct.room, ⟨fun j en h => C.ct.tab.at_ j en h⟩, ⟨WE W, fun σ => passAt tk σ, fun _ _ _ h => h⟩, C.ct.bi, C.ct.hd, fun _ => rfl, (fun p h => by cases h), (fun z => by rw [hh] at z; cases z), C.ct.ex, ⟨fun j en h => C.ct.hs.at_ j en h⟩⟩,
    po, C.fn, ⟨W, tk, fun _ _ _ h => h⟩, C.stk, C.frm⟩
theorem CS.suite (C : CS X g cls k tab N sc bt) {a : Addr} {oe : Obj} {pn : List (Addr × Obj)} : CS (X.suite a ((a, oe) :: pn)) { g with E := fun _ _ _ => False, h := some (a, oe) } cls k tab N sc bt.ht :=
  ⟨⟨C.ct.hK, (fun z => by cases z), C.ct.hN, C.ct.nd, C.ct.hS, ⟨C.ct.room.dp, C.ct.room.un⟩, ⟨fun j en h => C.ct.tab.at_ j en h⟩, ⟨fun _ _ _ _ => False, fun σ pins H s e s' I c => pass0L pins σ H s e s' I c, fun _ _ _ h => h⟩, ⟨C.ct.bi.bi, C.ct.bi.cs⟩, (fun z => by cases z), (fun z => by cases z), (fun p h => by cases h; exact List.mem_cons_self), (fun _ => ⟨_, rfl⟩), ⟨C.ct.ex.at_, C.ct.ex.rs, C.ct.ex.sub⟩, ⟨fun j en h => C.ct.hs.at_ j en h⟩⟩,
    PassesOwn.never, C.fn, ⟨_, takes_none5, fun _ _ _ h => h⟩, C.stk, C.frm⟩
/-- what comes behind a suite that holds an error -/
def leaveH (w : Env → Env) : Out → Out
  | .nx ρ => if noErr (w ρ) = true then .nx (w ρ) else .bad
  | .bk ρ => if noErr (w ρ) = true then .bk (w ρ) else .bad
  | .ct ρ => if noErr (w ρ) = true then .ct (w ρ) else .bad
  | .rt b => if noErrB b = true then .rt b else .bad
  | _ => .bad
def hdl (o : Option Nat) (c : Nat) (fh : Env → Out) (ρ : Env) : Out := match o with
  | none => leaveH id (fh ρ)
  | some i => leaveH (fun ρ => ρ.set i none) (fh (ρ.set i (some (.err c))))
def tryK (rs : List Nat) (c' : Nat) (o : Option Nat) (fh : Env → Out) (r : Out) : Out := match r with
  | .exc c ρ => if c ∈ rs then (if subE c c' = true then hdl o c fh ρ else .exc c ρ) else .bad
  | r => r
def tryS (rs : List Nat) (c' : Nat) (o : Option Nat) (fb fh : Env → Out) : Env → Out := fun ρ => tryK rs c' o fh (fb ρ)
section
variable {fb fh : Env → Out} {body suite : List Stmt} {b₀ : Stmt} {n : Str} {np pos' : Pos}
theorem CS.tro (C : CS X g cls k tab N sc bt) (c' : Nat) (h : bt.ex[c']? = some x) (hg : dOk sc x = true)
    (hb : ∀ {X' : Cx} {g' : G}, CS X' g' cls k tab N sc bt → PSs X' body (tFS g' fb)) (hs : ∀ {X' : Cx} {g' : G}, CS X' g' cls k tab N sc bt.ht → PSs X' (b₀ :: suite) (tFS g' fh)) (hh : bt.hot = false := by rfl) :
    PS X (.Try body [.ExceptHandler (some (.Name x np)) none (b₀ :: suite) pos'] [] [] pos) (tFS g (tryS bt.rs c' none fb fh)) := by
  obtain ⟨W, tk, hW⟩ := C.tk
  obtain ⟨D', hm, hf, hcl, hs1, hs2, hs3⟩ := C.ct.ex.at_ c' x h
  have hl : c' < bt.ex.length := (List.getElem?_eq_some_iff.mp h).1
  unfold dOk at hg
  rw [Bool.and_eq_true, decide_eq_true_eq] at hg
  have hgn := C.ct.nh hh
  refine PS.imp (ps_try_only (tb := fun W => tFS { g with E := fun c σ H => W (cls c) none σ H, h := none } fb) (ts := fun a cl d D σ H => ∀ oe, Zc cl d oe → (∃ vs, oe.data = .fields vs) → tFS { g with E := fun _ _ _ => False, h := some (a, oe) } fh D σ H) (Wout := W) C.stk C.frm ⟨C.ct.gl hg.1, (nmOk_ok hg.2).1, .inl hm⟩ tk
    (fun W pn xe tk' po => hb (C.tr tk' po hh)) (fun a oe cl d pn hz hfd => ⟨fun pins s σ H D I w => (hs (C.suite (oe := oe))).run pins s σ H D I (w oe hz hfd)⟩)) fun E σ H ⟨F, ρ, s, p⟩ => ⟨F, ρ, s.withH hgn, ?_⟩
  unfold tryS at p
  cases e : fb ρ with
  | nx ρ' => rw [e] at p; exact fun σ' F' H' s' => p σ' F' H' (by have := s'.withH (g := { g with E := _, h := none }) (E' := g.E) (o := g.h) rfl; exact this)
  | bk ρ' => rw [e] at p; exact fun σ' F' H' s' => p σ' F' H' (by have := s'.withH (g := { g with E := _, h := none }) (E' := g.E) (o := g.h) rfl; exact this)
  | ct ρ' => rw [e] at p; exact fun σ' F' H' s' => p σ' F' H' (by have := s'.withH (g := { g with E := _, h := none }) (E' := g.E) (o := g.h) rfl; exact this)
  | rt b =>
    rw [e] at p
    exact fun v F' H' g1 r1 => p v F' H' g1 (by
      cases b with
      | err c => obtain ⟨_, _, _, z, _⟩ := r1; cases z
      | _ => exact r1)
  | bad => rw [e] at p; exact p
  | exc c ρ' =>
    rw [e] at p
    unfold tryK at p
    dsimp only at p
    split at p
    · rename_i hr
      obtain ⟨D, f1, f2, f3⟩ := C.ct.ex.rs c hr
      intro σ' F' H' s'
      have sg : St g F' H' σ' ρ' := by have := s'.withH (g := { g with E := _, h := none }) (E' := g.E) (o := g.h) rfl; exact this
      refine ⟨subE c c', ?_, fun hy a ha oe hz hfd => ?_, fun hno => ?_⟩
      · rw [f2]
        exact exm_of hs1 hs2 hs3 (C.ct.ex.sub c hr c' D D' hl f1 hf)
      · rw [if_pos hy] at p
        refine ⟨F', ρ', sg.withH hgn, ?_⟩
        unfold hdl at p
        dsimp only at p
        cases eh : fh ρ' with
        | nx ρ2 => rw [eh] at p; unfold leaveH at p; dsimp only [id] at p; split at p; · rename_i z; exact fun σ2 F2 H2 s2 => p σ2 F2 H2 (s2.noH z)
                   · exact p.elim
        | bk ρ2 => rw [eh] at p; unfold leaveH at p; dsimp only [id] at p; split at p; · rename_i z; exact fun σ2 F2 H2 s2 => p σ2 F2 H2 (s2.noH z)
                   · exact p.elim
        | ct ρ2 => rw [eh] at p; unfold leaveH at p; dsimp only [id] at p; split at p; · rename_i z; exact fun σ2 F2 H2 s2 => p σ2 F2 H2 (s2.noH z)
                   · exact p.elim
        | rt b => rw [eh] at p; unfold leaveH at p; dsimp only [id] at p; split at p; · rename_i z; exact fun v F2 H2 g2 r2 => p v F2 H2 g2 (RB.noH (g := g) r2 z)
                  · exact p.elim
        | exc c2 ρ2 => rw [eh] at p; exact p.elim
        | bad => rw [eh] at p; exact p.elim
      · rw [if_neg (by rw [hno]; exact Bool.false_ne_true)] at p
        exact hW c σ' H' (p σ' F' H' sg)
    · exact p.elim
theorem CS.tra (C : CS X g cls k tab N sc bt) (c' i : Nat) (h : bt.ex[c']? = some x) (hg : dOk sc x = true) (hi : lOk N sc i n = true)
    (hb : ∀ {X' : Cx} {g' : G}, CS X' g' cls k tab N sc bt → PSs X' body (tFS g' fb)) (hs : ∀ {X' : Cx} {g' : G}, CS X' g' cls k tab N sc bt.ht → PSs X' (b₀ :: suite) (tFS g' fh)) (hh : bt.hot = false := by rfl) :
    PS X (.Try body [.ExceptHandler (some (.Name x np)) (some n) (b₀ :: suite) pos'] [] [] pos) (tFS g (tryS bt.rs c' (some i) fb fh)) := by
  obtain ⟨W, tk, hW⟩ := C.tk
  obtain ⟨D', hm, hf, hcl, hs1, hs2, hs3⟩ := C.ct.ex.at_ c' x h
  have hl : c' < bt.ex.length := (List.getElem?_eq_some_iff.mp h).1
  unfold dOk at hg
  rw [Bool.and_eq_true, decide_eq_true_eq] at hg
  have hgn := C.ct.nh hh
  refine PS.imp (L2.ps_try_as (i := i) (tb := fun W => tFS { g with E := fun c σ H => W (cls c) none σ H, h := none } fb) (ts := fun a cl d D σ H => ∀ oe, Zc cl d oe → (∃ vs, oe.data = .fields vs) → tFS { g with E := fun _ _ _ => False, h := some (a, oe) } fh D σ H) (Wout := W) C.stk C.frm C.ct.nd' (C.ct.lo hi).1 (C.ct.lo hi).2 ⟨C.ct.gl hg.1, (nmOk_ok hg.2).1, .inl hm⟩ tk
    (fun W pn xe tk' po => hb (C.tr tk' po hh)) (fun a oe cl d pn hz hfd => ⟨fun pins s σ H D I w => (hs (C.suite (oe := oe))).run pins s σ H D I (w oe hz hfd)⟩)) fun E σ H ⟨F, ρ, s, p⟩ => ⟨F, ρ, s.withH hgn, ?_⟩
  unfold tryS at p
  cases e : fb ρ with
  | nx ρ' => rw [e] at p; exact fun σ' F' H' s' => p σ' F' H' (by have := s'.withH (g := { g with E := _, h := none }) (E' := g.E) (o := g.h) rfl; exact this)
  | bk ρ' => rw [e] at p; exact fun σ' F' H' s' => p σ' F' H' (by have := s'.withH (g := { g with E := _, h := none }) (E' := g.E) (o := g.h) rfl; exact this)
  | ct ρ' => rw [e] at p; exact fun σ' F' H' s' => p σ' F' H' (by have := s'.withH (g := { g with E := _, h := none }) (E' := g.E) (o := g.h) rfl; exact this)
  | rt b =>
    rw [e] at p
    exact fun v F' H' g1 r1 => p v F' H' g1 (by
      cases b with
      | err c => obtain ⟨_, _, _, z, _⟩ := r1; cases z
      | _ => exact r1)
  | bad => rw [e] at p; exact p
  | exc c ρ' =>
    rw [e] at p
    unfold tryK at p
    dsimp only at p
    split at p
    · rename_i hr
      obtain ⟨D, f1, f2, f3⟩ := C.ct.ex.rs c hr
      intro σ' F' H' s'
      have sg : St g F' H' σ' ρ' := by have := s'.withH (g := { g with E := _, h := none }) (E' := g.E) (o := g.h) rfl; exact this
      refine ⟨subE c c', ?_, fun hy a ha oe hz hfd => ?_, fun hno => ?_⟩
      · rw [f2]
        exact exm_of hs1 hs2 hs3 (C.ct.ex.sub c hr c' D D' hl f1 hf)
      · rw [if_pos hy] at p
        rw [f2] at hz
        have sh : St { g with E := fun _ _ _ => False, h := some (a, oe) } F' H' σ' ρ' := sg.withH hgn
        have s3 := sh.put (b := .err c) (v := .ref a) (Grow.refl sh.sub) ⟨a, D, oe, rfl, rfl, f1, by
          cases hd : oe.dict with
          | none => exact ⟨hz.1, hd⟩
          | some z => exact ⟨hz.1, hz.2⟩, hfd⟩ i (fun m z => by cases z)
        refine ⟨F', _, s3, ?_⟩
        unfold hdl at p
        dsimp only at p
        cases eh : fh (ρ'.set i (some (.err c))) with
        | nx ρ2 => rw [eh] at p; unfold leaveH at p; dsimp only at p; split at p; · rename_i z; exact fun σ2 F2 H2 s2 => p (σ2.set i none) F2 H2 ((s2.drop i).noH z)
                   · exact p.elim
        | bk ρ2 => rw [eh] at p; unfold leaveH at p; dsimp only at p; split at p; · rename_i z; exact fun σ2 F2 H2 s2 => p (σ2.set i none) F2 H2 ((s2.drop i).noH z)
                   · exact p.elim
        | ct ρ2 => rw [eh] at p; unfold leaveH at p; dsimp only at p; split at p; · rename_i z; exact fun σ2 F2 H2 s2 => p (σ2.set i none) F2 H2 ((s2.drop i).noH z)
                   · exact p.elim
        | rt b => rw [eh] at p; unfold leaveH at p; dsimp only at p; split at p; · rename_i z; exact fun v F2 H2 g2 r2 => p v F2 H2 g2 (RB.noH (g := g) r2 z)
                  · exact p.elim
        | exc c2 ρ2 => rw [eh] at p; exact p.elim
        | bad => rw [eh] at p; exact p.elim
      · rw [if_neg (by rw [hno]; exact Bool.false_ne_true)] at p
        exact hW c σ' H' (p σ' F' H' sg)
    · exact p.elim
end
/-- a call of a def where an error is handled -/
theorem CT.ownH (C : CT X g cls k tab N sc bt) (j : Nat) {en : En} {e : Expr} {es : List Expr} {fs : Env → Res (List B)} (ha : PA X (e :: es) (tFA g fs)) (hk : bt.hs[j]? = some en) (hx : x = en.name) (hg : dOk sc x = true) (hst : (e :: es).all nst = true) (hot : bt.hot = true := by rfl) :
    PE X (.Call (.Name x p) (e :: es) [] pos) (tF g fun ρ => (fs ρ).bind fun bs => (lenA en.n bs).bind (callV en)) := by
  obtain ⟨f, fd, ps, hm, hkp, hb, F⟩ := C.hs.at_ j en hk
  obtain ⟨q, hq⟩ := C.eh hot
  obtain ⟨E', hpass, hE⟩ := C.pz
  unfold dOk at hg
  rw [Bool.and_eq_true, decide_eq_true_eq] at hg
  rw [List.all_cons, Bool.and_eq_true] at hst
  subst hx
  refine PE.imp (pe_callP F (C.ph q hq) C.room (C.gl hg.1) hm hkp hb hpass ha (nmOk_ok hg.2).1 (star_cons hst.1) (star_none hst.2)) fun σ H Q h => ?_
  refine runA (r := fun vs H1 Q => spP X.K g.fa cls en.n en.F (some q) vs H1 Q (E' σ)) (fun F H vs bs Q s r p => ?_) h
  unfold lenA at p
  split at p
  · rename_i hn
    have := call_run C.hK (fun c H' => hE c σ H') F H vs bs Q hn s r p
    rw [hq] at this
    exact this
  · exact p.elim
end
end Fn
namespace Fn
open PySem PySem.Spec PyProof.Rows L2
section
variable {X : Cx} {g : G} {cls : Nat → Value} {k : Nat} {tab : List En} {N : List Str} {sc : Scope} {bt : Bt} {a b e : Expr} {fa fb : Env → Res B} {p1 p2 p3 p4 : Pos}
/-! ### xs.count(x), xs a list of truths -/
def boolsOf : List D → Option (List Bool)
  | [] => some []
  | .bl b :: ds => (boolsOf ds).map (b :: ·)
  | _ => none
theorem boolsOf_map : ∀ {ds : List D} {bs : List Bool}, boolsOf ds = some bs → ds = bs.map D.bl
  | [], bs, h => by cases h; rfl
  | .bl b :: ds, bs, h => by
    unfold boolsOf at h
    cases e : boolsOf ds with
    | none => rw [e] at h; cases h
    | some cs => rw [e] at h; cases h; rw [List.map_cons, ← boolsOf_map e]
  | .non :: _, _, h | .int _ :: _, _, h | .str _ :: _, _, h | .tup _ :: _, _, h | .ctup _ :: _, _, h | .lst _ :: _, _, h | .dk _ :: _, _, h | .dt _ :: _, _, h | .fn _ :: _, _, h => by simp [boolsOf] at h
theorem boolsOf_bl {bs : List Bool} : boolsOf (bs.map D.bl) = some bs := by
  induction bs with
  | nil => rfl
  | cons b bs ih => rw [List.map_cons, boolsOf, ih]; rfl
def rCntB (K : PySem.W.Frag) : V → List V → Hp → VK → Prop := fun x xs H Q => ∃ (p : Addr) (bs : List Bool) (k : Bool), x = .ref p ∧ xs = [.bl k] ∧ SqL K H p (bs.map V.bl) ∧ Q (.int (bs.countP (· == k) : Nat)) H
theorem countB_bools (k : Bool) : ∀ bs : List Bool, ((bs.map Value.bool).countP (isBoolOf k) : Nat) = bs.countP (· == k)
  | [] => rfl
  | b :: bs => by rw [List.map_cons, List.countP_cons, List.countP_cons, countB_bools k bs]; rfl
theorem mt_cntB : MtR X "list.count" (rCntB X.K) := by
  intro pins s σ H x xs v us Q I rx rxs h
  obtain ⟨p, bs, k, rfl, rfl, hs, q⟩ := h
  cases rx
  obtain ⟨u, rfl, ru⟩ := rxs.one
  obtain rfl : u = Value.bool k := ru
  obtain ⟨its, rv, ⟨⟨cls, dd, data, sl⟩, n, ho, hc, hdn, hd⟩, hlen⟩ := I.list hs
  simp only at hc hd
  subst hc hd
  have hi := rv.bls
  subst hi
  refine call_meets PySem.F.slot_list_count ⟨_, ho, rfl⟩ PySem.F.entry_list_count (PySem.F.args_list_count_2 _ _)
    (SeqAt.list_countAt p (bs.map Value.bool).toArray n dd sl (.bool k) (isBoolOf k)) ⟨ho, fun y hy => ?_, ?_⟩
  · obtain ⟨b, _, rfl⟩ := List.mem_map.mp (show y ∈ bs.map Value.bool by simpa using hy)
    exact SeqAt.EqAt.bool_bool b k
  · refine ⟨.int (bs.countP (· == k) : Nat), H, I.tok _, ⟨s.toks, ?_⟩, q⟩
    rw [show (bs.map Value.bool).toArray.toList = bs.map Value.bool from rfl, countB_bools]
def countB (a b : B) : Res B := match seqL a, b with
  | some ds, .dat (.bl k) => (match boolsOf ds with
    | some bs => .ok (.dat (.int (bs.countP (· == k) : Nat)))
    | none => .bad)
  | _, _ => .bad
def countE (fa fb : Env → Res B) : Env → Res B := fun ρ => (fa ρ).bind fun x => match seqL (rd x) with
  | some _ => (fb ρ).bind fun y => countB (rd x) (rd y)
  | none => .bad
def countK (ra rb : Res B) : Res B := ra.bind fun x => match seqL (rd x) with
  | some _ => rb.bind fun y => countB (rd x) (rd y)
  | none => .bad
theorem e_count {ρ : Env} : countE fa fb ρ = countK (fa ρ) (fb ρ) := (rfl)
theorem count_ok {ds : List D} {bs : List Bool} {k : Bool} (h : boolsOf ds = some bs) : countK (.ok (.dat (.lst ds))) (.ok (.dat (.bl k))) = .ok (.dat (.int (bs.countP (· == k) : Nat))) := by
  show countB (.dat (.lst ds)) (.dat (.bl k)) = _
  unfold countB
  show (match boolsOf ds with | some bs => _ | none => _) = _
  rw [h]
theorem CT.count (C : CT X g cls k tab N sc bt) (ha : PE X a (tF g fa)) (hb : PE X b (tF g fb)) (hn : (nst b && (p2.endLine == p3.line)) = true) (hbase : attributeBase a "count" X.env (eval a X.env) = eval a X.env := by rfl) :
    PE X (.Call (.Attribute a "count" p2) [b] [] p3) (tF g (countE fa fb)) := by
  rw [Bool.and_eq_true] at hn
  refine PE.imp (pe_bm PySem.F.plainAttrs_list PySem.F.slot_list_count PySem.F.type_list_count mt_cntB ha (pa_cons hb pa_nil (star_cons hn.1)) hbase (by cases b <;> first | rfl | cases hn.1) hn.2 (star_cons hn.1) (by rfl)) fun σ H Q h => ?_
  obtain ⟨F, ρ, s, p⟩ := h
  unfold countE at p
  refine run1 s (fun bx v F1 H1 e1 g1 r1 => ?_) (fun c e => ?_) (fun e => ?_)
  · rw [e1, Res.ok_bind] at p
    have s1 := s.grow g1
    split at p
    · rename_i ds hs
      obtain ⟨q, xs, rfl, h1, h2⟩ := seqL_ok s1.sm r1 hs
      refine ⟨.inl ⟨rfl, xs, SqL.of h1⟩, ?_⟩
      refine run1 s1 (fun by_ w2 F2 H2 e2 g2 r2 => ?_) (fun c e => ?_) (fun e => ?_)
      · rw [e2, Res.ok_bind] at p
        rw [← C.hK]
        unfold countB at p
        rw [hs] at p
        split at p
        · rename_i ds' k' z1 z2
          cases z1
          rw [z2] at r2
          cases r2
          split at p
          · rename_i bs hbs
            obtain rfl := boolsOf_map hbs
            have := h2.bls
            subst this
            exact ⟨q, bs, k', rfl, rfl, SqL.of (g2.hh _ _ h1), (p.later (g1.trans g2)).int (s1.sm.grow g2)⟩
          · exact p.elim
        · exact p.elim
      · rw [e, Res.exc_bind] at p
        exact fun F' H' gr => p F' H' (g1.trans gr)
      · rw [e] at p
        exact p
    · exact p.elim
  · rw [e] at p
    exact p
  · rw [e] at p
    exact p
end
/-! ### what the readings of errors answer -/
section
variable {ρ : Env} {f h fb fh : Env → Out} {fa : Env → Res B} {rs : List Nat} {c c' i : Nat} {o : Option Nat} {b : B} {w : Env → Env} {d : D} {m : M} {ns : List Int} {x : Option B}
theorem e_try : tryS rs c' o fb fh ρ = tryK rs c' o fh (fb ρ) := (rfl)
theorem tryK_nx : tryK rs c' o fh (.nx ρ) = .nx ρ := (rfl)
theorem tryK_rt : tryK rs c' o fh (.rt b) = .rt b := (rfl)
theorem tryK_bk : tryK rs c' o fh (.bk ρ) = .bk ρ := (rfl)
theorem tryK_ct : tryK rs c' o fh (.ct ρ) = .ct ρ := (rfl)
theorem tryK_exc (h1 : c ∈ rs) (h2 : subE c c' = true) : tryK rs c' o fh (.exc c ρ) = hdl o c fh ρ := by
  show (if c ∈ rs then (if subE c c' = true then hdl o c fh ρ else .exc c ρ) else .bad) = _
  rw [if_pos h1, if_pos h2]
theorem tryK_pass (h1 : c ∈ rs) (h2 : subE c c' = false) : tryK rs c' o fh (.exc c ρ) = .exc c ρ := by
  show (if c ∈ rs then (if subE c c' = true then hdl o c fh ρ else .exc c ρ) else .bad) = _
  rw [if_pos h1, if_neg (by rw [h2]; exact Bool.false_ne_true)]
def leaveN : Out → Out := leaveH id
def leaveS (i : Nat) : Out → Out := leaveH fun ρ => ρ.set i none
theorem hdl_none : hdl none c fh ρ = leaveN (fh ρ) := (rfl)
theorem hdl_some : hdl (some i) c fh ρ = leaveS i (fh (ρ.set i (some (.err c)))) := (rfl)
theorem leaveN_nx (h : noErr ρ = true) : leaveN (.nx ρ) = .nx ρ := if_pos h
theorem leaveN_ct (h : noErr ρ = true) : leaveN (.ct ρ) = .ct ρ := if_pos h
theorem leaveN_bk (h : noErr ρ = true) : leaveN (.bk ρ) = .bk ρ := if_pos h
theorem leaveN_rt (h : noErrB b = true) : leaveN (.rt b) = .rt b := if_pos h
theorem leaveS_nx (h : noErr (ρ.set i none) = true) : leaveS i (.nx ρ) = .nx (ρ.set i none) := if_pos h
theorem leaveS_ct (h : noErr (ρ.set i none) = true) : leaveS i (.ct ρ) = .ct (ρ.set i none) := if_pos h
theorem leaveS_bk (h : noErr (ρ.set i none) = true) : leaveS i (.bk ρ) = .bk (ρ.set i none) := if_pos h
theorem leaveS_rt (h : noErrB b = true) : leaveS i (.rt b) = .rt b := if_pos h
theorem noErr_nil : noErr [] = true := (rfl)
theorem noErr_cons : noErr (x :: ρ) = (noErrO x && noErr ρ) := (rfl)
theorem noErrO_none : noErrO none = true := (rfl)
theorem noErrO_dat : noErrO (some (.dat d)) = true := (rfl)
theorem noErrO_own : noErrO (some (.own m)) = true := (rfl)
theorem noErrO_bor : noErrO (some (.bor m)) = true := (rfl)
theorem noErrO_scr : noErrO (some (.scr ns)) = true := (rfl)
theorem noErrB_dat : noErrB (.dat d) = true := (rfl)
theorem noErrB_own : noErrB (.own m) = true := (rfl)
theorem errI_t (h1 : c ∈ rs) (h2 : subE c c' = true) : errI rs c' (.err c) = .ok (.dat (.bl true)) := by
  show (if c ∈ rs then _ else _) = _
  rw [if_pos h1, h2]
theorem errI_f (h1 : c ∈ rs) (h2 : subE c c' = false) : errI rs c' (.err c) = .ok (.dat (.bl false)) := by
  show (if c ∈ rs then _ else _) = _
  rw [if_pos h1, h2]
theorem errV_t (h1 : c ∈ rs) : errV rs (.err c) = .ok (.dat (.bl true)) := if_pos h1
def rzS (c : Nat) : Env → Out := fun ρ => .exc c ρ
theorem e_rz : rzS c ρ = .exc c ρ := (rfl)
theorem retB_err : retB (.err c) = .ok (.err c) := (rfl)
end
end Fn
namespace Fn
open PySem PySem.Spec PyProof.Rows L2
/-! ### fractions: a rational number as two whole numbers -/
def frD (q : Rat) : D := .tup [.int q.num, .int (q.den : Int)]
theorem fr_0 {q : Rat} : idxB (.dat (frD q)) (.dat (.int 0)) = .ok (.dat (.int q.num)) := idx_tup rfl
theorem fr_1 {q : Rat} : idxB (.dat (frD q)) (.dat (.int 1)) = .ok (.dat (.int (q.den : Int))) := idx_tup rfl
theorem frD_inj {p q : Rat} (h : frD p = frD q) : p = q := by
  unfold frD at h
  injection h with h
  injection h with h1 h2
  injection h1 with h1
  injection h2 with h2 _
  injection h2 with h2
  exact Rat.ext h1 (Int.ofNat.inj h2)
theorem fr_int {n : Int} : D.tup [.int n, .int 1] = frD (n : Rat) := by unfold frD; rw [Rat.num_intCast, Rat.den_intCast]; rfl
/-- how large -/
structure FrB (q : Rat) (n : Nat) : Prop where
  nn : q.num.natAbs < 2 ^ n
  dd : q.den < 2 ^ n
theorem FrB.up {q : Rat} {n m : Nat} (a : FrB q n) (h : n ≤ m) : FrB q m := ⟨Nat.lt_of_lt_of_le a.nn (Nat.pow_le_pow_right (by decide) h), Nat.lt_of_lt_of_le a.dd (Nat.pow_le_pow_right (by decide) h)⟩
theorem FrB.zn {q : Rat} {n : Nat} (a : FrB q n) : ISz q.num n := ⟨a.nn⟩
theorem FrB.zd {q : Rat} {n : Nat} (a : FrB q n) : ISz (q.den : Int) n := ⟨by rw [Int.natAbs_natCast]; exact a.dd⟩
theorem frB_int {i : Int} {n : Nat} (h : i.natAbs < 2 ^ (n + 1)) : FrB (i : Rat) (n + 1) := ⟨by rw [Rat.num_intCast]; exact h, by rw [Rat.den_intCast]; exact Nat.one_lt_two_pow (by omega)⟩
theorem divInt_num_le (a b : Int) : (Rat.divInt a b).num.natAbs ≤ a.natAbs := by
  rw [Rat.num_divInt]
  refine Nat.le_trans (Int.natAbs_ediv_le_natAbs _ _) ?_
  rw [Int.natAbs_mul]
  have : b.sign.natAbs ≤ 1 := by rw [Int.natAbs_sign]; split <;> omega
  exact Nat.le_trans (Nat.mul_le_mul_right _ this) (by omega)
theorem divInt_den_le {a b : Int} (h : b ≠ 0) : (Rat.divInt a b).den ≤ b.natAbs := by
  rw [Rat.den_divInt, if_neg h]
  exact Nat.div_le_self _ _
theorem divInt_frB {a b : Int} {n : Nat} (h : b ≠ 0) (h1 : a.natAbs < 2 ^ n) (h2 : b.natAbs < 2 ^ n) : FrB (Rat.divInt a b) n := ⟨Nat.lt_of_le_of_lt (divInt_num_le a b) h1, Nat.lt_of_le_of_lt (divInt_den_le h) h2⟩
theorem den_ne {q : Rat} : (q.den : Int) ≠ 0 := by have := q.den_pos; omega
theorem mul_den_ne {p q : Rat} : (p.den : Int) * (q.den : Int) ≠ 0 := Int.mul_ne_zero den_ne den_ne
theorem fr_add (p q : Rat) : Rat.divInt (p.num * q.den + q.num * p.den) (p.den * q.den) = p + q := by
  rw [← Rat.divInt_add_divInt _ _ den_ne den_ne, Rat.num_divInt_den, Rat.num_divInt_den]
theorem fr_sub (p q : Rat) : Rat.divInt (p.num * q.den - q.num * p.den) (p.den * q.den) = p - q := by
  rw [← Rat.divInt_sub_divInt _ _ den_ne den_ne, Rat.num_divInt_den, Rat.num_divInt_den]
theorem fr_mul (p q : Rat) : Rat.divInt (p.num * q.num) (p.den * q.den) = p * q := by
  rw [← Rat.divInt_mul_divInt, Rat.num_divInt_den, Rat.num_divInt_den]
theorem fr_div (p q : Rat) : Rat.divInt (p.num * q.den) (p.den * q.num) = p / q := by
  rw [Rat.div_def, Rat.inv_def, ← Rat.divInt_mul_divInt, Rat.num_divInt_den]
theorem pow_mul_lt {a b n m : Nat} (h1 : a < 2 ^ n) (h2 : b < 2 ^ m) : a * b < 2 ^ (n + m) := by
  rw [Nat.pow_add]
  rcases Nat.eq_zero_or_pos b with z | z
  · rw [z, Nat.mul_zero]; exact Nat.mul_pos (Nat.two_pow_pos _) (Nat.two_pow_pos _)
  · exact Nat.lt_of_lt_of_le ((Nat.mul_lt_mul_right z).mpr h1) (Nat.mul_le_mul_left _ (Nat.le_of_lt h2))
theorem FrB.add {p q : Rat} {n m : Nat} (a : FrB p n) (b : FrB q m) : FrB (p + q) (n + m + 1) := by
  rw [← fr_add]
  refine divInt_frB mul_den_ne ?_ ?_
  · have h1 := pow_mul_lt a.nn b.dd
    have h2 := pow_mul_lt b.nn a.dd
    rw [Nat.add_comm m n] at h2
    have h3 := Int.natAbs_add_le (p.num * q.den) (q.num * p.den)
    rw [Int.natAbs_mul, Int.natAbs_mul, Int.natAbs_natCast, Int.natAbs_natCast] at h3
    rw [Nat.pow_succ]; omega
  · rw [Int.natAbs_mul, Int.natAbs_natCast, Int.natAbs_natCast]
    have := pow_mul_lt a.dd b.dd
    rw [Nat.pow_succ]; omega
theorem FrB.sub {p q : Rat} {n m : Nat} (a : FrB p n) (b : FrB q m) : FrB (p - q) (n + m + 1) := by
  rw [← fr_sub]
  refine divInt_frB mul_den_ne ?_ ?_
  · have h1 := pow_mul_lt a.nn b.dd
    have h2 := pow_mul_lt b.nn a.dd
    rw [Nat.add_comm m n] at h2
    have h3 := Int.natAbs_sub_le (p.num * q.den) (q.num * p.den)
    rw [Int.natAbs_mul, Int.natAbs_mul, Int.natAbs_natCast, Int.natAbs_natCast] at h3
    rw [Nat.pow_succ]; omega
  · rw [Int.natAbs_mul, Int.natAbs_natCast, Int.natAbs_natCast]
    have := pow_mul_lt a.dd b.dd
    rw [Nat.pow_succ]; omega
theorem FrB.mul {p q : Rat} {n m : Nat} (a : FrB p n) (b : FrB q m) : FrB (p * q) (n + m) := by
  rw [← fr_mul]
  refine divInt_frB mul_den_ne ?_ ?_
  · rw [Int.natAbs_mul]; exact pow_mul_lt a.nn b.nn
  · rw [Int.natAbs_mul, Int.natAbs_natCast, Int.natAbs_natCast]; exact pow_mul_lt a.dd b.dd
theorem FrB.div {p q : Rat} {n m : Nat} (a : FrB p n) (b : FrB q m) (h : q ≠ 0) : FrB (p / q) (n + m) := by
  rw [← fr_div]
  have hn : q.num ≠ 0 := fun z => h (Rat.num_eq_zero.mp z)
  refine divInt_frB (Int.mul_ne_zero den_ne hn) ?_ ?_
  · rw [Int.natAbs_mul, Int.natAbs_natCast]; exact pow_mul_lt a.nn b.dd
  · rw [Int.natAbs_mul, Int.natAbs_natCast]; exact pow_mul_lt a.dd b.nn
/-- t // part, b // part: lowest terms -/
theorem fr_low {t b : Int} (hb : b ≠ 0) : t.fdiv (if b < 0 then -(Int.gcd t b : Int) else (Int.gcd t b : Int)) = (Rat.divInt t b).num ∧ b.fdiv (if b < 0 then -(Int.gcd t b : Int) else (Int.gcd t b : Int)) = ((Rat.divInt t b).den : Int) := by
  have g0 : 0 < Int.gcd t b := Int.gcd_pos_of_ne_zero_right t hb
  rw [Rat.num_divInt, Rat.den_divInt, if_neg hb, Int.gcd_comm b t]
  obtain ⟨k, hk⟩ : (Int.gcd t b : Int) ∣ t := Int.gcd_dvd_left ..
  obtain ⟨l, hl⟩ : (Int.gcd t b : Int) ∣ b := Int.gcd_dvd_right ..
  generalize hg : Int.gcd t b = g at *
  have gi : (g : Int) ≠ 0 := by omega
  by_cases c : b < 0
  · rw [if_pos c, Int.sign_eq_neg_one_of_neg c]
    have l0 : l < 0 := by
      rcases Int.lt_or_le l 0 with z | z
      · exact z
      · have := Int.mul_nonneg (Int.natCast_nonneg g) z; omega
    refine ⟨?_, ?_⟩
    · rw [hk, show (g : Int) * k = (-(g : Int)) * (-k) by rw [Int.neg_mul_neg], Int.mul_fdiv_cancel_left _ (by omega), Int.neg_mul_neg, show (-1 : Int) * (↑g * k) = ↑g * (-k) by rw [Int.neg_one_mul, Int.mul_neg], Int.mul_ediv_cancel_left _ gi]
    · have e : b.natAbs = g * l.natAbs := by rw [hl, Int.natAbs_mul, Int.natAbs_natCast]
      rw [e, Nat.mul_div_cancel_left _ g0, hl, show (g : Int) * l = (-(g : Int)) * (-l) by rw [Int.neg_mul_neg], Int.mul_fdiv_cancel_left _ (by omega)]
      omega
  · rw [if_neg c, Int.sign_eq_one_of_pos (by omega)]
    have l0 : 0 < l := by
      rcases Int.lt_or_le 0 l with z | z
      · exact z
      · have := Int.mul_nonneg (Int.natCast_nonneg g) (show 0 ≤ -l by omega)
        rw [Int.mul_neg] at this
        omega
    refine ⟨?_, ?_⟩
    · rw [hk, Int.mul_fdiv_cancel_left _ gi, Int.one_mul, Int.mul_ediv_cancel_left _ gi]
    · have e : b.natAbs = g * l.natAbs := by rw [hl, Int.natAbs_mul, Int.natAbs_natCast]
      rw [e, Nat.mul_div_cancel_left _ g0, hl, Int.mul_fdiv_cancel_left _ gi]
      omega
theorem div_f {t j : Int} (h : j ≠ 0) (hz : j.natAbs < 2 ^ 8000) : divB (.dat (.int t)) (.dat (.int j)) = .ok (.dat (.int (t.fdiv j))) := by
  have hl : j.natAbs.log2 < 8000 := (Nat.log2_lt (by omega)).mpr hz
  unfold divB int2
  dsimp only
  rw [if_pos (by rw [Bool.and_eq_true, decide_eq_true_eq, decide_eq_true_eq]; exact ⟨h, by omega⟩)]
theorem gcd_small {t b : Int} (hb : b ≠ 0) (hz : b.natAbs < 2 ^ 8000) : (if b < 0 then -(Int.gcd t b : Int) else (Int.gcd t b : Int)) ≠ 0 ∧ (if b < 0 then -(Int.gcd t b : Int) else (Int.gcd t b : Int)).natAbs < 2 ^ 8000 := by
  have g0 : 0 < Int.gcd t b := Int.gcd_pos_of_ne_zero_right t hb
  have g1 : Int.gcd t b ≤ b.natAbs := Nat.le_of_dvd (by omega) (Nat.gcd_dvd_right _ _)
  split
  · rw [Int.natAbs_neg, Int.natAbs_natCast]; exact ⟨by omega, Nat.lt_of_le_of_lt g1 hz⟩
  · rw [Int.natAbs_natCast]; exact ⟨by omega, Nat.lt_of_le_of_lt g1 hz⟩
/-- no fraction but by lowest terms -/
theorem fr_is {a b : Int} (h : 0 < b) (hg : Int.gcd a b = 1) : D.tup [.int a, .int b] = frD (Rat.divInt a b) := by
  have := fr_low (t := a) (b := b) (by omega)
  rw [if_neg (by omega), hg] at this
  unfold frD
  rw [← this.1, ← this.2, Int.natCast_one, Int.fdiv_one, Int.fdiv_one]
theorem fr_gcd (q : Rat) : Int.gcd q.num q.den = 1 := q.reduced
end Fn
namespace Fn
open PySem PySem.Spec PyProof.Rows L2
/-! ### the line of a cut -/
def pB (cut : List Str) (p : Plc) : Int := if p.n ∈ cut then p.c else p.a
def pL (cut : List Str) (p : Plc) : Int := if p.n ∈ cut then -p.d else p.b
def tieB (cut : List Str) (t : Tie) : Int := if t.1.1 ∈ cut ∧ t.1.2 ∉ cut then t.2 else 0
def lnB (cut : List Str) (ps : List Plc) (ts : List Tie) : Int := (ps.map (pB cut)).sum + (ts.map (tieB cut)).sum
def lnL (cut : List Str) (ps : List Plc) : Int := (ps.map (pL cut)).sum
theorem foldl_sum {α : Type} (f : α → Int) : ∀ (l : List α) (s : Int), l.foldl (fun s a => s + f a) s = s + (l.map f).sum
  | [], s => by simp
  | a :: l, s => by rw [List.foldl_cons, foldl_sum f l, List.map_cons, List.sum_cons]; omega
theorem sum_le {α : Type} (f : α → Int) (m : Int) : ∀ {l : List α}, (∀ a ∈ l, f a ≤ m) → (l.map f).sum ≤ l.length * m
  | [], _ => by simp
  | a :: l, h => by
    have h1 := h a List.mem_cons_self
    have h2 := sum_le f m (l := l) fun b hb => h b (List.mem_cons_of_mem _ hb)
    rw [List.map_cons, List.sum_cons, List.length_cons, Int.natCast_add, Int.add_mul]
    omega
theorem le_sum {α : Type} (f : α → Int) (m : Int) : ∀ {l : List α}, (∀ a ∈ l, m ≤ f a) → l.length * m ≤ (l.map f).sum
  | [], _ => by simp
  | a :: l, h => by
    have h1 := h a List.mem_cons_self
    have h2 := le_sum f m (l := l) fun b hb => h b (List.mem_cons_of_mem _ hb)
    rw [List.map_cons, List.sum_cons, List.length_cons, Int.natCast_add, Int.add_mul]
    omega
theorem PlOk.c0' {top : Int} {p : Plc} (h : PlOk top p) (ht : 1 ≤ top) : 0 ≤ p.c := Int.le_trans (Int.mul_nonneg h.d0 (by omega)) h.c0
theorem lnB_bd {top : Int} {ps : List Plc} {ts : List Tie} (h : WebOk top ps ts) (cut : List Str) : 0 ≤ lnB cut ps ts ∧ lnB cut ps ts ≤ 24000 := by
  have b1 : ∀ p ∈ ps, 0 ≤ pB cut p := fun p hp => by
    have := h.pl p hp
    unfold pB; split
    · exact this.c0' h.t1
    · exact this.a0
  have b2 : ∀ p ∈ ps, pB cut p ≤ 999 := fun p hp => by
    have := h.pl p hp
    unfold pB; split
    · exact this.c1
    · have := this.a1; omega
  have c1 : ∀ t ∈ ts, 0 ≤ tieB cut t := fun t ht => by
    have := (h.ti t ht).lo
    unfold tieB; split <;> omega
  have c2 : ∀ t ∈ ts, tieB cut t ≤ 999 := fun t ht => by
    have := (h.ti t ht).hi
    unfold tieB; split <;> omega
  have e1 := le_sum _ 0 b1
  have e2 := sum_le _ 999 b2
  have e3 := le_sum _ 0 c1
  have e4 := sum_le _ 999 c2
  have := h.le
  have := h.few
  unfold lnB
  omega
theorem lnL_bd {top : Int} {ps : List Plc} {ts : List Tie} (h : WebOk top ps ts) (cut : List Str) : -800 ≤ lnL cut ps ∧ lnL cut ps ≤ 800 := by
  have b1 : ∀ p ∈ ps, -99 ≤ pL cut p := fun p hp => by
    have := h.pl p hp
    have := this.d1
    have := (h.pl p hp).b0
    unfold pL; split <;> omega
  have b2 : ∀ p ∈ ps, pL cut p ≤ 99 := fun p hp => by
    have := h.pl p hp
    have := this.d0
    have := (h.pl p hp).b1
    unfold pL; split <;> omega
  have e1 := le_sum _ (-99) b1
  have e2 := sum_le _ 99 b2
  have := h.le
  unfold lnL
  omega
/-- the worth of a cut at a price -/
def wth (cut : List Str) (ps : List Plc) (ts : List Tie) (q : Rat) : Rat := (lnB cut ps ts : Rat) + (lnL cut ps : Rat) * q
theorem int_frB {i : Int} {n : Nat} (h0 : 0 < n) (h1 : -(2 ^ n) < i) (h2 : i < 2 ^ n) : FrB (i : Rat) n := by
  cases n with
  | zero => omega
  | succ n => exact frB_int (by have := (isz_of h1 h2).h; exact this)
theorem wth_frB {top : Int} {ps : List Plc} {ts : List Tie} (h : WebOk top ps ts) (cut : List Str) {q : Rat} {n : Nat} (hq : FrB q n) : FrB (wth cut ps ts q) (n + 26) := by
  have b1 := lnB_bd h cut
  have b2 := lnL_bd h cut
  have f1 : FrB (lnB cut ps ts : Rat) 15 := int_frB (by decide) (by omega) (by omega)
  have f2 : FrB (lnL cut ps : Rat) 10 := int_frB (by decide) (by omega) (by omega)
  exact (f1.add (f2.mul hq)).up (by omega)
end Fn
namespace Fn
open PySem PySem.Spec PyProof.Rows L2
/-! ### a thing beside itself; things of whole numbers and texts -/
theorem drop_any {b : B} {ρ : Env} : dropS b ρ = .nx ρ := (rfl)
theorem eq_self_ {a : D} {n : Nat} (h : Shp a n) (hn : n ≤ 64) : eqB (.dat a) (.dat a) = .ok (.dat (.bl true)) := by
  rw [eq_shp h h hn hn, PySem.SeqAt.eqv_refl _ h.lay]
theorem ne_self_ {a : D} {n : Nat} (h : Shp a n) (hn : n ≤ 64) : neB (.dat a) (.dat a) = .ok (.dat (.bl false)) := by
  rw [ne_shp h h hn hn, PySem.SeqAt.eqv_refl _ h.lay]
  rfl
mutual
/-- no truths, no dicts: equal is the same -/
def pur : D → Bool
  | .non => true
  | .int _ => true
  | .str _ => true
  | .tup ds => purs ds
  | .lst ds => purs ds
  | _ => false
def purs : List D → Bool
  | [] => true
  | d :: ds => pur d && purs ds
end
mutual
theorem eqv_pur : ∀ {a b : D}, pur a = true → pur b = true → (PyData.eqv (toPy a) (toPy b) = true ↔ a = b)
  | .non, b, _, hb => by cases b <;> simp_all [pur, toPy, PyData.eqv]
  | .int i, b, _, hb => by cases b <;> simp_all [pur, toPy, PyData.eqv]
  | .str x, b, _, hb => by cases b <;> simp_all [pur, toPy, PyData.eqv]
  | .tup ds, b, ha, hb => by
    cases b with
    | tup es =>
      have := eqvs_pur (as := ds) (bs := es) (by simpa [pur] using ha) (by simpa [pur] using hb)
      simp only [toPy, PyData.eqv, D.tup.injEq]
      exact this
    | _ => simp_all [pur, toPy, PyData.eqv]
  | .lst ds, b, ha, hb => by
    cases b with
    | lst es =>
      have := eqvs_pur (as := ds) (bs := es) (by simpa [pur] using ha) (by simpa [pur] using hb)
      simp only [toPy, PyData.eqv, D.lst.injEq]
      exact this
    | _ => simp_all [pur, toPy, PyData.eqv]
theorem eqvs_pur : ∀ {as bs : List D}, purs as = true → purs bs = true → (PyData.eqvAll (toPys as) (toPys bs) = true ↔ as = bs)
  | [], [], _, _ => by simp [toPys, PyData.eqvAll]
  | [], b :: bs, _, _ => by simp [toPys, PyData.eqvAll]
  | a :: as, [], _, _ => by simp [toPys, PyData.eqvAll]
  | a :: as, b :: bs, ha, hb => by
    simp only [purs, Bool.and_eq_true] at ha hb
    have h1 := eqv_pur ha.1 hb.1
    have h2 := eqvs_pur ha.2 hb.2
    simp only [toPys, PyData.eqvAll, Bool.and_eq_true, List.cons.injEq, h1, h2]
end
open Classical in
theorem eq_pur {a b : D} {n m : Nat} (ha : Shp a n) (hb : Shp b m) (hn : n ≤ 64) (hm : m ≤ 64) (pa : pur a = true) (pb : pur b = true) : eqB (.dat a) (.dat b) = .ok (.dat (.bl (decide (a = b)))) := by
  rw [eq_shp ha hb hn hm]
  congr 3
  rw [Bool.eq_iff_iff, eqv_pur pa pb, decide_eq_true_eq]
theorem ne_pur_ne {a b : D} {n m : Nat} (ha : Shp a n) (hb : Shp b m) (hn : n ≤ 64) (hm : m ≤ 64) (pa : pur a = true) (pb : pur b = true) (h : a ≠ b) : neB (.dat a) (.dat b) = .ok (.dat (.bl true)) := by
  rw [ne_shp ha hb hn hm]
  have : PyData.eqv (toPy a) (toPy b) = false := by
    rw [← Bool.not_eq_true, eqv_pur pa pb]; exact h
  rw [this]
  rfl
theorem shp_fr (q : Rat) : Shp (frD q) 1 := shp_tup (all_cons_ (shp_int _) (all_cons_ (shp_int _) all_nil_))
theorem pur_fr (q : Rat) : pur (frD q) = true := rfl
/-! ### fractions between bounds -/
theorem divInt_nn {a b : Int} (h : 0 ≤ a) (hb : 0 < b) : 0 ≤ Rat.divInt a b := Rat.divInt_nonneg h (by omega)
theorem divInt_le {a b t : Int} (h : a ≤ t * b) (hb : 0 < b) : Rat.divInt a b ≤ (t : Rat) := by
  have hb' : (0 : Rat) < (b : Rat) := Rat.intCast_lt_intCast.mpr hb
  refine Rat.le_of_mul_le_mul_right ?_ hb'
  rw [Rat.divInt_eq_div, Rat.div_mul_cancel (Rat.ne_of_gt hb'), ← Rat.intCast_mul]
  exact Rat.intCast_le_intCast.mpr h
theorem divInt_gt {a b t : Int} (h : t * b < a) (hb : 0 < b) : (t : Rat) < Rat.divInt a b := by
  have hb' : (0 : Rat) < (b : Rat) := Rat.intCast_lt_intCast.mpr hb
  rw [← Rat.not_le]
  intro z
  have := Rat.mul_le_mul_of_nonneg_right z (Rat.le_of_lt hb')
  rw [Rat.divInt_eq_div, Rat.div_mul_cancel (Rat.ne_of_gt hb'), ← Rat.intCast_mul, Rat.intCast_le_intCast] at this
  omega
end Fn
namespace Fn
open PySem PySem.Spec PyProof.Rows L2
/-! ### the cuts by bits are cuts -/
theorem ris_strict : ∀ {xs : List Str}, Strict xs → risL xs = true
  | [], _ => rfl
  | [x], _ => rfl
  | x :: y :: r, h => by
    rw [risL, decide_eq_true ((List.pairwise_cons.mp h).1 y List.mem_cons_self), Bool.true_and]
    exact ris_strict (List.pairwise_cons.mp h).2
theorem bits_strict {ns : List Str} (h : Strict ns) (m : Nat) : Strict (bitsOf ns m) := by
  unfold bitsOf
  rw [Strict, List.pairwise_map]
  have h1 : ((List.range ns.length).filter fun k => decide (m / 2 ^ k % 2 = 1)).Pairwise (· < ·) := List.Pairwise.sublist List.filter_sublist List.pairwise_lt_range
  have h2 : ∀ k ∈ ((List.range ns.length).filter fun k => decide (m / 2 ^ k % 2 = 1)), k < ns.length := fun k hk => List.mem_range.mp (List.mem_filter.mp hk).1
  refine h1.imp_of_mem fun {a b} ha hb hab => ?_
  have la := h2 a ha
  have lb := h2 b hb
  rw [List.getD_eq_getElem?_getD, List.getElem?_eq_getElem la, List.getD_eq_getElem?_getD, List.getElem?_eq_getElem lb]
  exact List.pairwise_iff_getElem.mp h a b la lb hab
theorem bits_cut {ns : List Str} (h : Strict ns) (m : Nat) : isCutB ns (.tup (txs (bitsOf ns m))) = true := by
  show ((txs (bitsOf ns m)).all D.isS && ((txs (bitsOf ns m)).all (inD ns) && risB (txs (bitsOf ns m)))) = true
  rw [isS_txs, inD_txs, risB_txs, ris_strict (bits_strict h m), Bool.and_true, Bool.true_and, List.all_eq_true]
  intro x hx
  exact decide_eq_true (bits_mem x hx)
theorem bits_len {ns : List Str} {m : Nat} : (bitsOf ns m).length ≤ ns.length := by
  unfold bitsOf
  rw [List.length_map]
  have := List.length_filter_le (fun k => decide (m / 2 ^ k % 2 = 1)) (List.range ns.length)
  rwa [List.length_range] at this
theorem bits_fit {ns : List Str} (ly : ∀ x ∈ ns, isNm x) (hl : ns.length ≤ 8) (m : Nat) : fit 1 (.tup (txs (bitsOf ns m))) = true := by
  have := bits_len (ns := ns) (m := m)
  exact fit_t (by rw [List.length_map]; omega) (all_map_ fun x hx => fit_s (isNm_ok (ly x (bits_mem x hx))) (by have := (ly x (bits_mem x hx)).2.1; omega))
/-! ### slices of the script and of lists -/
theorem cut_map_ {α β : Type} {l : List α} {lo hi : Option Int} (f : α → β) : cutL (l.map f) lo hi = (cutL l lo hi).map f := by
  unfold cutL
  rw [List.length_map, List.map_take, List.map_drop]
theorem cut_len_ {α : Type} {l : List α} {lo hi : Option Int} : (cutL l lo hi).length ≤ l.length := by
  unfold cutL
  rw [List.length_take, List.length_drop]
  omega
theorem slc_scr {sc : List Int} {lo hi : Option Int} : sliceB (.scr sc) lo hi = .ok (.own (.l ((cutL sc lo hi).map .int))) := by
  show Res.ok (B.own (.l (cutL (sc.map D.int) lo hi))) = _
  rw [cut_map_]
end Fn
namespace Fn
open PySem PySem.Spec PyProof.Rows L2
/-! ### isinstance(e, (C, D, ..)) of an error -/
def rIsXT (X : Cx) : List V → Hp → VK → Prop := fun xs H Q => ∃ (p : Addr × Obj) (D : Addr), p ∈ X.pn ∧ ExcC X.K D ∧ Zc (.ref D) none p.2 ∧ (∃ vs, p.2.data = .fields vs) ∧ rIsPT X.K D p.1 xs H Q
theorem call_isXT {X : Cx} : CallR X (.builtin "isinstance") (rIsXT X) := fun pins s σ H xs us Q I r ⟨p, D, h1, h2, h3, h4, h5⟩ => call_isPT h1 h2 h3 h4 pins s σ H xs us Q I r h5
def errT (rs cs : List Nat) (b : B) : Res B := match b with
  | .err c => if c ∈ rs then .ok (.dat (.bl (cs.any (subE c)))) else .bad
  | _ => .bad
def exA (sc : Scope) (bt : Bt) : List Expr → List Nat → Bool
  | [], [] => true
  | .Name y _ :: es, c :: cs => decide (bt.ex[c]? = some y) && dOk sc y && exA sc bt es cs
  | _, _ => false
section
variable {X : Cx} {g : G} {cls : Nat → Value} {k : Nat} {tab : List En} {N : List Str} {sc : Scope} {bt : Bt} {a : Expr} {pos pos2 p p2 p3 : Pos} {fa : Env → Res B} {x y m : Str} {j : Nat}
theorem CT.exA (C : CT X g cls k tab N sc bt) : ∀ {es : List Expr} {cs : List Nat}, Fn.exA sc bt es cs = true → ∃ (vs : List V) (us : List Value), PA X es (fun _ H Q => Q vs H) ∧ Paired ClsV vs us ∧ vs.length = es.length ∧
    ∀ c ∈ bt.rs, ∀ D, g.fa (1000 + c) = some D → PySem.W.kitAny X.K (.ref D) us = some (cs.any (subE c))
  | [], [], _ => ⟨[], [], ⟨fun p pins s σ H Q I w => pa_nil.run p pins s σ H Q I w⟩, .nil, rfl, fun _ _ _ _ => rfl⟩
  | .Name y q :: es, c' :: cs, h => by
    unfold Fn.exA at h
    rw [Bool.and_eq_true, Bool.and_eq_true, decide_eq_true_eq] at h
    obtain ⟨⟨h1, h2⟩, h3⟩ := h
    obtain ⟨vs, us, k1, k2, k3, k4⟩ := C.exA h3
    obtain ⟨D', hm, hf, _, hs1, hs2, hs3⟩ := C.ex.at_ c' y h1
    have hl : c' < bt.ex.length := (List.getElem?_eq_some_iff.mp h1).1
    unfold dOk at h2
    rw [Bool.and_eq_true, decide_eq_true_eq] at h2
    refine ⟨.ref D' :: vs, .ref D' :: us, PA.imp (pa_cons (pe_glob (v := .ref D') (C.gl h2.1) hm rfl (nmOk_ok h2.2).1) k1) fun _ _ _ w => w, .cons (.own D') k2, by rw [List.length_cons, k3]; rfl, fun c hc D hD => ?_⟩
    have e1 := C.ex.sub c hc c' D D' hl hD hf
    have e2 : PySem.W.kitOne X.K (.ref D) (.ref D') = some (subE c c') := kit_of_sub hs2 hs3 e1 fun e => by
      subst e
      obtain ⟨D2, f1, _, f3⟩ := C.ex.rs c hc
      obtain rfl : D2 = D := Option.some.inj (f1.symm.trans hD)
      exact Option.some.inj (e1.symm.trans f3.sf)
    show (match PySem.W.kitOne X.K (.ref D) (.ref D') with | some true => some true | some false => PySem.W.kitAny X.K (.ref D) us | none => none) = _
    rw [e2, List.any_cons]
    cases subE c c' with
    | true => rfl
    | false => exact k4 c hc D hD
  | [], _ :: _, h => by cases h
  | .Name _ _ :: _, [], h => by cases h
theorem CT.isET (C : CT X g cls k tab N sc bt) (cs : List Nat) {es : List Expr} {kk : Nat} (ha : PE X a (tF g fa)) (h : Fn.exA sc bt es cs = true) (hz : decide (es.length ≤ 1000) = true) (hi : gOk sc bt "isinstance" = true) (hn : nst a = true) :
    PE X (.Call (.Name "isinstance" p) [a, .Tuple es kk p2] [] pos) (tF g (one1 (errT bt.rs cs) fa)) := by
  obtain ⟨vs, us, k1, k2, k3, k4⟩ := C.exA h
  have h2 : PA X [a, .Tuple es kk p2] (tCons (tF g fa) (tCons (tTup fun _ H Q => Q vs H) tNil)) := pa_cons ha (pa_cons (pe_tup k1) pa_nil) (star_cons hn)
  refine PE.imp (pe_callB call_isXT (C.bl hi).1 (C.bl hi).2 PyProof.Rows.boot_isinstance h2 (by decide) (by decide) (star_cons hn) (by rfl)) fun σ H Q ⟨F, ρ, s, q⟩ => ?_
  unfold one1 at q
  show tF g fa σ H _
  refine run1 s (fun bx v F1 H1 e1 g1 r1 => ?_) (fun c e => ?_) (fun e => ?_)
  · rw [e1, Res.ok_bind] at q
    unfold errT at q
    split at q
    · rename_i c hb
      split at q
      · rename_i hr
        rw [hb] at r1
        obtain ⟨pp, D, j1, rfl, j3, j4, j5, j6⟩ := err_at C r1 hr
        refine ⟨by rw [k3]; exact le_sz (of_decide_eq_true hz), fun t ht => ⟨pp, D, j1, j4.ec, j5, j6, t, vs, us, _, rfl, upd_same, k2, k4 c hr D j3, ?_⟩⟩
        exact q (.bl _) F1 _ (g1.trans (Grow.newH (s.grow g1).sub ht)) (.bl _)
      · exact q.elim
    · exact q.elim
  · rw [e, Res.exc_bind] at q
    exact q
  · rw [e] at q
    exact q
end
section
variable {rs cs : List Nat} {c : Nat}
theorem errT_t (h1 : c ∈ rs) (h2 : cs.any (subE c) = true) : errT rs cs (.err c) = .ok (.dat (.bl true)) := by
  show (if c ∈ rs then _ else _) = _
  rw [if_pos h1, h2]
theorem errT_f (h1 : c ∈ rs) (h2 : cs.any (subE c) = false) : errT rs cs (.err c) = .ok (.dat (.bl false)) := by
  show (if c ∈ rs then _ else _) = _
  rw [if_pos h1, h2]
end
/-! ### list(range(n)) -/
def lrgB (b : B) : Res B := match b with
  | .dat (.int n) => if 0 ≤ n ∧ n ≤ 1000 then .ok (.own (.l ((List.range n.toNat).map fun (i : Nat) => D.int i))) else .bad
  | _ => .bad
theorem lrg_int {n : Int} (h0 : 0 ≤ n) (h1 : n ≤ 1000) : lrgB (.dat (.int n)) = .ok (.own (.l ((List.range n.toNat).map fun (i : Nat) => D.int i))) := if_pos ⟨h0, h1⟩
section
variable {X : Cx} {g : G} {cls : Nat → Value} {k : Nat} {tab : List En} {N : List Str} {sc : Scope} {bt : Bt} {a : Expr} {pos p p2 p3 : Pos} {fa : Env → Res B}
theorem CT.lrg (C : CT X g cls k tab N sc bt) (ha : PE X a (tF g fa)) (hl : gOk sc bt "list" = true) (hr : gOk sc bt "range" = true) (hn : nst a = true) (hh : bt.hot = false := by rfl) : PE X (.Call (.Name "list" p) [.Call (.Name "range" p2) [a] [] p3] [] pos) (tF g (one1 lrgB fa)) := by
  refine PE.imp (pe_listRg (C.calm hh) (C.bl hl).1 (C.bl hl).2 (prg_1 (C.bl hr).1 (C.bl hr).2 ha (star_cons hn))) fun σ H Q h => ?_
  refine runU (f := lrgB) (R := fun x H1 Q => ∃ n, x = .int n ∧ RgOk 0 n ∧ ∀ q, H1 q = none → Q (.ref q) (upd H1 q (.lst (rgV 0 n)))) (fun F H v b Q s r p => ?_) h
  unfold lrgB at p
  split at p
  · cases r
    split at p
    · rename_i n hz
      refine ⟨n, rfl, RgOk.of_le (by decide) (by omega) (by decide) hz.1, fun q hq => p.newL s ?_ q hq⟩
      have e1 : rgV 0 n = ((List.range n.toNat).map fun (i : Nat) => (i : Int)).map V.int := by
        unfold rgV
        rw [List.map_map, Int.sub_zero]
        refine List.map_congr_left fun i _ => ?_
        show V.int (0 + (i : Int)) = V.int (i : Int)
        rw [Int.zero_add]
      have e2 : ((List.range n.toNat).map fun (i : Nat) => D.int i) = ((List.range n.toNat).map fun (i : Nat) => (i : Int)).map D.int := by rw [List.map_map]; rfl
      rw [e1, e2]
      exact RpAll.of_ints _
    · exact p.elim
  · exact p.elim
end
end Fn
namespace Fn
open PySem PySem.Spec PyProof.Rows L2
/-! ### a chain's ties, sorted -/
theorem leD_pair_of {a b : Tie} (h : leD (tiD a) (tiD b) = true) : leD (pD a.1) (pD b.1) = true := by
  have e1 : leD (tiD a) (tiD b) = !PySem.W.dataLt (.tuple [.str b.1.1, .str b.1.2, .int b.2]) (.tuple [.str a.1.1, .str a.1.2, .int a.2]) := rfl
  have e2 : leD (pD a.1) (pD b.1) = !PySem.W.dataLt (.tuple [.str b.1.1, .str b.1.2]) (.tuple [.str a.1.1, .str a.1.2]) := rfl
  have al : ∀ x y : Str, PySem.W.alike (.str x) (.str y) = true := fun _ _ => by simp [PySem.W.alike]
  rw [e1, PySem.W.dataLt_tuple, PySem.W.dataLt_cons (al _ _), PySem.W.dataLt_cons (al _ _)] at h
  rw [e2, PySem.W.dataLt_tuple, PySem.W.dataLt_cons (al _ _), PySem.W.dataLt_cons (al _ _)]
  have e3 : PyProof.Rows.lexLt PyProof.Rows.itemOrd (PySem.W.keyToksAll []) (PySem.W.keyToksAll []) = false := PyProof.Rows.lex_irrefl _
  rw [e3]
  split
  · rename_i c
    rw [if_pos c] at h
    split
    · rfl
    · rename_i c2
      rw [if_neg c2] at h
      exact h
  · rename_i c
    rw [if_neg c] at h
    exact h
theorem sortTies {ns : List Str} {n : Nat} (hN : Nms ns n) (L : List Tie) (hL : ∀ t ∈ L, Tgood ns t) (hd : (L.map (·.1)).Nodup) : ∃ ts : List Tie, ts.Perm L ∧ ((ts.map (·.1)).map pD).Pairwise (fun a b => leD a b = true) ∧ sortG [.dat (.lst (L.map tiD))] = .ok (.own (.l (ts.map tiD))) := by
  have so : sortOk2 (L.map tiD) = true := by
    unfold sortOk2
    rw [toPys_map, Bool.and_eq_true, Bool.and_eq_true, Bool.or_eq_true, List.map_map]
    refine ⟨?_, ?_, .inl ?_⟩
    · rw [List.all_map, List.all_eq_true]
      intro t ht
      exact (shp_tup (ds := [.str t.1.1, .str t.1.2, .int t.2]) (all_cons_ (shp_str (hN.lay _ (hL t ht).l)) (all_cons_ (shp_str (hN.lay _ (hL t ht).r)) (all_cons_ (shp_int _) all_nil_)))).shaped (by decide)
    · rw [List.all_map, List.all_eq_true]
      intro t _
      show ((List.map _ _).all _) = true
      rw [List.all_map, List.all_eq_true]
      intro u _
      simp [toPy, toPys, PySem.W.alike, PySem.W.alikeAll]
    · rw [List.all_map, List.all_eq_true]
      exact fun _ _ => rfl
  have pm := List.mergeSort_perm (L.map tiD) leD
  let un : D → Tie := fun d => match d with
    | .tup [.str a, .str b, .int v] => ((a, b), v)
    | _ => ((Str.empty, Str.empty), 0)
  have e1 : ((L.map tiD).mergeSort leD).map (tiD ∘ un) = (L.map tiD).mergeSort leD := by
    have : ∀ d ∈ (L.map tiD).mergeSort leD, (tiD ∘ un) d = d := fun d hd => by
      obtain ⟨p, _, rfl⟩ := List.mem_map.mp (List.mem_mergeSort.mp hd)
      rfl
    rw [List.map_congr_left this, List.map_id']
  refine ⟨((L.map tiD).mergeSort leD).map un, ?_, ?_, ?_⟩
  · have := pm.map un
    rw [List.map_map, show (un ∘ tiD) = id from rfl, List.map_id] at this
    exact this
  · have := sortD_pair (L.map tiD)
    rw [← e1, ← List.map_map] at this
    have := List.pairwise_map.mp this
    rw [List.map_map, List.pairwise_map]
    exact this.imp fun {a b} h => leD_pair_of h
  · rw [sort_l so, List.map_map, e1]
theorem two_at {a b : D} {P : Bool} : idxB (.dat (.lst [a, b])) (.dat (.int (if P = true then 1 else 0))) = .ok (.dat (if P = true then b else a)) := by
  cases P
  · exact idx_lst rfl
  · exact idx_lst rfl
/-- one after the other -/
def chT (L : List Str) (x : Int) (k : Nat) : Tie := ((L.getD k Str.empty, L.getD (k + 1) Str.empty), 1 + (x + 3 * (k : Int)) % 20)
theorem chT_good {ns L : List Str} (hp : L.Perm ns) (hd : ns.Nodup) (x : Int) : (∀ t ∈ (List.range (ns.length - 1)).map (chT L x), Tgood ns t) ∧ (((List.range (ns.length - 1)).map (chT L x)).map (·.1)).Nodup := by
  have hl := hp.length_eq
  have hD : L.Nodup := hp.nodup_iff.mpr hd
  have gi : ∀ i j, i < L.length → j < L.length → L.getD i Str.empty = L.getD j Str.empty → i = j := fun i j hi hj e => by
    rw [List.getD_eq_getElem?_getD, List.getElem?_eq_getElem hi, List.getD_eq_getElem?_getD, List.getElem?_eq_getElem hj] at e
    rcases Nat.lt_trichotomy i j with h | h | h
    · exact absurd e (List.pairwise_iff_getElem.mp hD i j hi hj h)
    · exact h
    · exact absurd e.symm (List.pairwise_iff_getElem.mp hD j i hj hi h)
  have gm : ∀ k, k < L.length → L.getD k Str.empty ∈ ns := fun k hk => by
    rw [List.getD_eq_getElem?_getD, List.getElem?_eq_getElem hk]
    exact hp.mem_iff.mp (List.getElem_mem _)
  constructor
  · intro t ht
    obtain ⟨k, hk, rfl⟩ := List.mem_map.mp ht
    have hk := List.mem_range.mp hk
    refine ⟨gm k (by omega), gm (k + 1) (by omega), fun e => ?_, by show 1 ≤ 1 + _; have := Int.emod_nonneg (x + 3 * (k : Int)) (show (20 : Int) ≠ 0 by decide); omega, by show 1 + _ ≤ 999; have := Int.emod_lt_of_pos (x + 3 * (k : Int)) (show (0 : Int) < 20 by decide); omega⟩
    have := gi k (k + 1) (by omega) (by omega) e
    omega
  · rw [List.map_map, List.Nodup, List.pairwise_map]
    refine (List.nodup_range (n := ns.length - 1)).imp_of_mem fun {a b} ha hb hab e => ?_
    have ha := List.mem_range.mp ha
    have hb := List.mem_range.mp hb
    have e1 : L.getD a Str.empty = L.getD b Str.empty := congrArg Prod.fst e
    exact hab (gi a b (by omega) (by omega) e1)
/-- what the spring's and the drain's tie hold at a price -/
def inS (p : Plc) (q : Rat) : Rat := (p.a : Rat) + (p.b : Rat) * q
def ouS (p : Plc) (q : Rat) : Rat := (p.c : Rat) - (p.d : Rat) * q
theorem eq_pur_b {a b : D} {n m : Nat} {x : Bool} (ha : Shp a n) (hb : Shp b m) (hn : n ≤ 64) (hm : m ≤ 64) (pa : pur a = true) (pb : pur b = true) (h : x = true ↔ a = b) : eqB (.dat a) (.dat b) = .ok (.dat (.bl x)) := by
  rw [eq_shp ha hb hn hm]
  congr 3
  rw [Bool.eq_iff_iff, eqv_pur pa pb, h]
theorem ne_pur_b {a b : D} {n m : Nat} {x : Bool} (ha : Shp a n) (hb : Shp b m) (hn : n ≤ 64) (hm : m ≤ 64) (pa : pur a = true) (pb : pur b = true) (h : x = true ↔ a = b) : neB (.dat a) (.dat b) = .ok (.dat (.bl !x)) := by
  rw [ne_shp ha hb hn hm]
  have : PyData.eqv (toPy a) (toPy b) = x := by rw [Bool.eq_iff_iff, eqv_pur pa pb, h]
  rw [this]
end Fn
namespace P
open PySem L2 Fn
def top (i : Nat) : Stmt := PySem.Challenge.pw_cutstairs_k03_prices_and_sizes.main.body.getD i (.Pass ⟨0, 0, 0, 0⟩)
def bt0 : Bt := { bi := ["ValueError", "abs", "all", "bool", "int", "isinstance", "len", "list", "max", "range", "sorted", "tuple"], cs := [("NOUGHT", (.ctup [.int 0, .int 1]))], ex := ["StairError", "NoText", "NoNumber", "NoCut", "NoPrice", "NoStream", "NoName", "NoFall", "NoShare", "NoPart", "NoTop", "NoPlace", "NoTie", "NoUndo", "NoWeb", "NoRow"], rs := [2, 4] }
noncomputable def bt : Bt := { bt0 with hs := [] }
noncomputable def T0 : List En := []
/-! ### law_numbers -/
abbrev S_law_numbers : Stmt := top 34
def N_law_numbers : List Str := ["_law_cell_here", "_law_many", "_law_found", "_law_state", "_law_digits", "_law_k"]
noncomputable def B_law_numbers_1 : Fn.Env → Out := (forget [5] (seqS (thenS (bin2 modB (bin2 addB (bin2 addB (bin2 mulB (varB 3) (bin2 addB (bin2 modB (varB 3) (litI 65521)) (litI 40487))) (bin2 mulB (litI 7) (varB 5))) (litI 5)) (litI 1999999973)) (setL 3)) (seqS (appV 2 (bin2 idxB (callF lstB (consA (varB 3) (consA (bin2 modB (varB 4) (litI 1000000)) nilA))) (callF intF (consA (bin2 gtF (varB 4) (litI 0)) nilA)))) (thenS (bin2 divB (varB 4) (litI 1000000)) (setL 4)))))
noncomputable def B_law_numbers : Fn.Env → Out := (seqS (thenS (callF lstB nilA) (setV 2)) (seqS (thenS (bin2 modB (bin2 mulB (bin2 addB (bin2 modB (varB 0) (litI 1999999973)) (litI 31)) (litI 765432101)) (litI 1999999973)) (setL 3)) (seqS (thenS (litI 0) (setV 4)) (seqS (iteS (orT (tstF (bin2 ltB (varB 0) (litI 0))) (tstF (bin2 geF (varB 0) (bin2 powB (litI 10) (litI 18))))) (thenS (callF absF (consA (varB 0) nilA)) (setV 4)) nxS) (seqS (forget [3, 4, 5] (forV (.one 5) (rgF (consA (varB 1) nilA)) B_law_numbers_1)) (retN 2))))))
noncomputable def E_law_numbers : En := ⟨"_law_numbers", 2, defF 6 B_law_numbers⟩
theorem c_law_numbers {a0 a1 : B} : callE E_law_numbers [a0, a1] = (E_law_numbers.F [toArg a0, toArg a1]).bind retB := rfl
theorem d_law_numbers {a0 a1 : B} (h : [a0, a1].all okArg = true) : E_law_numbers.F [a0, a1] = outR (B_law_numbers [some a0, some a1, none, none, none, none]) := def_rt h rfl
noncomputable def T1 : List En := T0 ++ [E_law_numbers]
theorem sc_law_numbers : FnScope N_law_numbers ["_law_cell_here", "_law_many"] (defScope S_law_numbers) := ⟨rfl, rfl, rfl, by decide +kernel, rfl, by decide +kernel, by decide +kernel⟩
theorem ok_law_numbers {X : Cx} {g : G} {cls : Nat → Value} (C : CS X g cls 0 T0 N_law_numbers (defScope S_law_numbers) bt) : PSs X (defBody S_law_numbers) (tFS g B_law_numbers) :=
  (fs_cons (C.asg 2 (fe_lst fa_nil) (by decide +kernel) rfl) (fs_cons (fs_setL (C.asg 3 (C.ct.mod (C.ct.mul (C.ct.add (C.ct.mod (C.ct.var 0 (by decide +kernel)) fe_int) fe_int) fe_int) fe_int) (by decide +kernel) rfl)) (fs_cons (C.asg 4 fe_int (by decide +kernel) rfl) (fs_cons (fs_if (ft_or (cmpT C.ct.lt (C.ct.var 0 (by decide +kernel)) fe_int rfl) (pw_or1 (cmpT C.ct.ge (C.ct.var 0 (by decide +kernel)) (C.ct.pow fe_int fe_int) rfl))).pt (fs_one (C.asg 4 (C.ct.call C.ct.abs (fa_cons rfl (C.ct.var 0 (by decide +kernel)) fa_nil) (by decide +kernel) (by decide +kernel) rfl) (by decide +kernel) rfl)) fs_nil) (fs_cons (fs_forget [3, 4, 5] (C.fo (C.ct.rg1 (C.ct.var 1 (by decide +kernel)) (by decide +kernel) rfl) (C.g1 5 (by decide +kernel)) (fun _ C => (fs_forgets [5] (fs_cons (fs_setL (C.asg 3 (C.ct.mod (C.ct.add (C.ct.add (C.ct.mul (C.ct.var 3 (by decide +kernel)) (C.ct.add (C.ct.mod (C.ct.var 3 (by decide +kernel)) fe_int) fe_int)) (C.ct.mul fe_int (C.ct.var 5 (by decide +kernel)))) fe_int) fe_int) (by decide +kernel) rfl)) (fs_cons (C.app 2 (C.ct.idx (fe_lst (fa_cons rfl (C.ct.var 3 (by decide +kernel)) (fa_cons rfl (C.ct.mod (C.ct.var 4 (by decide +kernel)) fe_int) fa_nil))) (C.ct.call C.ct.int (fa_cons rfl (cmpE C.ct.gt (C.ct.var 4 (by decide +kernel)) fe_int rfl) fa_nil) (by decide +kernel) (by decide +kernel) rfl) rfl) (by decide +kernel) rfl) (fs_one (fs_setL (C.asg 4 (C.ct.div (C.ct.var 4 (by decide +kernel)) fe_int) (by decide +kernel) rfl))))))) rfl)) (fs_one (C.rn 2 (by decide +kernel))))))))
/-! ### law_cell -/
abbrev S_law_cell : Stmt := top 33
def N_law_cell : List Str := ["_law_script", "_law_k", "_law_state", "_law_cell_here"]
noncomputable def B_law_cell_1 : Fn.Env → Out := (forget [3] (thenS (bin2 modB (bin2 addB (bin2 mulB (varB 2) (litI 69621)) (varB 3)) (litI 2147483647)) (setL 2)))
noncomputable def B_law_cell : Fn.Env → Out := (seqS (iteS (tstF (bin2 ltB (varB 1) (callF lenB (consA (varB 0) nilA)))) (thenS (bin2 idxB (varB 0) (varB 1)) retV) nxS) (seqS (thenS (bin2 modB (bin2 mulB (litI 48271) (bin2 addB (bin2 addB (bin2 mulB (varB 1) (varB 1)) (bin2 mulB (litI 7) (varB 1))) (litI 11))) (litI 2147483647)) (setL 2)) (seqS (forget [3] (forV (.one 3) (itF false (slcV (varB 0) noP (atP (litI 3)))) B_law_cell_1)) (retN 2))))
noncomputable def E_law_cell : En := ⟨"_law_cell", 2, defF 4 B_law_cell⟩
theorem c_law_cell {a0 a1 : B} : callE E_law_cell [a0, a1] = (E_law_cell.F [toArg a0, toArg a1]).bind retB := rfl
theorem d_law_cell {a0 a1 : B} (h : [a0, a1].all okArg = true) : E_law_cell.F [a0, a1] = outR (B_law_cell [some a0, some a1, none, none]) := def_rt h rfl
noncomputable def T2 : List En := T1 ++ [E_law_cell]
theorem sc_law_cell : FnScope N_law_cell ["_law_script", "_law_k"] (defScope S_law_cell) := ⟨rfl, rfl, rfl, by decide +kernel, rfl, by decide +kernel, by decide +kernel⟩
theorem ok_law_cell {X : Cx} {g : G} {cls : Nat → Value} (C : CS X g cls 1 T1 N_law_cell (defScope S_law_cell) bt) : PSs X (defBody S_law_cell) (tFS g B_law_cell) :=
  (fs_cons (fs_if (cmpT C.ct.lt (C.ct.var 1 (by decide +kernel)) (C.ct.call C.ct.len (fa_cons rfl (C.ct.var 0 (by decide +kernel)) fa_nil) (by decide +kernel) (by decide +kernel) rfl) rfl) (fs_one (fs_ret (C.ct.idx (C.ct.var 0 (by decide +kernel)) (C.ct.var 1 (by decide +kernel)) rfl))) fs_nil) (fs_cons (fs_setL (C.asg 2 (C.ct.mod (C.ct.mul fe_int (C.ct.add (C.ct.add (C.ct.mul (C.ct.var 1 (by decide +kernel)) (C.ct.var 1 (by decide +kernel))) (C.ct.mul fe_int (C.ct.var 1 (by decide +kernel)))) fe_int)) fe_int) (by decide +kernel) rfl)) (fs_cons (fs_forget [3] (C.fo (C.ct.it (C.ct.slc (C.ct.var 0 (by decide +kernel)) fo_none (fo_some fe_int))) (C.g1 3 (by decide +kernel)) (fun _ C => (fs_forgets [3] (fs_one (fs_setL (C.asg 2 (C.ct.mod (C.ct.add (C.ct.mul (C.ct.var 2 (by decide +kernel)) fe_int) (C.ct.var 3 (by decide +kernel))) fe_int) (by decide +kernel) rfl))))) rfl)) (fs_one (C.rn 2 (by decide +kernel))))))
/-! ### law_names -/
abbrev S_law_names : Stmt := top 35
def N_law_names : List Str := ["_law_xs", "_law_many", "_law_letters", "_law_found", "_law_k", "_law_name", "_law_middle"]
noncomputable def B_law_names_1 : Fn.Env → Out := (forget [4, 5, 6] (seqS (thenS (bin2 mulB (bin2 idxB (varB 2) (bin2 modB (bin2 addB (bin2 idxB (varB 0) (litI 0)) (bin2 mulB (litI 7) (varB 4))) (litI 26))) (bin2 addB (litI 1) (bin2 modB (bin2 addB (bin2 idxB (varB 0) (litI 2)) (bin2 mulB (litI 3) (varB 4))) (bin2 idxB (callF lstB (consA (litI 1) (consA (litI 5) nilA))) (bin2 modB (bin2 idxB (varB 0) (litI 3)) (litI 2)))))) (setL 5)) (seqS (iteS (tstF (bin2 eqB (bin2 modB (bin2 idxB (varB 0) (litI 1)) (litI 4)) (litI 1))) (thenS (bin2 addB (bin2 idxB (litS "abcdefgh") (varB 4)) (bin2 mulB (bin2 idxB (varB 2) (bin2 modB (bin2 idxB (varB 0) (litI 2)) (litI 26))) (bin2 modB (bin2 idxB (varB 0) (litI 3)) (litI 8)))) (setL 5)) nxS) (seqS (iteS (tstF (bin2 eqB (bin2 modB (bin2 idxB (varB 0) (litI 1)) (litI 4)) (litI 2))) (thenS (bin2 mulB (bin2 idxB (varB 2) (bin2 modB (bin2 idxB (varB 0) (litI 2)) (litI 26))) (bin2 addB (litI 1) (varB 4))) (setL 5)) nxS) (seqS (forget [6] (iteS (tstF (bin2 eqB (bin2 modB (bin2 idxB (varB 0) (litI 1)) (litI 4)) (litI 3))) (seqS (thenS (bin2 idxB (varB 2) (bin2 modB (bin2 addB (bin2 idxB (varB 0) (litI 3)) (bin2 mulB (litI 5) (varB 4))) (litI 26))) (setL 6)) (thenS (bin2 addB (bin2 addB (bin2 idxB (varB 2) (bin2 modB (bin2 idxB (varB 0) (litI 2)) (litI 26))) (varB 6)) (bin2 idxB (varB 2) (bin2 modB (bin2 idxB (varB 0) (litI 0)) (litI 26)))) (setL 5))) nxS)) (appV 3 (varB 5)))))))
noncomputable def B_law_names : Fn.Env → Out := (seqS (thenS (litS "abcdefghijklmnopqrstuvwxyz") (setV 2)) (seqS (thenS (callF lstB nilA) (setV 3)) (seqS (forget [4, 5, 6] (forV (.one 4) (rgF (consA (varB 1) nilA)) B_law_names_1)) (lockS 3 (thenS (callF sortG (consA (varB 3) nilA)) retV)))))
noncomputable def E_law_names : En := ⟨"_law_names", 2, defF 7 B_law_names⟩
theorem c_law_names {a0 a1 : B} : callE E_law_names [a0, a1] = (E_law_names.F [toArg a0, toArg a1]).bind retB := rfl
theorem d_law_names {a0 a1 : B} (h : [a0, a1].all okArg = true) : E_law_names.F [a0, a1] = outR (B_law_names [some a0, some a1, none, none, none, none, none]) := def_rt h rfl
noncomputable def T3 : List En := T2 ++ [E_law_names]
theorem sc_law_names : FnScope N_law_names ["_law_xs", "_law_many"] (defScope S_law_names) := ⟨rfl, rfl, rfl, by decide +kernel, rfl, by decide +kernel, by decide +kernel⟩
theorem ok_law_names {X : Cx} {g : G} {cls : Nat → Value} (C : CS X g cls 2 T2 N_law_names (defScope S_law_names) bt) : PSs X (defBody S_law_names) (tFS g B_law_names) :=
  (fs_cons (C.asg 2 fe_str (by decide +kernel) rfl) (fs_cons (C.asg 3 (fe_lst fa_nil) (by decide +kernel) rfl) (fs_cons (fs_forget [4, 5, 6] (C.fo (C.ct.rg1 (C.ct.var 1 (by decide +kernel)) (by decide +kernel) rfl) (C.g1 4 (by decide +kernel)) (fun _ C => (fs_forgets [4, 5, 6] (fs_cons (fs_setL (C.asg 5 (C.ct.mul (C.ct.idx (C.ct.var 2 (by decide +kernel)) (C.ct.mod (C.ct.add (C.ct.idx (C.ct.var 0 (by decide +kernel)) fe_int rfl) (C.ct.mul fe_int (C.ct.var 4 (by decide +kernel)))) fe_int) rfl) (C.ct.add fe_int (C.ct.mod (C.ct.add (C.ct.idx (C.ct.var 0 (by decide +kernel)) fe_int rfl) (C.ct.mul fe_int (C.ct.var 4 (by decide +kernel)))) (C.ct.idx (fe_lst (fa_cons rfl fe_int (fa_cons rfl fe_int fa_nil))) (C.ct.mod (C.ct.idx (C.ct.var 0 (by decide +kernel)) fe_int rfl) fe_int) rfl)))) (by decide +kernel) rfl)) (fs_cons (fs_if (cmpT C.ct.eq (C.ct.mod (C.ct.idx (C.ct.var 0 (by decide +kernel)) fe_int rfl) fe_int) fe_int rfl) (fs_one (fs_setL (C.asg 5 (C.ct.add (C.ct.idx fe_str (C.ct.var 4 (by decide +kernel)) rfl) (C.ct.mul (C.ct.idx (C.ct.var 2 (by decide +kernel)) (C.ct.mod (C.ct.idx (C.ct.var 0 (by decide +kernel)) fe_int rfl) fe_int) rfl) (C.ct.mod (C.ct.idx (C.ct.var 0 (by decide +kernel)) fe_int rfl) fe_int))) (by decide +kernel) rfl))) fs_nil) (fs_cons (fs_if (cmpT C.ct.eq (C.ct.mod (C.ct.idx (C.ct.var 0 (by decide +kernel)) fe_int rfl) fe_int) fe_int rfl) (fs_one (fs_setL (C.asg 5 (C.ct.mul (C.ct.idx (C.ct.var 2 (by decide +kernel)) (C.ct.mod (C.ct.idx (C.ct.var 0 (by decide +kernel)) fe_int rfl) fe_int) rfl) (C.ct.add fe_int (C.ct.var 4 (by decide +kernel)))) (by decide +kernel) rfl))) fs_nil) (fs_cons (fs_forget [6] (fs_if (cmpT C.ct.eq (C.ct.mod (C.ct.idx (C.ct.var 0 (by decide +kernel)) fe_int rfl) fe_int) fe_int rfl) (fs_cons (fs_setL (C.asg 6 (C.ct.idx (C.ct.var 2 (by decide +kernel)) (C.ct.mod (C.ct.add (C.ct.idx (C.ct.var 0 (by decide +kernel)) fe_int rfl) (C.ct.mul fe_int (C.ct.var 4 (by decide +kernel)))) fe_int) rfl) (by decide +kernel) rfl)) (fs_one (fs_setL (C.asg 5 (C.ct.add (C.ct.add (C.ct.idx (C.ct.var 2 (by decide +kernel)) (C.ct.mod (C.ct.idx (C.ct.var 0 (by decide +kernel)) fe_int rfl) fe_int) rfl) (C.ct.var 6 (by decide +kernel))) (C.ct.idx (C.ct.var 2 (by decide +kernel)) (C.ct.mod (C.ct.idx (C.ct.var 0 (by decide +kernel)) fe_int rfl) fe_int) rfl)) (by decide +kernel) rfl)))) fs_nil)) (fs_one (C.app 3 (C.ct.var 5 (by decide +kernel)) (by decide +kernel) rfl)))))))) rfl)) (fs_lock 3 (fs_one (fs_ret (C.ct.call C.ct.sortG (fa_cons rfl (C.ct.var 3 (by decide +kernel)) fa_nil) (by decide +kernel) (by decide +kernel) rfl)))))))
/-! ### law_chain -/
abbrev S_law_chain : Stmt := top 39
def N_law_chain : List Str := ["_law_xs", "_law_many", "_law_names_here", "_law_top", "_law_places", "_law_k", "_law_b", "_law_order", "_law_ties_here"]
noncomputable def B_law_chain_1 : Fn.Env → Out := (forget [5, 6] (seqS (thenS (bin2 mulB (bin2 addB (litI 1) (bin2 modB (bin2 idxB (varB 0) (litI 5)) (litI 9))) (callF intF (consA (bin2 eqB (varB 5) (litI 0)) nilA))) (setL 6)) (appV 4 (callF tupB (consA (bin2 idxB (varB 2) (varB 5)) (consA (litI 0) (consA (varB 6) (consA (bin2 idxB (callF lstB (consA (litI 0) (consA (bin2 mulB (varB 3) (litI 20)) nilA))) (callF intF (consA (bin2 eqB (varB 5) (bin2 subB (varB 1) (litI 1))) nilA))) (consA (litI 0) nilA)))))))))
noncomputable def B_law_chain_2 : Fn.Env → Out := (forget [5] (appV 8 (callF tupB (consA (bin2 idxB (varB 2) (bin2 idxB (varB 7) (varB 5))) (consA (bin2 idxB (varB 2) (bin2 idxB (varB 7) (bin2 addB (varB 5) (litI 1)))) (consA (bin2 addB (litI 1) (bin2 modB (bin2 addB (bin2 idxB (varB 0) (litI 7)) (bin2 mulB (litI 3) (varB 5))) (litI 20))) nilA))))))
noncomputable def B_law_chain : Fn.Env → Out := (seqS (thenS (ownF E_law_names (consA (varB 0) (consA (varB 1) nilA))) (setL 2)) (seqS (thenS (bin2 addB (litI 1) (bin2 modB (bin2 idxB (varB 0) (litI 4)) (litI 9))) (setL 3)) (seqS (thenS (callF lstB nilA) (setV 4)) (seqS (forget [5, 6] (forV (.one 5) (rgF (consA (varB 1) nilA)) B_law_chain_1)) (lockS 4 (seqS (thenS (one1 lrgB (varB 1)) (setL 7)) (seqS (iteS (tstF (bin2 eqB (bin2 modB (bin2 idxB (varB 0) (litI 6)) (litI 2)) (litI 1))) (thenS (one1 backB (varB 7)) (setL 7)) nxS) (seqS (thenS (callF lstB nilA) (setV 8)) (seqS (forget [5] (forV (.one 5) (rgF (consA (bin2 subB (varB 1) (litI 1)) nilA)) B_law_chain_2)) (lockS 8 (thenS (callF tupB (consA (varB 3) (consA (callF tupF (consA (varB 4) nilA)) (consA (callF tupF (consA (callF sortG (consA (varB 8) nilA)) nilA)) nilA)))) retV)))))))))))
noncomputable def E_law_chain : En := ⟨"_law_chain", 2, defF 9 B_law_chain⟩
theorem c_law_chain {a0 a1 : B} : callE E_law_chain [a0, a1] = (E_law_chain.F [toArg a0, toArg a1]).bind retB := rfl
theorem d_law_chain {a0 a1 : B} (h : [a0, a1].all okArg = true) : E_law_chain.F [a0, a1] = outR (B_law_chain [some a0, some a1, none, none, none, none, none, none, none]) := def_rt h rfl
noncomputable def T4 : List En := T3 ++ [E_law_chain]
theorem sc_law_chain : FnScope N_law_chain ["_law_xs", "_law_many"] (defScope S_law_chain) := ⟨rfl, rfl, rfl, by decide +kernel, rfl, by decide +kernel, by decide +kernel⟩
theorem ok_law_chain {X : Cx} {g : G} {cls : Nat → Value} (C : CS X g cls 3 T3 N_law_chain (defScope S_law_chain) bt) : PSs X (defBody S_law_chain) (tFS g B_law_chain) :=
  (fs_cons (fs_setL (C.asg 2 (C.ct.own 2 (fa_cons rfl (C.ct.var 0 (by decide +kernel)) (fa_cons rfl (C.ct.var 1 (by decide +kernel)) fa_nil)) rfl rfl (by decide +kernel) rfl) (by decide +kernel) rfl)) (fs_cons (fs_setL (C.asg 3 (C.ct.add fe_int (C.ct.mod (C.ct.idx (C.ct.var 0 (by decide +kernel)) fe_int rfl) fe_int)) (by decide +kernel) rfl)) (fs_cons (C.asg 4 (fe_lst fa_nil) (by decide +kernel) rfl) (fs_cons (fs_forget [5, 6] (C.fo (C.ct.rg1 (C.ct.var 1 (by decide +kernel)) (by decide +kernel) rfl) (C.g1 5 (by decide +kernel)) (fun _ C => (fs_forgets [5, 6] (fs_cons (fs_setL (C.asg 6 (C.ct.mul (C.ct.add fe_int (C.ct.mod (C.ct.idx (C.ct.var 0 (by decide +kernel)) fe_int rfl) fe_int)) (C.ct.call C.ct.int (fa_cons rfl (cmpE C.ct.eq (C.ct.var 5 (by decide +kernel)) fe_int rfl) fa_nil) (by decide +kernel) (by decide +kernel) rfl)) (by decide +kernel) rfl)) (fs_one (C.app 4 (fe_tup (fa_cons rfl (C.ct.idx (C.ct.var 2 (by decide +kernel)) (C.ct.var 5 (by decide +kernel)) rfl) (fa_cons rfl fe_int (fa_cons rfl (C.ct.var 6 (by decide +kernel)) (fa_cons rfl (C.ct.idx (fe_lst (fa_cons rfl fe_int (fa_cons rfl (C.ct.mul (C.ct.var 3 (by decide +kernel)) fe_int) fa_nil))) (C.ct.call C.ct.int (fa_cons rfl (cmpE C.ct.eq (C.ct.var 5 (by decide +kernel)) (C.ct.sub (C.ct.var 1 (by decide +kernel)) fe_int) rfl) fa_nil) (by decide +kernel) (by decide +kernel) rfl) rfl) (fa_cons rfl fe_int fa_nil)))))) (by decide +kernel) rfl))))) rfl)) (fs_lock 4 (fs_cons (fs_setL (C.asg 7 (C.ct.lrg (C.ct.var 1 (by decide +kernel)) (by decide +kernel) (by decide +kernel) rfl) (by decide +kernel) rfl)) (fs_cons (fs_if (cmpT C.ct.eq (C.ct.mod (C.ct.idx (C.ct.var 0 (by decide +kernel)) fe_int rfl) fe_int) fe_int rfl) (fs_one (fs_setL (C.asg 7 (C.ct.back (C.ct.var 7 (by decide +kernel))) (by decide +kernel) rfl))) fs_nil) (fs_cons (C.asg 8 (fe_lst fa_nil) (by decide +kernel) rfl) (fs_cons (fs_forget [5] (C.fo (C.ct.rg1 (C.ct.sub (C.ct.var 1 (by decide +kernel)) fe_int) (by decide +kernel) rfl) (C.g1 5 (by decide +kernel)) (fun _ C => (fs_forgets [5] (fs_one (C.app 8 (fe_tup (fa_cons rfl (C.ct.idx (C.ct.var 2 (by decide +kernel)) (C.ct.idx (C.ct.var 7 (by decide +kernel)) (C.ct.var 5 (by decide +kernel)) rfl) rfl) (fa_cons rfl (C.ct.idx (C.ct.var 2 (by decide +kernel)) (C.ct.idx (C.ct.var 7 (by decide +kernel)) (C.ct.add (C.ct.var 5 (by decide +kernel)) fe_int) rfl) rfl) (fa_cons rfl (C.ct.add fe_int (C.ct.mod (C.ct.add (C.ct.idx (C.ct.var 0 (by decide +kernel)) fe_int rfl) (C.ct.mul fe_int (C.ct.var 5 (by decide +kernel)))) fe_int)) fa_nil)))) (by decide +kernel) rfl)))) rfl)) (fs_lock 8 (fs_one (fs_ret (fe_tup (fa_cons rfl (C.ct.var 3 (by decide +kernel)) (fa_cons rfl (C.ct.call C.ct.tup (fa_cons rfl (C.ct.var 4 (by decide +kernel)) fa_nil) (by decide +kernel) (by decide +kernel) rfl) (fa_cons rfl (C.ct.call C.ct.tup (fa_cons rfl (C.ct.call C.ct.sortG (fa_cons rfl (C.ct.var 8 (by decide +kernel)) fa_nil) (by decide +kernel) (by decide +kernel) rfl) fa_nil) (by decide +kernel) (by decide +kernel) rfl) fa_nil))))))))))))))))
/-! ### law_place -/
abbrev S_law_place : Stmt := top 36
def N_law_place : List Str := ["_law_name", "_law_xs", "_law_top", "_law_wide", "_law_most", "_law_a", "_law_b", "_law_d", "_law_c"]
noncomputable def B_law_place : Fn.Env → Out := (seqS (thenS (bin2 idxB (callF lstB (consA (litI 4) (consA (litI 10) (consA (litI 100) (consA (litI 100) nilA))))) (varB 3)) (setL 4)) (seqS (thenS (bin2 modB (bin2 idxB (varB 1) (litI 0)) (varB 4)) (setL 5)) (seqS (thenS (bin2 modB (bin2 idxB (varB 1) (litI 1)) (bin2 idxB (callF lstB (consA (litI 3) (consA (litI 5) (consA (litI 100) (consA (litI 100) nilA))))) (varB 3))) (setL 6)) (seqS (thenS (bin2 modB (bin2 idxB (varB 1) (litI 2)) (bin2 idxB (callF lstB (consA (litI 2) (consA (litI 4) (consA (litI 100) (consA (litI 100) nilA))))) (varB 3))) (setL 7)) (seqS (thenS (bin2 addB (bin2 mulB (varB 7) (varB 2)) (bin2 modB (bin2 idxB (varB 1) (litI 3)) (bin2 idxB (callF lstB (consA (litI 5) (consA (litI 20) (consA (litI 100) (consA (litI 100) nilA))))) (varB 3)))) (setL 8)) (seqS (iteS (tstF (bin2 eqB (bin2 modB (bin2 idxB (varB 1) (litI 4)) (litI 5)) (litI 1))) (par2 5 6 (litI 0) (bin2 modB (bin2 divB (bin2 idxB (varB 1) (litI 1)) (litI 8)) (litI 3))) nxS) (seqS (iteS (tstF (bin2 eqB (bin2 modB (bin2 idxB (varB 1) (litI 4)) (litI 5)) (litI 2))) (seqS (thenS (litI 0) (setV 7)) (thenS (bin2 modB (bin2 idxB (varB 1) (litI 3)) (bin2 idxB (callF lstB (consA (litI 5) (consA (litI 20) (consA (litI 1000) (consA (litI 1000) nilA))))) (varB 3))) (setL 8))) nxS) (thenS (callF tupB (consA (varB 0) (consA (varB 5) (consA (varB 6) (consA (varB 8) (consA (varB 7) nilA)))))) retV))))))))
noncomputable def E_law_place : En := ⟨"_law_place", 4, defF 9 B_law_place⟩
theorem c_law_place {a0 a1 a2 a3 : B} : callE E_law_place [a0, a1, a2, a3] = (E_law_place.F [toArg a0, toArg a1, toArg a2, toArg a3]).bind retB := rfl
theorem d_law_place {a0 a1 a2 a3 : B} (h : [a0, a1, a2, a3].all okArg = true) : E_law_place.F [a0, a1, a2, a3] = outR (B_law_place [some a0, some a1, some a2, some a3, none, none, none, none, none]) := def_rt h rfl
noncomputable def T5 : List En := T4 ++ [E_law_place]
theorem sc_law_place : FnScope N_law_place ["_law_name", "_law_xs", "_law_top", "_law_wide"] (defScope S_law_place) := ⟨rfl, rfl, rfl, by decide +kernel, rfl, by decide +kernel, by decide +kernel⟩
theorem ok_law_place {X : Cx} {g : G} {cls : Nat → Value} (C : CS X g cls 4 T4 N_law_place (defScope S_law_place) bt) : PSs X (defBody S_law_place) (tFS g B_law_place) :=
  (fs_cons (fs_setL (C.asg 4 (C.ct.idx (fe_lst (fa_cons rfl fe_int (fa_cons rfl fe_int (fa_cons rfl fe_int (fa_cons rfl fe_int fa_nil))))) (C.ct.var 3 (by decide +kernel)) rfl) (by decide +kernel) rfl)) (fs_cons (fs_setL (C.asg 5 (C.ct.mod (C.ct.idx (C.ct.var 1 (by decide +kernel)) fe_int rfl) (C.ct.var 4 (by decide +kernel))) (by decide +kernel) rfl)) (fs_cons (fs_setL (C.asg 6 (C.ct.mod (C.ct.idx (C.ct.var 1 (by decide +kernel)) fe_int rfl) (C.ct.idx (fe_lst (fa_cons rfl fe_int (fa_cons rfl fe_int (fa_cons rfl fe_int (fa_cons rfl fe_int fa_nil))))) (C.ct.var 3 (by decide +kernel)) rfl)) (by decide +kernel) rfl)) (fs_cons (fs_setL (C.asg 7 (C.ct.mod (C.ct.idx (C.ct.var 1 (by decide +kernel)) fe_int rfl) (C.ct.idx (fe_lst (fa_cons rfl fe_int (fa_cons rfl fe_int (fa_cons rfl fe_int (fa_cons rfl fe_int fa_nil))))) (C.ct.var 3 (by decide +kernel)) rfl)) (by decide +kernel) rfl)) (fs_cons (fs_setL (C.asg 8 (C.ct.add (C.ct.mul (C.ct.var 7 (by decide +kernel)) (C.ct.var 2 (by decide +kernel))) (C.ct.mod (C.ct.idx (C.ct.var 1 (by decide +kernel)) fe_int rfl) (C.ct.idx (fe_lst (fa_cons rfl fe_int (fa_cons rfl fe_int (fa_cons rfl fe_int (fa_cons rfl fe_int fa_nil))))) (C.ct.var 3 (by decide +kernel)) rfl))) (by decide +kernel) rfl)) (fs_cons (fs_if (cmpT C.ct.eq (C.ct.mod (C.ct.idx (C.ct.var 1 (by decide +kernel)) fe_int rfl) fe_int) fe_int rfl) (fs_one (C.par2 5 6 fe_int (C.ct.mod (C.ct.div (C.ct.idx (C.ct.var 1 (by decide +kernel)) fe_int rfl) fe_int) fe_int) (by decide +kernel) (by decide +kernel) (by decide) (by decide +kernel))) fs_nil) (fs_cons (fs_if (cmpT C.ct.eq (C.ct.mod (C.ct.idx (C.ct.var 1 (by decide +kernel)) fe_int rfl) fe_int) fe_int rfl) (fs_cons (C.asg 7 fe_int (by decide +kernel) rfl) (fs_one (fs_setL (C.asg 8 (C.ct.mod (C.ct.idx (C.ct.var 1 (by decide +kernel)) fe_int rfl) (C.ct.idx (fe_lst (fa_cons rfl fe_int (fa_cons rfl fe_int (fa_cons rfl fe_int (fa_cons rfl fe_int fa_nil))))) (C.ct.var 3 (by decide +kernel)) rfl)) (by decide +kernel) rfl)))) fs_nil) (fs_one (fs_ret (fe_tup (fa_cons rfl (C.ct.var 0 (by decide +kernel)) (fa_cons rfl (C.ct.var 5 (by decide +kernel)) (fa_cons rfl (C.ct.var 6 (by decide +kernel)) (fa_cons rfl (C.ct.var 8 (by decide +kernel)) (fa_cons rfl (C.ct.var 7 (by decide +kernel)) fa_nil)))))))))))))))
/-! ### law_ties -/
abbrev S_law_ties : Stmt := top 37
def N_law_ties : List Str := ["_law_names_here", "_law_script", "_law_at", "_law_many", "_law_wide", "_law_found", "_law_k", "_law_xs", "_law_one", "_law_other", "_law_size", "_law_pair"]
noncomputable def B_law_ties_1 : Fn.Env → Out := (forget [6, 7, 8, 9, 10] (seqS (thenS (ownF E_law_numbers (consA (ownF E_law_cell (consA (varB 1) (consA (bin2 addB (varB 2) (varB 6)) nilA))) (consA (litI 5) nilA))) (setL 7)) (seqS (thenS (bin2 modB (bin2 idxB (varB 7) (litI 0)) (callF lenB (consA (varB 0) nilA))) (setL 8)) (seqS (thenS (bin2 modB (bin2 addB (bin2 addB (varB 8) (litI 1)) (bin2 modB (bin2 idxB (varB 7) (litI 1)) (callF maxF (consA (litI 1) (consA (bin2 subB (callF lenB (consA (varB 0) nilA)) (litI 1)) nilA))))) (callF lenB (consA (varB 0) nilA))) (setL 9)) (seqS (thenS (bin2 idxB (callF lstB (consA (bin2 addB (litI 1) (bin2 modB (bin2 idxB (varB 7) (litI 2)) (litI 4))) (consA (bin2 addB (litI 1) (bin2 modB (bin2 idxB (varB 7) (litI 2)) (litI 30))) (consA (bin2 addB (litI 1) (bin2 modB (bin2 idxB (varB 7) (litI 2)) (litI 999))) (consA (bin2 addB (litI 1) (bin2 modB (bin2 idxB (varB 7) (litI 2)) (litI 999))) nilA))))) (varB 4)) (setL 10)) (iteS (tstF (bin2 neB (varB 8) (varB 9))) (seqS (putS 5 (callF tupB (consA (bin2 idxB (varB 0) (varB 8)) (consA (bin2 idxB (varB 0) (varB 9)) nilA))) (varB 10)) (iteS (andT (tstF (bin2 eqB (bin2 modB (bin2 idxB (varB 7) (litI 3)) (litI 3)) (litI 1))) (tstF (bin2 ltB (callF lenB (consA (varB 5) nilA)) (litI 16)))) (putS 5 (callF tupB (consA (bin2 idxB (varB 0) (varB 9)) (consA (bin2 idxB (varB 0) (varB 8)) nilA))) (bin2 addB (litI 1) (bin2 modB (bin2 idxB (varB 7) (litI 4)) (litI 9)))) nxS)) nxS))))))
noncomputable def B_law_ties : Fn.Env → Out := (seqS (thenS newT (setV 5)) (seqS (forget [6, 7, 8, 9, 10] (forV (.one 6) (rgF (consA (varB 3) nilA)) B_law_ties_1)) (lockS 5 (thenS (callF tupF (consA (slcV (compV (.one 11) (itF true (callF sortG (consA (varB 5) nilA))) yesF (bin2 addB (varB 11) (callF tupB (consA (bin2 idxB (varB 5) (varB 11)) nilA))) [11]) noP (atP (litI 16))) nilA)) retV))))
noncomputable def E_law_ties : En := ⟨"_law_ties", 5, defF 12 B_law_ties⟩
theorem c_law_ties {a0 a1 a2 a3 a4 : B} : callE E_law_ties [a0, a1, a2, a3, a4] = (E_law_ties.F [toArg a0, toArg a1, toArg a2, toArg a3, toArg a4]).bind retB := rfl
theorem d_law_ties {a0 a1 a2 a3 a4 : B} (h : [a0, a1, a2, a3, a4].all okArg = true) : E_law_ties.F [a0, a1, a2, a3, a4] = outR (B_law_ties [some a0, some a1, some a2, some a3, some a4, none, none, none, none, none, none, none]) := def_rt h rfl
noncomputable def T6 : List En := T5 ++ [E_law_ties]
theorem sc_law_ties : FnScope N_law_ties ["_law_names_here", "_law_script", "_law_at", "_law_many", "_law_wide"] (defScope S_law_ties) := ⟨rfl, rfl, rfl, by decide +kernel, rfl, by decide +kernel, by decide +kernel⟩
theorem ok_law_ties {X : Cx} {g : G} {cls : Nat → Value} (C : CS X g cls 5 T5 N_law_ties (defScope S_law_ties) bt) : PSs X (defBody S_law_ties) (tFS g B_law_ties) :=
  (fs_cons (C.asg 5 fe_dicT (by decide +kernel) rfl) (fs_cons (fs_forget [6, 7, 8, 9, 10] (C.fo (C.ct.rg1 (C.ct.var 3 (by decide +kernel)) (by decide +kernel) rfl) (C.g1 6 (by decide +kernel)) (fun _ C => (fs_forgets [6, 7, 8, 9, 10] (fs_cons (fs_setL (C.asg 7 (C.ct.own 0 (fa_cons rfl (C.ct.own 1 (fa_cons rfl (C.ct.var 1 (by decide +kernel)) (fa_cons rfl (C.ct.add (C.ct.var 2 (by decide +kernel)) (C.ct.var 6 (by decide +kernel))) fa_nil)) rfl rfl (by decide +kernel) rfl) (fa_cons rfl fe_int fa_nil)) rfl rfl (by decide +kernel) rfl) (by decide +kernel) rfl)) (fs_cons (fs_setL (C.asg 8 (C.ct.mod (C.ct.idx (C.ct.var 7 (by decide +kernel)) fe_int rfl) (C.ct.call C.ct.len (fa_cons rfl (C.ct.var 0 (by decide +kernel)) fa_nil) (by decide +kernel) (by decide +kernel) rfl)) (by decide +kernel) rfl)) (fs_cons (fs_setL (C.asg 9 (C.ct.mod (C.ct.add (C.ct.add (C.ct.var 8 (by decide +kernel)) fe_int) (C.ct.mod (C.ct.idx (C.ct.var 7 (by decide +kernel)) fe_int rfl) (C.ct.call C.ct.max (fa_cons rfl fe_int (fa_cons rfl (C.ct.sub (C.ct.call C.ct.len (fa_cons rfl (C.ct.var 0 (by decide +kernel)) fa_nil) (by decide +kernel) (by decide +kernel) rfl) fe_int) fa_nil)) (by decide +kernel) (by decide +kernel) rfl))) (C.ct.call C.ct.len (fa_cons rfl (C.ct.var 0 (by decide +kernel)) fa_nil) (by decide +kernel) (by decide +kernel) rfl)) (by decide +kernel) rfl)) (fs_cons (fs_setL (C.asg 10 (C.ct.idx (fe_lst (fa_cons rfl (C.ct.add fe_int (C.ct.mod (C.ct.idx (C.ct.var 7 (by decide +kernel)) fe_int rfl) fe_int)) (fa_cons rfl (C.ct.add fe_int (C.ct.mod (C.ct.idx (C.ct.var 7 (by decide +kernel)) fe_int rfl) fe_int)) (fa_cons rfl (C.ct.add fe_int (C.ct.mod (C.ct.idx (C.ct.var 7 (by decide +kernel)) fe_int rfl) fe_int)) (fa_cons rfl (C.ct.add fe_int (C.ct.mod (C.ct.idx (C.ct.var 7 (by decide +kernel)) fe_int rfl) fe_int)) fa_nil))))) (C.ct.var 4 (by decide +kernel)) rfl) (by decide +kernel) rfl)) (fs_one (fs_if (cmpT C.ct.ne (C.ct.var 8 (by decide +kernel)) (C.ct.var 9 (by decide +kernel)) rfl) (fs_cons (C.sto 5 (fe_tup (fa_cons rfl (C.ct.idx (C.ct.var 0 (by decide +kernel)) (C.ct.var 8 (by decide +kernel)) rfl) (fa_cons rfl (C.ct.idx (C.ct.var 0 (by decide +kernel)) (C.ct.var 9 (by decide +kernel)) rfl) fa_nil))) (C.ct.var 10 (by decide +kernel)) (by decide +kernel) rfl) (fs_one (fs_if (ft_and (cmpT C.ct.eq (C.ct.mod (C.ct.idx (C.ct.var 7 (by decide +kernel)) fe_int rfl) fe_int) fe_int rfl) (pw_and1 (cmpT C.ct.lt (C.ct.call C.ct.len (fa_cons rfl (C.ct.var 5 (by decide +kernel)) fa_nil) (by decide +kernel) (by decide +kernel) rfl) fe_int rfl))).pt (fs_one (C.sto 5 (fe_tup (fa_cons rfl (C.ct.idx (C.ct.var 0 (by decide +kernel)) (C.ct.var 9 (by decide +kernel)) rfl) (fa_cons rfl (C.ct.idx (C.ct.var 0 (by decide +kernel)) (C.ct.var 8 (by decide +kernel)) rfl) fa_nil))) (C.ct.add fe_int (C.ct.mod (C.ct.idx (C.ct.var 7 (by decide +kernel)) fe_int rfl) fe_int)) (by decide +kernel) rfl)) fs_nil))) fs_nil)))))))) rfl)) (fs_lock 5 (fs_one (fs_ret (C.ct.call C.ct.tup (fa_cons rfl (C.ct.slc (C.ct.lc [("_law_pair", 11)] (C.ct.it (C.ct.call C.ct.sortG (fa_cons rfl (C.ct.var 5 (by decide +kernel)) fa_nil) (by decide +kernel) (by decide +kernel) rfl)) (fun C1 => ⟨(C1.g1 11 (by decide +kernel)), ifs0, (C1.add (C1.var 11 (by decide +kernel)) (fe_tup (fa_cons rfl (C1.idx (C1.var 5 (by decide +kernel)) (C1.var 11 (by decide +kernel)) rfl) fa_nil)))⟩) (by decide +kernel)) fo_none (fo_some fe_int)) fa_nil) (by decide +kernel) (by decide +kernel) rfl))))))
/-! ### law_web -/
abbrev S_law_web : Stmt := top 38
def N_law_web : List Str := ["_law_script", "_law_at", "_law_most", "_law_head", "_law_top", "_law_many", "_law_wide", "_law_names_here", "_law_places", "_law_k", "_law_ties_here"]
noncomputable def B_law_web_1 : Fn.Env → Out := (forget [9] (appV 8 (ownF E_law_place (consA (bin2 idxB (varB 7) (varB 9)) (consA (ownF E_law_numbers (consA (ownF E_law_cell (consA (varB 0) (consA (bin2 addB (bin2 addB (varB 1) (litI 1)) (varB 9)) nilA))) (consA (litI 5) nilA))) (consA (varB 4) (consA (varB 6) nilA)))))))
noncomputable def B_law_web : Fn.Env → Out := (seqS (thenS (ownF E_law_numbers (consA (ownF E_law_cell (consA (varB 0) (consA (varB 1) nilA))) (consA (litI 12) nilA))) (setL 3)) (seqS (thenS (bin2 addB (litI 1) (bin2 modB (bin2 idxB (varB 3) (litI 4)) (litI 9))) (setL 4)) (seqS (thenS (bin2 addB (litI 1) (bin2 modB (bin2 idxB (varB 3) (litI 5)) (varB 2))) (setL 5)) (seqS (thenS (bin2 idxB (callF lstB (consA (litI 0) (consA (litI 1) (consA (litI 0) (consA (litI 1) (consA (litI 2) nilA)))))) (bin2 modB (bin2 idxB (varB 3) (litI 6)) (litI 5))) (setL 6)) (seqS (thenS (ownF E_law_names (consA (varB 3) (consA (varB 5) nilA))) (setL 7)) (seqS (thenS (callF lstB nilA) (setV 8)) (seqS (forget [9] (forV (.one 9) (rgF (consA (varB 5) nilA)) B_law_web_1)) (lockS 8 (seqS (thenS (ownF E_law_ties (consA (varB 7) (consA (varB 0) (consA (bin2 addB (bin2 addB (varB 1) (litI 1)) (varB 5)) (consA (bin2 modB (bin2 idxB (varB 3) (litI 7)) (bin2 addB (bin2 mulB (litI 2) (varB 5)) (litI 1))) (consA (varB 6) nilA)))))) (setL 10)) (thenS (callF tupB (consA (varB 4) (consA (callF tupF (consA (varB 8) nilA)) (consA (varB 10) nilA)))) retV))))))))))
noncomputable def E_law_web : En := ⟨"_law_web", 3, defF 11 B_law_web⟩
theorem c_law_web {a0 a1 a2 : B} : callE E_law_web [a0, a1, a2] = (E_law_web.F [toArg a0, toArg a1, toArg a2]).bind retB := rfl
theorem d_law_web {a0 a1 a2 : B} (h : [a0, a1, a2].all okArg = true) : E_law_web.F [a0, a1, a2] = outR (B_law_web [some a0, some a1, some a2, none, none, none, none, none, none, none, none]) := def_rt h rfl
noncomputable def T7 : List En := T6 ++ [E_law_web]
theorem sc_law_web : FnScope N_law_web ["_law_script", "_law_at", "_law_most"] (defScope S_law_web) := ⟨rfl, rfl, rfl, by decide +kernel, rfl, by decide +kernel, by decide +kernel⟩
theorem ok_law_web {X : Cx} {g : G} {cls : Nat → Value} (C : CS X g cls 6 T6 N_law_web (defScope S_law_web) bt) : PSs X (defBody S_law_web) (tFS g B_law_web) :=
  (fs_cons (fs_setL (C.asg 3 (C.ct.own 0 (fa_cons rfl (C.ct.own 1 (fa_cons rfl (C.ct.var 0 (by decide +kernel)) (fa_cons rfl (C.ct.var 1 (by decide +kernel)) fa_nil)) rfl rfl (by decide +kernel) rfl) (fa_cons rfl fe_int fa_nil)) rfl rfl (by decide +kernel) rfl) (by decide +kernel) rfl)) (fs_cons (fs_setL (C.asg 4 (C.ct.add fe_int (C.ct.mod (C.ct.idx (C.ct.var 3 (by decide +kernel)) fe_int rfl) fe_int)) (by decide +kernel) rfl)) (fs_cons (fs_setL (C.asg 5 (C.ct.add fe_int (C.ct.mod (C.ct.idx (C.ct.var 3 (by decide +kernel)) fe_int rfl) (C.ct.var 2 (by decide +kernel)))) (by decide +kernel) rfl)) (fs_cons (fs_setL (C.asg 6 (C.ct.idx (fe_lst (fa_cons rfl fe_int (fa_cons rfl fe_int (fa_cons rfl fe_int (fa_cons rfl fe_int (fa_cons rfl fe_int fa_nil)))))) (C.ct.mod (C.ct.idx (C.ct.var 3 (by decide +kernel)) fe_int rfl) fe_int) rfl) (by decide +kernel) rfl)) (fs_cons (fs_setL (C.asg 7 (C.ct.own 2 (fa_cons rfl (C.ct.var 3 (by decide +kernel)) (fa_cons rfl (C.ct.var 5 (by decide +kernel)) fa_nil)) rfl rfl (by decide +kernel) rfl) (by decide +kernel) rfl)) (fs_cons (C.asg 8 (fe_lst fa_nil) (by decide +kernel) rfl) (fs_cons (fs_forget [9] (C.fo (C.ct.rg1 (C.ct.var 5 (by decide +kernel)) (by decide +kernel) rfl) (C.g1 9 (by decide +kernel)) (fun _ C => (fs_forgets [9] (fs_one (C.app 8 (C.ct.own 4 (fa_cons rfl (C.ct.idx (C.ct.var 7 (by decide +kernel)) (C.ct.var 9 (by decide +kernel)) rfl) (fa_cons rfl (C.ct.own 0 (fa_cons rfl (C.ct.own 1 (fa_cons rfl (C.ct.var 0 (by decide +kernel)) (fa_cons rfl (C.ct.add (C.ct.add (C.ct.var 1 (by decide +kernel)) fe_int) (C.ct.var 9 (by decide +kernel))) fa_nil)) rfl rfl (by decide +kernel) rfl) (fa_cons rfl fe_int fa_nil)) rfl rfl (by decide +kernel) rfl) (fa_cons rfl (C.ct.var 4 (by decide +kernel)) (fa_cons rfl (C.ct.var 6 (by decide +kernel)) fa_nil)))) rfl rfl (by decide +kernel) rfl) (by decide +kernel) rfl)))) rfl)) (fs_lock 8 (fs_cons (fs_setL (C.asg 10 (C.ct.own 5 (fa_cons rfl (C.ct.var 7 (by decide +kernel)) (fa_cons rfl (C.ct.var 0 (by decide +kernel)) (fa_cons rfl (C.ct.add (C.ct.add (C.ct.var 1 (by decide +kernel)) fe_int) (C.ct.var 5 (by decide +kernel))) (fa_cons rfl (C.ct.mod (C.ct.idx (C.ct.var 3 (by decide +kernel)) fe_int rfl) (C.ct.add (C.ct.mul fe_int (C.ct.var 5 (by decide +kernel))) fe_int)) (fa_cons rfl (C.ct.var 6 (by decide +kernel)) fa_nil))))) rfl rfl (by decide +kernel) rfl) (by decide +kernel) rfl)) (fs_one (fs_ret (fe_tup (fa_cons rfl (C.ct.var 4 (by decide +kernel)) (fa_cons rfl (C.ct.call C.ct.tup (fa_cons rfl (C.ct.var 8 (by decide +kernel)) fa_nil) (by decide +kernel) (by decide +kernel) rfl) (fa_cons rfl (C.ct.var 10 (by decide +kernel)) fa_nil)))))))))))))))
/-! ### law_drawn_v2 -/
abbrev S_law_drawn_v2 : Stmt := top 40
def N_law_drawn_v2 : List Str := ["_law_script", "_law_xs"]
noncomputable def B_law_drawn_v2 : Fn.Env → Out := (seqS (thenS (ownF E_law_numbers (consA (ownF E_law_cell (consA (varB 0) (consA (litI 0) nilA))) (consA (litI 24) nilA))) (setL 1)) (seqS (iteS (tstF (bin2 eqB (bin2 modB (bin2 idxB (varB 1) (litI 12)) (litI 8)) (litI 1))) (thenS (ownF E_law_chain (consA (slcV (varB 1) (atP (litI 13)) noP) (consA (bin2 addB (litI 2) (bin2 modB (bin2 divB (bin2 idxB (varB 1) (litI 12)) (litI 8)) (litI 7))) nilA))) retV) nxS) (thenS (ownF E_law_web (consA (varB 0) (consA (litI 1) (consA (bin2 idxB (callF lstB (consA (litI 6) (consA (litI 8) nilA))) (callF intF (consA (bin2 eqB (bin2 modB (bin2 idxB (varB 1) (litI 12)) (litI 8)) (litI 2)) nilA))) nilA)))) retV)))
noncomputable def E_law_drawn_v2 : En := ⟨"_law_drawn", 1, defF 2 B_law_drawn_v2⟩
theorem c_law_drawn_v2 {a0 : B} : callE E_law_drawn_v2 [a0] = (E_law_drawn_v2.F [toArg a0]).bind retB := rfl
theorem d_law_drawn_v2 {a0 : B} (h : [a0].all okArg = true) : E_law_drawn_v2.F [a0] = outR (B_law_drawn_v2 [some a0, none]) := def_rt h rfl
noncomputable def T8 : List En := T7 ++ [E_law_drawn_v2]
theorem sc_law_drawn_v2 : FnScope N_law_drawn_v2 ["_law_script"] (defScope S_law_drawn_v2) := ⟨rfl, rfl, rfl, by decide +kernel, rfl, by decide +kernel, by decide +kernel⟩
theorem ok_law_drawn_v2 {X : Cx} {g : G} {cls : Nat → Value} (C : CS X g cls 7 T7 N_law_drawn_v2 (defScope S_law_drawn_v2) bt) : PSs X (defBody S_law_drawn_v2) (tFS g B_law_drawn_v2) :=
  (fs_cons (fs_setL (C.asg 1 (C.ct.own 0 (fa_cons rfl (C.ct.own 1 (fa_cons rfl (C.ct.var 0 (by decide +kernel)) (fa_cons rfl fe_int fa_nil)) rfl rfl (by decide +kernel) rfl) (fa_cons rfl fe_int fa_nil)) rfl rfl (by decide +kernel) rfl) (by decide +kernel) rfl)) (fs_cons (fs_if (cmpT C.ct.eq (C.ct.mod (C.ct.idx (C.ct.var 1 (by decide +kernel)) fe_int rfl) fe_int) fe_int rfl) (fs_one (fs_ret (C.ct.own 3 (fa_cons rfl (C.ct.slc (C.ct.var 1 (by decide +kernel)) (fo_some fe_int) fo_none) (fa_cons rfl (C.ct.add fe_int (C.ct.mod (C.ct.div (C.ct.idx (C.ct.var 1 (by decide +kernel)) fe_int rfl) fe_int) fe_int)) fa_nil)) rfl rfl (by decide +kernel) rfl))) fs_nil) (fs_one (fs_ret (C.ct.own 6 (fa_cons rfl (C.ct.var 0 (by decide +kernel)) (fa_cons rfl fe_int (fa_cons rfl (C.ct.idx (fe_lst (fa_cons rfl fe_int (fa_cons rfl fe_int fa_nil))) (C.ct.call C.ct.int (fa_cons rfl (cmpE C.ct.eq (C.ct.mod (C.ct.idx (C.ct.var 1 (by decide +kernel)) fe_int rfl) fe_int) fe_int rfl) fa_nil) (by decide +kernel) (by decide +kernel) rfl) rfl) fa_nil))) rfl rfl (by decide +kernel) rfl)))))
/-! ### names_of -/
abbrev S_names_of : Stmt := top 28
def N_names_of : List Str := ["web", "place"]
noncomputable def B_names_of : Fn.Env → Out := (thenS (callF tupF (consA (compV (.one 1) (itF true (bin2 idxB (varB 0) (litI 1))) yesF (bin2 idxB (varB 1) (litI 0)) [1]) nilA)) retV)
noncomputable def E_names_of : En := ⟨"names_of", 1, defF 2 B_names_of⟩
theorem c_names_of {a0 : B} : callE E_names_of [a0] = (E_names_of.F [toArg a0]).bind retB := rfl
theorem d_names_of {a0 : B} (h : [a0].all okArg = true) : E_names_of.F [a0] = outR (B_names_of [some a0, none]) := def_rt h rfl
noncomputable def T9 : List En := T8 ++ [E_names_of]
theorem sc_names_of : FnScope N_names_of ["web"] (defScope S_names_of) := ⟨rfl, rfl, rfl, by decide +kernel, rfl, by decide +kernel, by decide +kernel⟩
theorem ok_names_of {X : Cx} {g : G} {cls : Nat → Value} (C : CS X g cls 8 T8 N_names_of (defScope S_names_of) bt) : PSs X (defBody S_names_of) (tFS g B_names_of) :=
  (fs_one (fs_ret (C.ct.call C.ct.tup (fa_cons rfl (C.ct.lc [("place", 1)] (C.ct.it (C.ct.idx (C.ct.var 0 (by decide +kernel)) fe_int rfl)) (fun C1 => ⟨(C1.g1 1 (by decide +kernel)), ifs0, (C1.idx (C1.var 1 (by decide +kernel)) fe_int rfl)⟩) (by decide +kernel)) fa_nil) (by decide +kernel) (by decide +kernel) rfl)))
/-! ### law_is_whole -/
abbrev S_law_is_whole : Stmt := top 43
def N_law_is_whole : List Str := ["_law_thing"]
noncomputable def B_law_is_whole : Fn.Env → Out := (thenS (andV (one1 (isiB .int) (varB 0)) (one1 notB (one1 (isiB .bool) (varB 0)))) retV)
noncomputable def E_law_is_whole : En := ⟨"_law_is_whole", 1, defF 1 B_law_is_whole⟩
theorem c_law_is_whole {a0 : B} : callE E_law_is_whole [a0] = (E_law_is_whole.F [toArg a0]).bind retB := rfl
theorem d_law_is_whole {a0 : B} (h : [a0].all okArg = true) : E_law_is_whole.F [a0] = outR (B_law_is_whole [some a0]) := def_rt h rfl
noncomputable def T10 : List En := T9 ++ [E_law_is_whole]
theorem sc_law_is_whole : FnScope N_law_is_whole ["_law_thing"] (defScope S_law_is_whole) := ⟨rfl, rfl, rfl, by decide +kernel, rfl, by decide +kernel, by decide +kernel⟩
theorem ok_law_is_whole {X : Cx} {g : G} {cls : Nat → Value} (C : CS X g cls 9 T9 N_law_is_whole (defScope S_law_is_whole) bt) : PSs X (defBody S_law_is_whole) (tFS g B_law_is_whole) :=
  (fs_one (fs_ret (fe_and (C.ct.isi .int (C.ct.var 0 (by decide +kernel)) rfl (by decide +kernel) (by decide +kernel) boot_int rfl) (pe_one (fe_not (C.ct.isi .bool (C.ct.var 0 (by decide +kernel)) rfl (by decide +kernel) (by decide +kernel) boot_bool rfl))))))
/-! ### law_low -/
abbrev S_law_low : Stmt := top 41
def N_law_low : List Str := ["_law_top", "_law_bottom", "_law_high", "_law_low_here"]
noncomputable def B_law_low_1 : Fn.Env → Res Bool := (tstF (bin2 gtF (varB 3) (litI 0)))
noncomputable def B_law_low_2 : Fn.Env → Out := (par2 2 3 (varB 3) (bin2 modB (varB 2) (varB 3)))
noncomputable def B_law_low : Fn.Env → Out := (seqS (par2 2 3 (callF absF (consA (varB 0) nilA)) (callF absF (consA (varB 1) nilA))) (seqS (forget [3] (whileC B_law_low_1 B_law_low_2)) (seqS (iteS (tstF (bin2 ltB (varB 1) (litI 0))) (thenS (bin2 subB (litI 0) (varB 2)) (setL 2)) nxS) (thenS (callF tupB (consA (bin2 divB (varB 0) (varB 2)) (consA (bin2 divB (varB 1) (varB 2)) nilA))) retV))))
noncomputable def E_law_low : En := ⟨"_law_low", 2, defF 4 B_law_low⟩
theorem c_law_low {a0 a1 : B} : callE E_law_low [a0, a1] = (E_law_low.F [toArg a0, toArg a1]).bind retB := rfl
theorem d_law_low {a0 a1 : B} (h : [a0, a1].all okArg = true) : E_law_low.F [a0, a1] = outR (B_law_low [some a0, some a1, none, none]) := def_rt h rfl
noncomputable def T11 : List En := T10 ++ [E_law_low]
theorem sc_law_low : FnScope N_law_low ["_law_top", "_law_bottom"] (defScope S_law_low) := ⟨rfl, rfl, rfl, by decide +kernel, rfl, by decide +kernel, by decide +kernel⟩
theorem ok_law_low {X : Cx} {g : G} {cls : Nat → Value} (C : CS X g cls 10 T10 N_law_low (defScope S_law_low) bt) : PSs X (defBody S_law_low) (tFS g B_law_low) :=
  (fs_cons (C.par2 2 3 (C.ct.call C.ct.abs (fa_cons rfl (C.ct.var 0 (by decide +kernel)) fa_nil) (by decide +kernel) (by decide +kernel) rfl) (C.ct.call C.ct.abs (fa_cons rfl (C.ct.var 1 (by decide +kernel)) fa_nil) (by decide +kernel) (by decide +kernel) rfl) (by decide +kernel) (by decide +kernel) (by decide) (by decide +kernel)) (fs_cons (fs_forget [3] (C.wc (cmpT C.ct.gt (C.ct.var 3 (by decide +kernel)) fe_int rfl) (fs_one (C.par2 2 3 (C.ct.var 3 (by decide +kernel)) (C.ct.mod (C.ct.var 2 (by decide +kernel)) (C.ct.var 3 (by decide +kernel))) (by decide +kernel) (by decide +kernel) (by decide) (by decide +kernel))))) (fs_cons (fs_if (cmpT C.ct.lt (C.ct.var 1 (by decide +kernel)) fe_int rfl) (fs_one (fs_setL (C.asg 2 (C.ct.sub fe_int (C.ct.var 2 (by decide +kernel))) (by decide +kernel) rfl))) fs_nil) (fs_one (fs_ret (fe_tup (fa_cons rfl (C.ct.div (C.ct.var 0 (by decide +kernel)) (C.ct.var 2 (by decide +kernel))) (fa_cons rfl (C.ct.div (C.ct.var 1 (by decide +kernel)) (C.ct.var 2 (by decide +kernel))) fa_nil))))))))
/-! ### law_is_fraction_v2 -/
abbrev S_law_is_fraction_v2 : Stmt := top 44
def N_law_is_fraction_v2 : List Str := ["_law_thing", "_law_part"]
noncomputable def B_law_is_fraction_v2 : Fn.Env → Out := (seqS (iteS (orT (notT (testV (one1 (isiB .tuple) (varB 0)))) (orT (tstF (bin2 neB (callF lenB (consA (varB 0) nilA)) (litI 2))) (notT (testV (callF allF (consA (compV (.one 1) (itF true (varB 0)) yesF (ownF E_law_is_whole (consA (varB 1) nilA)) [1]) nilA)))))) (thenS (litB false) retV) nxS) (thenS (andV (bin2 gtF (bin2 idxB (varB 0) (litI 1)) (litI 0)) (bin2 eqB (ownF E_law_low (consA (bin2 idxB (varB 0) (litI 0)) (consA (bin2 idxB (varB 0) (litI 1)) nilA))) (varB 0))) retV))
noncomputable def E_law_is_fraction_v2 : En := ⟨"_law_is_fraction", 1, defF 2 B_law_is_fraction_v2⟩
theorem c_law_is_fraction_v2 {a0 : B} : callE E_law_is_fraction_v2 [a0] = (E_law_is_fraction_v2.F [toArg a0]).bind retB := rfl
theorem d_law_is_fraction_v2 {a0 : B} (h : [a0].all okArg = true) : E_law_is_fraction_v2.F [a0] = outR (B_law_is_fraction_v2 [some a0, none]) := def_rt h rfl
noncomputable def T12 : List En := T11 ++ [E_law_is_fraction_v2]
theorem sc_law_is_fraction_v2 : FnScope N_law_is_fraction_v2 ["_law_thing"] (defScope S_law_is_fraction_v2) := ⟨rfl, rfl, rfl, by decide +kernel, rfl, by decide +kernel, by decide +kernel⟩
theorem ok_law_is_fraction_v2 {X : Cx} {g : G} {cls : Nat → Value} (C : CS X g cls 11 T11 N_law_is_fraction_v2 (defScope S_law_is_fraction_v2) bt) : PSs X (defBody S_law_is_fraction_v2) (tFS g B_law_is_fraction_v2) :=
  (fs_cons (fs_if (ft_or (ft_not (C.ct.val (C.ct.isi .tuple (C.ct.var 0 (by decide +kernel)) rfl (by decide +kernel) (by decide +kernel) boot_tuple rfl) rfl)) (ft_or (cmpT C.ct.ne (C.ct.call C.ct.len (fa_cons rfl (C.ct.var 0 (by decide +kernel)) fa_nil) (by decide +kernel) (by decide +kernel) rfl) fe_int rfl) (pw_or1 (ft_not (C.ct.val (C.ct.call C.ct.all (fa_cons rfl (C.ct.lc [("_law_part", 1)] (C.ct.it (C.ct.var 0 (by decide +kernel))) (fun C1 => ⟨(C1.g1 1 (by decide +kernel)), ifs0, (C1.own 9 (fa_cons rfl (C1.var 1 (by decide +kernel)) fa_nil) rfl rfl (by decide +kernel) rfl)⟩) (by decide +kernel)) fa_nil) (by decide +kernel) (by decide +kernel) rfl) rfl))))).pt (fs_one (fs_ret fe_bl)) fs_nil) (fs_one (fs_ret (fe_and (cmpE C.ct.gt (C.ct.idx (C.ct.var 0 (by decide +kernel)) fe_int rfl) fe_int rfl) (pe_one (cmpE C.ct.eq (C.ct.own 10 (fa_cons rfl (C.ct.idx (C.ct.var 0 (by decide +kernel)) fe_int rfl) (fa_cons rfl (C.ct.idx (C.ct.var 0 (by decide +kernel)) fe_int rfl) fa_nil)) rfl rfl (by decide +kernel) rfl) (C.ct.var 0 (by decide +kernel)) rfl))))))
/-! ### is_whole -/
abbrev S_is_whole : Stmt := top 18
def N_is_whole : List Str := ["thing"]
noncomputable def B_is_whole : Fn.Env → Out := (thenS (andV (one1 (isiB .int) (varB 0)) (one1 notB (one1 (isiB .bool) (varB 0)))) retV)
noncomputable def E_is_whole : En := ⟨"is_whole", 1, defF 1 B_is_whole⟩
theorem c_is_whole {a0 : B} : callE E_is_whole [a0] = (E_is_whole.F [toArg a0]).bind retB := rfl
theorem d_is_whole {a0 : B} (h : [a0].all okArg = true) : E_is_whole.F [a0] = outR (B_is_whole [some a0]) := def_rt h rfl
noncomputable def T13 : List En := T12 ++ [E_is_whole]
theorem sc_is_whole : FnScope N_is_whole ["thing"] (defScope S_is_whole) := ⟨rfl, rfl, rfl, by decide +kernel, rfl, by decide +kernel, by decide +kernel⟩
theorem ok_is_whole {X : Cx} {g : G} {cls : Nat → Value} (C : CS X g cls 12 T12 N_is_whole (defScope S_is_whole) bt) : PSs X (defBody S_is_whole) (tFS g B_is_whole) :=
  (fs_one (fs_ret (fe_and (C.ct.isi .int (C.ct.var 0 (by decide +kernel)) rfl (by decide +kernel) (by decide +kernel) boot_int rfl) (pe_one (fe_not (C.ct.isi .bool (C.ct.var 0 (by decide +kernel)) rfl (by decide +kernel) (by decide +kernel) boot_bool rfl))))))
/-! ### shared_part -/
abbrev S_shared_part : Stmt := top 19
def N_shared_part : List Str := ["one", "other", "high", "low"]
noncomputable def B_shared_part_1 : Fn.Env → Res Bool := (tstF (bin2 gtF (varB 3) (litI 0)))
noncomputable def B_shared_part_2 : Fn.Env → Out := (par2 2 3 (varB 3) (bin2 modB (varB 2) (varB 3)))
noncomputable def B_shared_part : Fn.Env → Out := (seqS (par2 2 3 (callF absF (consA (varB 0) nilA)) (callF absF (consA (varB 1) nilA))) (seqS (forget [3] (whileC B_shared_part_1 B_shared_part_2)) (retN 2)))
noncomputable def E_shared_part : En := ⟨"shared_part", 2, defF 4 B_shared_part⟩
theorem c_shared_part {a0 a1 : B} : callE E_shared_part [a0, a1] = (E_shared_part.F [toArg a0, toArg a1]).bind retB := rfl
theorem d_shared_part {a0 a1 : B} (h : [a0, a1].all okArg = true) : E_shared_part.F [a0, a1] = outR (B_shared_part [some a0, some a1, none, none]) := def_rt h rfl
noncomputable def T14 : List En := T13 ++ [E_shared_part]
theorem sc_shared_part : FnScope N_shared_part ["one", "other"] (defScope S_shared_part) := ⟨rfl, rfl, rfl, by decide +kernel, rfl, by decide +kernel, by decide +kernel⟩
theorem ok_shared_part {X : Cx} {g : G} {cls : Nat → Value} (C : CS X g cls 13 T13 N_shared_part (defScope S_shared_part) bt) : PSs X (defBody S_shared_part) (tFS g B_shared_part) :=
  (fs_cons (C.par2 2 3 (C.ct.call C.ct.abs (fa_cons rfl (C.ct.var 0 (by decide +kernel)) fa_nil) (by decide +kernel) (by decide +kernel) rfl) (C.ct.call C.ct.abs (fa_cons rfl (C.ct.var 1 (by decide +kernel)) fa_nil) (by decide +kernel) (by decide +kernel) rfl) (by decide +kernel) (by decide +kernel) (by decide) (by decide +kernel)) (fs_cons (fs_forget [3] (C.wc (cmpT C.ct.gt (C.ct.var 3 (by decide +kernel)) fe_int rfl) (fs_one (C.par2 2 3 (C.ct.var 3 (by decide +kernel)) (C.ct.mod (C.ct.var 2 (by decide +kernel)) (C.ct.var 3 (by decide +kernel))) (by decide +kernel) (by decide +kernel) (by decide) (by decide +kernel))))) (fs_one (C.rn 2 (by decide +kernel)))))
/-! ### is_fraction -/
abbrev S_is_fraction : Stmt := top 20
def N_is_fraction : List Str := ["thing"]
noncomputable def B_is_fraction : Fn.Env → Out := (seqS (iteS (orT (notT (testV (one1 (isiB .tuple) (varB 0)))) (orT (tstF (bin2 neB (callF lenB (consA (varB 0) nilA)) (litI 2))) (orT (notT (testV (ownF E_is_whole (consA (bin2 idxB (varB 0) (litI 0)) nilA)))) (notT (testV (ownF E_is_whole (consA (bin2 idxB (varB 0) (litI 1)) nilA))))))) (thenS (litB false) retV) nxS) (thenS (andV (bin2 gtF (bin2 idxB (varB 0) (litI 1)) (litI 0)) (bin2 eqB (ownF E_shared_part (consA (bin2 idxB (varB 0) (litI 0)) (consA (bin2 idxB (varB 0) (litI 1)) nilA))) (litI 1))) retV))
noncomputable def E_is_fraction : En := ⟨"is_fraction", 1, defF 1 B_is_fraction⟩
theorem c_is_fraction {a0 : B} : callE E_is_fraction [a0] = (E_is_fraction.F [toArg a0]).bind retB := rfl
theorem d_is_fraction {a0 : B} (h : [a0].all okArg = true) : E_is_fraction.F [a0] = outR (B_is_fraction [some a0]) := def_rt h rfl
noncomputable def T15 : List En := T14 ++ [E_is_fraction]
theorem sc_is_fraction : FnScope N_is_fraction ["thing"] (defScope S_is_fraction) := ⟨rfl, rfl, rfl, by decide +kernel, rfl, by decide +kernel, by decide +kernel⟩
theorem ok_is_fraction {X : Cx} {g : G} {cls : Nat → Value} (C : CS X g cls 14 T14 N_is_fraction (defScope S_is_fraction) bt) : PSs X (defBody S_is_fraction) (tFS g B_is_fraction) :=
  (fs_cons (fs_if (ft_or (ft_not (C.ct.val (C.ct.isi .tuple (C.ct.var 0 (by decide +kernel)) rfl (by decide +kernel) (by decide +kernel) boot_tuple rfl) rfl)) (ft_or (cmpT C.ct.ne (C.ct.call C.ct.len (fa_cons rfl (C.ct.var 0 (by decide +kernel)) fa_nil) (by decide +kernel) (by decide +kernel) rfl) fe_int rfl) (ft_or (ft_not (C.ct.val (C.ct.own 12 (fa_cons rfl (C.ct.idx (C.ct.var 0 (by decide +kernel)) fe_int rfl) fa_nil) rfl rfl (by decide +kernel) rfl) rfl)) (pw_or1 (ft_not (C.ct.val (C.ct.own 12 (fa_cons rfl (C.ct.idx (C.ct.var 0 (by decide +kernel)) fe_int rfl) fa_nil) rfl rfl (by decide +kernel) rfl) rfl)))))).pt (fs_one (fs_ret fe_bl)) fs_nil) (fs_one (fs_ret (fe_and (cmpE C.ct.gt (C.ct.idx (C.ct.var 0 (by decide +kernel)) fe_int rfl) fe_int rfl) (pe_one (cmpE C.ct.eq (C.ct.own 13 (fa_cons rfl (C.ct.idx (C.ct.var 0 (by decide +kernel)) fe_int rfl) (fa_cons rfl (C.ct.idx (C.ct.var 0 (by decide +kernel)) fe_int rfl) fa_nil)) rfl rfl (by decide +kernel) rfl) fe_int rfl))))))
/-! ### below -/
abbrev S_below : Stmt := top 25
def N_below : List Str := ["a", "b"]
noncomputable def B_below : Fn.Env → Out := (thenS (bin2 ltB (bin2 mulB (bin2 idxB (varB 0) (litI 0)) (bin2 idxB (varB 1) (litI 1))) (bin2 mulB (bin2 idxB (varB 1) (litI 0)) (bin2 idxB (varB 0) (litI 1)))) retV)
noncomputable def E_below : En := ⟨"below", 2, defF 2 B_below⟩
theorem c_below {a0 a1 : B} : callE E_below [a0, a1] = (E_below.F [toArg a0, toArg a1]).bind retB := rfl
theorem d_below {a0 a1 : B} (h : [a0, a1].all okArg = true) : E_below.F [a0, a1] = outR (B_below [some a0, some a1]) := def_rt h rfl
noncomputable def T16 : List En := T15 ++ [E_below]
theorem sc_below : FnScope N_below ["a", "b"] (defScope S_below) := ⟨rfl, rfl, rfl, by decide +kernel, rfl, by decide +kernel, by decide +kernel⟩
theorem ok_below {X : Cx} {g : G} {cls : Nat → Value} (C : CS X g cls 15 T15 N_below (defScope S_below) bt) : PSs X (defBody S_below) (tFS g B_below) :=
  (fs_one (fs_ret (cmpE C.ct.lt (C.ct.mul (C.ct.idx (C.ct.var 0 (by decide +kernel)) fe_int rfl) (C.ct.idx (C.ct.var 1 (by decide +kernel)) fe_int rfl)) (C.ct.mul (C.ct.idx (C.ct.var 1 (by decide +kernel)) fe_int rfl) (C.ct.idx (C.ct.var 0 (by decide +kernel)) fe_int rfl)) rfl)))
/-! ### is_price -/
abbrev S_is_price : Stmt := top 29
def N_is_price : List Str := ["web", "thing"]
noncomputable def B_is_price : Fn.Env → Out := (seqS (iteS (notT (testV (ownF E_is_fraction (consA (varB 1) nilA)))) (thenS (litB false) retV) nxS) (thenS (andV (one1 notB (ownF E_below (consA (varB 1) (consA (litD (.ctup [.int 0, .int 1])) nilA)))) (one1 notB (ownF E_below (consA (callF tupB (consA (bin2 idxB (varB 0) (litI 0)) (consA (litI 1) nilA))) (consA (varB 1) nilA))))) retV))
noncomputable def E_is_price : En := ⟨"is_price", 2, defF 2 B_is_price⟩
theorem c_is_price {a0 a1 : B} : callE E_is_price [a0, a1] = (E_is_price.F [toArg a0, toArg a1]).bind retB := rfl
theorem d_is_price {a0 a1 : B} (h : [a0, a1].all okArg = true) : E_is_price.F [a0, a1] = outR (B_is_price [some a0, some a1]) := def_rt h rfl
noncomputable def T17 : List En := T16 ++ [E_is_price]
theorem sc_is_price : FnScope N_is_price ["web", "thing"] (defScope S_is_price) := ⟨rfl, rfl, rfl, by decide +kernel, rfl, by decide +kernel, by decide +kernel⟩
theorem ok_is_price {X : Cx} {g : G} {cls : Nat → Value} (C : CS X g cls 16 T16 N_is_price (defScope S_is_price) bt) : PSs X (defBody S_is_price) (tFS g B_is_price) :=
  (fs_cons (fs_if (ft_not (C.ct.val (C.ct.own 14 (fa_cons rfl (C.ct.var 1 (by decide +kernel)) fa_nil) rfl rfl (by decide +kernel) rfl) rfl)) (fs_one (fs_ret fe_bl)) fs_nil) (fs_one (fs_ret (fe_and (fe_not (C.ct.own 15 (fa_cons rfl (C.ct.var 1 (by decide +kernel)) (fa_cons rfl (C.ct.con 0 rfl (by decide +kernel)) fa_nil)) rfl rfl (by decide +kernel) rfl)) (pe_one (fe_not (C.ct.own 15 (fa_cons rfl (fe_tup (fa_cons rfl (C.ct.idx (C.ct.var 0 (by decide +kernel)) fe_int rfl) (fa_cons rfl fe_int fa_nil))) (fa_cons rfl (C.ct.var 1 (by decide +kernel)) fa_nil)) rfl rfl (by decide +kernel) rfl)))))))
/-! ### check_price -/
abbrev S_check_price : Stmt := top 30
def N_check_price : List Str := ["web", "price"]
noncomputable def B_check_price : Fn.Env → Out := (iteS (notT (testV (ownF E_is_price (consA (varB 0) (consA (varB 1) nilA))))) (rzS 4) nxS)
noncomputable def E_check_price : En := ⟨"check_price", 2, defF 2 B_check_price⟩
theorem c_check_price {a0 a1 : B} : callE E_check_price [a0, a1] = (E_check_price.F [toArg a0, toArg a1]).bind retB := rfl
theorem d_check_price {a0 a1 : B} (h : [a0, a1].all okArg = true) : E_check_price.F [a0, a1] = outR (B_check_price [some a0, some a1]) := def_rt h rfl
noncomputable def T18 : List En := T17 ++ [E_check_price]
theorem sc_check_price : FnScope N_check_price ["web", "price"] (defScope S_check_price) := ⟨rfl, rfl, rfl, by decide +kernel, rfl, by decide +kernel, by decide +kernel⟩
theorem ok_check_price {X : Cx} {g : G} {cls : Nat → Value} (C : CS X g cls 17 T17 N_check_price (defScope S_check_price) bt) : PSs X (defBody S_check_price) (tFS g B_check_price) :=
  (fs_one (fs_if (ft_not (C.ct.val (C.ct.own 16 (fa_cons rfl (C.ct.var 0 (by decide +kernel)) (fa_cons rfl (C.ct.var 1 (by decide +kernel)) fa_nil)) rfl rfl (by decide +kernel) rfl) rfl)) (fs_one (C.rz 4 rfl (by decide +kernel) (by decide +kernel))) fs_nil))
/-! ### fraction -/
abbrev S_fraction : Stmt := top 21
def N_fraction : List Str := ["top", "bottom", "part"]
noncomputable def B_fraction : Fn.Env → Out := (seqS (iteS (tstF (bin2 eqB (varB 1) (litI 0))) (rzS 2) nxS) (seqS (thenS (ownF E_shared_part (consA (varB 0) (consA (varB 1) nilA))) (setL 2)) (seqS (iteS (tstF (bin2 ltB (varB 1) (litI 0))) (thenS (bin2 subB (litI 0) (varB 2)) (setL 2)) nxS) (thenS (callF tupB (consA (bin2 divB (varB 0) (varB 2)) (consA (bin2 divB (varB 1) (varB 2)) nilA))) retV))))
noncomputable def E_fraction : En := ⟨"fraction", 2, defF 3 B_fraction⟩
theorem c_fraction {a0 a1 : B} : callE E_fraction [a0, a1] = (E_fraction.F [toArg a0, toArg a1]).bind retB := rfl
theorem d_fraction {a0 a1 : B} (h : [a0, a1].all okArg = true) : E_fraction.F [a0, a1] = outR (B_fraction [some a0, some a1, none]) := def_rt h rfl
noncomputable def T19 : List En := T18 ++ [E_fraction]
theorem sc_fraction : FnScope N_fraction ["top", "bottom"] (defScope S_fraction) := ⟨rfl, rfl, rfl, by decide +kernel, rfl, by decide +kernel, by decide +kernel⟩
theorem ok_fraction {X : Cx} {g : G} {cls : Nat → Value} (C : CS X g cls 18 T18 N_fraction (defScope S_fraction) bt) : PSs X (defBody S_fraction) (tFS g B_fraction) :=
  (fs_cons (fs_if (cmpT C.ct.eq (C.ct.var 1 (by decide +kernel)) fe_int rfl) (fs_one (C.rz 2 rfl (by decide +kernel) (by decide +kernel))) fs_nil) (fs_cons (fs_setL (C.asg 2 (C.ct.own 13 (fa_cons rfl (C.ct.var 0 (by decide +kernel)) (fa_cons rfl (C.ct.var 1 (by decide +kernel)) fa_nil)) rfl rfl (by decide +kernel) rfl) (by decide +kernel) rfl)) (fs_cons (fs_if (cmpT C.ct.lt (C.ct.var 1 (by decide +kernel)) fe_int rfl) (fs_one (fs_setL (C.asg 2 (C.ct.sub fe_int (C.ct.var 2 (by decide +kernel))) (by decide +kernel) rfl))) fs_nil) (fs_one (fs_ret (fe_tup (fa_cons rfl (C.ct.div (C.ct.var 0 (by decide +kernel)) (C.ct.var 2 (by decide +kernel))) (fa_cons rfl (C.ct.div (C.ct.var 1 (by decide +kernel)) (C.ct.var 2 (by decide +kernel))) fa_nil))))))))
/-! ### plus -/
abbrev S_plus : Stmt := top 22
def N_plus : List Str := ["a", "b"]
noncomputable def B_plus : Fn.Env → Out := (thenS (ownF E_fraction (consA (bin2 addB (bin2 mulB (bin2 idxB (varB 0) (litI 0)) (bin2 idxB (varB 1) (litI 1))) (bin2 mulB (bin2 idxB (varB 1) (litI 0)) (bin2 idxB (varB 0) (litI 1)))) (consA (bin2 mulB (bin2 idxB (varB 0) (litI 1)) (bin2 idxB (varB 1) (litI 1))) nilA))) retV)
noncomputable def E_plus : En := ⟨"plus", 2, defF 2 B_plus⟩
theorem c_plus {a0 a1 : B} : callE E_plus [a0, a1] = (E_plus.F [toArg a0, toArg a1]).bind retB := rfl
theorem d_plus {a0 a1 : B} (h : [a0, a1].all okArg = true) : E_plus.F [a0, a1] = outR (B_plus [some a0, some a1]) := def_rt h rfl
noncomputable def T20 : List En := T19 ++ [E_plus]
theorem sc_plus : FnScope N_plus ["a", "b"] (defScope S_plus) := ⟨rfl, rfl, rfl, by decide +kernel, rfl, by decide +kernel, by decide +kernel⟩
theorem ok_plus {X : Cx} {g : G} {cls : Nat → Value} (C : CS X g cls 19 T19 N_plus (defScope S_plus) bt) : PSs X (defBody S_plus) (tFS g B_plus) :=
  (fs_one (fs_ret (C.ct.own 18 (fa_cons rfl (C.ct.add (C.ct.mul (C.ct.idx (C.ct.var 0 (by decide +kernel)) fe_int rfl) (C.ct.idx (C.ct.var 1 (by decide +kernel)) fe_int rfl)) (C.ct.mul (C.ct.idx (C.ct.var 1 (by decide +kernel)) fe_int rfl) (C.ct.idx (C.ct.var 0 (by decide +kernel)) fe_int rfl))) (fa_cons rfl (C.ct.mul (C.ct.idx (C.ct.var 0 (by decide +kernel)) fe_int rfl) (C.ct.idx (C.ct.var 1 (by decide +kernel)) fe_int rfl)) fa_nil)) rfl rfl (by decide +kernel) rfl)))
/-! ### times -/
abbrev S_times : Stmt := top 24
def N_times : List Str := ["a", "b"]
noncomputable def B_times : Fn.Env → Out := (thenS (ownF E_fraction (consA (bin2 mulB (bin2 idxB (varB 0) (litI 0)) (bin2 idxB (varB 1) (litI 0))) (consA (bin2 mulB (bin2 idxB (varB 0) (litI 1)) (bin2 idxB (varB 1) (litI 1))) nilA))) retV)
noncomputable def E_times : En := ⟨"times", 2, defF 2 B_times⟩
theorem c_times {a0 a1 : B} : callE E_times [a0, a1] = (E_times.F [toArg a0, toArg a1]).bind retB := rfl
theorem d_times {a0 a1 : B} (h : [a0, a1].all okArg = true) : E_times.F [a0, a1] = outR (B_times [some a0, some a1]) := def_rt h rfl
noncomputable def T21 : List En := T20 ++ [E_times]
theorem sc_times : FnScope N_times ["a", "b"] (defScope S_times) := ⟨rfl, rfl, rfl, by decide +kernel, rfl, by decide +kernel, by decide +kernel⟩
theorem ok_times {X : Cx} {g : G} {cls : Nat → Value} (C : CS X g cls 20 T20 N_times (defScope S_times) bt) : PSs X (defBody S_times) (tFS g B_times) :=
  (fs_one (fs_ret (C.ct.own 18 (fa_cons rfl (C.ct.mul (C.ct.idx (C.ct.var 0 (by decide +kernel)) fe_int rfl) (C.ct.idx (C.ct.var 1 (by decide +kernel)) fe_int rfl)) (fa_cons rfl (C.ct.mul (C.ct.idx (C.ct.var 0 (by decide +kernel)) fe_int rfl) (C.ct.idx (C.ct.var 1 (by decide +kernel)) fe_int rfl)) fa_nil)) rfl rfl (by decide +kernel) rfl)))
/-! ### minus -/
abbrev S_minus : Stmt := top 23
def N_minus : List Str := ["a", "b"]
noncomputable def B_minus : Fn.Env → Out := (thenS (ownF E_fraction (consA (bin2 subB (bin2 mulB (bin2 idxB (varB 0) (litI 0)) (bin2 idxB (varB 1) (litI 1))) (bin2 mulB (bin2 idxB (varB 1) (litI 0)) (bin2 idxB (varB 0) (litI 1)))) (consA (bin2 mulB (bin2 idxB (varB 0) (litI 1)) (bin2 idxB (varB 1) (litI 1))) nilA))) retV)
noncomputable def E_minus : En := ⟨"minus", 2, defF 2 B_minus⟩
theorem c_minus {a0 a1 : B} : callE E_minus [a0, a1] = (E_minus.F [toArg a0, toArg a1]).bind retB := rfl
theorem d_minus {a0 a1 : B} (h : [a0, a1].all okArg = true) : E_minus.F [a0, a1] = outR (B_minus [some a0, some a1]) := def_rt h rfl
noncomputable def T22 : List En := T21 ++ [E_minus]
theorem sc_minus : FnScope N_minus ["a", "b"] (defScope S_minus) := ⟨rfl, rfl, rfl, by decide +kernel, rfl, by decide +kernel, by decide +kernel⟩
theorem ok_minus {X : Cx} {g : G} {cls : Nat → Value} (C : CS X g cls 21 T21 N_minus (defScope S_minus) bt) : PSs X (defBody S_minus) (tFS g B_minus) :=
  (fs_one (fs_ret (C.ct.own 18 (fa_cons rfl (C.ct.sub (C.ct.mul (C.ct.idx (C.ct.var 0 (by decide +kernel)) fe_int rfl) (C.ct.idx (C.ct.var 1 (by decide +kernel)) fe_int rfl)) (C.ct.mul (C.ct.idx (C.ct.var 1 (by decide +kernel)) fe_int rfl) (C.ct.idx (C.ct.var 0 (by decide +kernel)) fe_int rfl))) (fa_cons rfl (C.ct.mul (C.ct.idx (C.ct.var 0 (by decide +kernel)) fe_int rfl) (C.ct.idx (C.ct.var 1 (by decide +kernel)) fe_int rfl)) fa_nil)) rfl rfl (by decide +kernel) rfl)))
/-! ### sizes_at -/
abbrev S_sizes_at : Stmt := top 31
def N_sizes_at : List Str := ["web", "price", "into", "out", "name", "one", "grows", "other", "falls", "size"]
noncomputable def B_sizes_at_1 : Fn.Env → Out := (forget [4, 5, 6, 7, 8] (seqS (appV 2 (ownF E_plus (consA (ownF E_fraction (consA (varB 5) (consA (litI 1) nilA))) (consA (ownF E_times (consA (ownF E_fraction (consA (varB 6) (consA (litI 1) nilA))) (consA (varB 1) nilA))) nilA)))) (appV 3 (ownF E_minus (consA (ownF E_fraction (consA (varB 7) (consA (litI 1) nilA))) (consA (ownF E_times (consA (ownF E_fraction (consA (varB 8) (consA (litI 1) nilA))) (consA (varB 1) nilA))) nilA))))))
noncomputable def B_sizes_at : Fn.Env → Out := (seqS (thenS (ownF E_check_price (consA (varB 0) (consA (varB 1) nilA))) dropS) (seqS (thenS (callF lstB nilA) (setV 2)) (seqS (thenS (callF lstB nilA) (setV 3)) (seqS (forget [4, 5, 6, 7, 8] (forV (.many [4, 5, 6, 7, 8]) (itF false (bin2 idxB (varB 0) (litI 1))) B_sizes_at_1)) (lockS 2 (lockS 3 (thenS (callF tupB (consA (callF tupF (consA (varB 2) nilA)) (consA (callF tupF (consA (compV (.many [5, 7, 9]) (itF true (bin2 idxB (varB 0) (litI 2))) yesF (callF tupB (consA (varB 9) (consA (litI 1) nilA))) [5, 7, 9]) nilA)) (consA (callF tupF (consA (varB 3) nilA)) nilA)))) retV)))))))
noncomputable def E_sizes_at : En := ⟨"sizes_at", 2, defF 10 B_sizes_at⟩
theorem c_sizes_at {a0 a1 : B} : callE E_sizes_at [a0, a1] = (E_sizes_at.F [toArg a0, toArg a1]).bind retB := rfl
theorem d_sizes_at {a0 a1 : B} (h : [a0, a1].all okArg = true) : E_sizes_at.F [a0, a1] = outR (B_sizes_at [some a0, some a1, none, none, none, none, none, none, none, none]) := def_rt h rfl
noncomputable def T23 : List En := T22 ++ [E_sizes_at]
theorem sc_sizes_at : FnScope N_sizes_at ["web", "price"] (defScope S_sizes_at) := ⟨rfl, rfl, rfl, by decide +kernel, rfl, by decide +kernel, by decide +kernel⟩
theorem ok_sizes_at {X : Cx} {g : G} {cls : Nat → Value} (C : CS X g cls 22 T22 N_sizes_at (defScope S_sizes_at) bt) : PSs X (defBody S_sizes_at) (tFS g B_sizes_at) :=
  (fs_cons (C.ex (C.ct.own 17 (fa_cons rfl (C.ct.var 0 (by decide +kernel)) (fa_cons rfl (C.ct.var 1 (by decide +kernel)) fa_nil)) rfl rfl (by decide +kernel) rfl) rfl) (fs_cons (C.asg 2 (fe_lst fa_nil) (by decide +kernel) rfl) (fs_cons (C.asg 3 (fe_lst fa_nil) (by decide +kernel) rfl) (fs_cons (fs_forget [4, 5, 6, 7, 8] (C.fo (C.ct.it (C.ct.idx (C.ct.var 0 (by decide +kernel)) fe_int rfl)) (C.gm [4, 5, 6, 7, 8] (by decide +kernel)) (fun _ C => (fs_forgets [4, 5, 6, 7, 8] (fs_cons (C.app 2 (C.ct.own 19 (fa_cons rfl (C.ct.own 18 (fa_cons rfl (C.ct.var 5 (by decide +kernel)) (fa_cons rfl fe_int fa_nil)) rfl rfl (by decide +kernel) rfl) (fa_cons rfl (C.ct.own 20 (fa_cons rfl (C.ct.own 18 (fa_cons rfl (C.ct.var 6 (by decide +kernel)) (fa_cons rfl fe_int fa_nil)) rfl rfl (by decide +kernel) rfl) (fa_cons rfl (C.ct.var 1 (by decide +kernel)) fa_nil)) rfl rfl (by decide +kernel) rfl) fa_nil)) rfl rfl (by decide +kernel) rfl) (by decide +kernel) rfl) (fs_one (C.app 3 (C.ct.own 21 (fa_cons rfl (C.ct.own 18 (fa_cons rfl (C.ct.var 7 (by decide +kernel)) (fa_cons rfl fe_int fa_nil)) rfl rfl (by decide +kernel) rfl) (fa_cons rfl (C.ct.own 20 (fa_cons rfl (C.ct.own 18 (fa_cons rfl (C.ct.var 8 (by decide +kernel)) (fa_cons rfl fe_int fa_nil)) rfl rfl (by decide +kernel) rfl) (fa_cons rfl (C.ct.var 1 (by decide +kernel)) fa_nil)) rfl rfl (by decide +kernel) rfl) fa_nil)) rfl rfl (by decide +kernel) rfl) (by decide +kernel) rfl))))) rfl)) (fs_lock 2 (fs_lock 3 (fs_one (fs_ret (fe_tup (fa_cons rfl (C.ct.call C.ct.tup (fa_cons rfl (C.ct.var 2 (by decide +kernel)) fa_nil) (by decide +kernel) (by decide +kernel) rfl) (fa_cons rfl (C.ct.call C.ct.tup (fa_cons rfl (C.ct.lc [("one", 5), ("other", 7), ("size", 9)] (C.ct.it (C.ct.idx (C.ct.var 0 (by decide +kernel)) fe_int rfl)) (fun C1 => ⟨(C1.gm [5, 7, 9] (by decide +kernel)), ifs0, (fe_tup (fa_cons rfl (C1.var 9 (by decide +kernel)) (fa_cons rfl fe_int fa_nil)))⟩) (by decide +kernel)) fa_nil) (by decide +kernel) (by decide +kernel) rfl) (fa_cons rfl (C.ct.call C.ct.tup (fa_cons rfl (C.ct.var 3 (by decide +kernel)) fa_nil) (by decide +kernel) (by decide +kernel) rfl) fa_nil))))))))))))
/-! ### law_caught_v2 -/
abbrev S_law_caught_v2 : Stmt := top 45
def N_law_caught_v2 : List Str := ["_law_web_here", "_law_thing", "e", "_law_others"]
noncomputable def B_law_caught_v2_1 : Fn.Env → Out := (thenS (ownF E_sizes_at (consA (varB 0) (consA (varB 1) nilA))) retV)
noncomputable def B_law_caught_v2_2 : Fn.Env → Out := (seqS (thenS (one1 (errT [2, 4] [3, 7, 6, 2, 9, 11, 15, 8, 5, 1]) (varB 2)) (setV 3)) (seqS (thenS (orV (varB 3) (orV (one1 (errT [2, 4] [12, 10, 13, 14]) (varB 2)) (one1 notB (one1 (errV [2, 4]) (varB 2))))) (setL 3)) (thenS (bin2 idxB (callF lstB (consA (litS "other") (consA (litS "refused") nilA))) (callF intF (consA (andV (one1 (errI [2, 4] 4) (varB 2)) (one1 notB (varB 3))) nilA))) retV)))
noncomputable def B_law_caught_v2 : Fn.Env → Out := (forget [2, 3] (tryS [2, 4] 0 (some 2) B_law_caught_v2_1 B_law_caught_v2_2))
noncomputable def E_law_caught_v2 : En := ⟨"_law_caught", 2, defF 4 B_law_caught_v2⟩
theorem c_law_caught_v2 {a0 a1 : B} : callE E_law_caught_v2 [a0, a1] = (E_law_caught_v2.F [toArg a0, toArg a1]).bind retB := rfl
theorem d_law_caught_v2 {a0 a1 : B} (h : [a0, a1].all okArg = true) : E_law_caught_v2.F [a0, a1] = outR (B_law_caught_v2 [some a0, some a1, none, none]) := def_rt h rfl
noncomputable def T24 : List En := T23 ++ [E_law_caught_v2]
theorem sc_law_caught_v2 : FnScope N_law_caught_v2 ["_law_web_here", "_law_thing"] (defScope S_law_caught_v2) := ⟨rfl, rfl, rfl, by decide +kernel, rfl, by decide +kernel, by decide +kernel⟩
theorem ok_law_caught_v2 {X : Cx} {g : G} {cls : Nat → Value} (C : CS X g cls 23 T23 N_law_caught_v2 (defScope S_law_caught_v2) bt) : PSs X (defBody S_law_caught_v2) (tFS g B_law_caught_v2) :=
  (fs_one (fs_forget [2, 3] (C.tra 0 2 rfl (by decide +kernel) (by decide +kernel) (fun C => (fs_one (fs_ret (C.ct.own 22 (fa_cons rfl (C.ct.var 0 (by decide +kernel)) (fa_cons rfl (C.ct.var 1 (by decide +kernel)) fa_nil)) rfl rfl (by decide +kernel) rfl)))) (fun C => (fs_cons (C.asg 3 (C.ct.isET [3, 7, 6, 2, 9, 11, 15, 8, 5, 1] (C.ct.var 2 (by decide +kernel)) (by decide +kernel) rfl (by decide +kernel) rfl) (by decide +kernel) rfl) (fs_cons (fs_setL (C.asg 3 (fe_or (C.ct.var 3 (by decide +kernel)) (fe_or (C.ct.isET [12, 10, 13, 14] (C.ct.var 2 (by decide +kernel)) (by decide +kernel) rfl (by decide +kernel) rfl) (pe_one (fe_not (C.ct.isEV (C.ct.var 2 (by decide +kernel)) (by decide +kernel) (by decide +kernel) rfl))))) (by decide +kernel) rfl)) (fs_one (fs_ret (C.ct.idx (fe_lst (fa_cons rfl fe_str (fa_cons rfl fe_str fa_nil))) (C.ct.call C.ct.int (fa_cons rfl (fe_and (C.ct.isE 4 (C.ct.var 2 (by decide +kernel)) rfl (by decide +kernel) (by decide +kernel) rfl) (pe_one (fe_not (C.ct.var 3 (by decide +kernel))))) fa_nil) (by decide +kernel) (by decide +kernel) rfl) rfl)))))))))
/-! ### law_due_v1 -/
abbrev S_law_due_v1 : Stmt := top 46
def N_law_due_v1 : List Str := ["_law_web_here", "_law_price_here", "_law_top", "_law_bottom", "_law_into", "_law_out", "_law_name", "_law_a", "_law_b", "_law_c", "_law_d", "_law_tie"]
noncomputable def B_law_due_v1_1 : Fn.Env → Out := (forget [6, 7, 8, 9, 10] (seqS (appV 4 (ownF E_law_low (consA (bin2 addB (bin2 mulB (varB 7) (varB 3)) (bin2 mulB (varB 8) (varB 2))) (consA (varB 3) nilA)))) (appV 5 (ownF E_law_low (consA (bin2 subB (bin2 mulB (varB 9) (varB 3)) (bin2 mulB (varB 10) (varB 2))) (consA (varB 3) nilA))))))
noncomputable def B_law_due_v1 : Fn.Env → Out := (seqS (thenS (varB 1) (bindV (.many [2, 3]))) (seqS (par2 4 5 (callF lstB nilA) (callF lstB nilA)) (seqS (forget [6, 7, 8, 9, 10] (forV (.many [6, 7, 8, 9, 10]) (itF false (bin2 idxB (varB 0) (litI 1))) B_law_due_v1_1)) (lockS 5 (lockS 4 (thenS (callF tupB (consA (callF tupF (consA (varB 4) nilA)) (consA (callF tupF (consA (compV (.one 11) (itF true (bin2 idxB (varB 0) (litI 2))) yesF (callF tupB (consA (bin2 idxB (varB 11) (litI 2)) (consA (litI 1) nilA))) [11]) nilA)) (consA (callF tupF (consA (varB 5) nilA)) nilA)))) retV))))))
noncomputable def E_law_due_v1 : En := ⟨"_law_due", 2, defF 12 B_law_due_v1⟩
theorem c_law_due_v1 {a0 a1 : B} : callE E_law_due_v1 [a0, a1] = (E_law_due_v1.F [toArg a0, toArg a1]).bind retB := rfl
theorem d_law_due_v1 {a0 a1 : B} (h : [a0, a1].all okArg = true) : E_law_due_v1.F [a0, a1] = outR (B_law_due_v1 [some a0, some a1, none, none, none, none, none, none, none, none, none, none]) := def_rt h rfl
noncomputable def T25 : List En := T24 ++ [E_law_due_v1]
theorem sc_law_due_v1 : FnScope N_law_due_v1 ["_law_web_here", "_law_price_here"] (defScope S_law_due_v1) := ⟨rfl, rfl, rfl, by decide +kernel, rfl, by decide +kernel, by decide +kernel⟩
theorem ok_law_due_v1 {X : Cx} {g : G} {cls : Nat → Value} (C : CS X g cls 24 T24 N_law_due_v1 (defScope S_law_due_v1) bt) : PSs X (defBody S_law_due_v1) (tFS g B_law_due_v1) :=
  (fs_cons (C.asgT (C.ct.var 1 (by decide +kernel)) (C.gm [2, 3] (by decide +kernel)) rfl rfl) (fs_cons (C.par2 4 5 (fe_lst fa_nil) (fe_lst fa_nil) (by decide +kernel) (by decide +kernel) (by decide) (by decide +kernel)) (fs_cons (fs_forget [6, 7, 8, 9, 10] (C.fo (C.ct.it (C.ct.idx (C.ct.var 0 (by decide +kernel)) fe_int rfl)) (C.gm [6, 7, 8, 9, 10] (by decide +kernel)) (fun _ C => (fs_forgets [6, 7, 8, 9, 10] (fs_cons (C.app 4 (C.ct.own 10 (fa_cons rfl (C.ct.add (C.ct.mul (C.ct.var 7 (by decide +kernel)) (C.ct.var 3 (by decide +kernel))) (C.ct.mul (C.ct.var 8 (by decide +kernel)) (C.ct.var 2 (by decide +kernel)))) (fa_cons rfl (C.ct.var 3 (by decide +kernel)) fa_nil)) rfl rfl (by decide +kernel) rfl) (by decide +kernel) rfl) (fs_one (C.app 5 (C.ct.own 10 (fa_cons rfl (C.ct.sub (C.ct.mul (C.ct.var 9 (by decide +kernel)) (C.ct.var 3 (by decide +kernel))) (C.ct.mul (C.ct.var 10 (by decide +kernel)) (C.ct.var 2 (by decide +kernel)))) (fa_cons rfl (C.ct.var 3 (by decide +kernel)) fa_nil)) rfl rfl (by decide +kernel) rfl) (by decide +kernel) rfl))))) rfl)) (fs_lock 5 (fs_lock 4 (fs_one (fs_ret (fe_tup (fa_cons rfl (C.ct.call C.ct.tup (fa_cons rfl (C.ct.var 4 (by decide +kernel)) fa_nil) (by decide +kernel) (by decide +kernel) rfl) (fa_cons rfl (C.ct.call C.ct.tup (fa_cons rfl (C.ct.lc [("_law_tie", 11)] (C.ct.it (C.ct.idx (C.ct.var 0 (by decide +kernel)) fe_int rfl)) (fun C1 => ⟨(C1.g1 11 (by decide +kernel)), ifs0, (fe_tup (fa_cons rfl (C1.idx (C1.var 11 (by decide +kernel)) fe_int rfl) (fa_cons rfl fe_int fa_nil)))⟩) (by decide +kernel)) fa_nil) (by decide +kernel) (by decide +kernel) rfl) (fa_cons rfl (C.ct.call C.ct.tup (fa_cons rfl (C.ct.var 5 (by decide +kernel)) fa_nil) (by decide +kernel) (by decide +kernel) rfl) fa_nil)))))))))))
/-! ### law_right_v1 -/
abbrev S_law_right_v1 : Stmt := top 47
def N_law_right_v1 : List Str := ["_law_web_here", "_law_thing", "_law_good", "_law_found", "_law_told"]
noncomputable def B_law_right_v1 : Fn.Env → Out := (seqS (thenS (andV (ownF E_law_is_fraction_v2 (consA (varB 1) nilA)) (chn leF leF (litI 0) (bin2 idxB (varB 1) (litI 0)) (bin2 mulB (bin2 idxB (varB 0) (litI 0)) (bin2 idxB (varB 1) (litI 1))))) (setL 2)) (seqS (thenS (ownF E_is_price (consA (varB 0) (consA (varB 1) nilA))) (setL 3)) (seqS (iteS (orT (notT (testV (one1 (isiB .bool) (varB 3)))) (tstF (bin2 neB (varB 3) (varB 2)))) (thenS (litB false) retV) nxS) (seqS (thenS (ownF E_law_caught_v2 (consA (varB 0) (consA (varB 1) nilA))) (setL 4)) (seqS (iteS (notT (testV (varB 2))) (thenS (bin2 eqB (varB 4) (litS "refused")) retV) nxS) (thenS (bin2 eqB (varB 4) (ownF E_law_due_v1 (consA (varB 0) (consA (varB 1) nilA)))) retV))))))
noncomputable def E_law_right_v1 : En := ⟨"_law_right", 2, defF 5 B_law_right_v1⟩
theorem c_law_right_v1 {a0 a1 : B} : callE E_law_right_v1 [a0, a1] = (E_law_right_v1.F [toArg a0, toArg a1]).bind retB := rfl
theorem d_law_right_v1 {a0 a1 : B} (h : [a0, a1].all okArg = true) : E_law_right_v1.F [a0, a1] = outR (B_law_right_v1 [some a0, some a1, none, none, none]) := def_rt h rfl
noncomputable def T26 : List En := T25 ++ [E_law_right_v1]
theorem sc_law_right_v1 : FnScope N_law_right_v1 ["_law_web_here", "_law_thing"] (defScope S_law_right_v1) := ⟨rfl, rfl, rfl, by decide +kernel, rfl, by decide +kernel, by decide +kernel⟩
theorem ok_law_right_v1 {X : Cx} {g : G} {cls : Nat → Value} (C : CS X g cls 25 T25 N_law_right_v1 (defScope S_law_right_v1) bt) : PSs X (defBody S_law_right_v1) (tFS g B_law_right_v1) :=
  (fs_cons (fs_setL (C.asg 2 (fe_and (C.ct.own 11 (fa_cons rfl (C.ct.var 1 (by decide +kernel)) fa_nil) rfl rfl (by decide +kernel) rfl) (pe_one (chainE C.ct.le C.ct.le fe_int (C.ct.idx (C.ct.var 1 (by decide +kernel)) fe_int rfl) (C.ct.mul (C.ct.idx (C.ct.var 0 (by decide +kernel)) fe_int rfl) (C.ct.idx (C.ct.var 1 (by decide +kernel)) fe_int rfl)) rfl))) (by decide +kernel) rfl)) (fs_cons (fs_setL (C.asg 3 (C.ct.own 16 (fa_cons rfl (C.ct.var 0 (by decide +kernel)) (fa_cons rfl (C.ct.var 1 (by decide +kernel)) fa_nil)) rfl rfl (by decide +kernel) rfl) (by decide +kernel) rfl)) (fs_cons (fs_if (ft_or (ft_not (C.ct.val (C.ct.isi .bool (C.ct.var 3 (by decide +kernel)) rfl (by decide +kernel) (by decide +kernel) boot_bool rfl) rfl)) (pw_or1 (cmpT C.ct.ne (C.ct.var 3 (by decide +kernel)) (C.ct.var 2 (by decide +kernel)) rfl))).pt (fs_one (fs_ret fe_bl)) fs_nil) (fs_cons (fs_setL (C.asg 4 (C.ct.own 23 (fa_cons rfl (C.ct.var 0 (by decide +kernel)) (fa_cons rfl (C.ct.var 1 (by decide +kernel)) fa_nil)) rfl rfl (by decide +kernel) rfl) (by decide +kernel) rfl)) (fs_cons (fs_if (ft_not (C.ct.val (C.ct.var 2 (by decide +kernel)) rfl)) (fs_one (fs_ret (cmpE C.ct.eq (C.ct.var 4 (by decide +kernel)) fe_str rfl))) fs_nil) (fs_one (fs_ret (cmpE C.ct.eq (C.ct.var 4 (by decide +kernel)) (C.ct.own 24 (fa_cons rfl (C.ct.var 0 (by decide +kernel)) (fa_cons rfl (C.ct.var 1 (by decide +kernel)) fa_nil)) rfl rfl (by decide +kernel) rfl) rfl))))))))
/-! ### law_price -/
abbrev S_law_price : Stmt := top 42
def N_law_price : List Str := ["_law_web_here", "_law_x", "_law_y", "_law_bottom"]
noncomputable def B_law_price : Fn.Env → Out := (seqS (thenS (bin2 addB (litI 1) (bin2 modB (varB 2) (bin2 idxB (callF lstB (consA (litI 1) (consA (litI 2) (consA (litI 3) (consA (litI 7) (consA (litI 12) (consA (litI 60) (consA (litI 999983) (consA (litI 99999999977) nilA))))))))) (bin2 modB (bin2 divB (varB 2) (litI 64)) (litI 8))))) (setL 3)) (thenS (ownF E_law_low (consA (bin2 modB (varB 1) (bin2 addB (bin2 mulB (bin2 idxB (varB 0) (litI 0)) (varB 3)) (litI 1))) (consA (varB 3) nilA))) retV))
noncomputable def E_law_price : En := ⟨"_law_price", 3, defF 4 B_law_price⟩
theorem c_law_price {a0 a1 a2 : B} : callE E_law_price [a0, a1, a2] = (E_law_price.F [toArg a0, toArg a1, toArg a2]).bind retB := rfl
theorem d_law_price {a0 a1 a2 : B} (h : [a0, a1, a2].all okArg = true) : E_law_price.F [a0, a1, a2] = outR (B_law_price [some a0, some a1, some a2, none]) := def_rt h rfl
noncomputable def T27 : List En := T26 ++ [E_law_price]
theorem sc_law_price : FnScope N_law_price ["_law_web_here", "_law_x", "_law_y"] (defScope S_law_price) := ⟨rfl, rfl, rfl, by decide +kernel, rfl, by decide +kernel, by decide +kernel⟩
theorem ok_law_price {X : Cx} {g : G} {cls : Nat → Value} (C : CS X g cls 26 T26 N_law_price (defScope S_law_price) bt) : PSs X (defBody S_law_price) (tFS g B_law_price) :=
  (fs_cons (fs_setL (C.asg 3 (C.ct.add fe_int (C.ct.mod (C.ct.var 2 (by decide +kernel)) (C.ct.idx (fe_lst (fa_cons rfl fe_int (fa_cons rfl fe_int (fa_cons rfl fe_int (fa_cons rfl fe_int (fa_cons rfl fe_int (fa_cons rfl fe_int (fa_cons rfl fe_int (fa_cons rfl fe_int fa_nil))))))))) (C.ct.mod (C.ct.div (C.ct.var 2 (by decide +kernel)) fe_int) fe_int) rfl))) (by decide +kernel) rfl)) (fs_one (fs_ret (C.ct.own 10 (fa_cons rfl (C.ct.mod (C.ct.var 1 (by decide +kernel)) (C.ct.add (C.ct.mul (C.ct.idx (C.ct.var 0 (by decide +kernel)) fe_int rfl) (C.ct.var 3 (by decide +kernel))) fe_int)) (fa_cons rfl (C.ct.var 3 (by decide +kernel)) fa_nil)) rfl rfl (by decide +kernel) rfl))))
/-! ### law -/
abbrev S_law : Stmt := top 48
def N_law : List Str := ["_law_script", "_law_web_here", "_law_fixed", "_law_cell_here", "_law_xs", "_law_price_here", "_law_times_two", "_law_beyond", "_law_thing", "_law_place_here"]
noncomputable def B_law_1 : Fn.Env → Out := (forget [8] (iteS (notT (testV (ownF E_law_right_v1 (consA (varB 1) (consA (varB 8) nilA))))) (thenS (litB false) retV) nxS))
noncomputable def B_law_2 : Fn.Env → Out := (forget [3, 4, 5, 6, 7, 8] (seqS (thenS (ownF E_law_numbers (consA (varB 3) (consA (litI 6) nilA))) (setL 4)) (seqS (thenS (ownF E_law_price (consA (varB 1) (consA (bin2 idxB (varB 4) (litI 0)) (consA (bin2 idxB (varB 4) (litI 1)) nilA)))) (setL 5)) (seqS (thenS (bin2 idxB (callF lstB (consA (callF tupB (consA (bin2 mulB (litI 2) (bin2 idxB (varB 5) (litI 0))) (consA (bin2 mulB (litI 2) (bin2 idxB (varB 5) (litI 1))) nilA))) (consA (callF tupB (consA (litI 2) (consA (litI 2) nilA))) nilA))) (callF intF (consA (bin2 gtF (bin2 idxB (varB 5) (litI 0)) (bin2 mulB (litI 4) (bin2 powB (litI 10) (litI 11)))) nilA))) (setL 6)) (seqS (thenS (callF tupB (consA (bin2 addB (bin2 mulB (bin2 idxB (varB 1) (litI 0)) (bin2 idxB (varB 5) (litI 1))) (litI 1)) (consA (bin2 idxB (varB 5) (litI 1)) nilA))) (setV 7)) (forget [8] (forV (.one 8) (itF false (callF lstB (consA (varB 5) (consA (varB 6) (consA (varB 7) (consA (callF tupB (consA (bin2 subB (litI 0) (bin2 idxB (varB 5) (litI 0))) (consA (bin2 idxB (varB 5) (litI 1)) nilA))) (consA (callF tupB (consA (bin2 idxB (varB 5) (litI 0)) (consA (bin2 subB (litI 0) (bin2 idxB (varB 5) (litI 1))) nilA))) (consA (callF lstF (consA (varB 5) nilA)) nilA)))))))) B_law_1)))))))
noncomputable def B_law : Fn.Env → Out := (seqS (thenS (ownF E_law_drawn_v2 (consA (varB 0) nilA)) (setL 1)) (seqS (iteS (orT (tstF (bin2 neB (ownF E_names_of (consA (varB 1) nilA)) (callF tupF (consA (compV (.one 9) (itF true (bin2 idxB (varB 1) (litI 1))) yesF (bin2 idxB (varB 9) (litI 0)) [9]) nilA)))) (notT (testV (one1 (isiB .tuple) (ownF E_names_of (consA (varB 1) nilA)))))) (thenS (litB false) retV) nxS) (seqS (thenS (callF lstB (consA (callF tupB (consA (litI 0) (consA (litI 1) nilA))) (consA (callF tupB (consA (bin2 idxB (varB 1) (litI 0)) (consA (litI 1) nilA))) (consA (callF tupB (consA (bin2 addB (bin2 idxB (varB 1) (litI 0)) (litI 1)) (consA (litI 1) nilA))) (consA (callF tupB (consA (one1 negB (litI 1)) (consA (litI 1) nilA))) (consA (callF tupB (consA (bin2 addB (bin2 mulB (litI 999) (bin2 idxB (varB 1) (litI 0))) (litI 1)) (consA (litI 999) nilA))) (consA (callF tupB (consA (litI 1) (consA (litI 999) nilA))) (consA (callF tupB (consA (one1 negB (litI 1)) (consA (litI 999999) nilA))) nilA)))))))) (setL 2)) (seqS (thenS (bin2 addB (varB 2) (callF lstB (consA litN (consA (litB true) (consA (litI 0) (consA (litI 1) nilA)))))) (setL 2)) (seqS (thenS (bin2 addB (varB 2) (callF lstB (consA (litS "1") (consA (litS "") (consA (callF tupB nilA) (consA (callF tupB (consA (litI 1) nilA)) (consA (callF tupB (consA (litI 0) (consA (litI 2) nilA))) (consA (callF tupB (consA (litI 2) (consA (litI 2) nilA))) (consA (callF lstB (consA (litI 0) (consA (litI 1) nilA))) (consA (callF tupB (consA (litI 0) (consA (litB true) nilA))) (consA (callF tupB (consA (litB true) (consA (litI 1) nilA))) nilA))))))))))) (setL 2)) (seqS (thenS (bin2 addB (varB 2) (callF lstB (consA (callF tupB (consA (litI 1) (consA (litI 0) nilA))) (consA (callF tupB (consA (litI 0) (consA (one1 negB (litI 1)) nilA))) (consA newK (consA (callF tupB (consA (callF tupB (consA (litI 0) (consA (litI 1) nilA))) nilA)) (consA (callF tupB (consA (litI 0) (consA (litI 1) (consA (litI 1) nilA)))) (consA (callF tupB (consA (callF lstB (consA (litI 0) nilA)) (consA (litI 1) nilA))) (consA (callF tupB (consA (litI 0) (consA (callF lstB (consA (litI 1) nilA)) nilA))) (consA (callF tupB (consA newK (consA (litI 1) nilA))) nilA)))))))))) (setL 2)) (seqS (iteS (notT (testV (callF allF (consA (compV (.one 8) (itF true (varB 2)) yesF (ownF E_law_right_v1 (consA (varB 1) (consA (varB 8) nilA))) [8]) nilA)))) (thenS (litB false) retV) nxS) (seqS (forget [3, 4, 5, 6, 7, 8] (forV (.one 3) (itF false (bin2 addB (callF lstB (consA (ownF E_law_cell (consA (varB 0) (consA (litI 30) nilA))) nilA)) (slcV (varB 0) (atP (litI 31)) (atP (litI 46))))) B_law_2)) (thenS (litB true) retV)))))))))
noncomputable def E_law : En := ⟨"law", 1, defF 10 B_law⟩
theorem c_law {a0 : B} : callE E_law [a0] = (E_law.F [toArg a0]).bind retB := rfl
theorem d_law {a0 : B} (h : [a0].all okArg = true) : E_law.F [a0] = outR (B_law [some a0, none, none, none, none, none, none, none, none, none]) := def_rt h rfl
noncomputable def T28 : List En := T27 ++ [E_law]
theorem sc_law : FnScope N_law ["_law_script"] (defScope S_law) := ⟨rfl, rfl, rfl, by decide +kernel, rfl, by decide +kernel, by decide +kernel⟩
theorem ok_law {X : Cx} {g : G} {cls : Nat → Value} (C : CS X g cls 27 T27 N_law (defScope S_law) bt) : PSs X (defBody S_law) (tFS g B_law) :=
  (fs_cons (fs_setL (C.asg 1 (C.ct.own 7 (fa_cons rfl (C.ct.var 0 (by decide +kernel)) fa_nil) rfl rfl (by decide +kernel) rfl) (by decide +kernel) rfl)) (fs_cons (fs_if (ft_or (cmpT C.ct.ne (C.ct.own 8 (fa_cons rfl (C.ct.var 1 (by decide +kernel)) fa_nil) rfl rfl (by decide +kernel) rfl) (C.ct.call C.ct.tup (fa_cons rfl (C.ct.lc [("_law_place_here", 9)] (C.ct.it (C.ct.idx (C.ct.var 1 (by decide +kernel)) fe_int rfl)) (fun C1 => ⟨(C1.g1 9 (by decide +kernel)), ifs0, (C1.idx (C1.var 9 (by decide +kernel)) fe_int rfl)⟩) (by decide +kernel)) fa_nil) (by decide +kernel) (by decide +kernel) rfl) rfl) (pw_or1 (ft_not (C.ct.val (C.ct.isi .tuple (C.ct.own 8 (fa_cons rfl (C.ct.var 1 (by decide +kernel)) fa_nil) rfl rfl (by decide +kernel) rfl) rfl (by decide +kernel) (by decide +kernel) boot_tuple rfl) rfl)))).pt (fs_one (fs_ret fe_bl)) fs_nil) (fs_cons (fs_setL (C.asg 2 (fe_lst (fa_cons rfl (fe_tup (fa_cons rfl fe_int (fa_cons rfl fe_int fa_nil))) (fa_cons rfl (fe_tup (fa_cons rfl (C.ct.idx (C.ct.var 1 (by decide +kernel)) fe_int rfl) (fa_cons rfl fe_int fa_nil))) (fa_cons rfl (fe_tup (fa_cons rfl (C.ct.add (C.ct.idx (C.ct.var 1 (by decide +kernel)) fe_int rfl) fe_int) (fa_cons rfl fe_int fa_nil))) (fa_cons rfl (fe_tup (fa_cons rfl (fe_neg fe_int) (fa_cons rfl fe_int fa_nil))) (fa_cons rfl (fe_tup (fa_cons rfl (C.ct.add (C.ct.mul fe_int (C.ct.idx (C.ct.var 1 (by decide +kernel)) fe_int rfl)) fe_int) (fa_cons rfl fe_int fa_nil))) (fa_cons rfl (fe_tup (fa_cons rfl fe_int (fa_cons rfl fe_int fa_nil))) (fa_cons rfl (fe_tup (fa_cons rfl (fe_neg fe_int) (fa_cons rfl fe_int fa_nil))) fa_nil)))))))) (by decide +kernel) rfl)) (fs_cons (fs_setL (C.asg 2 (C.ct.add (C.ct.var 2 (by decide +kernel)) (fe_lst (fa_cons rfl fe_non (fa_cons rfl fe_bl (fa_cons rfl fe_int (fa_cons rfl fe_int fa_nil)))))) (by decide +kernel) rfl)) (fs_cons (fs_setL (C.asg 2 (C.ct.add (C.ct.var 2 (by decide +kernel)) (fe_lst (fa_cons rfl fe_str (fa_cons rfl fe_str (fa_cons rfl (fe_tup fa_nil) (fa_cons rfl (fe_tup (fa_cons rfl fe_int fa_nil)) (fa_cons rfl (fe_tup (fa_cons rfl fe_int (fa_cons rfl fe_int fa_nil))) (fa_cons rfl (fe_tup (fa_cons rfl fe_int (fa_cons rfl fe_int fa_nil))) (fa_cons rfl (fe_lst (fa_cons rfl fe_int (fa_cons rfl fe_int fa_nil))) (fa_cons rfl (fe_tup (fa_cons rfl fe_int (fa_cons rfl fe_bl fa_nil))) (fa_cons rfl (fe_tup (fa_cons rfl fe_bl (fa_cons rfl fe_int fa_nil))) fa_nil))))))))))) (by decide +kernel) rfl)) (fs_cons (fs_setL (C.asg 2 (C.ct.add (C.ct.var 2 (by decide +kernel)) (fe_lst (fa_cons rfl (fe_tup (fa_cons rfl fe_int (fa_cons rfl fe_int fa_nil))) (fa_cons rfl (fe_tup (fa_cons rfl fe_int (fa_cons rfl (fe_neg fe_int) fa_nil))) (fa_cons rfl fe_dicK (fa_cons rfl (fe_tup (fa_cons rfl (fe_tup (fa_cons rfl fe_int (fa_cons rfl fe_int fa_nil))) fa_nil)) (fa_cons rfl (fe_tup (fa_cons rfl fe_int (fa_cons rfl fe_int (fa_cons rfl fe_int fa_nil)))) (fa_cons rfl (fe_tup (fa_cons rfl (fe_lst (fa_cons rfl fe_int fa_nil)) (fa_cons rfl fe_int fa_nil))) (fa_cons rfl (fe_tup (fa_cons rfl fe_int (fa_cons rfl (fe_lst (fa_cons rfl fe_int fa_nil)) fa_nil))) (fa_cons rfl (fe_tup (fa_cons rfl fe_dicK (fa_cons rfl fe_int fa_nil))) fa_nil)))))))))) (by decide +kernel) rfl)) (fs_cons (fs_if (ft_not (C.ct.val (C.ct.call C.ct.all (fa_cons rfl (C.ct.lc [("_law_thing", 8)] (C.ct.it (C.ct.var 2 (by decide +kernel))) (fun C2 => ⟨(C2.g1 8 (by decide +kernel)), ifs0, (C2.own 25 (fa_cons rfl (C2.var 1 (by decide +kernel)) (fa_cons rfl (C2.var 8 (by decide +kernel)) fa_nil)) rfl rfl (by decide +kernel) rfl)⟩) (by decide +kernel)) fa_nil) (by decide +kernel) (by decide +kernel) rfl) rfl)) (fs_one (fs_ret fe_bl)) fs_nil) (fs_cons (fs_forget [3, 4, 5, 6, 7, 8] (C.fo (C.ct.it (C.ct.add (fe_lst (fa_cons rfl (C.ct.own 1 (fa_cons rfl (C.ct.var 0 (by decide +kernel)) (fa_cons rfl fe_int fa_nil)) rfl rfl (by decide +kernel) rfl) fa_nil)) (C.ct.slc (C.ct.var 0 (by decide +kernel)) (fo_some fe_int) (fo_some fe_int)))) (C.g1 3 (by decide +kernel)) (fun _ C => (fs_forgets [3, 4, 5, 6, 7, 8] (fs_cons (fs_setL (C.asg 4 (C.ct.own 0 (fa_cons rfl (C.ct.var 3 (by decide +kernel)) (fa_cons rfl fe_int fa_nil)) rfl rfl (by decide +kernel) rfl) (by decide +kernel) rfl)) (fs_cons (fs_setL (C.asg 5 (C.ct.own 26 (fa_cons rfl (C.ct.var 1 (by decide +kernel)) (fa_cons rfl (C.ct.idx (C.ct.var 4 (by decide +kernel)) fe_int rfl) (fa_cons rfl (C.ct.idx (C.ct.var 4 (by decide +kernel)) fe_int rfl) fa_nil))) rfl rfl (by decide +kernel) rfl) (by decide +kernel) rfl)) (fs_cons (fs_setL (C.asg 6 (C.ct.idx (fe_lst (fa_cons rfl (fe_tup (fa_cons rfl (C.ct.mul fe_int (C.ct.idx (C.ct.var 5 (by decide +kernel)) fe_int rfl)) (fa_cons rfl (C.ct.mul fe_int (C.ct.idx (C.ct.var 5 (by decide +kernel)) fe_int rfl)) fa_nil))) (fa_cons rfl (fe_tup (fa_cons rfl fe_int (fa_cons rfl fe_int fa_nil))) fa_nil))) (C.ct.call C.ct.int (fa_cons rfl (cmpE C.ct.gt (C.ct.idx (C.ct.var 5 (by decide +kernel)) fe_int rfl) (C.ct.mul fe_int (C.ct.pow fe_int fe_int)) rfl) fa_nil) (by decide +kernel) (by decide +kernel) rfl) rfl) (by decide +kernel) rfl)) (fs_cons (C.asg 7 (fe_tup (fa_cons rfl (C.ct.add (C.ct.mul (C.ct.idx (C.ct.var 1 (by decide +kernel)) fe_int rfl) (C.ct.idx (C.ct.var 5 (by decide +kernel)) fe_int rfl)) fe_int) (fa_cons rfl (C.ct.idx (C.ct.var 5 (by decide +kernel)) fe_int rfl) fa_nil))) (by decide +kernel) rfl) (fs_one (fs_forget [8] (C.fo (C.ct.it (fe_lst (fa_cons rfl (C.ct.var 5 (by decide +kernel)) (fa_cons rfl (C.ct.var 6 (by decide +kernel)) (fa_cons rfl (C.ct.var 7 (by decide +kernel)) (fa_cons rfl (fe_tup (fa_cons rfl (C.ct.sub fe_int (C.ct.idx (C.ct.var 5 (by decide +kernel)) fe_int rfl)) (fa_cons rfl (C.ct.idx (C.ct.var 5 (by decide +kernel)) fe_int rfl) fa_nil))) (fa_cons rfl (fe_tup (fa_cons rfl (C.ct.idx (C.ct.var 5 (by decide +kernel)) fe_int rfl) (fa_cons rfl (C.ct.sub fe_int (C.ct.idx (C.ct.var 5 (by decide +kernel)) fe_int rfl)) fa_nil))) (fa_cons rfl (C.ct.call C.ct.lst (fa_cons rfl (C.ct.var 5 (by decide +kernel)) fa_nil) (by decide +kernel) (by decide +kernel) rfl) fa_nil)))))))) (C.g1 8 (by decide +kernel)) (fun _ C => (fs_forgets [8] (fs_one (fs_if (ft_not (C.ct.val (C.ct.own 25 (fa_cons rfl (C.ct.var 1 (by decide +kernel)) (fa_cons rfl (C.ct.var 8 (by decide +kernel)) fa_nil)) rfl rfl (by decide +kernel) rfl) rfl)) (fs_one (fs_ret fe_bl)) fs_nil)))) rfl))))))))) rfl)) (fs_one (fs_ret fe_bl))))))))))
end P
namespace P
open PySem PySem.Spec PyProof.Rows L2 Fn
/-! ### _law_cell, _law_numbers -/
theorem cell_spec (ns : List Int) (k : Int) (h0 : 0 ≤ k) (h1 : k < 64) : ∃ c : Int, E_law_cell.F [.scr ns, .dat (.int k)] = .ok (.dat (.int c)) := by
  rw [d_law_cell (by rfl)]
  by_cases hl : k < (ns.length : Int)
  · refine ⟨ns[k.toNat]'(by omega), ?_⟩
    have hi := idx_scr (ns := ns) (k := k) (atI_lt h0 hl)
    simp only [B_law_cell, e_try, tryK_nx, tryK_rt, tryK_bk, tryK_ct, tryK_exc, tryK_pass, hdl_none, hdl_some, leaveN_nx, leaveN_rt, leaveN_ct, leaveN_bk, leaveS_nx, leaveS_rt, leaveS_ct, leaveS_bk, noErr_nil, noErr_cons, noErrO_none, noErrO_dat, noErrO_own, noErrO_bor, noErrO_scr, noErrB_dat, noErrB_own, errI_t, errI_f, errV_t, errT_t, errT_f, e_rz, retB_err, look_err, rd_err, arg_err, set_err, e_count, drop_any, e_seq, sq_nx, sq_rt, sq_bk, sq_ct, sq_exc, e_then, then_ok, then_exc, set_dat, set_own, set_bor, set_scr, setL_dat, setL_own, setL_bor, ret_dat, ret_own, rd_dat, rd_own, rd_vw, rd_bor, rd_scr, frz_l, frz_k, frz_t, e_var, look_dat, look_own, look_bor, look_scr, e_retN, lookN_dat, lookN_own, e_bin2, bin2_ok, bin2_exc, bin2_exc2, e_one1, one1_ok, one1_exc, e_cons, cons_okK, cons_exc, cons_exc2, e_nil, e_call, bnd_ok, bnd_exc, e_own, arg_dat, arg_vw, arg_bor, arg_scr, retB_dat, retB_own, e_tst, tst_bl, e_testV, test_ok, test_exc, tru_bl, tru_int, tru_non, tru_tup, tru_lst, tru_vw, e_notT, notK_ok, notK_exc, e_and, e_or, and_t, and_f, or_t, or_f, and_exc, or_exc, e_iteV, iteV_t, iteV_f, e_andV, e_orV, andV_t, andV_f, andV_exc, orV_t, orV_f, orV_exc, e_iteS, iteS_t, iteS_f, iteS_exc, e_it, itK_ok, itK_exc, it_tup, it_ctup, it_lst, it_bor, it_vw, it_scr, it_str, e_index, index_ok, e_mut, mut_rev, e_ext, ext_own, ext_dat, e_rg, e_shl, e_pow, e_noP, e_atP, part_int, e_slc, slc_okK, e_comp, compK_ok, compK_exc, wipe_nil, wipe_cons, e_for, forK_ok, forK_exc, bindV_dat, bindV_own, bindO_some, bt_one, bt_tup, bt_ctup, bt_lst, pm_nil, pm_nil2, pm_cons, e_par2, par2_dd, par2_od, par2_do, par2_oo, e_lock, lock_own, lock_dat, lock_bor, lock_none, e_lockS, outR_nx, outR_rt, outR_exc, e_litI, e_litS, e_litB, e_litN, e_litD, e_newK, e_newT, e_nx, e_bk, e_ct, e_rtN, e_yes, e_app, own_of, app_dat, app_own, app_exc, e_put, put_dat, put_own, putO_some, e_forget, fg_nx, fg_bk, fg_ct, fg_rt, fg_exc, List.getElem?_cons_zero, List.getElem?_cons_succ, List.set_cons_zero, List.set_cons_succ, List.length_cons, List.length_nil, Nat.reduceAdd, Nat.reduceLT, Bool.not_true, Bool.not_false, e_chn, chn_ok, chnV_t, chnV_f, e_lstB, e_tupB, dats_nil, dats_cons, datsO_some, lstK_ok, tupK_ok, len_tup, len_lst, len_vw, len_bor, len_scr, len_S, neg_i, not_bl, tupF_lst, tupF_tup, tupF_vw, tupF_bor, lstF_tup, lstF_lst, int_i, int_bl, is_t, isn_t, is_n, isn_n, eq_bl, ne_bl, isi_bl, add_ii, sub_ii, lt_ii, gt_ii, le_ii, ge_ii, eq_ii, ne_ii, min_ii, max_ii, and_ii, slc_tup, slc_l, slc_vw, slc_bor, back_tup, back_lst, app_l, app_m, Nat.reduceLeDiff, Int.cast_ofNat_Int, Int.natCast_zero, Int.natCast_one, Int.reduceEq, eq_self, Int.reduceLE, Int.reduceLT, Int.reduceNeg, Int.reduceToNat, Int.toNat_natCast, Int.reduceAdd, Int.reduceSub, Int.reduceMul, Nat.reduceMul, Nat.reduceSub, decide_true, decide_false, Bool.true_and, Bool.false_and, Bool.and_true, Bool.true_or, Bool.false_or, Bool.or_false, not_true_eq_false, not_false_eq_true, if_true, if_false, Bool.false_eq_true, reduceCtorEq, hl, hi]
  · haveI : ISz k 6 := isz_of (by omega) (by omega)
    have sl : sliceB (.scr ns) none (some 3) = .ok (.own (.l ((ns.take 3).map .int))) := by
      show Res.ok (B.own (.l (cutL (ns.map D.int) none (some 3)))) = _
      rw [cut_tak (by decide), List.map_take]; rfl
    have st : ∀ s : Int, 0 ≤ s → s < 2147483647 → ∃ z, loopF (.one 3) B_law_cell_1 ((ns.take 3).map .int) [some (.scr ns), some (.dat (.int k)), some (.dat (.int s)), none] = .nx [some (.scr ns), some (.dat (.int k)), some (.dat (.int z)), none] := fun s hs0 hs1 => by
      refine ⟨_, (loop_fold (fun s : Int => [some (.scr ns), some (.dat (.int k)), some (.dat (.int s)), none]) (fun s a => (s * 69621 + a) % 2147483647) (fun _ s => 0 ≤ s ∧ s < 2147483647) (s := s) ⟨hs0, hs1⟩ ?_).1⟩
      rintro a as s ⟨h2, h3⟩
      haveI : ISz s 31 := isz_of (by omega) (by omega)
      exact ⟨⟨by omega, by omega⟩, _, bt_one, .inl (by simp (decide := true) only [B_law_cell_1, e_try, tryK_nx, tryK_rt, tryK_bk, tryK_ct, tryK_exc, tryK_pass, hdl_none, hdl_some, leaveN_nx, leaveN_rt, leaveN_ct, leaveN_bk, leaveS_nx, leaveS_rt, leaveS_ct, leaveS_bk, noErr_nil, noErr_cons, noErrO_none, noErrO_dat, noErrO_own, noErrO_bor, noErrO_scr, noErrB_dat, noErrB_own, errI_t, errI_f, errV_t, errT_t, errT_f, e_rz, retB_err, look_err, rd_err, arg_err, set_err, e_count, drop_any, e_seq, sq_nx, sq_rt, sq_bk, sq_ct, sq_exc, e_then, then_ok, then_exc, set_dat, set_own, set_bor, set_scr, setL_dat, setL_own, setL_bor, ret_dat, ret_own, rd_dat, rd_own, rd_vw, rd_bor, rd_scr, frz_l, frz_k, frz_t, e_var, look_dat, look_own, look_bor, look_scr, e_retN, lookN_dat, lookN_own, e_bin2, bin2_ok, bin2_exc, bin2_exc2, e_one1, one1_ok, one1_exc, e_cons, cons_okK, cons_exc, cons_exc2, e_nil, e_call, bnd_ok, bnd_exc, e_own, arg_dat, arg_vw, arg_bor, arg_scr, retB_dat, retB_own, e_tst, tst_bl, e_testV, test_ok, test_exc, tru_bl, tru_int, tru_non, tru_tup, tru_lst, tru_vw, e_notT, notK_ok, notK_exc, e_and, e_or, and_t, and_f, or_t, or_f, and_exc, or_exc, e_iteV, iteV_t, iteV_f, e_andV, e_orV, andV_t, andV_f, andV_exc, orV_t, orV_f, orV_exc, e_iteS, iteS_t, iteS_f, iteS_exc, e_it, itK_ok, itK_exc, it_tup, it_ctup, it_lst, it_bor, it_vw, it_scr, it_str, e_index, index_ok, e_mut, mut_rev, e_ext, ext_own, ext_dat, e_rg, e_shl, e_pow, e_noP, e_atP, part_int, e_slc, slc_okK, e_comp, compK_ok, compK_exc, wipe_nil, wipe_cons, e_for, forK_ok, forK_exc, bindV_dat, bindV_own, bindO_some, bt_one, bt_tup, bt_ctup, bt_lst, pm_nil, pm_nil2, pm_cons, e_par2, par2_dd, par2_od, par2_do, par2_oo, e_lock, lock_own, lock_dat, lock_bor, lock_none, e_lockS, outR_nx, outR_rt, outR_exc, e_litI, e_litS, e_litB, e_litN, e_litD, e_newK, e_newT, e_nx, e_bk, e_ct, e_rtN, e_yes, e_app, own_of, app_dat, app_own, app_exc, e_put, put_dat, put_own, putO_some, e_forget, fg_nx, fg_bk, fg_ct, fg_rt, fg_exc, List.getElem?_cons_zero, List.getElem?_cons_succ, List.set_cons_zero, List.set_cons_succ, List.length_cons, List.length_nil, Nat.reduceAdd, Nat.reduceLT, Bool.not_true, Bool.not_false, e_chn, chn_ok, chnV_t, chnV_f, e_lstB, e_tupB, dats_nil, dats_cons, datsO_some, lstK_ok, tupK_ok, len_tup, len_lst, len_vw, len_bor, len_scr, len_S, neg_i, not_bl, tupF_lst, tupF_tup, tupF_vw, tupF_bor, lstF_tup, lstF_lst, int_i, int_bl, is_t, isn_t, is_n, isn_n, eq_bl, ne_bl, isi_bl, add_ii, sub_ii, lt_ii, gt_ii, le_ii, ge_ii, eq_ii, ne_ii, min_ii, max_ii, and_ii, slc_tup, slc_l, slc_vw, slc_bor, back_tup, back_lst, app_l, app_m, Nat.reduceLeDiff, Int.cast_ofNat_Int, Int.natCast_zero, Int.natCast_one, Int.reduceEq, eq_self, Int.reduceLE, Int.reduceLT, Int.reduceNeg, Int.reduceToNat, Int.toNat_natCast, Int.reduceAdd, Int.reduceSub, Int.reduceMul, Nat.reduceMul, Nat.reduceSub, decide_true, decide_false, Bool.true_and, Bool.false_and, Bool.and_true, Bool.true_or, Bool.false_or, Bool.or_false, not_true_eq_false, not_false_eq_true, if_true, if_false, Bool.false_eq_true, reduceCtorEq, mul_z, mod_pos])⟩
    obtain ⟨z, hz⟩ := st (48271 * (k * k + 7 * k + 11) % 2147483647) (by omega) (by omega)
    exact ⟨z, by simp (decide := true) only [B_law_cell, e_try, tryK_nx, tryK_rt, tryK_bk, tryK_ct, tryK_exc, tryK_pass, hdl_none, hdl_some, leaveN_nx, leaveN_rt, leaveN_ct, leaveN_bk, leaveS_nx, leaveS_rt, leaveS_ct, leaveS_bk, noErr_nil, noErr_cons, noErrO_none, noErrO_dat, noErrO_own, noErrO_bor, noErrO_scr, noErrB_dat, noErrB_own, errI_t, errI_f, errV_t, errT_t, errT_f, e_rz, retB_err, look_err, rd_err, arg_err, set_err, e_count, drop_any, e_seq, sq_nx, sq_rt, sq_bk, sq_ct, sq_exc, e_then, then_ok, then_exc, set_dat, set_own, set_bor, set_scr, setL_dat, setL_own, setL_bor, ret_dat, ret_own, rd_dat, rd_own, rd_vw, rd_bor, rd_scr, frz_l, frz_k, frz_t, e_var, look_dat, look_own, look_bor, look_scr, e_retN, lookN_dat, lookN_own, e_bin2, bin2_ok, bin2_exc, bin2_exc2, e_one1, one1_ok, one1_exc, e_cons, cons_okK, cons_exc, cons_exc2, e_nil, e_call, bnd_ok, bnd_exc, e_own, arg_dat, arg_vw, arg_bor, arg_scr, retB_dat, retB_own, e_tst, tst_bl, e_testV, test_ok, test_exc, tru_bl, tru_int, tru_non, tru_tup, tru_lst, tru_vw, e_notT, notK_ok, notK_exc, e_and, e_or, and_t, and_f, or_t, or_f, and_exc, or_exc, e_iteV, iteV_t, iteV_f, e_andV, e_orV, andV_t, andV_f, andV_exc, orV_t, orV_f, orV_exc, e_iteS, iteS_t, iteS_f, iteS_exc, e_it, itK_ok, itK_exc, it_tup, it_ctup, it_lst, it_bor, it_vw, it_scr, it_str, e_index, index_ok, e_mut, mut_rev, e_ext, ext_own, ext_dat, e_rg, e_shl, e_pow, e_noP, e_atP, part_int, e_slc, slc_okK, e_comp, compK_ok, compK_exc, wipe_nil, wipe_cons, e_for, forK_ok, forK_exc, bindV_dat, bindV_own, bindO_some, bt_one, bt_tup, bt_ctup, bt_lst, pm_nil, pm_nil2, pm_cons, e_par2, par2_dd, par2_od, par2_do, par2_oo, e_lock, lock_own, lock_dat, lock_bor, lock_none, e_lockS, outR_nx, outR_rt, outR_exc, e_litI, e_litS, e_litB, e_litN, e_litD, e_newK, e_newT, e_nx, e_bk, e_ct, e_rtN, e_yes, e_app, own_of, app_dat, app_own, app_exc, e_put, put_dat, put_own, putO_some, e_forget, fg_nx, fg_bk, fg_ct, fg_rt, fg_exc, List.getElem?_cons_zero, List.getElem?_cons_succ, List.set_cons_zero, List.set_cons_succ, List.length_cons, List.length_nil, Nat.reduceAdd, Nat.reduceLT, Bool.not_true, Bool.not_false, e_chn, chn_ok, chnV_t, chnV_f, e_lstB, e_tupB, dats_nil, dats_cons, datsO_some, lstK_ok, tupK_ok, len_tup, len_lst, len_vw, len_bor, len_scr, len_S, neg_i, not_bl, tupF_lst, tupF_tup, tupF_vw, tupF_bor, lstF_tup, lstF_lst, int_i, int_bl, is_t, isn_t, is_n, isn_n, eq_bl, ne_bl, isi_bl, add_ii, sub_ii, lt_ii, gt_ii, le_ii, ge_ii, eq_ii, ne_ii, min_ii, max_ii, and_ii, slc_tup, slc_l, slc_vw, slc_bor, back_tup, back_lst, app_l, app_m, Nat.reduceLeDiff, Int.cast_ofNat_Int, Int.natCast_zero, Int.natCast_one, Int.reduceEq, eq_self, Int.reduceLE, Int.reduceLT, Int.reduceNeg, Int.reduceToNat, Int.toNat_natCast, Int.reduceAdd, Int.reduceSub, Int.reduceMul, Nat.reduceMul, Nat.reduceSub, decide_true, decide_false, Bool.true_and, Bool.false_and, Bool.and_true, Bool.true_or, Bool.false_or, Bool.or_false, not_true_eq_false, not_false_eq_true, if_true, if_false, Bool.false_eq_true, reduceCtorEq, hl, mul_z, mod_pos, sl, hz]⟩
def numF (q : List Int × Int × Int) (i : Nat) : List Int × Int × Int :=
  (q.1 ++ [if 0 < q.2.2 then q.2.2 % 1000000 else (q.2.1 * (q.2.1 % 65521 + 40487) + 7 * i + 5) % 1999999973], (q.2.1 * (q.2.1 % 65521 + 40487) + 7 * i + 5) % 1999999973, q.2.2 / 1000000)
theorem numbers_spec (c n : Int) (h0 : 0 ≤ n) (hn : n ≤ 300) : ∃ xs : List Int, (xs.length : Int) = n ∧ (∀ x ∈ xs, 0 ≤ x ∧ x < 2000000000) ∧ E_law_numbers.F [.dat (.int c), .dat (.int n)] = .ok (.own (.l (xs.map .int))) := by
  have st : ∀ s d : Int, 0 ≤ s → s < 1999999973 → ∃ (xs : List Int) (s2 d2 : Int), (xs.length : Int) = n ∧ (∀ x ∈ xs, 0 ≤ x ∧ x < 2000000000) ∧ loopF (.one 5) B_law_numbers_1 ((List.range n.toNat).map fun (i : Nat) => D.int i) [some (.dat (.int c)), some (.dat (.int n)), some (.own (.l [])), some (.dat (.int s)), some (.dat (.int d)), none] =
      .nx [some (.dat (.int c)), some (.dat (.int n)), some (.own (.l (xs.map .int))), some (.dat (.int s2)), some (.dat (.int d2)), none] := fun s d hs0 hs1 => by
    have := loop_fold (as := List.range n.toNat) (tg := .one 5) (f := B_law_numbers_1) (e := fun (i : Nat) => D.int i) (fun q : List Int × Int × Int => [some (.dat (.int c)), some (.dat (.int n)), some (.own (.l (q.1.map .int))), some (.dat (.int q.2.1)), some (.dat (.int q.2.2)), none]) numF
      (fun as q => q.1.length + as.length = n.toNat ∧ (∀ a ∈ as, a < 300) ∧ (∀ x ∈ q.1, 0 ≤ x ∧ x < 2000000000) ∧ 0 ≤ q.2.1 ∧ q.2.1 < 1999999973) (s := ([], s, d)) ⟨by simp, fun a ha => (by have := List.mem_range.mp ha; omega), fun x hx => (by cases hx), hs0, hs1⟩ ?_
    · obtain ⟨e, h1, _, h3, _⟩ := this
      exact ⟨_, _, _, by rw [List.length_nil, Nat.add_zero] at h1; omega, h3, e⟩
    · rintro a as ⟨xs, s, d⟩ ⟨h1, h2, h3, h4, h5⟩
      have ha := h2 a List.mem_cons_self
      dsimp only at h1 h3 h4 h5
      rw [List.length_cons] at h1
      haveI : ISz s 31 := isz_of (by omega) (by omega)
      haveI : ISz (a : Int) 9 := isz_of (by omega) (by omega)
      refine ⟨⟨?_, fun b hb => h2 b (List.mem_cons_of_mem _ hb), ?_, ?_, ?_⟩, _, bt_one, .inl ?_⟩
      · show (xs ++ _).length + as.length = _
        rw [List.length_append]; show xs.length + 1 + _ = _; omega
      · intro x hx
        rcases List.mem_append.mp hx with h | h
        · exact h3 x h
        · rw [List.mem_singleton.mp h]
          dsimp only
          split <;> omega
      · show 0 ≤ _ % _; omega
      · show _ % _ < _; omega
      · have x1 : ∀ u v : Int, idxB (.dat (.lst [.int u, .int v])) (.dat (.int (if decide (0 < d) = true then 1 else 0))) = .ok (.dat (.int (if 0 < d then v else u))) := by
          intro u v
          by_cases z : 0 < d
          · rw [if_pos (decide_eq_true z), if_pos z]; rfl
          · rw [if_neg (by rw [decide_eq_false z]; decide), if_neg z]; rfl
        have hz : (xs.map D.int).length < 1000 := by rw [List.length_map]; omega
        simp (decide := true) only [B_law_numbers_1, numF, e_try, tryK_nx, tryK_rt, tryK_bk, tryK_ct, tryK_exc, tryK_pass, hdl_none, hdl_some, leaveN_nx, leaveN_rt, leaveN_ct, leaveN_bk, leaveS_nx, leaveS_rt, leaveS_ct, leaveS_bk, noErr_nil, noErr_cons, noErrO_none, noErrO_dat, noErrO_own, noErrO_bor, noErrO_scr, noErrB_dat, noErrB_own, errI_t, errI_f, errV_t, errT_t, errT_f, e_rz, retB_err, look_err, rd_err, arg_err, set_err, e_count, drop_any, e_seq, sq_nx, sq_rt, sq_bk, sq_ct, sq_exc, e_then, then_ok, then_exc, set_dat, set_own, set_bor, set_scr, setL_dat, setL_own, setL_bor, ret_dat, ret_own, rd_dat, rd_own, rd_vw, rd_bor, rd_scr, frz_l, frz_k, frz_t, e_var, look_dat, look_own, look_bor, look_scr, e_retN, lookN_dat, lookN_own, e_bin2, bin2_ok, bin2_exc, bin2_exc2, e_one1, one1_ok, one1_exc, e_cons, cons_okK, cons_exc, cons_exc2, e_nil, e_call, bnd_ok, bnd_exc, e_own, arg_dat, arg_vw, arg_bor, arg_scr, retB_dat, retB_own, e_tst, tst_bl, e_testV, test_ok, test_exc, tru_bl, tru_int, tru_non, tru_tup, tru_lst, tru_vw, e_notT, notK_ok, notK_exc, e_and, e_or, and_t, and_f, or_t, or_f, and_exc, or_exc, e_iteV, iteV_t, iteV_f, e_andV, e_orV, andV_t, andV_f, andV_exc, orV_t, orV_f, orV_exc, e_iteS, iteS_t, iteS_f, iteS_exc, e_it, itK_ok, itK_exc, it_tup, it_ctup, it_lst, it_bor, it_vw, it_scr, it_str, e_index, index_ok, e_mut, mut_rev, e_ext, ext_own, ext_dat, e_rg, e_shl, e_pow, e_noP, e_atP, part_int, e_slc, slc_okK, e_comp, compK_ok, compK_exc, wipe_nil, wipe_cons, e_for, forK_ok, forK_exc, bindV_dat, bindV_own, bindO_some, bt_one, bt_tup, bt_ctup, bt_lst, pm_nil, pm_nil2, pm_cons, e_par2, par2_dd, par2_od, par2_do, par2_oo, e_lock, lock_own, lock_dat, lock_bor, lock_none, e_lockS, outR_nx, outR_rt, outR_exc, e_litI, e_litS, e_litB, e_litN, e_litD, e_newK, e_newT, e_nx, e_bk, e_ct, e_rtN, e_yes, e_app, own_of, app_dat, app_own, app_exc, e_put, put_dat, put_own, putO_some, e_forget, fg_nx, fg_bk, fg_ct, fg_rt, fg_exc, List.getElem?_cons_zero, List.getElem?_cons_succ, List.set_cons_zero, List.set_cons_succ, List.length_cons, List.length_nil, Nat.reduceAdd, Nat.reduceLT, Bool.not_true, Bool.not_false, e_chn, chn_ok, chnV_t, chnV_f, e_lstB, e_tupB, dats_nil, dats_cons, datsO_some, lstK_ok, tupK_ok, len_tup, len_lst, len_vw, len_bor, len_scr, len_S, neg_i, not_bl, tupF_lst, tupF_tup, tupF_vw, tupF_bor, lstF_tup, lstF_lst, int_i, int_bl, is_t, isn_t, is_n, isn_n, eq_bl, ne_bl, isi_bl, add_ii, sub_ii, lt_ii, gt_ii, le_ii, ge_ii, eq_ii, ne_ii, min_ii, max_ii, and_ii, slc_tup, slc_l, slc_vw, slc_bor, back_tup, back_lst, app_l, app_m, Nat.reduceLeDiff, Int.cast_ofNat_Int, Int.natCast_zero, Int.natCast_one, Int.reduceEq, eq_self, Int.reduceLE, Int.reduceLT, Int.reduceNeg, Int.reduceToNat, Int.toNat_natCast, Int.reduceAdd, Int.reduceSub, Int.reduceMul, Nat.reduceMul, Nat.reduceSub, decide_true, decide_false, Bool.true_and, Bool.false_and, Bool.and_true, Bool.true_or, Bool.false_or, Bool.or_false, not_true_eq_false, not_false_eq_true, if_true, if_false, Bool.false_eq_true, reduceCtorEq, mul_z, mod_pos, div_z, x1, hz, List.map_append, List.map_cons, List.map_nil]
  haveI h31 : ISz (c % 1999999973) 31 := isz_of (by omega) (by omega)
  have fin : ∀ d : Int, ∃ xs : List Int, (xs.length : Int) = n ∧ (∀ x ∈ xs, 0 ≤ x ∧ x < 2000000000) ∧ outR (Out.sq (fgK [3, 4, 5] (loopF (.one 5) B_law_numbers_1 ((List.range n.toNat).map fun (i : Nat) => D.int i) [some (.dat (.int c)), some (.dat (.int n)), some (.own (.l [])), some (.dat (.int ((c % 1999999973 + 31) * 765432101 % 1999999973))), some (.dat (.int d)), none])) (retN 2)) = .ok (.own (.l (xs.map .int))) := fun d => by
    obtain ⟨xs, s2, d2, h1, h2, h3⟩ := st ((c % 1999999973 + 31) * 765432101 % 1999999973) d (by omega) (by omega)
    exact ⟨xs, h1, h2, by rw [h3]; rfl⟩
  obtain ⟨big, pw⟩ : ∃ big : Int, powZ (.dat (.int 10)) (.dat (.int 18)) = .ok (.dat (.int big)) := ⟨_, pow_z (by omega) (by omega) (by decide)⟩
  rw [d_law_numbers (by rfl)]
  have r1 := rg1 (k := n) (by omega) (by omega)
  have m1 : ISz (c % 1999999973 + 31) 32 := isz_of (by omega) (by omega)
  cases e1 : decide (c < 0) with
  | true =>
    obtain ⟨xs, h1, h2, h3⟩ := fin (c.natAbs : Int)
    refine ⟨xs, h1, h2, ?_⟩
    rw [← h3]
    simp (decide := true) only [B_law_numbers, e_try, tryK_nx, tryK_rt, tryK_bk, tryK_ct, tryK_exc, tryK_pass, hdl_none, hdl_some, leaveN_nx, leaveN_rt, leaveN_ct, leaveN_bk, leaveS_nx, leaveS_rt, leaveS_ct, leaveS_bk, noErr_nil, noErr_cons, noErrO_none, noErrO_dat, noErrO_own, noErrO_bor, noErrO_scr, noErrB_dat, noErrB_own, errI_t, errI_f, errV_t, errT_t, errT_f, e_rz, retB_err, look_err, rd_err, arg_err, set_err, e_count, drop_any, e_seq, sq_nx, sq_rt, sq_bk, sq_ct, sq_exc, e_then, then_ok, then_exc, set_dat, set_own, set_bor, set_scr, setL_dat, setL_own, setL_bor, ret_dat, ret_own, rd_dat, rd_own, rd_vw, rd_bor, rd_scr, frz_l, frz_k, frz_t, e_var, look_dat, look_own, look_bor, look_scr, e_retN, lookN_dat, lookN_own, e_bin2, bin2_ok, bin2_exc, bin2_exc2, e_one1, one1_ok, one1_exc, e_cons, cons_okK, cons_exc, cons_exc2, e_nil, e_call, bnd_ok, bnd_exc, e_own, arg_dat, arg_vw, arg_bor, arg_scr, retB_dat, retB_own, e_tst, tst_bl, e_testV, test_ok, test_exc, tru_bl, tru_int, tru_non, tru_tup, tru_lst, tru_vw, e_notT, notK_ok, notK_exc, e_and, e_or, and_t, and_f, or_t, or_f, and_exc, or_exc, e_iteV, iteV_t, iteV_f, e_andV, e_orV, andV_t, andV_f, andV_exc, orV_t, orV_f, orV_exc, e_iteS, iteS_t, iteS_f, iteS_exc, e_it, itK_ok, itK_exc, it_tup, it_ctup, it_lst, it_bor, it_vw, it_scr, it_str, e_index, index_ok, e_mut, mut_rev, e_ext, ext_own, ext_dat, e_rg, e_shl, e_pow, e_noP, e_atP, part_int, e_slc, slc_okK, e_comp, compK_ok, compK_exc, wipe_nil, wipe_cons, e_for, forK_ok, forK_exc, bindV_dat, bindV_own, bindO_some, bt_one, bt_tup, bt_ctup, bt_lst, pm_nil, pm_nil2, pm_cons, e_par2, par2_dd, par2_od, par2_do, par2_oo, e_lock, lock_own, lock_dat, lock_bor, lock_none, e_lockS, outR_nx, outR_rt, outR_exc, e_litI, e_litS, e_litB, e_litN, e_litD, e_newK, e_newT, e_nx, e_bk, e_ct, e_rtN, e_yes, e_app, own_of, app_dat, app_own, app_exc, e_put, put_dat, put_own, putO_some, e_forget, fg_nx, fg_bk, fg_ct, fg_rt, fg_exc, List.getElem?_cons_zero, List.getElem?_cons_succ, List.set_cons_zero, List.set_cons_succ, List.length_cons, List.length_nil, Nat.reduceAdd, Nat.reduceLT, Bool.not_true, Bool.not_false, e_chn, chn_ok, chnV_t, chnV_f, e_lstB, e_tupB, dats_nil, dats_cons, datsO_some, lstK_ok, tupK_ok, len_tup, len_lst, len_vw, len_bor, len_scr, len_S, neg_i, not_bl, tupF_lst, tupF_tup, tupF_vw, tupF_bor, lstF_tup, lstF_lst, int_i, int_bl, is_t, isn_t, is_n, isn_n, eq_bl, ne_bl, isi_bl, add_ii, sub_ii, lt_ii, gt_ii, le_ii, ge_ii, eq_ii, ne_ii, min_ii, max_ii, and_ii, slc_tup, slc_l, slc_vw, slc_bor, back_tup, back_lst, app_l, app_m, Nat.reduceLeDiff, Int.cast_ofNat_Int, Int.natCast_zero, Int.natCast_one, Int.reduceEq, eq_self, Int.reduceLE, Int.reduceLT, Int.reduceNeg, Int.reduceToNat, Int.toNat_natCast, Int.reduceAdd, Int.reduceSub, Int.reduceMul, Nat.reduceMul, Nat.reduceSub, decide_true, decide_false, Bool.true_and, Bool.false_and, Bool.and_true, Bool.true_or, Bool.false_or, Bool.or_false, not_true_eq_false, not_false_eq_true, if_true, if_false, Bool.false_eq_true, reduceCtorEq, e1, mul_z, mod_pos, abs_i, r1]
  | false =>
    cases e2 : decide (big ≤ c) with
    | true =>
      obtain ⟨xs, h1, h2, h3⟩ := fin (c.natAbs : Int)
      refine ⟨xs, h1, h2, ?_⟩
      rw [← h3]
      simp (decide := true) only [B_law_numbers, e_try, tryK_nx, tryK_rt, tryK_bk, tryK_ct, tryK_exc, tryK_pass, hdl_none, hdl_some, leaveN_nx, leaveN_rt, leaveN_ct, leaveN_bk, leaveS_nx, leaveS_rt, leaveS_ct, leaveS_bk, noErr_nil, noErr_cons, noErrO_none, noErrO_dat, noErrO_own, noErrO_bor, noErrO_scr, noErrB_dat, noErrB_own, errI_t, errI_f, errV_t, errT_t, errT_f, e_rz, retB_err, look_err, rd_err, arg_err, set_err, e_count, drop_any, e_seq, sq_nx, sq_rt, sq_bk, sq_ct, sq_exc, e_then, then_ok, then_exc, set_dat, set_own, set_bor, set_scr, setL_dat, setL_own, setL_bor, ret_dat, ret_own, rd_dat, rd_own, rd_vw, rd_bor, rd_scr, frz_l, frz_k, frz_t, e_var, look_dat, look_own, look_bor, look_scr, e_retN, lookN_dat, lookN_own, e_bin2, bin2_ok, bin2_exc, bin2_exc2, e_one1, one1_ok, one1_exc, e_cons, cons_okK, cons_exc, cons_exc2, e_nil, e_call, bnd_ok, bnd_exc, e_own, arg_dat, arg_vw, arg_bor, arg_scr, retB_dat, retB_own, e_tst, tst_bl, e_testV, test_ok, test_exc, tru_bl, tru_int, tru_non, tru_tup, tru_lst, tru_vw, e_notT, notK_ok, notK_exc, e_and, e_or, and_t, and_f, or_t, or_f, and_exc, or_exc, e_iteV, iteV_t, iteV_f, e_andV, e_orV, andV_t, andV_f, andV_exc, orV_t, orV_f, orV_exc, e_iteS, iteS_t, iteS_f, iteS_exc, e_it, itK_ok, itK_exc, it_tup, it_ctup, it_lst, it_bor, it_vw, it_scr, it_str, e_index, index_ok, e_mut, mut_rev, e_ext, ext_own, ext_dat, e_rg, e_shl, e_pow, e_noP, e_atP, part_int, e_slc, slc_okK, e_comp, compK_ok, compK_exc, wipe_nil, wipe_cons, e_for, forK_ok, forK_exc, bindV_dat, bindV_own, bindO_some, bt_one, bt_tup, bt_ctup, bt_lst, pm_nil, pm_nil2, pm_cons, e_par2, par2_dd, par2_od, par2_do, par2_oo, e_lock, lock_own, lock_dat, lock_bor, lock_none, e_lockS, outR_nx, outR_rt, outR_exc, e_litI, e_litS, e_litB, e_litN, e_litD, e_newK, e_newT, e_nx, e_bk, e_ct, e_rtN, e_yes, e_app, own_of, app_dat, app_own, app_exc, e_put, put_dat, put_own, putO_some, e_forget, fg_nx, fg_bk, fg_ct, fg_rt, fg_exc, List.getElem?_cons_zero, List.getElem?_cons_succ, List.set_cons_zero, List.set_cons_succ, List.length_cons, List.length_nil, Nat.reduceAdd, Nat.reduceLT, Bool.not_true, Bool.not_false, e_chn, chn_ok, chnV_t, chnV_f, e_lstB, e_tupB, dats_nil, dats_cons, datsO_some, lstK_ok, tupK_ok, len_tup, len_lst, len_vw, len_bor, len_scr, len_S, neg_i, not_bl, tupF_lst, tupF_tup, tupF_vw, tupF_bor, lstF_tup, lstF_lst, int_i, int_bl, is_t, isn_t, is_n, isn_n, eq_bl, ne_bl, isi_bl, add_ii, sub_ii, lt_ii, gt_ii, le_ii, ge_ii, eq_ii, ne_ii, min_ii, max_ii, and_ii, slc_tup, slc_l, slc_vw, slc_bor, back_tup, back_lst, app_l, app_m, Nat.reduceLeDiff, Int.cast_ofNat_Int, Int.natCast_zero, Int.natCast_one, Int.reduceEq, eq_self, Int.reduceLE, Int.reduceLT, Int.reduceNeg, Int.reduceToNat, Int.toNat_natCast, Int.reduceAdd, Int.reduceSub, Int.reduceMul, Nat.reduceMul, Nat.reduceSub, decide_true, decide_false, Bool.true_and, Bool.false_and, Bool.and_true, Bool.true_or, Bool.false_or, Bool.or_false, not_true_eq_false, not_false_eq_true, if_true, if_false, Bool.false_eq_true, reduceCtorEq, e1, e2, pw, mul_z, mod_pos, abs_i, r1]
    | false =>
      obtain ⟨xs, h1, h2, h3⟩ := fin 0
      refine ⟨xs, h1, h2, ?_⟩
      rw [← h3]
      simp (decide := true) only [B_law_numbers, e_try, tryK_nx, tryK_rt, tryK_bk, tryK_ct, tryK_exc, tryK_pass, hdl_none, hdl_some, leaveN_nx, leaveN_rt, leaveN_ct, leaveN_bk, leaveS_nx, leaveS_rt, leaveS_ct, leaveS_bk, noErr_nil, noErr_cons, noErrO_none, noErrO_dat, noErrO_own, noErrO_bor, noErrO_scr, noErrB_dat, noErrB_own, errI_t, errI_f, errV_t, errT_t, errT_f, e_rz, retB_err, look_err, rd_err, arg_err, set_err, e_count, drop_any, e_seq, sq_nx, sq_rt, sq_bk, sq_ct, sq_exc, e_then, then_ok, then_exc, set_dat, set_own, set_bor, set_scr, setL_dat, setL_own, setL_bor, ret_dat, ret_own, rd_dat, rd_own, rd_vw, rd_bor, rd_scr, frz_l, frz_k, frz_t, e_var, look_dat, look_own, look_bor, look_scr, e_retN, lookN_dat, lookN_own, e_bin2, bin2_ok, bin2_exc, bin2_exc2, e_one1, one1_ok, one1_exc, e_cons, cons_okK, cons_exc, cons_exc2, e_nil, e_call, bnd_ok, bnd_exc, e_own, arg_dat, arg_vw, arg_bor, arg_scr, retB_dat, retB_own, e_tst, tst_bl, e_testV, test_ok, test_exc, tru_bl, tru_int, tru_non, tru_tup, tru_lst, tru_vw, e_notT, notK_ok, notK_exc, e_and, e_or, and_t, and_f, or_t, or_f, and_exc, or_exc, e_iteV, iteV_t, iteV_f, e_andV, e_orV, andV_t, andV_f, andV_exc, orV_t, orV_f, orV_exc, e_iteS, iteS_t, iteS_f, iteS_exc, e_it, itK_ok, itK_exc, it_tup, it_ctup, it_lst, it_bor, it_vw, it_scr, it_str, e_index, index_ok, e_mut, mut_rev, e_ext, ext_own, ext_dat, e_rg, e_shl, e_pow, e_noP, e_atP, part_int, e_slc, slc_okK, e_comp, compK_ok, compK_exc, wipe_nil, wipe_cons, e_for, forK_ok, forK_exc, bindV_dat, bindV_own, bindO_some, bt_one, bt_tup, bt_ctup, bt_lst, pm_nil, pm_nil2, pm_cons, e_par2, par2_dd, par2_od, par2_do, par2_oo, e_lock, lock_own, lock_dat, lock_bor, lock_none, e_lockS, outR_nx, outR_rt, outR_exc, e_litI, e_litS, e_litB, e_litN, e_litD, e_newK, e_newT, e_nx, e_bk, e_ct, e_rtN, e_yes, e_app, own_of, app_dat, app_own, app_exc, e_put, put_dat, put_own, putO_some, e_forget, fg_nx, fg_bk, fg_ct, fg_rt, fg_exc, List.getElem?_cons_zero, List.getElem?_cons_succ, List.set_cons_zero, List.set_cons_succ, List.length_cons, List.length_nil, Nat.reduceAdd, Nat.reduceLT, Bool.not_true, Bool.not_false, e_chn, chn_ok, chnV_t, chnV_f, e_lstB, e_tupB, dats_nil, dats_cons, datsO_some, lstK_ok, tupK_ok, len_tup, len_lst, len_vw, len_bor, len_scr, len_S, neg_i, not_bl, tupF_lst, tupF_tup, tupF_vw, tupF_bor, lstF_tup, lstF_lst, int_i, int_bl, is_t, isn_t, is_n, isn_n, eq_bl, ne_bl, isi_bl, add_ii, sub_ii, lt_ii, gt_ii, le_ii, ge_ii, eq_ii, ne_ii, min_ii, max_ii, and_ii, slc_tup, slc_l, slc_vw, slc_bor, back_tup, back_lst, app_l, app_m, Nat.reduceLeDiff, Int.cast_ofNat_Int, Int.natCast_zero, Int.natCast_one, Int.reduceEq, eq_self, Int.reduceLE, Int.reduceLT, Int.reduceNeg, Int.reduceToNat, Int.toNat_natCast, Int.reduceAdd, Int.reduceSub, Int.reduceMul, Nat.reduceMul, Nat.reduceSub, decide_true, decide_false, Bool.true_and, Bool.false_and, Bool.and_true, Bool.true_or, Bool.false_or, Bool.or_false, not_true_eq_false, not_false_eq_true, if_true, if_false, Bool.false_eq_true, reduceCtorEq, e1, e2, pw, mul_z, mod_pos, abs_i, r1]
end P
namespace P
open PySem PySem.Spec PyProof.Rows L2 Fn
/-! ### _law_names -/
theorem name_step (xs : List Int) (hx : 4 ≤ xs.length) (n : Int) (found : List D) (hf : found.length < 1000) (k : Nat) (hk : k < 8) : B_law_names_1 [some (.dat (.lst (xs.map .int))), some (.dat (.int n)), some (.dat (.str "abcdefghijklmnopqrstuvwxyz")), some (.own (.l found)), some (.dat (.int (k : Int))), none, none] =
    .nx [some (.dat (.lst (xs.map .int))), some (.dat (.int n)), some (.dat (.str "abcdefghijklmnopqrstuvwxyz")), some (.own (.l (found ++ [.str (sC (nmC (xs.getD 0 0) (xs.getD 1 0) (xs.getD 2 0) (xs.getD 3 0) k))]))), none, none, none] := by
  have i0 := ixI (l := xs) (k := 0) (by omega) (by omega)
  have i1 := ixI (l := xs) (k := 1) (by omega) (by omega)
  have i2 := ixI (l := xs) (k := 2) (by omega) (by omega)
  have i3 := ixI (l := xs) (k := 3) (by omega) (by omega)
  simp only [Int.reduceToNat] at i0 i1 i2 i3
  generalize xs.getD 0 0 = x0 at *
  generalize xs.getD 1 0 = x1 at *
  generalize xs.getD 2 0 = x2 at *
  generalize xs.getD 3 0 = x3 at *
  have mm : ∀ z w : Int, modB (.dat (.int z)) (.dat (.int (if w % 2 = 0 then 1 else 5))) = .ok (.dat (.int (z % (if w % 2 = 0 then 1 else 5)))) := fun z w => mod_pos (by split <;> omega)
  have l5 : ∀ w : Int, idxB (.dat (.lst [.int 1, .int 5])) (.dat (.int (w % 2))) = .ok (.dat (.int (if w % 2 = 0 then 1 else 5))) := by
    intro w
    by_cases z : w % 2 = 0
    · rw [z, if_pos rfl]; exact idxL (n := 0) _ rfl rfl
    · rw [show w % 2 = 1 by omega, if_neg (by decide)]; exact idxL (n := 1) _ rfl rfl
  haveI : ISz (k : Int) 4 := isz_of (by omega) (by omega)
  have r0 : mulB (.dat (.str (sC [97 + ((x0 + 7 * (k : Int)) % 26).toNat]))) (.dat (.int (1 + (x2 + 3 * (k : Int)) % (if x3 % 2 = 0 then 1 else 5)))) = .ok (.dat (.str (sC (List.replicate (1 + (x2 + 3 * (k : Int)) % (if x3 % 2 = 0 then 1 else 5)).toNat (97 + ((x0 + 7 * (k : Int)) % 26).toNat))))) := rep_ok (by split <;> omega) (by split <;> omega)
  have r1 : mulB (.dat (.str (sC [97 + (x2 % 26).toNat]))) (.dat (.int (x3 % 8))) = .ok (.dat (.str (sC (List.replicate (x3 % 8).toNat (97 + (x2 % 26).toNat))))) := rep_ok (by omega) (by omega)
  have r2 : mulB (.dat (.str (sC [97 + (x2 % 26).toNat]))) (.dat (.int (1 + (k : Int)))) = .ok (.dat (.str (sC (List.replicate (1 + (k : Int)).toNat (97 + (x2 % 26).toNat))))) := rep_ok (by omega) (by omega)
  have c1 := cat_ok (a := [97 + k]) (b := List.replicate (x3 % 8).toNat (97 + (x2 % 26).toNat)) (by rw [List.length_replicate]; show 1 + _ ≤ 1000; omega)
  have c3 : ∀ a b c : Nat, addB (.dat (.str (sC [a]))) (.dat (.str (sC [b]))) = .ok (.dat (.str (sC [a, b]))) := fun a b c => cat_ok (by show 2 ≤ 1000; decide)
  have c4 : ∀ a b c : Nat, addB (.dat (.str (sC [a, b]))) (.dat (.str (sC [c]))) = .ok (.dat (.str (sC [a, b, c]))) := fun a b c => cat_ok (by show 3 ≤ 1000; decide)
  have c3' := fun a b => c3 a b 0
  have l8 : idxB (.dat (.str "abcdefgh")) (.dat (.int (k : Int))) = .ok (.dat (.str (sC [97 + k]))) := letter8 hk
  unfold nmC
  by_cases h1 : x1 % 4 = 1
  · have d1 : decide (x1 % 4 = 1) = true := decide_eq_true h1
    have d2 : decide (x1 % 4 = 2) = false := decide_eq_false (by omega)
    have d3 : decide (x1 % 4 = 3) = false := decide_eq_false (by omega)
    rw [if_pos h1]
    simp (decide := true) only [B_law_names_1, e_try, tryK_nx, tryK_rt, tryK_bk, tryK_ct, tryK_exc, tryK_pass, hdl_none, hdl_some, leaveN_nx, leaveN_rt, leaveN_ct, leaveN_bk, leaveS_nx, leaveS_rt, leaveS_ct, leaveS_bk, noErr_nil, noErr_cons, noErrO_none, noErrO_dat, noErrO_own, noErrO_bor, noErrO_scr, noErrB_dat, noErrB_own, errI_t, errI_f, errV_t, errT_t, errT_f, e_rz, retB_err, look_err, rd_err, arg_err, set_err, e_count, drop_any, e_seq, sq_nx, sq_rt, sq_bk, sq_ct, sq_exc, e_then, then_ok, then_exc, set_dat, set_own, set_bor, set_scr, setL_dat, setL_own, setL_bor, ret_dat, ret_own, rd_dat, rd_own, rd_vw, rd_bor, rd_scr, frz_l, frz_k, frz_t, e_var, look_dat, look_own, look_bor, look_scr, e_retN, lookN_dat, lookN_own, e_bin2, bin2_ok, bin2_exc, bin2_exc2, e_one1, one1_ok, one1_exc, e_cons, cons_okK, cons_exc, cons_exc2, e_nil, e_call, bnd_ok, bnd_exc, e_own, arg_dat, arg_vw, arg_bor, arg_scr, retB_dat, retB_own, e_tst, tst_bl, e_testV, test_ok, test_exc, tru_bl, tru_int, tru_non, tru_tup, tru_lst, tru_vw, e_notT, notK_ok, notK_exc, e_and, e_or, and_t, and_f, or_t, or_f, and_exc, or_exc, e_iteV, iteV_t, iteV_f, e_andV, e_orV, andV_t, andV_f, andV_exc, orV_t, orV_f, orV_exc, e_iteS, iteS_t, iteS_f, iteS_exc, e_it, itK_ok, itK_exc, it_tup, it_ctup, it_lst, it_bor, it_vw, it_scr, it_str, e_index, index_ok, e_mut, mut_rev, e_ext, ext_own, ext_dat, e_rg, e_shl, e_pow, e_noP, e_atP, part_int, e_slc, slc_okK, e_comp, compK_ok, compK_exc, wipe_nil, wipe_cons, e_for, forK_ok, forK_exc, bindV_dat, bindV_own, bindO_some, bt_one, bt_tup, bt_ctup, bt_lst, pm_nil, pm_nil2, pm_cons, e_par2, par2_dd, par2_od, par2_do, par2_oo, e_lock, lock_own, lock_dat, lock_bor, lock_none, e_lockS, outR_nx, outR_rt, outR_exc, e_litI, e_litS, e_litB, e_litN, e_litD, e_newK, e_newT, e_nx, e_bk, e_ct, e_rtN, e_yes, e_app, own_of, app_dat, app_own, app_exc, e_put, put_dat, put_own, putO_some, e_forget, fg_nx, fg_bk, fg_ct, fg_rt, fg_exc, List.getElem?_cons_zero, List.getElem?_cons_succ, List.set_cons_zero, List.set_cons_succ, List.length_cons, List.length_nil, Nat.reduceAdd, Nat.reduceLT, Bool.not_true, Bool.not_false, e_chn, chn_ok, chnV_t, chnV_f, e_lstB, e_tupB, dats_nil, dats_cons, datsO_some, lstK_ok, tupK_ok, len_tup, len_lst, len_vw, len_bor, len_scr, len_S, neg_i, not_bl, tupF_lst, tupF_tup, tupF_vw, tupF_bor, lstF_tup, lstF_lst, int_i, int_bl, is_t, isn_t, is_n, isn_n, eq_bl, ne_bl, isi_bl, add_ii, sub_ii, lt_ii, gt_ii, le_ii, ge_ii, eq_ii, ne_ii, min_ii, max_ii, and_ii, slc_tup, slc_l, slc_vw, slc_bor, back_tup, back_lst, app_l, app_m, Nat.reduceLeDiff, Int.cast_ofNat_Int, Int.natCast_zero, Int.natCast_one, Int.reduceEq, eq_self, Int.reduceLE, Int.reduceLT, Int.reduceNeg, Int.reduceToNat, Int.toNat_natCast, Int.reduceAdd, Int.reduceSub, Int.reduceMul, Nat.reduceMul, Nat.reduceSub, decide_true, decide_false, Bool.true_and, Bool.false_and, Bool.and_true, Bool.true_or, Bool.false_or, Bool.or_false, not_true_eq_false, not_false_eq_true, if_true, if_false, Bool.false_eq_true, reduceCtorEq, mod_pos, mul_z, i0, i1, i2, i3, l5, mm, idx_26, r0, d1, d2, d3, r1, l8, c1, hf, List.cons_append, List.nil_append]
  · rw [if_neg h1]
    have d1 : decide (x1 % 4 = 1) = false := decide_eq_false h1
    by_cases h2 : x1 % 4 = 2
    · have d2 : decide (x1 % 4 = 2) = true := decide_eq_true h2
      have d3 : decide (x1 % 4 = 3) = false := decide_eq_false (by omega)
      rw [if_pos h2]
      have ek : (1 + (k : Int)).toNat = 1 + k := by omega
      rw [ek] at r2
      simp (decide := true) only [B_law_names_1, e_try, tryK_nx, tryK_rt, tryK_bk, tryK_ct, tryK_exc, tryK_pass, hdl_none, hdl_some, leaveN_nx, leaveN_rt, leaveN_ct, leaveN_bk, leaveS_nx, leaveS_rt, leaveS_ct, leaveS_bk, noErr_nil, noErr_cons, noErrO_none, noErrO_dat, noErrO_own, noErrO_bor, noErrO_scr, noErrB_dat, noErrB_own, errI_t, errI_f, errV_t, errT_t, errT_f, e_rz, retB_err, look_err, rd_err, arg_err, set_err, e_count, drop_any, e_seq, sq_nx, sq_rt, sq_bk, sq_ct, sq_exc, e_then, then_ok, then_exc, set_dat, set_own, set_bor, set_scr, setL_dat, setL_own, setL_bor, ret_dat, ret_own, rd_dat, rd_own, rd_vw, rd_bor, rd_scr, frz_l, frz_k, frz_t, e_var, look_dat, look_own, look_bor, look_scr, e_retN, lookN_dat, lookN_own, e_bin2, bin2_ok, bin2_exc, bin2_exc2, e_one1, one1_ok, one1_exc, e_cons, cons_okK, cons_exc, cons_exc2, e_nil, e_call, bnd_ok, bnd_exc, e_own, arg_dat, arg_vw, arg_bor, arg_scr, retB_dat, retB_own, e_tst, tst_bl, e_testV, test_ok, test_exc, tru_bl, tru_int, tru_non, tru_tup, tru_lst, tru_vw, e_notT, notK_ok, notK_exc, e_and, e_or, and_t, and_f, or_t, or_f, and_exc, or_exc, e_iteV, iteV_t, iteV_f, e_andV, e_orV, andV_t, andV_f, andV_exc, orV_t, orV_f, orV_exc, e_iteS, iteS_t, iteS_f, iteS_exc, e_it, itK_ok, itK_exc, it_tup, it_ctup, it_lst, it_bor, it_vw, it_scr, it_str, e_index, index_ok, e_mut, mut_rev, e_ext, ext_own, ext_dat, e_rg, e_shl, e_pow, e_noP, e_atP, part_int, e_slc, slc_okK, e_comp, compK_ok, compK_exc, wipe_nil, wipe_cons, e_for, forK_ok, forK_exc, bindV_dat, bindV_own, bindO_some, bt_one, bt_tup, bt_ctup, bt_lst, pm_nil, pm_nil2, pm_cons, e_par2, par2_dd, par2_od, par2_do, par2_oo, e_lock, lock_own, lock_dat, lock_bor, lock_none, e_lockS, outR_nx, outR_rt, outR_exc, e_litI, e_litS, e_litB, e_litN, e_litD, e_newK, e_newT, e_nx, e_bk, e_ct, e_rtN, e_yes, e_app, own_of, app_dat, app_own, app_exc, e_put, put_dat, put_own, putO_some, e_forget, fg_nx, fg_bk, fg_ct, fg_rt, fg_exc, List.getElem?_cons_zero, List.getElem?_cons_succ, List.set_cons_zero, List.set_cons_succ, List.length_cons, List.length_nil, Nat.reduceAdd, Nat.reduceLT, Bool.not_true, Bool.not_false, e_chn, chn_ok, chnV_t, chnV_f, e_lstB, e_tupB, dats_nil, dats_cons, datsO_some, lstK_ok, tupK_ok, len_tup, len_lst, len_vw, len_bor, len_scr, len_S, neg_i, not_bl, tupF_lst, tupF_tup, tupF_vw, tupF_bor, lstF_tup, lstF_lst, int_i, int_bl, is_t, isn_t, is_n, isn_n, eq_bl, ne_bl, isi_bl, add_ii, sub_ii, lt_ii, gt_ii, le_ii, ge_ii, eq_ii, ne_ii, min_ii, max_ii, and_ii, slc_tup, slc_l, slc_vw, slc_bor, back_tup, back_lst, app_l, app_m, Nat.reduceLeDiff, Int.cast_ofNat_Int, Int.natCast_zero, Int.natCast_one, Int.reduceEq, eq_self, Int.reduceLE, Int.reduceLT, Int.reduceNeg, Int.reduceToNat, Int.toNat_natCast, Int.reduceAdd, Int.reduceSub, Int.reduceMul, Nat.reduceMul, Nat.reduceSub, decide_true, decide_false, Bool.true_and, Bool.false_and, Bool.and_true, Bool.true_or, Bool.false_or, Bool.or_false, not_true_eq_false, not_false_eq_true, if_true, if_false, Bool.false_eq_true, reduceCtorEq, mod_pos, mul_z, i0, i1, i2, i3, l5, mm, idx_26, r0, d1, d2, d3, r2, hf]
    · rw [if_neg h2]
      have d2 : decide (x1 % 4 = 2) = false := decide_eq_false h2
      by_cases h3 : x1 % 4 = 3
      · have d3 : decide (x1 % 4 = 3) = true := decide_eq_true h3
        rw [if_pos h3]
        simp (decide := true) only [B_law_names_1, e_try, tryK_nx, tryK_rt, tryK_bk, tryK_ct, tryK_exc, tryK_pass, hdl_none, hdl_some, leaveN_nx, leaveN_rt, leaveN_ct, leaveN_bk, leaveS_nx, leaveS_rt, leaveS_ct, leaveS_bk, noErr_nil, noErr_cons, noErrO_none, noErrO_dat, noErrO_own, noErrO_bor, noErrO_scr, noErrB_dat, noErrB_own, errI_t, errI_f, errV_t, errT_t, errT_f, e_rz, retB_err, look_err, rd_err, arg_err, set_err, e_count, drop_any, e_seq, sq_nx, sq_rt, sq_bk, sq_ct, sq_exc, e_then, then_ok, then_exc, set_dat, set_own, set_bor, set_scr, setL_dat, setL_own, setL_bor, ret_dat, ret_own, rd_dat, rd_own, rd_vw, rd_bor, rd_scr, frz_l, frz_k, frz_t, e_var, look_dat, look_own, look_bor, look_scr, e_retN, lookN_dat, lookN_own, e_bin2, bin2_ok, bin2_exc, bin2_exc2, e_one1, one1_ok, one1_exc, e_cons, cons_okK, cons_exc, cons_exc2, e_nil, e_call, bnd_ok, bnd_exc, e_own, arg_dat, arg_vw, arg_bor, arg_scr, retB_dat, retB_own, e_tst, tst_bl, e_testV, test_ok, test_exc, tru_bl, tru_int, tru_non, tru_tup, tru_lst, tru_vw, e_notT, notK_ok, notK_exc, e_and, e_or, and_t, and_f, or_t, or_f, and_exc, or_exc, e_iteV, iteV_t, iteV_f, e_andV, e_orV, andV_t, andV_f, andV_exc, orV_t, orV_f, orV_exc, e_iteS, iteS_t, iteS_f, iteS_exc, e_it, itK_ok, itK_exc, it_tup, it_ctup, it_lst, it_bor, it_vw, it_scr, it_str, e_index, index_ok, e_mut, mut_rev, e_ext, ext_own, ext_dat, e_rg, e_shl, e_pow, e_noP, e_atP, part_int, e_slc, slc_okK, e_comp, compK_ok, compK_exc, wipe_nil, wipe_cons, e_for, forK_ok, forK_exc, bindV_dat, bindV_own, bindO_some, bt_one, bt_tup, bt_ctup, bt_lst, pm_nil, pm_nil2, pm_cons, e_par2, par2_dd, par2_od, par2_do, par2_oo, e_lock, lock_own, lock_dat, lock_bor, lock_none, e_lockS, outR_nx, outR_rt, outR_exc, e_litI, e_litS, e_litB, e_litN, e_litD, e_newK, e_newT, e_nx, e_bk, e_ct, e_rtN, e_yes, e_app, own_of, app_dat, app_own, app_exc, e_put, put_dat, put_own, putO_some, e_forget, fg_nx, fg_bk, fg_ct, fg_rt, fg_exc, List.getElem?_cons_zero, List.getElem?_cons_succ, List.set_cons_zero, List.set_cons_succ, List.length_cons, List.length_nil, Nat.reduceAdd, Nat.reduceLT, Bool.not_true, Bool.not_false, e_chn, chn_ok, chnV_t, chnV_f, e_lstB, e_tupB, dats_nil, dats_cons, datsO_some, lstK_ok, tupK_ok, len_tup, len_lst, len_vw, len_bor, len_scr, len_S, neg_i, not_bl, tupF_lst, tupF_tup, tupF_vw, tupF_bor, lstF_tup, lstF_lst, int_i, int_bl, is_t, isn_t, is_n, isn_n, eq_bl, ne_bl, isi_bl, add_ii, sub_ii, lt_ii, gt_ii, le_ii, ge_ii, eq_ii, ne_ii, min_ii, max_ii, and_ii, slc_tup, slc_l, slc_vw, slc_bor, back_tup, back_lst, app_l, app_m, Nat.reduceLeDiff, Int.cast_ofNat_Int, Int.natCast_zero, Int.natCast_one, Int.reduceEq, eq_self, Int.reduceLE, Int.reduceLT, Int.reduceNeg, Int.reduceToNat, Int.toNat_natCast, Int.reduceAdd, Int.reduceSub, Int.reduceMul, Nat.reduceMul, Nat.reduceSub, decide_true, decide_false, Bool.true_and, Bool.false_and, Bool.and_true, Bool.true_or, Bool.false_or, Bool.or_false, not_true_eq_false, not_false_eq_true, if_true, if_false, Bool.false_eq_true, reduceCtorEq, mod_pos, mul_z, i0, i1, i2, i3, l5, mm, idx_26, r0, d1, d2, d3, c3', c4, hf]
      · have d3 : decide (x1 % 4 = 3) = false := decide_eq_false h3
        rw [if_neg h3]
        simp (decide := true) only [B_law_names_1, e_try, tryK_nx, tryK_rt, tryK_bk, tryK_ct, tryK_exc, tryK_pass, hdl_none, hdl_some, leaveN_nx, leaveN_rt, leaveN_ct, leaveN_bk, leaveS_nx, leaveS_rt, leaveS_ct, leaveS_bk, noErr_nil, noErr_cons, noErrO_none, noErrO_dat, noErrO_own, noErrO_bor, noErrO_scr, noErrB_dat, noErrB_own, errI_t, errI_f, errV_t, errT_t, errT_f, e_rz, retB_err, look_err, rd_err, arg_err, set_err, e_count, drop_any, e_seq, sq_nx, sq_rt, sq_bk, sq_ct, sq_exc, e_then, then_ok, then_exc, set_dat, set_own, set_bor, set_scr, setL_dat, setL_own, setL_bor, ret_dat, ret_own, rd_dat, rd_own, rd_vw, rd_bor, rd_scr, frz_l, frz_k, frz_t, e_var, look_dat, look_own, look_bor, look_scr, e_retN, lookN_dat, lookN_own, e_bin2, bin2_ok, bin2_exc, bin2_exc2, e_one1, one1_ok, one1_exc, e_cons, cons_okK, cons_exc, cons_exc2, e_nil, e_call, bnd_ok, bnd_exc, e_own, arg_dat, arg_vw, arg_bor, arg_scr, retB_dat, retB_own, e_tst, tst_bl, e_testV, test_ok, test_exc, tru_bl, tru_int, tru_non, tru_tup, tru_lst, tru_vw, e_notT, notK_ok, notK_exc, e_and, e_or, and_t, and_f, or_t, or_f, and_exc, or_exc, e_iteV, iteV_t, iteV_f, e_andV, e_orV, andV_t, andV_f, andV_exc, orV_t, orV_f, orV_exc, e_iteS, iteS_t, iteS_f, iteS_exc, e_it, itK_ok, itK_exc, it_tup, it_ctup, it_lst, it_bor, it_vw, it_scr, it_str, e_index, index_ok, e_mut, mut_rev, e_ext, ext_own, ext_dat, e_rg, e_shl, e_pow, e_noP, e_atP, part_int, e_slc, slc_okK, e_comp, compK_ok, compK_exc, wipe_nil, wipe_cons, e_for, forK_ok, forK_exc, bindV_dat, bindV_own, bindO_some, bt_one, bt_tup, bt_ctup, bt_lst, pm_nil, pm_nil2, pm_cons, e_par2, par2_dd, par2_od, par2_do, par2_oo, e_lock, lock_own, lock_dat, lock_bor, lock_none, e_lockS, outR_nx, outR_rt, outR_exc, e_litI, e_litS, e_litB, e_litN, e_litD, e_newK, e_newT, e_nx, e_bk, e_ct, e_rtN, e_yes, e_app, own_of, app_dat, app_own, app_exc, e_put, put_dat, put_own, putO_some, e_forget, fg_nx, fg_bk, fg_ct, fg_rt, fg_exc, List.getElem?_cons_zero, List.getElem?_cons_succ, List.set_cons_zero, List.set_cons_succ, List.length_cons, List.length_nil, Nat.reduceAdd, Nat.reduceLT, Bool.not_true, Bool.not_false, e_chn, chn_ok, chnV_t, chnV_f, e_lstB, e_tupB, dats_nil, dats_cons, datsO_some, lstK_ok, tupK_ok, len_tup, len_lst, len_vw, len_bor, len_scr, len_S, neg_i, not_bl, tupF_lst, tupF_tup, tupF_vw, tupF_bor, lstF_tup, lstF_lst, int_i, int_bl, is_t, isn_t, is_n, isn_n, eq_bl, ne_bl, isi_bl, add_ii, sub_ii, lt_ii, gt_ii, le_ii, ge_ii, eq_ii, ne_ii, min_ii, max_ii, and_ii, slc_tup, slc_l, slc_vw, slc_bor, back_tup, back_lst, app_l, app_m, Nat.reduceLeDiff, Int.cast_ofNat_Int, Int.natCast_zero, Int.natCast_one, Int.reduceEq, eq_self, Int.reduceLE, Int.reduceLT, Int.reduceNeg, Int.reduceToNat, Int.toNat_natCast, Int.reduceAdd, Int.reduceSub, Int.reduceMul, Nat.reduceMul, Nat.reduceSub, decide_true, decide_false, Bool.true_and, Bool.false_and, Bool.and_true, Bool.true_or, Bool.false_or, Bool.or_false, not_true_eq_false, not_false_eq_true, if_true, if_false, Bool.false_eq_true, reduceCtorEq, mod_pos, mul_z, i0, i1, i2, i3, l5, mm, idx_26, r0, d1, d2, d3, hf]
theorem names_spec (xs : List Int) (hx : 4 ≤ xs.length) (n : Int) (h0 : 0 ≤ n) (hn : n ≤ 8) : ∃ ns : List Str, Nms ns n.toNat ∧ E_law_names.F [.dat (.lst (xs.map .int)), .dat (.int n)] = .ok (.own (.l (txs ns))) := by
  obtain ⟨ns, h1, h2⟩ := nms_draw (xs.getD 0 0) (xs.getD 1 0) (xs.getD 2 0) (xs.getD 3 0) (n := n.toNat) (by omega)
  refine ⟨ns, h1, ?_⟩
  have lp : ∀ (j k : Nat), j + k = n.toNat → loopF (.one 4) B_law_names_1 ((List.range' j k).map fun (i : Nat) => D.int i) [some (.dat (.lst (xs.map .int))), some (.dat (.int n)), some (.dat (.str "abcdefghijklmnopqrstuvwxyz")), some (.own (.l ((List.range j).map fun k => D.str (sC (nmC (xs.getD 0 0) (xs.getD 1 0) (xs.getD 2 0) (xs.getD 3 0) k))))), none, none, none] =
      .nx [some (.dat (.lst (xs.map .int))), some (.dat (.int n)), some (.dat (.str "abcdefghijklmnopqrstuvwxyz")), some (.own (.l ((List.range n.toNat).map fun k => D.str (sC (nmC (xs.getD 0 0) (xs.getD 1 0) (xs.getD 2 0) (xs.getD 3 0) k))))), none, none, none] := by
    intro j k
    induction k generalizing j with
    | zero => intro e; rw [Nat.add_zero] at e; subst e; rfl
    | succ k ih =>
      intro e
      rw [List.range'_succ, List.map_cons, loop_one bt_one]
      simp only [List.set_cons_zero, List.set_cons_succ]
      rw [name_step xs hx n _ (by rw [List.length_map, List.length_range]; omega) j (by omega), lk_nx]
      have := ih (j + 1) (by omega)
      rw [List.range_succ, List.map_append] at this
      exact this
  have lp0 := lp 0 n.toNat (by omega)
  rw [← List.range_eq_range'] at lp0
  rw [d_law_names (by rfl)]
  have r1 := rg1 (k := n) (by omega) (by omega)
  have lp1 : (loopF (.one 4) B_law_names_1 ((List.range n.toNat).map fun (i : Nat) => D.int i) [some (.dat (.lst (xs.map .int))), some (.dat (.int n)), some (.dat (.str "abcdefghijklmnopqrstuvwxyz")), some (.own (.l [])), none, none, none]) = _ := lp0
  simp (decide := true) only [B_law_names, e_try, tryK_nx, tryK_rt, tryK_bk, tryK_ct, tryK_exc, tryK_pass, hdl_none, hdl_some, leaveN_nx, leaveN_rt, leaveN_ct, leaveN_bk, leaveS_nx, leaveS_rt, leaveS_ct, leaveS_bk, noErr_nil, noErr_cons, noErrO_none, noErrO_dat, noErrO_own, noErrO_bor, noErrO_scr, noErrB_dat, noErrB_own, errI_t, errI_f, errV_t, errT_t, errT_f, e_rz, retB_err, look_err, rd_err, arg_err, set_err, e_count, drop_any, e_seq, sq_nx, sq_rt, sq_bk, sq_ct, sq_exc, e_then, then_ok, then_exc, set_dat, set_own, set_bor, set_scr, setL_dat, setL_own, setL_bor, ret_dat, ret_own, rd_dat, rd_own, rd_vw, rd_bor, rd_scr, frz_l, frz_k, frz_t, e_var, look_dat, look_own, look_bor, look_scr, e_retN, lookN_dat, lookN_own, e_bin2, bin2_ok, bin2_exc, bin2_exc2, e_one1, one1_ok, one1_exc, e_cons, cons_okK, cons_exc, cons_exc2, e_nil, e_call, bnd_ok, bnd_exc, e_own, arg_dat, arg_vw, arg_bor, arg_scr, retB_dat, retB_own, e_tst, tst_bl, e_testV, test_ok, test_exc, tru_bl, tru_int, tru_non, tru_tup, tru_lst, tru_vw, e_notT, notK_ok, notK_exc, e_and, e_or, and_t, and_f, or_t, or_f, and_exc, or_exc, e_iteV, iteV_t, iteV_f, e_andV, e_orV, andV_t, andV_f, andV_exc, orV_t, orV_f, orV_exc, e_iteS, iteS_t, iteS_f, iteS_exc, e_it, itK_ok, itK_exc, it_tup, it_ctup, it_lst, it_bor, it_vw, it_scr, it_str, e_index, index_ok, e_mut, mut_rev, e_ext, ext_own, ext_dat, e_rg, e_shl, e_pow, e_noP, e_atP, part_int, e_slc, slc_okK, e_comp, compK_ok, compK_exc, wipe_nil, wipe_cons, e_for, forK_ok, forK_exc, bindV_dat, bindV_own, bindO_some, bt_one, bt_tup, bt_ctup, bt_lst, pm_nil, pm_nil2, pm_cons, e_par2, par2_dd, par2_od, par2_do, par2_oo, e_lock, lock_own, lock_dat, lock_bor, lock_none, e_lockS, outR_nx, outR_rt, outR_exc, e_litI, e_litS, e_litB, e_litN, e_litD, e_newK, e_newT, e_nx, e_bk, e_ct, e_rtN, e_yes, e_app, own_of, app_dat, app_own, app_exc, e_put, put_dat, put_own, putO_some, e_forget, fg_nx, fg_bk, fg_ct, fg_rt, fg_exc, List.getElem?_cons_zero, List.getElem?_cons_succ, List.set_cons_zero, List.set_cons_succ, List.length_cons, List.length_nil, Nat.reduceAdd, Nat.reduceLT, Bool.not_true, Bool.not_false, e_chn, chn_ok, chnV_t, chnV_f, e_lstB, e_tupB, dats_nil, dats_cons, datsO_some, lstK_ok, tupK_ok, len_tup, len_lst, len_vw, len_bor, len_scr, len_S, neg_i, not_bl, tupF_lst, tupF_tup, tupF_vw, tupF_bor, lstF_tup, lstF_lst, int_i, int_bl, is_t, isn_t, is_n, isn_n, eq_bl, ne_bl, isi_bl, add_ii, sub_ii, lt_ii, gt_ii, le_ii, ge_ii, eq_ii, ne_ii, min_ii, max_ii, and_ii, slc_tup, slc_l, slc_vw, slc_bor, back_tup, back_lst, app_l, app_m, Nat.reduceLeDiff, Int.cast_ofNat_Int, Int.natCast_zero, Int.natCast_one, Int.reduceEq, eq_self, Int.reduceLE, Int.reduceLT, Int.reduceNeg, Int.reduceToNat, Int.toNat_natCast, Int.reduceAdd, Int.reduceSub, Int.reduceMul, Nat.reduceMul, Nat.reduceSub, decide_true, decide_false, Bool.true_and, Bool.false_and, Bool.and_true, Bool.true_or, Bool.false_or, Bool.or_false, not_true_eq_false, not_false_eq_true, if_true, if_false, Bool.false_eq_true, reduceCtorEq, r1, lp1, h2]
end P
namespace P
open PySem PySem.Spec PyProof.Rows L2 Fn
/-! ### _law_place, _law_ties, _law_web -/
theorem place_spec (nm : Str) (xs : List Int) (hx : 5 ≤ xs.length) (top w : Int) (h1 : 1 ≤ top) (h9 : top ≤ 9) (w0 : 0 ≤ w) (w3 : w ≤ 3) : ∃ p : Plc, p.n = nm ∧ PlOk top p ∧ E_law_place.F [.dat (.str nm), .dat (.lst (xs.map .int)), .dat (.int top), .dat (.int w)] = .ok (.dat (plD p)) := by
  have i0 := ixI (l := xs) (k := 0) (by omega) (by omega)
  have i1 := ixI (l := xs) (k := 1) (by omega) (by omega)
  have i2 := ixI (l := xs) (k := 2) (by omega) (by omega)
  have i3 := ixI (l := xs) (k := 3) (by omega) (by omega)
  have i4 := ixI (l := xs) (k := 4) (by omega) (by omega)
  generalize xs.getD (Int.toNat 0) 0 = x0 at *
  generalize xs.getD (Int.toNat 1) 0 = x1 at *
  generalize xs.getD (Int.toNat 2) 0 = x2 at *
  generalize xs.getD (Int.toNat 3) 0 = x3 at *
  generalize xs.getD (Int.toNat 4) 0 = x4 at *
  have fo : ∀ a b c d : Int, idxB (.dat (.lst [.int a, .int b, .int c, .int d])) (.dat (.int w)) = _ := fun a b c d => four w0 w3
  obtain ⟨m0, hm0, hm0p, hm0l⟩ : ∃ m, m = (if w = 0 then (4 : Int) else if w = 1 then 10 else if w = 2 then 100 else 100) ∧ 0 < m ∧ m ≤ 100 := ⟨_, rfl, (by split; decide; split; decide; split <;> decide), (by split; decide; split; decide; split <;> decide)⟩
  obtain ⟨m1, hm1, hm1p, hm1l⟩ : ∃ m, m = (if w = 0 then (3 : Int) else if w = 1 then 5 else if w = 2 then 100 else 100) ∧ 0 < m ∧ m ≤ 100 := ⟨_, rfl, (by split; decide; split; decide; split <;> decide), (by split; decide; split; decide; split <;> decide)⟩
  obtain ⟨m2, hm2, hm2p, hm2l⟩ : ∃ m, m = (if w = 0 then (2 : Int) else if w = 1 then 4 else if w = 2 then 100 else 100) ∧ 0 < m ∧ m ≤ 100 := ⟨_, rfl, (by split; decide; split; decide; split <;> decide), (by split; decide; split; decide; split <;> decide)⟩
  obtain ⟨m3, hm3, hm3p, hm3l⟩ : ∃ m, m = (if w = 0 then (5 : Int) else if w = 1 then 20 else if w = 2 then 100 else 100) ∧ 0 < m ∧ m ≤ 100 := ⟨_, rfl, (by split; decide; split; decide; split <;> decide), (by split; decide; split; decide; split <;> decide)⟩
  obtain ⟨m4, hm4, hm4p, hm4l⟩ : ∃ m, m = (if w = 0 then (5 : Int) else if w = 1 then 20 else if w = 2 then 1000 else 1000) ∧ 0 < m ∧ m ≤ 1000 := ⟨_, rfl, (by split; decide; split; decide; split <;> decide), (by split; decide; split; decide; split <;> decide)⟩
  have y0 : ∀ z m : Int, 0 < m → 0 ≤ z % m ∧ z % m < m := fun z m h => ⟨Int.emod_nonneg _ (by omega), Int.emod_lt_of_pos _ h⟩
  have g0 : modB (.dat (.int x0)) (.dat (.int m0)) = .ok (.dat (.int (x0 % m0))) := mod_pos hm0p
  have g1 : modB (.dat (.int x1)) (.dat (.int m1)) = .ok (.dat (.int (x1 % m1))) := mod_pos hm1p
  have g2 : modB (.dat (.int x2)) (.dat (.int m2)) = .ok (.dat (.int (x2 % m2))) := mod_pos hm2p
  have g3 : modB (.dat (.int x3)) (.dat (.int m3)) = .ok (.dat (.int (x3 % m3))) := mod_pos hm3p
  have g4 : modB (.dat (.int x3)) (.dat (.int m4)) = .ok (.dat (.int (x3 % m4))) := mod_pos hm4p
  have b0 := y0 x0 m0 hm0p
  have b1 := y0 x1 m1 hm1p
  have b2 := y0 x2 m2 hm2p
  have b3 := y0 x3 m3 hm3p
  have b4 := y0 x3 m4 hm4p
  generalize x0 % m0 = A at *
  generalize x1 % m1 = Bq at *
  generalize x2 % m2 = Dq at *
  generalize x3 % m3 = Cq at *
  generalize x3 % m4 = Cr at *
  haveI : ISz Dq 7 := isz_of (by omega) (by omega)
  haveI : ISz top 4 := isz_of (by omega) (by omega)
  have pm : Dq * top ≤ 99 * 9 := Int.mul_le_mul (by omega) h9 (by omega) (by omega)
  have pm0 : 0 ≤ Dq * top := Int.mul_nonneg b2.1 (by omega)
  by_cases c1 : x4 % 5 = 1
  · have d1 : decide (x4 % 5 = 1) = true := decide_eq_true c1
    have d2 : decide (x4 % 5 = 2) = false := decide_eq_false (by omega)
    refine ⟨⟨nm, 0, x1 / 8 % 3, Dq * top + Cq, Dq⟩, rfl, ⟨by show (0 : Int) ≤ 0; omega, by show (0 : Int) ≤ 99; omega, by show 0 ≤ x1 / 8 % 3; omega, by show x1 / 8 % 3 ≤ 99; omega, by show Dq * top ≤ Dq * top + Cq; omega, by show Dq * top + Cq ≤ 999; omega, b2.1, by show Dq ≤ 99; omega⟩, ?_⟩
    rw [d_law_place (by rfl)]
    simp (decide := true) only [B_law_place, e_try, tryK_nx, tryK_rt, tryK_bk, tryK_ct, tryK_exc, tryK_pass, hdl_none, hdl_some, leaveN_nx, leaveN_rt, leaveN_ct, leaveN_bk, leaveS_nx, leaveS_rt, leaveS_ct, leaveS_bk, noErr_nil, noErr_cons, noErrO_none, noErrO_dat, noErrO_own, noErrO_bor, noErrO_scr, noErrB_dat, noErrB_own, errI_t, errI_f, errV_t, errT_t, errT_f, e_rz, retB_err, look_err, rd_err, arg_err, set_err, e_count, drop_any, e_seq, sq_nx, sq_rt, sq_bk, sq_ct, sq_exc, e_then, then_ok, then_exc, set_dat, set_own, set_bor, set_scr, setL_dat, setL_own, setL_bor, ret_dat, ret_own, rd_dat, rd_own, rd_vw, rd_bor, rd_scr, frz_l, frz_k, frz_t, e_var, look_dat, look_own, look_bor, look_scr, e_retN, lookN_dat, lookN_own, e_bin2, bin2_ok, bin2_exc, bin2_exc2, e_one1, one1_ok, one1_exc, e_cons, cons_okK, cons_exc, cons_exc2, e_nil, e_call, bnd_ok, bnd_exc, e_own, arg_dat, arg_vw, arg_bor, arg_scr, retB_dat, retB_own, e_tst, tst_bl, e_testV, test_ok, test_exc, tru_bl, tru_int, tru_non, tru_tup, tru_lst, tru_vw, e_notT, notK_ok, notK_exc, e_and, e_or, and_t, and_f, or_t, or_f, and_exc, or_exc, e_iteV, iteV_t, iteV_f, e_andV, e_orV, andV_t, andV_f, andV_exc, orV_t, orV_f, orV_exc, e_iteS, iteS_t, iteS_f, iteS_exc, e_it, itK_ok, itK_exc, it_tup, it_ctup, it_lst, it_bor, it_vw, it_scr, it_str, e_index, index_ok, e_mut, mut_rev, e_ext, ext_own, ext_dat, e_rg, e_shl, e_pow, e_noP, e_atP, part_int, e_slc, slc_okK, e_comp, compK_ok, compK_exc, wipe_nil, wipe_cons, e_for, forK_ok, forK_exc, bindV_dat, bindV_own, bindO_some, bt_one, bt_tup, bt_ctup, bt_lst, pm_nil, pm_nil2, pm_cons, e_par2, par2_dd, par2_od, par2_do, par2_oo, e_lock, lock_own, lock_dat, lock_bor, lock_none, e_lockS, outR_nx, outR_rt, outR_exc, e_litI, e_litS, e_litB, e_litN, e_litD, e_newK, e_newT, e_nx, e_bk, e_ct, e_rtN, e_yes, e_app, own_of, app_dat, app_own, app_exc, e_put, put_dat, put_own, putO_some, e_forget, fg_nx, fg_bk, fg_ct, fg_rt, fg_exc, List.getElem?_cons_zero, List.getElem?_cons_succ, List.set_cons_zero, List.set_cons_succ, List.length_cons, List.length_nil, Nat.reduceAdd, Nat.reduceLT, Bool.not_true, Bool.not_false, e_chn, chn_ok, chnV_t, chnV_f, e_lstB, e_tupB, dats_nil, dats_cons, datsO_some, lstK_ok, tupK_ok, len_tup, len_lst, len_vw, len_bor, len_scr, len_S, neg_i, not_bl, tupF_lst, tupF_tup, tupF_vw, tupF_bor, lstF_tup, lstF_lst, int_i, int_bl, is_t, isn_t, is_n, isn_n, eq_bl, ne_bl, isi_bl, add_ii, sub_ii, lt_ii, gt_ii, le_ii, ge_ii, eq_ii, ne_ii, min_ii, max_ii, and_ii, slc_tup, slc_l, slc_vw, slc_bor, back_tup, back_lst, app_l, app_m, Nat.reduceLeDiff, Int.cast_ofNat_Int, Int.natCast_zero, Int.natCast_one, Int.reduceEq, eq_self, Int.reduceLE, Int.reduceLT, Int.reduceNeg, Int.reduceToNat, Int.toNat_natCast, Int.reduceAdd, Int.reduceSub, Int.reduceMul, Nat.reduceMul, Nat.reduceSub, decide_true, decide_false, Bool.true_and, Bool.false_and, Bool.and_true, Bool.true_or, Bool.false_or, Bool.or_false, not_true_eq_false, not_false_eq_true, if_true, if_false, Bool.false_eq_true, reduceCtorEq, i0, i1, i2, i3, i4, fo, ← hm0, ← hm1, ← hm2, ← hm3, ← hm4, g0, g1, g2, g3, g4, mul_z, mod_pos, div_z, d1, d2]
  · have d1 : decide (x4 % 5 = 1) = false := decide_eq_false c1
    by_cases c2 : x4 % 5 = 2
    · have d2 : decide (x4 % 5 = 2) = true := decide_eq_true c2
      refine ⟨⟨nm, A, Bq, Cr, 0⟩, rfl, ⟨b0.1, by show A ≤ 99; omega, b1.1, by show Bq ≤ 99; omega, by show 0 * top ≤ Cr; rw [Int.zero_mul]; exact b4.1, by show Cr ≤ 999; omega, by show (0 : Int) ≤ 0; omega, by show (0 : Int) ≤ 99; omega⟩, ?_⟩
      rw [d_law_place (by rfl)]
      simp (decide := true) only [B_law_place, e_try, tryK_nx, tryK_rt, tryK_bk, tryK_ct, tryK_exc, tryK_pass, hdl_none, hdl_some, leaveN_nx, leaveN_rt, leaveN_ct, leaveN_bk, leaveS_nx, leaveS_rt, leaveS_ct, leaveS_bk, noErr_nil, noErr_cons, noErrO_none, noErrO_dat, noErrO_own, noErrO_bor, noErrO_scr, noErrB_dat, noErrB_own, errI_t, errI_f, errV_t, errT_t, errT_f, e_rz, retB_err, look_err, rd_err, arg_err, set_err, e_count, drop_any, e_seq, sq_nx, sq_rt, sq_bk, sq_ct, sq_exc, e_then, then_ok, then_exc, set_dat, set_own, set_bor, set_scr, setL_dat, setL_own, setL_bor, ret_dat, ret_own, rd_dat, rd_own, rd_vw, rd_bor, rd_scr, frz_l, frz_k, frz_t, e_var, look_dat, look_own, look_bor, look_scr, e_retN, lookN_dat, lookN_own, e_bin2, bin2_ok, bin2_exc, bin2_exc2, e_one1, one1_ok, one1_exc, e_cons, cons_okK, cons_exc, cons_exc2, e_nil, e_call, bnd_ok, bnd_exc, e_own, arg_dat, arg_vw, arg_bor, arg_scr, retB_dat, retB_own, e_tst, tst_bl, e_testV, test_ok, test_exc, tru_bl, tru_int, tru_non, tru_tup, tru_lst, tru_vw, e_notT, notK_ok, notK_exc, e_and, e_or, and_t, and_f, or_t, or_f, and_exc, or_exc, e_iteV, iteV_t, iteV_f, e_andV, e_orV, andV_t, andV_f, andV_exc, orV_t, orV_f, orV_exc, e_iteS, iteS_t, iteS_f, iteS_exc, e_it, itK_ok, itK_exc, it_tup, it_ctup, it_lst, it_bor, it_vw, it_scr, it_str, e_index, index_ok, e_mut, mut_rev, e_ext, ext_own, ext_dat, e_rg, e_shl, e_pow, e_noP, e_atP, part_int, e_slc, slc_okK, e_comp, compK_ok, compK_exc, wipe_nil, wipe_cons, e_for, forK_ok, forK_exc, bindV_dat, bindV_own, bindO_some, bt_one, bt_tup, bt_ctup, bt_lst, pm_nil, pm_nil2, pm_cons, e_par2, par2_dd, par2_od, par2_do, par2_oo, e_lock, lock_own, lock_dat, lock_bor, lock_none, e_lockS, outR_nx, outR_rt, outR_exc, e_litI, e_litS, e_litB, e_litN, e_litD, e_newK, e_newT, e_nx, e_bk, e_ct, e_rtN, e_yes, e_app, own_of, app_dat, app_own, app_exc, e_put, put_dat, put_own, putO_some, e_forget, fg_nx, fg_bk, fg_ct, fg_rt, fg_exc, List.getElem?_cons_zero, List.getElem?_cons_succ, List.set_cons_zero, List.set_cons_succ, List.length_cons, List.length_nil, Nat.reduceAdd, Nat.reduceLT, Bool.not_true, Bool.not_false, e_chn, chn_ok, chnV_t, chnV_f, e_lstB, e_tupB, dats_nil, dats_cons, datsO_some, lstK_ok, tupK_ok, len_tup, len_lst, len_vw, len_bor, len_scr, len_S, neg_i, not_bl, tupF_lst, tupF_tup, tupF_vw, tupF_bor, lstF_tup, lstF_lst, int_i, int_bl, is_t, isn_t, is_n, isn_n, eq_bl, ne_bl, isi_bl, add_ii, sub_ii, lt_ii, gt_ii, le_ii, ge_ii, eq_ii, ne_ii, min_ii, max_ii, and_ii, slc_tup, slc_l, slc_vw, slc_bor, back_tup, back_lst, app_l, app_m, Nat.reduceLeDiff, Int.cast_ofNat_Int, Int.natCast_zero, Int.natCast_one, Int.reduceEq, eq_self, Int.reduceLE, Int.reduceLT, Int.reduceNeg, Int.reduceToNat, Int.toNat_natCast, Int.reduceAdd, Int.reduceSub, Int.reduceMul, Nat.reduceMul, Nat.reduceSub, decide_true, decide_false, Bool.true_and, Bool.false_and, Bool.and_true, Bool.true_or, Bool.false_or, Bool.or_false, not_true_eq_false, not_false_eq_true, if_true, if_false, Bool.false_eq_true, reduceCtorEq, i0, i1, i2, i3, i4, fo, ← hm0, ← hm1, ← hm2, ← hm3, ← hm4, g0, g1, g2, g3, g4, mul_z, mod_pos, div_z, d1, d2]
    · have d2 : decide (x4 % 5 = 2) = false := decide_eq_false c2
      refine ⟨⟨nm, A, Bq, Dq * top + Cq, Dq⟩, rfl, ⟨b0.1, by show A ≤ 99; omega, b1.1, by show Bq ≤ 99; omega, by show Dq * top ≤ Dq * top + Cq; omega, by show Dq * top + Cq ≤ 999; omega, b2.1, by show Dq ≤ 99; omega⟩, ?_⟩
      rw [d_law_place (by rfl)]
      simp (decide := true) only [B_law_place, e_try, tryK_nx, tryK_rt, tryK_bk, tryK_ct, tryK_exc, tryK_pass, hdl_none, hdl_some, leaveN_nx, leaveN_rt, leaveN_ct, leaveN_bk, leaveS_nx, leaveS_rt, leaveS_ct, leaveS_bk, noErr_nil, noErr_cons, noErrO_none, noErrO_dat, noErrO_own, noErrO_bor, noErrO_scr, noErrB_dat, noErrB_own, errI_t, errI_f, errV_t, errT_t, errT_f, e_rz, retB_err, look_err, rd_err, arg_err, set_err, e_count, drop_any, e_seq, sq_nx, sq_rt, sq_bk, sq_ct, sq_exc, e_then, then_ok, then_exc, set_dat, set_own, set_bor, set_scr, setL_dat, setL_own, setL_bor, ret_dat, ret_own, rd_dat, rd_own, rd_vw, rd_bor, rd_scr, frz_l, frz_k, frz_t, e_var, look_dat, look_own, look_bor, look_scr, e_retN, lookN_dat, lookN_own, e_bin2, bin2_ok, bin2_exc, bin2_exc2, e_one1, one1_ok, one1_exc, e_cons, cons_okK, cons_exc, cons_exc2, e_nil, e_call, bnd_ok, bnd_exc, e_own, arg_dat, arg_vw, arg_bor, arg_scr, retB_dat, retB_own, e_tst, tst_bl, e_testV, test_ok, test_exc, tru_bl, tru_int, tru_non, tru_tup, tru_lst, tru_vw, e_notT, notK_ok, notK_exc, e_and, e_or, and_t, and_f, or_t, or_f, and_exc, or_exc, e_iteV, iteV_t, iteV_f, e_andV, e_orV, andV_t, andV_f, andV_exc, orV_t, orV_f, orV_exc, e_iteS, iteS_t, iteS_f, iteS_exc, e_it, itK_ok, itK_exc, it_tup, it_ctup, it_lst, it_bor, it_vw, it_scr, it_str, e_index, index_ok, e_mut, mut_rev, e_ext, ext_own, ext_dat, e_rg, e_shl, e_pow, e_noP, e_atP, part_int, e_slc, slc_okK, e_comp, compK_ok, compK_exc, wipe_nil, wipe_cons, e_for, forK_ok, forK_exc, bindV_dat, bindV_own, bindO_some, bt_one, bt_tup, bt_ctup, bt_lst, pm_nil, pm_nil2, pm_cons, e_par2, par2_dd, par2_od, par2_do, par2_oo, e_lock, lock_own, lock_dat, lock_bor, lock_none, e_lockS, outR_nx, outR_rt, outR_exc, e_litI, e_litS, e_litB, e_litN, e_litD, e_newK, e_newT, e_nx, e_bk, e_ct, e_rtN, e_yes, e_app, own_of, app_dat, app_own, app_exc, e_put, put_dat, put_own, putO_some, e_forget, fg_nx, fg_bk, fg_ct, fg_rt, fg_exc, List.getElem?_cons_zero, List.getElem?_cons_succ, List.set_cons_zero, List.set_cons_succ, List.length_cons, List.length_nil, Nat.reduceAdd, Nat.reduceLT, Bool.not_true, Bool.not_false, e_chn, chn_ok, chnV_t, chnV_f, e_lstB, e_tupB, dats_nil, dats_cons, datsO_some, lstK_ok, tupK_ok, len_tup, len_lst, len_vw, len_bor, len_scr, len_S, neg_i, not_bl, tupF_lst, tupF_tup, tupF_vw, tupF_bor, lstF_tup, lstF_lst, int_i, int_bl, is_t, isn_t, is_n, isn_n, eq_bl, ne_bl, isi_bl, add_ii, sub_ii, lt_ii, gt_ii, le_ii, ge_ii, eq_ii, ne_ii, min_ii, max_ii, and_ii, slc_tup, slc_l, slc_vw, slc_bor, back_tup, back_lst, app_l, app_m, Nat.reduceLeDiff, Int.cast_ofNat_Int, Int.natCast_zero, Int.natCast_one, Int.reduceEq, eq_self, Int.reduceLE, Int.reduceLT, Int.reduceNeg, Int.reduceToNat, Int.toNat_natCast, Int.reduceAdd, Int.reduceSub, Int.reduceMul, Nat.reduceMul, Nat.reduceSub, decide_true, decide_false, Bool.true_and, Bool.false_and, Bool.and_true, Bool.true_or, Bool.false_or, Bool.or_false, not_true_eq_false, not_false_eq_true, if_true, if_false, Bool.false_eq_true, reduceCtorEq, i0, i1, i2, i3, i4, fo, ← hm0, ← hm1, ← hm2, ← hm3, ← hm4, g0, g1, g2, g3, g4, mul_z, mod_pos, div_z, d1, d2]
theorem tie_step {ns : List Str} {n : Nat} (h : Nms ns n) (n0 : 0 < n) (n8 : n ≤ 8) (sc : List Int) (at_ m w : Int) (a0 : 0 ≤ at_) (w0 : 0 ≤ w) (w3 : w ≤ 3) (L : List Tie) (hL : ∀ t ∈ L, Tgood ns t) (hN : (L.map (·.1)).Nodup) (hl : L.length ≤ 800) (i : Nat) (hi : at_ + i < 64) :
    ∃ L' : List Tie, (∀ t ∈ L', Tgood ns t) ∧ (L'.map (·.1)).Nodup ∧ L'.length ≤ L.length + 2 ∧ B_law_ties_1 [some (.dat (.lst (txs ns))), some (.scr sc), some (.dat (.int at_)), some (.dat (.int m)), some (.dat (.int w)), some (.own (.t (L.map tKv))), some (.dat (.int (i : Int))), none, none, none, none, none] =
      .nx [some (.dat (.lst (txs ns))), some (.scr sc), some (.dat (.int at_)), some (.dat (.int m)), some (.dat (.int w)), some (.own (.t (L'.map tKv))), none, none, none, none, none, none] := by
  obtain ⟨c, hc⟩ := cell_spec sc (at_ + i) (by omega) hi
  obtain ⟨xs, hx, _, hn⟩ := numbers_spec c 5 (by decide) (by decide)
  have i0 := ixI (l := xs) (k := 0) (by omega) (by omega)
  have i1 := ixI (l := xs) (k := 1) (by omega) (by omega)
  have i2 := ixI (l := xs) (k := 2) (by omega) (by omega)
  have i3 := ixI (l := xs) (k := 3) (by omega) (by omega)
  have i4 := ixI (l := xs) (k := 4) (by omega) (by omega)
  generalize xs.getD (Int.toNat 0) 0 = x0 at *
  generalize xs.getD (Int.toNat 1) 0 = x1 at *
  generalize xs.getD (Int.toNat 2) 0 = x2 at *
  generalize xs.getD (Int.toNat 3) 0 = x3 at *
  generalize xs.getD (Int.toNat 4) 0 = x4 at *
  have hl8 := h.len
  have m0 : ∀ z : Int, modB (.dat (.int z)) (.dat (.int (ns.length : Int))) = .ok (.dat (.int (z % (ns.length : Int)))) := fun z => mod_pos (by omega)
  have y0 : ∀ z : Int, 0 ≤ z % (ns.length : Int) ∧ z % (ns.length : Int) < (ns.length : Int) := fun z => ⟨Int.emod_nonneg _ (by omega), Int.emod_lt_of_pos _ (by omega)⟩
  have m1 : modB (.dat (.int x1)) (.dat (.int (max 1 ((ns.length : Int) - 1)))) = .ok (.dat (.int (x1 % (max 1 ((ns.length : Int) - 1))))) := mod_pos (by omega)
  have b1 := y0 x0
  have m0a := m0 x0
  generalize x0 % (ns.length : Int) = one at *
  generalize x1 % (max 1 ((ns.length : Int) - 1)) = u1 at *
  have b2 := y0 (one + 1 + u1)
  have m0b := m0 (one + 1 + u1)
  generalize (one + 1 + u1) % (ns.length : Int) = oth at *
  have fo := four (a := 1 + x2 % 4) (b := 1 + x2 % 30) (c := 1 + x2 % 999) (d := 1 + x2 % 999) w0 w3
  have fb : 1 ≤ (if w = 0 then 1 + x2 % 4 else if w = 1 then 1 + x2 % 30 else if w = 2 then 1 + x2 % 999 else 1 + x2 % 999) ∧ (if w = 0 then 1 + x2 % 4 else if w = 1 then 1 + x2 % 30 else if w = 2 then 1 + x2 % 999 else 1 + x2 % 999) ≤ 999 := by
    split
    · omega
    · split
      · omega
      · split <;> omega
  generalize (if w = 0 then 1 + x2 % 4 else if w = 1 then 1 + x2 % 30 else if w = 2 then 1 + x2 % 999 else 1 + x2 % 999) = sz at *
  have e1 := ixS (l := ns) b1.1 b1.2
  have e2 := ixS (l := ns) b2.1 b2.2
  by_cases e : one = oth
  · refine ⟨L, hL, hN, by omega, ?_⟩
    have de : decide (one = oth) = true := decide_eq_true e
    simp (decide := true) only [B_law_ties_1, e_try, tryK_nx, tryK_rt, tryK_bk, tryK_ct, tryK_exc, tryK_pass, hdl_none, hdl_some, leaveN_nx, leaveN_rt, leaveN_ct, leaveN_bk, leaveS_nx, leaveS_rt, leaveS_ct, leaveS_bk, noErr_nil, noErr_cons, noErrO_none, noErrO_dat, noErrO_own, noErrO_bor, noErrO_scr, noErrB_dat, noErrB_own, errI_t, errI_f, errV_t, errT_t, errT_f, e_rz, retB_err, look_err, rd_err, arg_err, set_err, e_count, drop_any, e_seq, sq_nx, sq_rt, sq_bk, sq_ct, sq_exc, e_then, then_ok, then_exc, set_dat, set_own, set_bor, set_scr, setL_dat, setL_own, setL_bor, ret_dat, ret_own, rd_dat, rd_own, rd_vw, rd_bor, rd_scr, frz_l, frz_k, frz_t, e_var, look_dat, look_own, look_bor, look_scr, e_retN, lookN_dat, lookN_own, e_bin2, bin2_ok, bin2_exc, bin2_exc2, e_one1, one1_ok, one1_exc, e_cons, cons_okK, cons_exc, cons_exc2, e_nil, e_call, bnd_ok, bnd_exc, e_own, arg_dat, arg_vw, arg_bor, arg_scr, retB_dat, retB_own, e_tst, tst_bl, e_testV, test_ok, test_exc, tru_bl, tru_int, tru_non, tru_tup, tru_lst, tru_vw, e_notT, notK_ok, notK_exc, e_and, e_or, and_t, and_f, or_t, or_f, and_exc, or_exc, e_iteV, iteV_t, iteV_f, e_andV, e_orV, andV_t, andV_f, andV_exc, orV_t, orV_f, orV_exc, e_iteS, iteS_t, iteS_f, iteS_exc, e_it, itK_ok, itK_exc, it_tup, it_ctup, it_lst, it_bor, it_vw, it_scr, it_str, e_index, index_ok, e_mut, mut_rev, e_ext, ext_own, ext_dat, e_rg, e_shl, e_pow, e_noP, e_atP, part_int, e_slc, slc_okK, e_comp, compK_ok, compK_exc, wipe_nil, wipe_cons, e_for, forK_ok, forK_exc, bindV_dat, bindV_own, bindO_some, bt_one, bt_tup, bt_ctup, bt_lst, pm_nil, pm_nil2, pm_cons, e_par2, par2_dd, par2_od, par2_do, par2_oo, e_lock, lock_own, lock_dat, lock_bor, lock_none, e_lockS, outR_nx, outR_rt, outR_exc, e_litI, e_litS, e_litB, e_litN, e_litD, e_newK, e_newT, e_nx, e_bk, e_ct, e_rtN, e_yes, e_app, own_of, app_dat, app_own, app_exc, e_put, put_dat, put_own, putO_some, e_forget, fg_nx, fg_bk, fg_ct, fg_rt, fg_exc, List.getElem?_cons_zero, List.getElem?_cons_succ, List.set_cons_zero, List.set_cons_succ, List.length_cons, List.length_nil, Nat.reduceAdd, Nat.reduceLT, Bool.not_true, Bool.not_false, e_chn, chn_ok, chnV_t, chnV_f, e_lstB, e_tupB, dats_nil, dats_cons, datsO_some, lstK_ok, tupK_ok, len_tup, len_lst, len_vw, len_bor, len_scr, len_S, neg_i, not_bl, tupF_lst, tupF_tup, tupF_vw, tupF_bor, lstF_tup, lstF_lst, int_i, int_bl, is_t, isn_t, is_n, isn_n, eq_bl, ne_bl, isi_bl, add_ii, sub_ii, lt_ii, gt_ii, le_ii, ge_ii, eq_ii, ne_ii, min_ii, max_ii, and_ii, slc_tup, slc_l, slc_vw, slc_bor, back_tup, back_lst, app_l, app_m, Nat.reduceLeDiff, Int.cast_ofNat_Int, Int.natCast_zero, Int.natCast_one, Int.reduceEq, eq_self, Int.reduceLE, Int.reduceLT, Int.reduceNeg, Int.reduceToNat, Int.toNat_natCast, Int.reduceAdd, Int.reduceSub, Int.reduceMul, Nat.reduceMul, Nat.reduceSub, decide_true, decide_false, Bool.true_and, Bool.false_and, Bool.and_true, Bool.true_or, Bool.false_or, Bool.or_false, not_true_eq_false, not_false_eq_true, if_true, if_false, Bool.false_eq_true, reduceCtorEq, c_law_cell, hc, c_law_numbers, hn, i0, i1, i2, i3, i4, List.length_map, m0a, m0b, m1, mod_pos, fo, de]
  · have de : decide (one = oth) = false := decide_eq_false e
    have s1 := nms_get b1.1 b1.2
    have s2 := nms_get b2.1 b2.2
    have sn := nms_ne h.nd b1.1 b1.2 b2.1 b2.2 e
    generalize ns.getD one.toNat Str.empty = s at *
    generalize ns.getD oth.toNat Str.empty = t at *
    obtain ⟨L1, g1, n1, l1, p1⟩ := putT ns L (s, t) sz hL hN ⟨s1, s2, sn, fb.1, fb.2⟩
    obtain ⟨L2, g2, n2, l2, p2⟩ := putT ns L1 (t, s) (1 + x4 % 9) g1 n1 ⟨s2, s1, fun z => sn z.symm, by show 1 ≤ 1 + x4 % 9; omega, by show 1 + x4 % 9 ≤ 999; omega⟩
    have st1 := sto_tie (by omega) p1
    have st2 := sto_tie (by omega) p2
    by_cases c3 : x3 % 3 = 1
    · have d3 : decide (x3 % 3 = 1) = true := decide_eq_true c3
      by_cases c4 : (L1.length : Int) < 16
      · refine ⟨L2, g2, n2, by omega, ?_⟩
        simp (decide := true) only [B_law_ties_1, e_try, tryK_nx, tryK_rt, tryK_bk, tryK_ct, tryK_exc, tryK_pass, hdl_none, hdl_some, leaveN_nx, leaveN_rt, leaveN_ct, leaveN_bk, leaveS_nx, leaveS_rt, leaveS_ct, leaveS_bk, noErr_nil, noErr_cons, noErrO_none, noErrO_dat, noErrO_own, noErrO_bor, noErrO_scr, noErrB_dat, noErrB_own, errI_t, errI_f, errV_t, errT_t, errT_f, e_rz, retB_err, look_err, rd_err, arg_err, set_err, e_count, drop_any, e_seq, sq_nx, sq_rt, sq_bk, sq_ct, sq_exc, e_then, then_ok, then_exc, set_dat, set_own, set_bor, set_scr, setL_dat, setL_own, setL_bor, ret_dat, ret_own, rd_dat, rd_own, rd_vw, rd_bor, rd_scr, frz_l, frz_k, frz_t, e_var, look_dat, look_own, look_bor, look_scr, e_retN, lookN_dat, lookN_own, e_bin2, bin2_ok, bin2_exc, bin2_exc2, e_one1, one1_ok, one1_exc, e_cons, cons_okK, cons_exc, cons_exc2, e_nil, e_call, bnd_ok, bnd_exc, e_own, arg_dat, arg_vw, arg_bor, arg_scr, retB_dat, retB_own, e_tst, tst_bl, e_testV, test_ok, test_exc, tru_bl, tru_int, tru_non, tru_tup, tru_lst, tru_vw, e_notT, notK_ok, notK_exc, e_and, e_or, and_t, and_f, or_t, or_f, and_exc, or_exc, e_iteV, iteV_t, iteV_f, e_andV, e_orV, andV_t, andV_f, andV_exc, orV_t, orV_f, orV_exc, e_iteS, iteS_t, iteS_f, iteS_exc, e_it, itK_ok, itK_exc, it_tup, it_ctup, it_lst, it_bor, it_vw, it_scr, it_str, e_index, index_ok, e_mut, mut_rev, e_ext, ext_own, ext_dat, e_rg, e_shl, e_pow, e_noP, e_atP, part_int, e_slc, slc_okK, e_comp, compK_ok, compK_exc, wipe_nil, wipe_cons, e_for, forK_ok, forK_exc, bindV_dat, bindV_own, bindO_some, bt_one, bt_tup, bt_ctup, bt_lst, pm_nil, pm_nil2, pm_cons, e_par2, par2_dd, par2_od, par2_do, par2_oo, e_lock, lock_own, lock_dat, lock_bor, lock_none, e_lockS, outR_nx, outR_rt, outR_exc, e_litI, e_litS, e_litB, e_litN, e_litD, e_newK, e_newT, e_nx, e_bk, e_ct, e_rtN, e_yes, e_app, own_of, app_dat, app_own, app_exc, e_put, put_dat, put_own, putO_some, e_forget, fg_nx, fg_bk, fg_ct, fg_rt, fg_exc, List.getElem?_cons_zero, List.getElem?_cons_succ, List.set_cons_zero, List.set_cons_succ, List.length_cons, List.length_nil, Nat.reduceAdd, Nat.reduceLT, Bool.not_true, Bool.not_false, e_chn, chn_ok, chnV_t, chnV_f, e_lstB, e_tupB, dats_nil, dats_cons, datsO_some, lstK_ok, tupK_ok, len_tup, len_lst, len_vw, len_bor, len_scr, len_S, neg_i, not_bl, tupF_lst, tupF_tup, tupF_vw, tupF_bor, lstF_tup, lstF_lst, int_i, int_bl, is_t, isn_t, is_n, isn_n, eq_bl, ne_bl, isi_bl, add_ii, sub_ii, lt_ii, gt_ii, le_ii, ge_ii, eq_ii, ne_ii, min_ii, max_ii, and_ii, slc_tup, slc_l, slc_vw, slc_bor, back_tup, back_lst, app_l, app_m, Nat.reduceLeDiff, Int.cast_ofNat_Int, Int.natCast_zero, Int.natCast_one, Int.reduceEq, eq_self, Int.reduceLE, Int.reduceLT, Int.reduceNeg, Int.reduceToNat, Int.toNat_natCast, Int.reduceAdd, Int.reduceSub, Int.reduceMul, Nat.reduceMul, Nat.reduceSub, decide_true, decide_false, Bool.true_and, Bool.false_and, Bool.and_true, Bool.true_or, Bool.false_or, Bool.or_false, not_true_eq_false, not_false_eq_true, if_true, if_false, Bool.false_eq_true, reduceCtorEq, c_law_cell, hc, c_law_numbers, hn, i0, i1, i2, i3, i4, List.length_map, m0a, m0b, m1, mod_pos, fo, de, e1, e2, st1, st2, d3, c4, len_vt]
      · refine ⟨L1, g1, n1, by omega, ?_⟩
        simp (decide := true) only [B_law_ties_1, e_try, tryK_nx, tryK_rt, tryK_bk, tryK_ct, tryK_exc, tryK_pass, hdl_none, hdl_some, leaveN_nx, leaveN_rt, leaveN_ct, leaveN_bk, leaveS_nx, leaveS_rt, leaveS_ct, leaveS_bk, noErr_nil, noErr_cons, noErrO_none, noErrO_dat, noErrO_own, noErrO_bor, noErrO_scr, noErrB_dat, noErrB_own, errI_t, errI_f, errV_t, errT_t, errT_f, e_rz, retB_err, look_err, rd_err, arg_err, set_err, e_count, drop_any, e_seq, sq_nx, sq_rt, sq_bk, sq_ct, sq_exc, e_then, then_ok, then_exc, set_dat, set_own, set_bor, set_scr, setL_dat, setL_own, setL_bor, ret_dat, ret_own, rd_dat, rd_own, rd_vw, rd_bor, rd_scr, frz_l, frz_k, frz_t, e_var, look_dat, look_own, look_bor, look_scr, e_retN, lookN_dat, lookN_own, e_bin2, bin2_ok, bin2_exc, bin2_exc2, e_one1, one1_ok, one1_exc, e_cons, cons_okK, cons_exc, cons_exc2, e_nil, e_call, bnd_ok, bnd_exc, e_own, arg_dat, arg_vw, arg_bor, arg_scr, retB_dat, retB_own, e_tst, tst_bl, e_testV, test_ok, test_exc, tru_bl, tru_int, tru_non, tru_tup, tru_lst, tru_vw, e_notT, notK_ok, notK_exc, e_and, e_or, and_t, and_f, or_t, or_f, and_exc, or_exc, e_iteV, iteV_t, iteV_f, e_andV, e_orV, andV_t, andV_f, andV_exc, orV_t, orV_f, orV_exc, e_iteS, iteS_t, iteS_f, iteS_exc, e_it, itK_ok, itK_exc, it_tup, it_ctup, it_lst, it_bor, it_vw, it_scr, it_str, e_index, index_ok, e_mut, mut_rev, e_ext, ext_own, ext_dat, e_rg, e_shl, e_pow, e_noP, e_atP, part_int, e_slc, slc_okK, e_comp, compK_ok, compK_exc, wipe_nil, wipe_cons, e_for, forK_ok, forK_exc, bindV_dat, bindV_own, bindO_some, bt_one, bt_tup, bt_ctup, bt_lst, pm_nil, pm_nil2, pm_cons, e_par2, par2_dd, par2_od, par2_do, par2_oo, e_lock, lock_own, lock_dat, lock_bor, lock_none, e_lockS, outR_nx, outR_rt, outR_exc, e_litI, e_litS, e_litB, e_litN, e_litD, e_newK, e_newT, e_nx, e_bk, e_ct, e_rtN, e_yes, e_app, own_of, app_dat, app_own, app_exc, e_put, put_dat, put_own, putO_some, e_forget, fg_nx, fg_bk, fg_ct, fg_rt, fg_exc, List.getElem?_cons_zero, List.getElem?_cons_succ, List.set_cons_zero, List.set_cons_succ, List.length_cons, List.length_nil, Nat.reduceAdd, Nat.reduceLT, Bool.not_true, Bool.not_false, e_chn, chn_ok, chnV_t, chnV_f, e_lstB, e_tupB, dats_nil, dats_cons, datsO_some, lstK_ok, tupK_ok, len_tup, len_lst, len_vw, len_bor, len_scr, len_S, neg_i, not_bl, tupF_lst, tupF_tup, tupF_vw, tupF_bor, lstF_tup, lstF_lst, int_i, int_bl, is_t, isn_t, is_n, isn_n, eq_bl, ne_bl, isi_bl, add_ii, sub_ii, lt_ii, gt_ii, le_ii, ge_ii, eq_ii, ne_ii, min_ii, max_ii, and_ii, slc_tup, slc_l, slc_vw, slc_bor, back_tup, back_lst, app_l, app_m, Nat.reduceLeDiff, Int.cast_ofNat_Int, Int.natCast_zero, Int.natCast_one, Int.reduceEq, eq_self, Int.reduceLE, Int.reduceLT, Int.reduceNeg, Int.reduceToNat, Int.toNat_natCast, Int.reduceAdd, Int.reduceSub, Int.reduceMul, Nat.reduceMul, Nat.reduceSub, decide_true, decide_false, Bool.true_and, Bool.false_and, Bool.and_true, Bool.true_or, Bool.false_or, Bool.or_false, not_true_eq_false, not_false_eq_true, if_true, if_false, Bool.false_eq_true, reduceCtorEq, c_law_cell, hc, c_law_numbers, hn, i0, i1, i2, i3, i4, List.length_map, m0a, m0b, m1, mod_pos, fo, de, e1, e2, st1, st2, d3, c4, len_vt]
    · have d3 : decide (x3 % 3 = 1) = false := decide_eq_false c3
      refine ⟨L1, g1, n1, by omega, ?_⟩
      simp (decide := true) only [B_law_ties_1, e_try, tryK_nx, tryK_rt, tryK_bk, tryK_ct, tryK_exc, tryK_pass, hdl_none, hdl_some, leaveN_nx, leaveN_rt, leaveN_ct, leaveN_bk, leaveS_nx, leaveS_rt, leaveS_ct, leaveS_bk, noErr_nil, noErr_cons, noErrO_none, noErrO_dat, noErrO_own, noErrO_bor, noErrO_scr, noErrB_dat, noErrB_own, errI_t, errI_f, errV_t, errT_t, errT_f, e_rz, retB_err, look_err, rd_err, arg_err, set_err, e_count, drop_any, e_seq, sq_nx, sq_rt, sq_bk, sq_ct, sq_exc, e_then, then_ok, then_exc, set_dat, set_own, set_bor, set_scr, setL_dat, setL_own, setL_bor, ret_dat, ret_own, rd_dat, rd_own, rd_vw, rd_bor, rd_scr, frz_l, frz_k, frz_t, e_var, look_dat, look_own, look_bor, look_scr, e_retN, lookN_dat, lookN_own, e_bin2, bin2_ok, bin2_exc, bin2_exc2, e_one1, one1_ok, one1_exc, e_cons, cons_okK, cons_exc, cons_exc2, e_nil, e_call, bnd_ok, bnd_exc, e_own, arg_dat, arg_vw, arg_bor, arg_scr, retB_dat, retB_own, e_tst, tst_bl, e_testV, test_ok, test_exc, tru_bl, tru_int, tru_non, tru_tup, tru_lst, tru_vw, e_notT, notK_ok, notK_exc, e_and, e_or, and_t, and_f, or_t, or_f, and_exc, or_exc, e_iteV, iteV_t, iteV_f, e_andV, e_orV, andV_t, andV_f, andV_exc, orV_t, orV_f, orV_exc, e_iteS, iteS_t, iteS_f, iteS_exc, e_it, itK_ok, itK_exc, it_tup, it_ctup, it_lst, it_bor, it_vw, it_scr, it_str, e_index, index_ok, e_mut, mut_rev, e_ext, ext_own, ext_dat, e_rg, e_shl, e_pow, e_noP, e_atP, part_int, e_slc, slc_okK, e_comp, compK_ok, compK_exc, wipe_nil, wipe_cons, e_for, forK_ok, forK_exc, bindV_dat, bindV_own, bindO_some, bt_one, bt_tup, bt_ctup, bt_lst, pm_nil, pm_nil2, pm_cons, e_par2, par2_dd, par2_od, par2_do, par2_oo, e_lock, lock_own, lock_dat, lock_bor, lock_none, e_lockS, outR_nx, outR_rt, outR_exc, e_litI, e_litS, e_litB, e_litN, e_litD, e_newK, e_newT, e_nx, e_bk, e_ct, e_rtN, e_yes, e_app, own_of, app_dat, app_own, app_exc, e_put, put_dat, put_own, putO_some, e_forget, fg_nx, fg_bk, fg_ct, fg_rt, fg_exc, List.getElem?_cons_zero, List.getElem?_cons_succ, List.set_cons_zero, List.set_cons_succ, List.length_cons, List.length_nil, Nat.reduceAdd, Nat.reduceLT, Bool.not_true, Bool.not_false, e_chn, chn_ok, chnV_t, chnV_f, e_lstB, e_tupB, dats_nil, dats_cons, datsO_some, lstK_ok, tupK_ok, len_tup, len_lst, len_vw, len_bor, len_scr, len_S, neg_i, not_bl, tupF_lst, tupF_tup, tupF_vw, tupF_bor, lstF_tup, lstF_lst, int_i, int_bl, is_t, isn_t, is_n, isn_n, eq_bl, ne_bl, isi_bl, add_ii, sub_ii, lt_ii, gt_ii, le_ii, ge_ii, eq_ii, ne_ii, min_ii, max_ii, and_ii, slc_tup, slc_l, slc_vw, slc_bor, back_tup, back_lst, app_l, app_m, Nat.reduceLeDiff, Int.cast_ofNat_Int, Int.natCast_zero, Int.natCast_one, Int.reduceEq, eq_self, Int.reduceLE, Int.reduceLT, Int.reduceNeg, Int.reduceToNat, Int.toNat_natCast, Int.reduceAdd, Int.reduceSub, Int.reduceMul, Nat.reduceMul, Nat.reduceSub, decide_true, decide_false, Bool.true_and, Bool.false_and, Bool.and_true, Bool.true_or, Bool.false_or, Bool.or_false, not_true_eq_false, not_false_eq_true, if_true, if_false, Bool.false_eq_true, reduceCtorEq, c_law_cell, hc, c_law_numbers, hn, i0, i1, i2, i3, i4, List.length_map, m0a, m0b, m1, mod_pos, fo, de, e1, e2, st1, st2, d3]
theorem ties_spec {ns : List Str} {n : Nat} (h : Nms ns n) (n0 : 0 < n) (n8 : n ≤ 8) (sc : List Int) (at_ m w : Int) (a0 : 0 ≤ at_) (h0 : 0 ≤ m) (hm : at_ + m ≤ 64) (w0 : 0 ≤ w) (w3 : w ≤ 3) :
    ∃ ts : List Tie, (∀ t ∈ ts, Tgood ns t) ∧ ts.length ≤ 16 ∧ (ts.map (·.1)).Nodup ∧ ((ts.map (·.1)).map pD).Pairwise (fun a b => leD a b = true) ∧ E_law_ties.F [.dat (.lst (txs ns)), .scr sc, .dat (.int at_), .dat (.int m), .dat (.int w)] = .ok (.dat (.tup (ts.map tiD))) := by
  obtain ⟨ρ', q1, L, rfl, hL, hN, hl⟩ := loop_inv (tg := .one 6) (f := B_law_ties_1) (e := fun (i : Nat) => D.int i) (as := List.range m.toNat) (fun as ρ => ∃ L : List Tie, ρ = [some (.dat (.lst (txs ns))), some (.scr sc), some (.dat (.int at_)), some (.dat (.int m)), some (.dat (.int w)), some (.own (.t (L.map tKv))), none, none, none, none, none, none] ∧ (∀ t ∈ L, Tgood ns t) ∧ (L.map (·.1)).Nodup ∧ L.length + 2 * as.length ≤ 128 ∧ ∀ a ∈ as, (a : Int) < m)
    (ρ := [some (.dat (.lst (txs ns))), some (.scr sc), some (.dat (.int at_)), some (.dat (.int m)), some (.dat (.int w)), some (.own (.t [])), none, none, none, none, none, none]) ⟨[], rfl, (fun t ht => by cases ht), List.nodup_nil, by rw [List.length_range, List.length_nil]; omega, fun a ha => by have := List.mem_range.mp ha; omega⟩ (by
    rintro a as ρ ⟨L, rfl, hL, hN, hl, ha⟩
    have ha0 := ha a List.mem_cons_self
    rw [List.length_cons] at hl
    obtain ⟨L', g1, g2, g3, g4⟩ := tie_step h n0 n8 sc at_ m w a0 w0 w3 L hL hN (by omega) a (by omega)
    exact ⟨_, _, bt_one, .inl g4, L', rfl, g1, g2, by omega, fun b hb => ha b (List.mem_cons_of_mem _ hb)⟩)
  obtain ⟨qs, hp, hsr, hs⟩ := sortT h L hL
  have hnd : qs.Nodup := hp.nodup_iff.mpr hN
  let val : Str × Str → Int := fun p => match getK (L.map tKv) (pK p) with
    | some (.int v) => v
    | _ => 0
  have hv : ∀ p ∈ qs, (p, val p) ∈ L ∧ getK (L.map tKv) (pK p) = some (.int (val p)) := by
    intro p hq
    obtain ⟨v, h1, h2⟩ := getT L (hp.mem_iff.mp hq)
    have e : val p = v := by
      show (match getK (L.map tKv) (pK p) with | some (.int v) => v | _ => 0) = v
      rw [h2]
    rw [e]
    exact ⟨h1, h2⟩
  have hql : qs.length ≤ 128 := by rw [hp.length_eq, List.length_map]; rw [List.length_nil] at hl; omega
  have cq : ∀ (ρ : Fn.Env), 11 < ρ.length → ρ[5]? = some (some (.dat (.dt (L.map tKv)))) → compD (.one 11) yesF (bin2 addB (varB 11) (callF tupB (consA (bin2 idxB (varB 5) (varB 11)) nilA))) ρ (qs.map pD) = .ok (.own (.l (qs.map fun p => tiD (p, val p)))) := by
    intro ρ hlen h5
    refine compD_all (h := fun p => tiD (p, val p)) (le_sz (by omega)) (fun p hp => ?_)
    have r5 : (ρ.set 11 (some (B.dat (pD p))))[5]? = some (some (.dat (.dt (L.map tKv)))) := by rw [List.getElem?_set_ne (by decide)]; exact h5
    have r11 : (ρ.set 11 (some (B.dat (pD p))))[11]? = some (some (.dat (pD p))) := List.getElem?_set_self hlen
    have ge := get_tie (hv p hp).2
    have ca := cat_t (ds := [.str p.1, .str p.2]) (es := [.int (val p)]) (by show 2 + 1 ≤ 1000; decide)
    simp only [e_try, tryK_nx, tryK_rt, tryK_bk, tryK_ct, tryK_exc, tryK_pass, hdl_none, hdl_some, leaveN_nx, leaveN_rt, leaveN_ct, leaveN_bk, leaveS_nx, leaveS_rt, leaveS_ct, leaveS_bk, noErr_nil, noErr_cons, noErrO_none, noErrO_dat, noErrO_own, noErrO_bor, noErrO_scr, noErrB_dat, noErrB_own, errI_t, errI_f, errV_t, errT_t, errT_f, e_rz, retB_err, look_err, rd_err, arg_err, set_err, e_count, drop_any, e_seq, sq_nx, sq_rt, sq_bk, sq_ct, sq_exc, e_then, then_ok, then_exc, set_dat, set_own, set_bor, set_scr, setL_dat, setL_own, setL_bor, ret_dat, ret_own, rd_dat, rd_own, rd_vw, rd_bor, rd_scr, frz_l, frz_k, frz_t, e_var, look_dat, look_own, look_bor, look_scr, e_retN, lookN_dat, lookN_own, e_bin2, bin2_ok, bin2_exc, bin2_exc2, e_one1, one1_ok, one1_exc, e_cons, cons_okK, cons_exc, cons_exc2, e_nil, e_call, bnd_ok, bnd_exc, e_own, arg_dat, arg_vw, arg_bor, arg_scr, retB_dat, retB_own, e_tst, tst_bl, e_testV, test_ok, test_exc, tru_bl, tru_int, tru_non, tru_tup, tru_lst, tru_vw, e_notT, notK_ok, notK_exc, e_and, e_or, and_t, and_f, or_t, or_f, and_exc, or_exc, e_iteV, iteV_t, iteV_f, e_andV, e_orV, andV_t, andV_f, andV_exc, orV_t, orV_f, orV_exc, e_iteS, iteS_t, iteS_f, iteS_exc, e_it, itK_ok, itK_exc, it_tup, it_ctup, it_lst, it_bor, it_vw, it_scr, it_str, e_index, index_ok, e_mut, mut_rev, e_ext, ext_own, ext_dat, e_rg, e_shl, e_pow, e_noP, e_atP, part_int, e_slc, slc_okK, e_comp, compK_ok, compK_exc, wipe_nil, wipe_cons, e_for, forK_ok, forK_exc, bindV_dat, bindV_own, bindO_some, bt_one, bt_tup, bt_ctup, bt_lst, pm_nil, pm_nil2, pm_cons, e_par2, par2_dd, par2_od, par2_do, par2_oo, e_lock, lock_own, lock_dat, lock_bor, lock_none, e_lockS, outR_nx, outR_rt, outR_exc, e_litI, e_litS, e_litB, e_litN, e_litD, e_newK, e_newT, e_nx, e_bk, e_ct, e_rtN, e_yes, e_app, own_of, app_dat, app_own, app_exc, e_put, put_dat, put_own, putO_some, e_forget, fg_nx, fg_bk, fg_ct, fg_rt, fg_exc, List.getElem?_cons_zero, List.getElem?_cons_succ, List.set_cons_zero, List.set_cons_succ, List.length_cons, List.length_nil, Nat.reduceAdd, Nat.reduceLT, Bool.not_true, Bool.not_false, e_chn, chn_ok, chnV_t, chnV_f, e_lstB, e_tupB, dats_nil, dats_cons, datsO_some, lstK_ok, tupK_ok, len_tup, len_lst, len_vw, len_bor, len_scr, len_S, neg_i, not_bl, tupF_lst, tupF_tup, tupF_vw, tupF_bor, lstF_tup, lstF_lst, int_i, int_bl, is_t, isn_t, is_n, isn_n, eq_bl, ne_bl, isi_bl, add_ii, sub_ii, lt_ii, gt_ii, le_ii, ge_ii, eq_ii, ne_ii, min_ii, max_ii, and_ii, slc_tup, slc_l, slc_vw, slc_bor, back_tup, back_lst, app_l, app_m, Nat.reduceLeDiff, Int.cast_ofNat_Int, Int.natCast_zero, Int.natCast_one, Int.reduceEq, eq_self, Int.reduceLE, Int.reduceLT, Int.reduceNeg, Int.reduceToNat, Int.toNat_natCast, Int.reduceAdd, Int.reduceSub, Int.reduceMul, Nat.reduceMul, Nat.reduceSub, decide_true, decide_false, Bool.true_and, Bool.false_and, Bool.and_true, Bool.true_or, Bool.false_or, Bool.or_false, not_true_eq_false, not_false_eq_true, if_true, if_false, Bool.false_eq_true, reduceCtorEq, mapC_nil, mapC_cons, consC_ok, e_step, stepK_some, stepV_t, stepV_f, datR_dat, datR_own, loop_nil, lk_nx, lk_ct, lk_bk, lk_rt, lk_exc, Option.toList, List.nil_append, List.cons_append, r5, r11, ge, ca]
  have em : ((qs.take 16).map fun p => ((p, val p) : Tie)).map (·.1) = qs.take 16 := by rw [List.map_map]; exact List.map_id _
  refine ⟨(qs.take 16).map fun p => (p, val p), ?_, by rw [List.length_map, List.length_take]; omega, ?_, ?_, ?_⟩
  · intro t ht
    obtain ⟨p, hp', rfl⟩ := List.mem_map.mp ht
    exact hL _ (hv p (List.mem_of_mem_take hp')).1
  · rw [em]
    exact hnd.sublist (List.take_sublist _ _)
  · rw [em, List.map_take]
    exact hsr.sublist (List.take_sublist _ _)
  · have r1 := rg1 (k := m) (by omega) (by omega)
    have cu := cut_tak (l := qs.map fun p => tiD (p, val p)) (k := 16) (by decide)
    have e16 : (qs.map fun p => tiD (p, val p)).take (Int.toNat 16) = ((qs.take 16).map fun p => (p, val p)).map tiD := by
      rw [← List.map_take, List.map_map]; rfl
    rw [e16] at cu
    rw [d_law_ties (by rfl)]
    simp (decide := true) only [B_law_ties, e_try, tryK_nx, tryK_rt, tryK_bk, tryK_ct, tryK_exc, tryK_pass, hdl_none, hdl_some, leaveN_nx, leaveN_rt, leaveN_ct, leaveN_bk, leaveS_nx, leaveS_rt, leaveS_ct, leaveS_bk, noErr_nil, noErr_cons, noErrO_none, noErrO_dat, noErrO_own, noErrO_bor, noErrO_scr, noErrB_dat, noErrB_own, errI_t, errI_f, errV_t, errT_t, errT_f, e_rz, retB_err, look_err, rd_err, arg_err, set_err, e_count, drop_any, e_seq, sq_nx, sq_rt, sq_bk, sq_ct, sq_exc, e_then, then_ok, then_exc, set_dat, set_own, set_bor, set_scr, setL_dat, setL_own, setL_bor, ret_dat, ret_own, rd_dat, rd_own, rd_vw, rd_bor, rd_scr, frz_l, frz_k, frz_t, e_var, look_dat, look_own, look_bor, look_scr, e_retN, lookN_dat, lookN_own, e_bin2, bin2_ok, bin2_exc, bin2_exc2, e_one1, one1_ok, one1_exc, e_cons, cons_okK, cons_exc, cons_exc2, e_nil, e_call, bnd_ok, bnd_exc, e_own, arg_dat, arg_vw, arg_bor, arg_scr, retB_dat, retB_own, e_tst, tst_bl, e_testV, test_ok, test_exc, tru_bl, tru_int, tru_non, tru_tup, tru_lst, tru_vw, e_notT, notK_ok, notK_exc, e_and, e_or, and_t, and_f, or_t, or_f, and_exc, or_exc, e_iteV, iteV_t, iteV_f, e_andV, e_orV, andV_t, andV_f, andV_exc, orV_t, orV_f, orV_exc, e_iteS, iteS_t, iteS_f, iteS_exc, e_it, itK_ok, itK_exc, it_tup, it_ctup, it_lst, it_bor, it_vw, it_scr, it_str, e_index, index_ok, e_mut, mut_rev, e_ext, ext_own, ext_dat, e_rg, e_shl, e_pow, e_noP, e_atP, part_int, e_slc, slc_okK, e_comp, compK_ok, compK_exc, wipe_nil, wipe_cons, e_for, forK_ok, forK_exc, bindV_dat, bindV_own, bindO_some, bt_one, bt_tup, bt_ctup, bt_lst, pm_nil, pm_nil2, pm_cons, e_par2, par2_dd, par2_od, par2_do, par2_oo, e_lock, lock_own, lock_dat, lock_bor, lock_none, e_lockS, outR_nx, outR_rt, outR_exc, e_litI, e_litS, e_litB, e_litN, e_litD, e_newK, e_newT, e_nx, e_bk, e_ct, e_rtN, e_yes, e_app, own_of, app_dat, app_own, app_exc, e_put, put_dat, put_own, putO_some, e_forget, fg_nx, fg_bk, fg_ct, fg_rt, fg_exc, List.getElem?_cons_zero, List.getElem?_cons_succ, List.set_cons_zero, List.set_cons_succ, List.length_cons, List.length_nil, Nat.reduceAdd, Nat.reduceLT, Bool.not_true, Bool.not_false, e_chn, chn_ok, chnV_t, chnV_f, e_lstB, e_tupB, dats_nil, dats_cons, datsO_some, lstK_ok, tupK_ok, len_tup, len_lst, len_vw, len_bor, len_scr, len_S, neg_i, not_bl, tupF_lst, tupF_tup, tupF_vw, tupF_bor, lstF_tup, lstF_lst, int_i, int_bl, is_t, isn_t, is_n, isn_n, eq_bl, ne_bl, isi_bl, add_ii, sub_ii, lt_ii, gt_ii, le_ii, ge_ii, eq_ii, ne_ii, min_ii, max_ii, and_ii, slc_tup, slc_l, slc_vw, slc_bor, back_tup, back_lst, app_l, app_m, Nat.reduceLeDiff, Int.cast_ofNat_Int, Int.natCast_zero, Int.natCast_one, Int.reduceEq, eq_self, Int.reduceLE, Int.reduceLT, Int.reduceNeg, Int.reduceToNat, Int.toNat_natCast, Int.reduceAdd, Int.reduceSub, Int.reduceMul, Nat.reduceMul, Nat.reduceSub, decide_true, decide_false, Bool.true_and, Bool.false_and, Bool.and_true, Bool.true_or, Bool.false_or, Bool.or_false, not_true_eq_false, not_false_eq_true, if_true, if_false, Bool.false_eq_true, reduceCtorEq, r1, q1, hs, cq, cu]
theorem web_spec (sc : List Int) (at_ most : Int) (a0 : 0 ≤ at_) (ha : at_ ≤ 30) (m0 : 0 < most) (m8 : most ≤ 8) : ∃ top ps ts, WebOk top ps ts ∧ (ps.length : Int) ≤ most ∧ E_law_web.F [.scr sc, .dat (.int at_), .dat (.int most)] = .ok (.dat (webD top ps ts)) := by
  obtain ⟨c, hc⟩ := cell_spec sc at_ (by omega) (by omega)
  obtain ⟨xs, hx, _, hn⟩ := numbers_spec c 12 (by decide) (by decide)
  have i4 := ixI (l := xs) (k := 4) (by omega) (by omega)
  have i5 := ixI (l := xs) (k := 5) (by omega) (by omega)
  have i6 := ixI (l := xs) (k := 6) (by omega) (by omega)
  have i7 := ixI (l := xs) (k := 7) (by omega) (by omega)
  generalize xs.getD (Int.toNat 4) 0 = x4 at *
  generalize xs.getD (Int.toNat 5) 0 = x5 at *
  generalize xs.getD (Int.toNat 6) 0 = x6 at *
  generalize xs.getD (Int.toNat 7) 0 = x7 at *
  have k0 : 0 ≤ x5 % most := Int.emod_nonneg _ (by omega)
  have k1 : x5 % most < most := Int.emod_lt_of_pos _ (by omega)
  have mm : modB (.dat (.int x5)) (.dat (.int most)) = .ok (.dat (.int (x5 % most))) := mod_pos m0
  generalize x5 % most = u5 at *
  have w0 : 0 ≤ x6 % 5 := by omega
  have w1 : x6 % 5 < 5 := by omega
  have five : ∃ w : Int, 0 ≤ w ∧ w ≤ 3 ∧ idxB (.dat (.lst [.int 0, .int 1, .int 0, .int 1, .int 2])) (.dat (.int (x6 % 5))) = .ok (.dat (.int w)) := by
    have := pick_mem (ds := [D.int 0, .int 1, .int 0, .int 1, .int 2]) w0 (by exact w1)
    have e := idx_pL (ds := [D.int 0, .int 1, .int 0, .int 1, .int 2]) w0 (by exact w1)
    generalize pick [D.int 0, .int 1, .int 0, .int 1, .int 2] (x6 % 5) = d at *
    simp only [List.mem_cons, List.not_mem_nil, or_false] at this
    rcases this with rfl | rfl | rfl | rfl | rfl
    · exact ⟨0, by decide, by decide, e⟩
    · exact ⟨1, by decide, by decide, e⟩
    · exact ⟨0, by decide, by decide, e⟩
    · exact ⟨1, by decide, by decide, e⟩
    · exact ⟨2, by decide, by decide, e⟩
  obtain ⟨w, hw0, hw3, five⟩ := five
  obtain ⟨ns, hN, e0⟩ := names_spec xs (by omega) (1 + u5) (by omega) (by omega)
  have hl := hN.len
  haveI : ISz u5 4 := isz_of (by omega) (by omega)
  obtain ⟨ρ', q1, ps, rfl, hpm, hpl⟩ := loop_inv (tg := .one 9) (f := B_law_web_1) (e := fun (i : Nat) => D.int i) (as := List.range (1 + u5).toNat) (fun as ρ => ∃ ps : List Plc, ρ = [some (.scr sc), some (.dat (.int at_)), some (.dat (.int most)), some (.dat (.lst (xs.map .int))), some (.dat (.int (1 + x4 % 9))), some (.dat (.int (1 + u5))), some (.dat (.int w)), some (.dat (.lst (txs ns))), some (.own (.l (ps.map plD))), none, none] ∧ (∃ k, as = List.range' k (ns.length - k) ∧ k ≤ ns.length ∧ ps.map Plc.n = ns.take k) ∧ ∀ p ∈ ps, PlOk (1 + x4 % 9) p)
    (ρ := [some (.scr sc), some (.dat (.int at_)), some (.dat (.int most)), some (.dat (.lst (xs.map .int))), some (.dat (.int (1 + x4 % 9))), some (.dat (.int (1 + u5))), some (.dat (.int w)), some (.dat (.lst (txs ns))), some (.own (.l [])), none, none]) ⟨[], rfl, ⟨0, by rw [List.range_eq_range', hl]; rfl, Nat.zero_le _, rfl⟩, fun p hp => by cases hp⟩ (by
    rintro a as ρ ⟨ps, rfl, ⟨k, hk, hkl, hkn⟩, hpl⟩
    have hk2 : k < ns.length := by
      by_cases z : k < ns.length
      · exact z
      · rw [show ns.length - k = 0 by omega] at hk; cases hk
    rw [show ns.length - k = (ns.length - (k + 1)) + 1 by omega, List.range'_succ] at hk
    injection hk with hk1 hk3
    subst hk1
    obtain ⟨c2, hc2⟩ := cell_spec sc (at_ + 1 + a) (by omega) (by omega)
    obtain ⟨ys, hy, _, hn2⟩ := numbers_spec c2 5 (by decide) (by decide)
    obtain ⟨p, hp1, hp2, hp3⟩ := place_spec (ns.getD a Str.empty) ys (by omega) (1 + x4 % 9) w (by omega) (by omega) hw0 hw3
    have ix := ixS (l := ns) (k := (a : Int)) (by omega) (by omega)
    rw [Int.toNat_natCast] at ix
    have hpsl : ps.length = a := by
      have := congrArg List.length hkn
      rw [List.length_map, List.length_take] at this
      omega
    have hpl9 : (ps.map plD).length < 1000 := by rw [List.length_map]; omega
    refine ⟨_, _, bt_one, .inl ?_, ps ++ [p], rfl, ⟨a + 1, hk3, by omega, ?_⟩, ?_⟩
    · simp (decide := true) only [B_law_web_1, e_try, tryK_nx, tryK_rt, tryK_bk, tryK_ct, tryK_exc, tryK_pass, hdl_none, hdl_some, leaveN_nx, leaveN_rt, leaveN_ct, leaveN_bk, leaveS_nx, leaveS_rt, leaveS_ct, leaveS_bk, noErr_nil, noErr_cons, noErrO_none, noErrO_dat, noErrO_own, noErrO_bor, noErrO_scr, noErrB_dat, noErrB_own, errI_t, errI_f, errV_t, errT_t, errT_f, e_rz, retB_err, look_err, rd_err, arg_err, set_err, e_count, drop_any, e_seq, sq_nx, sq_rt, sq_bk, sq_ct, sq_exc, e_then, then_ok, then_exc, set_dat, set_own, set_bor, set_scr, setL_dat, setL_own, setL_bor, ret_dat, ret_own, rd_dat, rd_own, rd_vw, rd_bor, rd_scr, frz_l, frz_k, frz_t, e_var, look_dat, look_own, look_bor, look_scr, e_retN, lookN_dat, lookN_own, e_bin2, bin2_ok, bin2_exc, bin2_exc2, e_one1, one1_ok, one1_exc, e_cons, cons_okK, cons_exc, cons_exc2, e_nil, e_call, bnd_ok, bnd_exc, e_own, arg_dat, arg_vw, arg_bor, arg_scr, retB_dat, retB_own, e_tst, tst_bl, e_testV, test_ok, test_exc, tru_bl, tru_int, tru_non, tru_tup, tru_lst, tru_vw, e_notT, notK_ok, notK_exc, e_and, e_or, and_t, and_f, or_t, or_f, and_exc, or_exc, e_iteV, iteV_t, iteV_f, e_andV, e_orV, andV_t, andV_f, andV_exc, orV_t, orV_f, orV_exc, e_iteS, iteS_t, iteS_f, iteS_exc, e_it, itK_ok, itK_exc, it_tup, it_ctup, it_lst, it_bor, it_vw, it_scr, it_str, e_index, index_ok, e_mut, mut_rev, e_ext, ext_own, ext_dat, e_rg, e_shl, e_pow, e_noP, e_atP, part_int, e_slc, slc_okK, e_comp, compK_ok, compK_exc, wipe_nil, wipe_cons, e_for, forK_ok, forK_exc, bindV_dat, bindV_own, bindO_some, bt_one, bt_tup, bt_ctup, bt_lst, pm_nil, pm_nil2, pm_cons, e_par2, par2_dd, par2_od, par2_do, par2_oo, e_lock, lock_own, lock_dat, lock_bor, lock_none, e_lockS, outR_nx, outR_rt, outR_exc, e_litI, e_litS, e_litB, e_litN, e_litD, e_newK, e_newT, e_nx, e_bk, e_ct, e_rtN, e_yes, e_app, own_of, app_dat, app_own, app_exc, e_put, put_dat, put_own, putO_some, e_forget, fg_nx, fg_bk, fg_ct, fg_rt, fg_exc, List.getElem?_cons_zero, List.getElem?_cons_succ, List.set_cons_zero, List.set_cons_succ, List.length_cons, List.length_nil, Nat.reduceAdd, Nat.reduceLT, Bool.not_true, Bool.not_false, e_chn, chn_ok, chnV_t, chnV_f, e_lstB, e_tupB, dats_nil, dats_cons, datsO_some, lstK_ok, tupK_ok, len_tup, len_lst, len_vw, len_bor, len_scr, len_S, neg_i, not_bl, tupF_lst, tupF_tup, tupF_vw, tupF_bor, lstF_tup, lstF_lst, int_i, int_bl, is_t, isn_t, is_n, isn_n, eq_bl, ne_bl, isi_bl, add_ii, sub_ii, lt_ii, gt_ii, le_ii, ge_ii, eq_ii, ne_ii, min_ii, max_ii, and_ii, slc_tup, slc_l, slc_vw, slc_bor, back_tup, back_lst, app_l, app_m, Nat.reduceLeDiff, Int.cast_ofNat_Int, Int.natCast_zero, Int.natCast_one, Int.reduceEq, eq_self, Int.reduceLE, Int.reduceLT, Int.reduceNeg, Int.reduceToNat, Int.toNat_natCast, Int.reduceAdd, Int.reduceSub, Int.reduceMul, Nat.reduceMul, Nat.reduceSub, decide_true, decide_false, Bool.true_and, Bool.false_and, Bool.and_true, Bool.true_or, Bool.false_or, Bool.or_false, not_true_eq_false, not_false_eq_true, if_true, if_false, Bool.false_eq_true, reduceCtorEq, ix, c_law_cell, hc2, c_law_numbers, hn2, c_law_place, hp3, hpl9, List.map_append, List.map_cons, List.map_nil]
    · rw [List.map_append, hkn, List.take_add_one, List.getElem?_eq_getElem hk2]
      rw [List.map_cons, hp1, List.getD_eq_getElem?_getD, List.getElem?_eq_getElem hk2]
      rfl
    · intro q hq
      rcases List.mem_append.mp hq with z | z
      · exact hpl q z
      · rw [List.mem_singleton.mp z]; exact hp2)
  obtain ⟨k, hk, hkl, hkn⟩ := hpm
  have hkk : k = ns.length := by
    by_cases z : k < ns.length
    · rw [show ns.length - k = (ns.length - (k + 1)) + 1 by omega, List.range'_succ] at hk; cases hk
    · omega
  rw [hkk, List.take_length] at hkn
  have hpsl : ps.length = ns.length := by rw [← hkn, List.length_map]
  obtain ⟨ts, t1, t2, t3, t4, t5⟩ := ties_spec hN (by omega) (by omega) sc (at_ + 1 + (1 + u5)) (x7 % (2 * (1 + u5) + 1)) w (by omega) (Int.emod_nonneg _ (by omega)) (by have := Int.emod_lt_of_pos x7 (show 0 < 2 * (1 + u5) + 1 by omega); omega) hw0 hw3
  refine ⟨1 + x4 % 9, ps, ts, ⟨by omega, by omega, by rw [hkn, hpsl, hl]; exact hN, by omega, by omega, hpl, by rw [hkn]; exact t1, t2, t3, t4⟩, by omega, ?_⟩
  rw [d_law_web (by rfl)]
  have r1 := rg1 (k := 1 + u5) (by omega) (by omega)
  have m7 : modB (.dat (.int x7)) (.dat (.int (2 * (1 + u5) + 1))) = .ok (.dat (.int (x7 % (2 * (1 + u5) + 1)))) := mod_pos (by omega)
  simp (decide := true) only [B_law_web, e_try, tryK_nx, tryK_rt, tryK_bk, tryK_ct, tryK_exc, tryK_pass, hdl_none, hdl_some, leaveN_nx, leaveN_rt, leaveN_ct, leaveN_bk, leaveS_nx, leaveS_rt, leaveS_ct, leaveS_bk, noErr_nil, noErr_cons, noErrO_none, noErrO_dat, noErrO_own, noErrO_bor, noErrO_scr, noErrB_dat, noErrB_own, errI_t, errI_f, errV_t, errT_t, errT_f, e_rz, retB_err, look_err, rd_err, arg_err, set_err, e_count, drop_any, e_seq, sq_nx, sq_rt, sq_bk, sq_ct, sq_exc, e_then, then_ok, then_exc, set_dat, set_own, set_bor, set_scr, setL_dat, setL_own, setL_bor, ret_dat, ret_own, rd_dat, rd_own, rd_vw, rd_bor, rd_scr, frz_l, frz_k, frz_t, e_var, look_dat, look_own, look_bor, look_scr, e_retN, lookN_dat, lookN_own, e_bin2, bin2_ok, bin2_exc, bin2_exc2, e_one1, one1_ok, one1_exc, e_cons, cons_okK, cons_exc, cons_exc2, e_nil, e_call, bnd_ok, bnd_exc, e_own, arg_dat, arg_vw, arg_bor, arg_scr, retB_dat, retB_own, e_tst, tst_bl, e_testV, test_ok, test_exc, tru_bl, tru_int, tru_non, tru_tup, tru_lst, tru_vw, e_notT, notK_ok, notK_exc, e_and, e_or, and_t, and_f, or_t, or_f, and_exc, or_exc, e_iteV, iteV_t, iteV_f, e_andV, e_orV, andV_t, andV_f, andV_exc, orV_t, orV_f, orV_exc, e_iteS, iteS_t, iteS_f, iteS_exc, e_it, itK_ok, itK_exc, it_tup, it_ctup, it_lst, it_bor, it_vw, it_scr, it_str, e_index, index_ok, e_mut, mut_rev, e_ext, ext_own, ext_dat, e_rg, e_shl, e_pow, e_noP, e_atP, part_int, e_slc, slc_okK, e_comp, compK_ok, compK_exc, wipe_nil, wipe_cons, e_for, forK_ok, forK_exc, bindV_dat, bindV_own, bindO_some, bt_one, bt_tup, bt_ctup, bt_lst, pm_nil, pm_nil2, pm_cons, e_par2, par2_dd, par2_od, par2_do, par2_oo, e_lock, lock_own, lock_dat, lock_bor, lock_none, e_lockS, outR_nx, outR_rt, outR_exc, e_litI, e_litS, e_litB, e_litN, e_litD, e_newK, e_newT, e_nx, e_bk, e_ct, e_rtN, e_yes, e_app, own_of, app_dat, app_own, app_exc, e_put, put_dat, put_own, putO_some, e_forget, fg_nx, fg_bk, fg_ct, fg_rt, fg_exc, List.getElem?_cons_zero, List.getElem?_cons_succ, List.set_cons_zero, List.set_cons_succ, List.length_cons, List.length_nil, Nat.reduceAdd, Nat.reduceLT, Bool.not_true, Bool.not_false, e_chn, chn_ok, chnV_t, chnV_f, e_lstB, e_tupB, dats_nil, dats_cons, datsO_some, lstK_ok, tupK_ok, len_tup, len_lst, len_vw, len_bor, len_scr, len_S, neg_i, not_bl, tupF_lst, tupF_tup, tupF_vw, tupF_bor, lstF_tup, lstF_lst, int_i, int_bl, is_t, isn_t, is_n, isn_n, eq_bl, ne_bl, isi_bl, add_ii, sub_ii, lt_ii, gt_ii, le_ii, ge_ii, eq_ii, ne_ii, min_ii, max_ii, and_ii, slc_tup, slc_l, slc_vw, slc_bor, back_tup, back_lst, app_l, app_m, Nat.reduceLeDiff, Int.cast_ofNat_Int, Int.natCast_zero, Int.natCast_one, Int.reduceEq, eq_self, Int.reduceLE, Int.reduceLT, Int.reduceNeg, Int.reduceToNat, Int.toNat_natCast, Int.reduceAdd, Int.reduceSub, Int.reduceMul, Nat.reduceMul, Nat.reduceSub, decide_true, decide_false, Bool.true_and, Bool.false_and, Bool.and_true, Bool.true_or, Bool.false_or, Bool.or_false, not_true_eq_false, not_false_eq_true, if_true, if_false, Bool.false_eq_true, reduceCtorEq, c_law_cell, hc, c_law_numbers, hn, i4, i5, i6, i7, mm, mod_pos, five, c_law_names, e0, r1, q1, mul_z, m7, c_law_ties, t5]
end P
namespace P
open PySem PySem.Spec PyProof.Rows L2 Fn
/-! ### _law_chain -/
theorem chain_spec (xs : List Int) (hx : 8 ≤ xs.length) (n : Int) (n0 : 2 ≤ n) (n8 : n ≤ 8) : ∃ top ps ts, WebOk top ps ts ∧ (ps.length : Int) = n ∧ E_law_chain.F [.dat (.lst (xs.map .int)), .dat (.int n)] = .ok (.dat (webD top ps ts)) := by
  have i4 := ixI (l := xs) (k := 4) (by omega) (by omega)
  have i5 := ixI (l := xs) (k := 5) (by omega) (by omega)
  have i6 := ixI (l := xs) (k := 6) (by omega) (by omega)
  have i7 := ixI (l := xs) (k := 7) (by omega) (by omega)
  generalize xs.getD (Int.toNat 4) 0 = x4 at *
  generalize xs.getD (Int.toNat 5) 0 = x5 at *
  generalize xs.getD (Int.toNat 6) 0 = x6 at *
  generalize xs.getD (Int.toNat 7) 0 = x7 at *
  obtain ⟨ns, hN, e0⟩ := names_spec xs (by omega) n (by omega) (by omega)
  have hl := hN.len
  have b5 : 0 ≤ x5 % 9 := by omega
  have b5' : x5 % 9 < 9 := by omega
  have m5 : modB (.dat (.int x5)) (.dat (.int 9)) = .ok (.dat (.int (x5 % 9))) := mod_pos (by decide)
  have m4 : modB (.dat (.int x4)) (.dat (.int 9)) = .ok (.dat (.int (x4 % 9))) := mod_pos (by decide)
  have b4 : 0 ≤ x4 % 9 := by omega
  have b4' : x4 % 9 < 9 := by omega
  generalize x5 % 9 = u5 at *
  generalize x4 % 9 = u4 at *
  haveI : ISz (1 + u5) 4 := isz_of (by omega) (by omega)
  haveI : ISz (1 + u4) 4 := isz_of (by omega) (by omega)
  haveI z0 : ISz (0 : Int) 1 := isz_of (by decide) (by decide)
  haveI z1 : ISz (1 : Int) 1 := isz_of (by decide) (by decide)
  have q0 := mul_z (i := 1 + u5) (j := 0) (by decide)
  have q1 := mul_z (i := 1 + u5) (j := 1) (by decide)
  have q2 := mul_z (i := 1 + u4) (j := 20) (by decide)
  let R : List (Option B) → List Plc → Fn.Env := fun r ps => [some (.dat (.lst (xs.map .int))), some (.dat (.int n)), some (.dat (.lst (txs ns))), some (.dat (.int (1 + u4))), some (.own (.l (ps.map plD)))] ++ r
  obtain ⟨ρ', w1, ps, rfl, hpm, hpl⟩ := loop_inv (tg := .one 5) (f := B_law_chain_1) (e := fun (i : Nat) => D.int i) (as := List.range n.toNat) (fun as ρ => ∃ ps : List Plc, ρ = [some (.dat (.lst (xs.map .int))), some (.dat (.int n)), some (.dat (.lst (txs ns))), some (.dat (.int (1 + u4))), some (.own (.l (ps.map plD))), none, none, none, none] ∧ (∃ k, as = List.range' k (ns.length - k) ∧ k ≤ ns.length ∧ ps.map Plc.n = ns.take k) ∧ ∀ p ∈ ps, PlOk (1 + u4) p)
    (ρ := [some (.dat (.lst (xs.map .int))), some (.dat (.int n)), some (.dat (.lst (txs ns))), some (.dat (.int (1 + u4))), some (.own (.l [])), none, none, none, none]) ⟨[], rfl, ⟨0, by rw [List.range_eq_range', hl]; rfl, Nat.zero_le _, rfl⟩, fun p hp => by cases hp⟩ (by
    rintro a as ρ ⟨ps, rfl, ⟨k, hk, hkl, hkn⟩, hpl⟩
    have hk2 : k < ns.length := by
      by_cases z : k < ns.length
      · exact z
      · rw [show ns.length - k = 0 by omega] at hk; cases hk
    rw [show ns.length - k = (ns.length - (k + 1)) + 1 by omega, List.range'_succ] at hk
    injection hk with hk1 hk3
    subst hk1
    have ix := ixS (l := ns) (k := (a : Int)) (by omega) (by omega)
    rw [Int.toNat_natCast] at ix
    have hpsl : ps.length = a := by
      have := congrArg List.length hkn
      rw [List.length_map, List.length_take] at this
      omega
    have hpl9 : (ps.map plD).length < 1000 := by rw [List.length_map]; omega
    obtain ⟨p, hp1, hp2, hp3⟩ : ∃ p : Plc, p.n = ns.getD a Str.empty ∧ PlOk (1 + u4) p ∧ B_law_chain_1 [some (.dat (.lst (xs.map .int))), some (.dat (.int n)), some (.dat (.lst (txs ns))), some (.dat (.int (1 + u4))), some (.own (.l (ps.map plD))), some (.dat (.int (a : Int))), none, none, none] =
        .nx [some (.dat (.lst (xs.map .int))), some (.dat (.int n)), some (.dat (.lst (txs ns))), some (.dat (.int (1 + u4))), some (.own (.l (ps.map plD ++ [plD p]))), none, none, none, none] := by
      obtain ⟨cv, tw, cv0, cv1⟩ : ∃ cv : Int, idxB (.dat (.lst [.int 0, .int ((1 + u4) * 20)])) (.dat (.int (if decide ((a : Int) = n - 1) = true then 1 else 0))) = .ok (.dat (.int cv)) ∧ 0 ≤ cv ∧ cv ≤ 999 := by
        cases decide ((a : Int) = n - 1) with
        | true => exact ⟨(1 + u4) * 20, idx_lst rfl, by omega, by omega⟩
        | false => exact ⟨0, idx_lst rfl, by omega, by omega⟩
      have ok : ∀ b : Int, 0 ≤ b → b ≤ 99 → PlOk (1 + u4) ⟨ns.getD a Str.empty, 0, b, cv, 0⟩ := fun b h0 h1 => ⟨by show (0 : Int) ≤ 0; decide, by show (0 : Int) ≤ 99; decide, h0, h1, by show 0 * (1 + u4) ≤ cv; omega, cv1, by show (0 : Int) ≤ 0; decide, by show (0 : Int) ≤ 99; decide⟩
      by_cases c : (a : Int) = 0
      · have d1 := decide_eq_true c
        refine ⟨⟨ns.getD a Str.empty, 0, (1 + u5) * 1, cv, 0⟩, rfl, ok _ (by omega) (by omega), ?_⟩
        simp only [B_law_chain_1, e_try, tryK_nx, tryK_rt, tryK_bk, tryK_ct, tryK_exc, tryK_pass, hdl_none, hdl_some, leaveN_nx, leaveN_rt, leaveN_ct, leaveN_bk, leaveS_nx, leaveS_rt, leaveS_ct, leaveS_bk, noErr_nil, noErr_cons, noErrO_none, noErrO_dat, noErrO_own, noErrO_bor, noErrO_scr, noErrB_dat, noErrB_own, errI_t, errI_f, errV_t, errT_t, errT_f, e_rz, retB_err, look_err, rd_err, arg_err, set_err, e_count, drop_any, e_seq, sq_nx, sq_rt, sq_bk, sq_ct, sq_exc, e_then, then_ok, then_exc, set_dat, set_own, set_bor, set_scr, setL_dat, setL_own, setL_bor, ret_dat, ret_own, rd_dat, rd_own, rd_vw, rd_bor, rd_scr, frz_l, frz_k, frz_t, e_var, look_dat, look_own, look_bor, look_scr, e_retN, lookN_dat, lookN_own, e_bin2, bin2_ok, bin2_exc, bin2_exc2, e_one1, one1_ok, one1_exc, e_cons, cons_okK, cons_exc, cons_exc2, e_nil, e_call, bnd_ok, bnd_exc, e_own, arg_dat, arg_vw, arg_bor, arg_scr, retB_dat, retB_own, e_tst, tst_bl, e_testV, test_ok, test_exc, tru_bl, tru_int, tru_non, tru_tup, tru_lst, tru_vw, e_notT, notK_ok, notK_exc, e_and, e_or, and_t, and_f, or_t, or_f, and_exc, or_exc, e_iteV, iteV_t, iteV_f, e_andV, e_orV, andV_t, andV_f, andV_exc, orV_t, orV_f, orV_exc, e_iteS, iteS_t, iteS_f, iteS_exc, e_it, itK_ok, itK_exc, it_tup, it_ctup, it_lst, it_bor, it_vw, it_scr, it_str, e_index, index_ok, e_mut, mut_rev, e_ext, ext_own, ext_dat, e_rg, e_shl, e_pow, e_noP, e_atP, part_int, e_slc, slc_okK, e_comp, compK_ok, compK_exc, wipe_nil, wipe_cons, e_for, forK_ok, forK_exc, bindV_dat, bindV_own, bindO_some, bt_one, bt_tup, bt_ctup, bt_lst, pm_nil, pm_nil2, pm_cons, e_par2, par2_dd, par2_od, par2_do, par2_oo, e_lock, lock_own, lock_dat, lock_bor, lock_none, e_lockS, outR_nx, outR_rt, outR_exc, e_litI, e_litS, e_litB, e_litN, e_litD, e_newK, e_newT, e_nx, e_bk, e_ct, e_rtN, e_yes, e_app, own_of, app_dat, app_own, app_exc, e_put, put_dat, put_own, putO_some, e_forget, fg_nx, fg_bk, fg_ct, fg_rt, fg_exc, List.getElem?_cons_zero, List.getElem?_cons_succ, List.set_cons_zero, List.set_cons_succ, List.length_cons, List.length_nil, Nat.reduceAdd, Nat.reduceLT, Bool.not_true, Bool.not_false, e_chn, chn_ok, chnV_t, chnV_f, e_lstB, e_tupB, dats_nil, dats_cons, datsO_some, lstK_ok, tupK_ok, len_tup, len_lst, len_vw, len_bor, len_scr, len_S, neg_i, not_bl, tupF_lst, tupF_tup, tupF_vw, tupF_bor, lstF_tup, lstF_lst, int_i, int_bl, is_t, isn_t, is_n, isn_n, eq_bl, ne_bl, isi_bl, add_ii, sub_ii, lt_ii, gt_ii, le_ii, ge_ii, eq_ii, ne_ii, min_ii, max_ii, and_ii, slc_tup, slc_l, slc_vw, slc_bor, back_tup, back_lst, app_l, app_m, Nat.reduceLeDiff, Int.cast_ofNat_Int, Int.natCast_zero, Int.natCast_one, Int.reduceEq, eq_self, Int.reduceLE, Int.reduceLT, Int.reduceNeg, Int.reduceToNat, Int.toNat_natCast, Int.reduceAdd, Int.reduceSub, Int.reduceMul, Nat.reduceMul, Nat.reduceSub, decide_true, decide_false, Bool.true_and, Bool.false_and, Bool.and_true, Bool.true_or, Bool.false_or, Bool.or_false, not_true_eq_false, not_false_eq_true, if_true, if_false, Bool.false_eq_true, reduceCtorEq, i5, m5, d1, tw, q0, q1, q2, ix, hpl9]
      · have d1 := decide_eq_false c
        refine ⟨⟨ns.getD a Str.empty, 0, (1 + u5) * 0, cv, 0⟩, rfl, ok _ (by omega) (by omega), ?_⟩
        simp only [B_law_chain_1, e_try, tryK_nx, tryK_rt, tryK_bk, tryK_ct, tryK_exc, tryK_pass, hdl_none, hdl_some, leaveN_nx, leaveN_rt, leaveN_ct, leaveN_bk, leaveS_nx, leaveS_rt, leaveS_ct, leaveS_bk, noErr_nil, noErr_cons, noErrO_none, noErrO_dat, noErrO_own, noErrO_bor, noErrO_scr, noErrB_dat, noErrB_own, errI_t, errI_f, errV_t, errT_t, errT_f, e_rz, retB_err, look_err, rd_err, arg_err, set_err, e_count, drop_any, e_seq, sq_nx, sq_rt, sq_bk, sq_ct, sq_exc, e_then, then_ok, then_exc, set_dat, set_own, set_bor, set_scr, setL_dat, setL_own, setL_bor, ret_dat, ret_own, rd_dat, rd_own, rd_vw, rd_bor, rd_scr, frz_l, frz_k, frz_t, e_var, look_dat, look_own, look_bor, look_scr, e_retN, lookN_dat, lookN_own, e_bin2, bin2_ok, bin2_exc, bin2_exc2, e_one1, one1_ok, one1_exc, e_cons, cons_okK, cons_exc, cons_exc2, e_nil, e_call, bnd_ok, bnd_exc, e_own, arg_dat, arg_vw, arg_bor, arg_scr, retB_dat, retB_own, e_tst, tst_bl, e_testV, test_ok, test_exc, tru_bl, tru_int, tru_non, tru_tup, tru_lst, tru_vw, e_notT, notK_ok, notK_exc, e_and, e_or, and_t, and_f, or_t, or_f, and_exc, or_exc, e_iteV, iteV_t, iteV_f, e_andV, e_orV, andV_t, andV_f, andV_exc, orV_t, orV_f, orV_exc, e_iteS, iteS_t, iteS_f, iteS_exc, e_it, itK_ok, itK_exc, it_tup, it_ctup, it_lst, it_bor, it_vw, it_scr, it_str, e_index, index_ok, e_mut, mut_rev, e_ext, ext_own, ext_dat, e_rg, e_shl, e_pow, e_noP, e_atP, part_int, e_slc, slc_okK, e_comp, compK_ok, compK_exc, wipe_nil, wipe_cons, e_for, forK_ok, forK_exc, bindV_dat, bindV_own, bindO_some, bt_one, bt_tup, bt_ctup, bt_lst, pm_nil, pm_nil2, pm_cons, e_par2, par2_dd, par2_od, par2_do, par2_oo, e_lock, lock_own, lock_dat, lock_bor, lock_none, e_lockS, outR_nx, outR_rt, outR_exc, e_litI, e_litS, e_litB, e_litN, e_litD, e_newK, e_newT, e_nx, e_bk, e_ct, e_rtN, e_yes, e_app, own_of, app_dat, app_own, app_exc, e_put, put_dat, put_own, putO_some, e_forget, fg_nx, fg_bk, fg_ct, fg_rt, fg_exc, List.getElem?_cons_zero, List.getElem?_cons_succ, List.set_cons_zero, List.set_cons_succ, List.length_cons, List.length_nil, Nat.reduceAdd, Nat.reduceLT, Bool.not_true, Bool.not_false, e_chn, chn_ok, chnV_t, chnV_f, e_lstB, e_tupB, dats_nil, dats_cons, datsO_some, lstK_ok, tupK_ok, len_tup, len_lst, len_vw, len_bor, len_scr, len_S, neg_i, not_bl, tupF_lst, tupF_tup, tupF_vw, tupF_bor, lstF_tup, lstF_lst, int_i, int_bl, is_t, isn_t, is_n, isn_n, eq_bl, ne_bl, isi_bl, add_ii, sub_ii, lt_ii, gt_ii, le_ii, ge_ii, eq_ii, ne_ii, min_ii, max_ii, and_ii, slc_tup, slc_l, slc_vw, slc_bor, back_tup, back_lst, app_l, app_m, Nat.reduceLeDiff, Int.cast_ofNat_Int, Int.natCast_zero, Int.natCast_one, Int.reduceEq, eq_self, Int.reduceLE, Int.reduceLT, Int.reduceNeg, Int.reduceToNat, Int.toNat_natCast, Int.reduceAdd, Int.reduceSub, Int.reduceMul, Nat.reduceMul, Nat.reduceSub, decide_true, decide_false, Bool.true_and, Bool.false_and, Bool.and_true, Bool.true_or, Bool.false_or, Bool.or_false, not_true_eq_false, not_false_eq_true, if_true, if_false, Bool.false_eq_true, reduceCtorEq, i5, m5, d1, tw, q0, q1, q2, ix, hpl9]
    refine ⟨_, _, bt_one, .inl hp3, ps ++ [p], by rw [List.map_append]; rfl, ⟨a + 1, hk3, by omega, ?_⟩, ?_⟩
    · rw [List.map_append, hkn, List.take_add_one, List.getElem?_eq_getElem hk2]
      rw [List.map_cons, hp1, List.getD_eq_getElem?_getD, List.getElem?_eq_getElem hk2]
      rfl
    · intro q hq
      rcases List.mem_append.mp hq with z | z
      · exact hpl q z
      · rw [List.mem_singleton.mp z]; exact hp2)
  obtain ⟨k, hk, hkl, hkn⟩ := hpm
  have hkk : k = ns.length := by
    by_cases z : k < ns.length
    · rw [show ns.length - k = (ns.length - (k + 1)) + 1 by omega, List.range'_succ] at hk; cases hk
    · omega
  rw [hkk, List.take_length] at hkn
  have hpsl : ps.length = ns.length := by rw [← hkn, List.length_map]
  -- the order, and the ties in it
  have lr := lrg_int (n := n) (by omega) (by omega)
  have r1 := rg1 (k := n) (by omega) (by omega)
  have r2 := rg1 (k := n - 1) (by omega) (by omega)
  have nn : n.toNat = ns.length := by omega
  have nn1 : (n - 1).toNat = ns.length - 1 := by omega
  have lp : ∀ (O : List Int) (L : List Str), L.length = ns.length → (∀ k, k < ns.length → idxB (.dat (.lst (O.map .int))) (.dat (.int (k : Int))) = .ok (.dat (.int (O.getD k 0))) ∧ idxB (.dat (.lst (txs ns))) (.dat (.int (O.getD k 0))) = .ok (.dat (.str (L.getD k Str.empty)))) →
      loopF (.one 5) B_law_chain_2 ((List.range (ns.length - 1)).map fun (i : Nat) => D.int i) [some (.dat (.lst (xs.map .int))), some (.dat (.int n)), some (.dat (.lst (txs ns))), some (.dat (.int (1 + u4))), some (.dat (.lst (ps.map plD))), none, none, some (.dat (.lst (O.map .int))), some (.own (.l []))] =
      .nx [some (.dat (.lst (xs.map .int))), some (.dat (.int n)), some (.dat (.lst (txs ns))), some (.dat (.int (1 + u4))), some (.dat (.lst (ps.map plD))), none, none, some (.dat (.lst (O.map .int))), some (.own (.l (((List.range (ns.length - 1)).map (chT L x7)).map tiD)))] := by
    intro O L hL hO
    have st : ∀ (j m : Nat), j + m = ns.length - 1 → loopF (.one 5) B_law_chain_2 ((List.range' j m).map fun (i : Nat) => D.int i) [some (.dat (.lst (xs.map .int))), some (.dat (.int n)), some (.dat (.lst (txs ns))), some (.dat (.int (1 + u4))), some (.dat (.lst (ps.map plD))), none, none, some (.dat (.lst (O.map .int))), some (.own (.l (((List.range j).map (chT L x7)).map tiD)))] =
        .nx [some (.dat (.lst (xs.map .int))), some (.dat (.int n)), some (.dat (.lst (txs ns))), some (.dat (.int (1 + u4))), some (.dat (.lst (ps.map plD))), none, none, some (.dat (.lst (O.map .int))), some (.own (.l (((List.range (ns.length - 1)).map (chT L x7)).map tiD)))] := by
      intro j m
      induction m generalizing j with
      | zero => intro e; rw [Nat.add_zero] at e; subst e; rfl
      | succ m ih =>
        intro e
        rw [List.range'_succ, List.map_cons, loop_one bt_one]
        simp only [List.set_cons_zero, List.set_cons_succ]
        obtain ⟨o1, o2⟩ := hO j (by omega)
        obtain ⟨o3, o4⟩ := hO (j + 1) (by omega)
        rw [Int.natCast_add, Int.natCast_one] at o3
        haveI : ISz (j : Int) 4 := isz_of (by omega) (by omega)
        have hz : (((List.range j).map (chT L x7)).map tiD).length < 1000 := by rw [List.length_map, List.length_map, List.length_range]; omega
        have m3 := mul_z (i := 3) (j := (j : Int)) (by decide)
        have hb : B_law_chain_2 [some (.dat (.lst (xs.map .int))), some (.dat (.int n)), some (.dat (.lst (txs ns))), some (.dat (.int (1 + u4))), some (.dat (.lst (ps.map plD))), some (.dat (.int (j : Int))), none, some (.dat (.lst (O.map .int))), some (.own (.l (((List.range j).map (chT L x7)).map tiD)))] =
            .nx [some (.dat (.lst (xs.map .int))), some (.dat (.int n)), some (.dat (.lst (txs ns))), some (.dat (.int (1 + u4))), some (.dat (.lst (ps.map plD))), none, none, some (.dat (.lst (O.map .int))), some (.own (.l (((List.range j).map (chT L x7)).map tiD ++ [tiD (chT L x7 j)])))] := by
          simp (decide := true) only [B_law_chain_2, e_try, tryK_nx, tryK_rt, tryK_bk, tryK_ct, tryK_exc, tryK_pass, hdl_none, hdl_some, leaveN_nx, leaveN_rt, leaveN_ct, leaveN_bk, leaveS_nx, leaveS_rt, leaveS_ct, leaveS_bk, noErr_nil, noErr_cons, noErrO_none, noErrO_dat, noErrO_own, noErrO_bor, noErrO_scr, noErrB_dat, noErrB_own, errI_t, errI_f, errV_t, errT_t, errT_f, e_rz, retB_err, look_err, rd_err, arg_err, set_err, e_count, drop_any, e_seq, sq_nx, sq_rt, sq_bk, sq_ct, sq_exc, e_then, then_ok, then_exc, set_dat, set_own, set_bor, set_scr, setL_dat, setL_own, setL_bor, ret_dat, ret_own, rd_dat, rd_own, rd_vw, rd_bor, rd_scr, frz_l, frz_k, frz_t, e_var, look_dat, look_own, look_bor, look_scr, e_retN, lookN_dat, lookN_own, e_bin2, bin2_ok, bin2_exc, bin2_exc2, e_one1, one1_ok, one1_exc, e_cons, cons_okK, cons_exc, cons_exc2, e_nil, e_call, bnd_ok, bnd_exc, e_own, arg_dat, arg_vw, arg_bor, arg_scr, retB_dat, retB_own, e_tst, tst_bl, e_testV, test_ok, test_exc, tru_bl, tru_int, tru_non, tru_tup, tru_lst, tru_vw, e_notT, notK_ok, notK_exc, e_and, e_or, and_t, and_f, or_t, or_f, and_exc, or_exc, e_iteV, iteV_t, iteV_f, e_andV, e_orV, andV_t, andV_f, andV_exc, orV_t, orV_f, orV_exc, e_iteS, iteS_t, iteS_f, iteS_exc, e_it, itK_ok, itK_exc, it_tup, it_ctup, it_lst, it_bor, it_vw, it_scr, it_str, e_index, index_ok, e_mut, mut_rev, e_ext, ext_own, ext_dat, e_rg, e_shl, e_pow, e_noP, e_atP, part_int, e_slc, slc_okK, e_comp, compK_ok, compK_exc, wipe_nil, wipe_cons, e_for, forK_ok, forK_exc, bindV_dat, bindV_own, bindO_some, bt_one, bt_tup, bt_ctup, bt_lst, pm_nil, pm_nil2, pm_cons, e_par2, par2_dd, par2_od, par2_do, par2_oo, e_lock, lock_own, lock_dat, lock_bor, lock_none, e_lockS, outR_nx, outR_rt, outR_exc, e_litI, e_litS, e_litB, e_litN, e_litD, e_newK, e_newT, e_nx, e_bk, e_ct, e_rtN, e_yes, e_app, own_of, app_dat, app_own, app_exc, e_put, put_dat, put_own, putO_some, e_forget, fg_nx, fg_bk, fg_ct, fg_rt, fg_exc, List.getElem?_cons_zero, List.getElem?_cons_succ, List.set_cons_zero, List.set_cons_succ, List.length_cons, List.length_nil, Nat.reduceAdd, Nat.reduceLT, Bool.not_true, Bool.not_false, e_chn, chn_ok, chnV_t, chnV_f, e_lstB, e_tupB, dats_nil, dats_cons, datsO_some, lstK_ok, tupK_ok, len_tup, len_lst, len_vw, len_bor, len_scr, len_S, neg_i, not_bl, tupF_lst, tupF_tup, tupF_vw, tupF_bor, lstF_tup, lstF_lst, int_i, int_bl, is_t, isn_t, is_n, isn_n, eq_bl, ne_bl, isi_bl, add_ii, sub_ii, lt_ii, gt_ii, le_ii, ge_ii, eq_ii, ne_ii, min_ii, max_ii, and_ii, slc_tup, slc_l, slc_vw, slc_bor, back_tup, back_lst, app_l, app_m, Nat.reduceLeDiff, Int.cast_ofNat_Int, Int.natCast_zero, Int.natCast_one, Int.reduceEq, eq_self, Int.reduceLE, Int.reduceLT, Int.reduceNeg, Int.reduceToNat, Int.toNat_natCast, Int.reduceAdd, Int.reduceSub, Int.reduceMul, Nat.reduceMul, Nat.reduceSub, decide_true, decide_false, Bool.true_and, Bool.false_and, Bool.and_true, Bool.true_or, Bool.false_or, Bool.or_false, not_true_eq_false, not_false_eq_true, if_true, if_false, Bool.false_eq_true, reduceCtorEq, i7, o1, o2, o3, o4, m3, mod_pos, hz]
          rfl
        rw [hb, lk_nx]
        have := ih (j + 1) (by omega)
        rw [List.range_succ, List.map_append, List.map_append] at this
        exact this
    have := st 0 (ns.length - 1) (by omega)
    rw [← List.range_eq_range'] at this
    exact this
  have mp6 : modB (.dat (.int x6)) (.dat (.int 2)) = .ok (.dat (.int (x6 % 2))) := mod_pos (by decide)
  have fin : ∀ ts0 : List Tie, (∀ t ∈ ts0, Tgood ns t) → (ts0.map (·.1)).Nodup → ts0.length ≤ 16 → ∃ ts : List Tie, WebOk (1 + u4) ps ts ∧ sortG [.dat (.lst (ts0.map tiD))] = .ok (.own (.l (ts.map tiD))) := by
    intro ts0 h1 h2 h3
    obtain ⟨ts, p1, p2, p3⟩ := sortTies hN ts0 h1 h2
    exact ⟨ts, ⟨by omega, by omega, by rw [hkn, hpsl, hl]; exact hN, by omega, by omega, hpl, by rw [hkn]; exact fun t ht => h1 t (p1.mem_iff.mp ht), by rw [p1.length_eq]; exact h3, (p1.map _).nodup_iff.mpr h2, p2⟩, p3⟩
  have cl : ∀ L : List Str, ((List.range (ns.length - 1)).map (chT L x7)).length ≤ 16 := fun L => by rw [List.length_map, List.length_range]; omega
  by_cases c6 : x6 % 2 = 1
  · have d6 := decide_eq_true c6
    have hp : ns.reverse.Perm ns := List.reverse_perm ns
    obtain ⟨g1, g2⟩ := chT_good hp hN.nd x7
    obtain ⟨ts, hw, hs⟩ := fin _ g1 g2 (cl _)
    refine ⟨1 + u4, ps, ts, hw, by omega, ?_⟩
    have l2 := lp (((List.range ns.length).map fun (i : Nat) => (i : Int)).reverse) ns.reverse (by simp) (by
      intro k hk
      have e1 : (((List.range ns.length).map fun (i : Nat) => (i : Int)).reverse).getD k 0 = ((ns.length - 1 - k : Nat) : Int) := by
        rw [List.getD_eq_getElem?_getD, List.getElem?_reverse (by rw [List.length_map, List.length_range]; exact hk), List.length_map, List.length_range, List.getElem?_map, List.getElem?_range (by omega)]
        rfl
      have e2 : ns.reverse.getD k Str.empty = ns.getD (ns.length - 1 - k) Str.empty := by
        rw [List.getD_eq_getElem?_getD, List.getElem?_reverse hk, List.getD_eq_getElem?_getD]
      have i1 := ixI (l := ((List.range ns.length).map fun (i : Nat) => (i : Int)).reverse) (k := (k : Int)) (by omega) (by rw [List.length_reverse, List.length_map, List.length_range]; omega)
      rw [Int.toNat_natCast] at i1
      have i2 := ixS (l := ns) (k := ((ns.length - 1 - k : Nat) : Int)) (by omega) (by omega)
      rw [Int.toNat_natCast] at i2
      refine ⟨i1, ?_⟩
      rw [e1, e2]
      exact i2)
    rw [d_law_chain (by rfl)]
    rw [List.map_reverse, List.map_map] at l2
    rw [nn] at lr r1 w1
    rw [nn1] at r2
    have lr' : lrgB (.dat (.int n)) = .ok (.own (.l ((List.range ns.length).map (D.int ∘ fun (i : Nat) => (i : Int))))) := lr
    simp (decide := true) only [B_law_chain, e_try, tryK_nx, tryK_rt, tryK_bk, tryK_ct, tryK_exc, tryK_pass, hdl_none, hdl_some, leaveN_nx, leaveN_rt, leaveN_ct, leaveN_bk, leaveS_nx, leaveS_rt, leaveS_ct, leaveS_bk, noErr_nil, noErr_cons, noErrO_none, noErrO_dat, noErrO_own, noErrO_bor, noErrO_scr, noErrB_dat, noErrB_own, errI_t, errI_f, errV_t, errT_t, errT_f, e_rz, retB_err, look_err, rd_err, arg_err, set_err, e_count, drop_any, e_seq, sq_nx, sq_rt, sq_bk, sq_ct, sq_exc, e_then, then_ok, then_exc, set_dat, set_own, set_bor, set_scr, setL_dat, setL_own, setL_bor, ret_dat, ret_own, rd_dat, rd_own, rd_vw, rd_bor, rd_scr, frz_l, frz_k, frz_t, e_var, look_dat, look_own, look_bor, look_scr, e_retN, lookN_dat, lookN_own, e_bin2, bin2_ok, bin2_exc, bin2_exc2, e_one1, one1_ok, one1_exc, e_cons, cons_okK, cons_exc, cons_exc2, e_nil, e_call, bnd_ok, bnd_exc, e_own, arg_dat, arg_vw, arg_bor, arg_scr, retB_dat, retB_own, e_tst, tst_bl, e_testV, test_ok, test_exc, tru_bl, tru_int, tru_non, tru_tup, tru_lst, tru_vw, e_notT, notK_ok, notK_exc, e_and, e_or, and_t, and_f, or_t, or_f, and_exc, or_exc, e_iteV, iteV_t, iteV_f, e_andV, e_orV, andV_t, andV_f, andV_exc, orV_t, orV_f, orV_exc, e_iteS, iteS_t, iteS_f, iteS_exc, e_it, itK_ok, itK_exc, it_tup, it_ctup, it_lst, it_bor, it_vw, it_scr, it_str, e_index, index_ok, e_mut, mut_rev, e_ext, ext_own, ext_dat, e_rg, e_shl, e_pow, e_noP, e_atP, part_int, e_slc, slc_okK, e_comp, compK_ok, compK_exc, wipe_nil, wipe_cons, e_for, forK_ok, forK_exc, bindV_dat, bindV_own, bindO_some, bt_one, bt_tup, bt_ctup, bt_lst, pm_nil, pm_nil2, pm_cons, e_par2, par2_dd, par2_od, par2_do, par2_oo, e_lock, lock_own, lock_dat, lock_bor, lock_none, e_lockS, outR_nx, outR_rt, outR_exc, e_litI, e_litS, e_litB, e_litN, e_litD, e_newK, e_newT, e_nx, e_bk, e_ct, e_rtN, e_yes, e_app, own_of, app_dat, app_own, app_exc, e_put, put_dat, put_own, putO_some, e_forget, fg_nx, fg_bk, fg_ct, fg_rt, fg_exc, List.getElem?_cons_zero, List.getElem?_cons_succ, List.set_cons_zero, List.set_cons_succ, List.length_cons, List.length_nil, Nat.reduceAdd, Nat.reduceLT, Bool.not_true, Bool.not_false, e_chn, chn_ok, chnV_t, chnV_f, e_lstB, e_tupB, dats_nil, dats_cons, datsO_some, lstK_ok, tupK_ok, len_tup, len_lst, len_vw, len_bor, len_scr, len_S, neg_i, not_bl, tupF_lst, tupF_tup, tupF_vw, tupF_bor, lstF_tup, lstF_lst, int_i, int_bl, is_t, isn_t, is_n, isn_n, eq_bl, ne_bl, isi_bl, add_ii, sub_ii, lt_ii, gt_ii, le_ii, ge_ii, eq_ii, ne_ii, min_ii, max_ii, and_ii, slc_tup, slc_l, slc_vw, slc_bor, back_tup, back_lst, app_l, app_m, Nat.reduceLeDiff, Int.cast_ofNat_Int, Int.natCast_zero, Int.natCast_one, Int.reduceEq, eq_self, Int.reduceLE, Int.reduceLT, Int.reduceNeg, Int.reduceToNat, Int.toNat_natCast, Int.reduceAdd, Int.reduceSub, Int.reduceMul, Nat.reduceMul, Nat.reduceSub, decide_true, decide_false, Bool.true_and, Bool.false_and, Bool.and_true, Bool.true_or, Bool.false_or, Bool.or_false, not_true_eq_false, not_false_eq_true, if_true, if_false, Bool.false_eq_true, reduceCtorEq, c_law_names, e0, i4, m4, r1, w1, lr', i6, mp6, d6, r2, l2, hs]
  · have d6 := decide_eq_false c6
    obtain ⟨g1, g2⟩ := chT_good (List.Perm.refl ns) hN.nd x7
    obtain ⟨ts, hw, hs⟩ := fin _ g1 g2 (cl _)
    refine ⟨1 + u4, ps, ts, hw, by omega, ?_⟩
    have l2 := lp ((List.range ns.length).map fun (i : Nat) => (i : Int)) ns rfl (by
      intro k hk
      have e1 : ((List.range ns.length).map fun (i : Nat) => (i : Int)).getD k 0 = (k : Int) := by
        rw [List.getD_eq_getElem?_getD, List.getElem?_map, List.getElem?_range hk]
        rfl
      have i1 := ixI (l := (List.range ns.length).map fun (i : Nat) => (i : Int)) (k := (k : Int)) (by omega) (by rw [List.length_map, List.length_range]; omega)
      rw [Int.toNat_natCast] at i1
      have i2 := ixS (l := ns) (k := (k : Int)) (by omega) (by omega)
      rw [Int.toNat_natCast] at i2
      refine ⟨i1, ?_⟩
      rw [e1]
      exact i2)
    rw [d_law_chain (by rfl)]
    rw [List.map_map] at l2
    rw [nn] at lr r1 w1
    rw [nn1] at r2
    have lr' : lrgB (.dat (.int n)) = .ok (.own (.l ((List.range ns.length).map (D.int ∘ fun (i : Nat) => (i : Int))))) := lr
    simp (decide := true) only [B_law_chain, e_try, tryK_nx, tryK_rt, tryK_bk, tryK_ct, tryK_exc, tryK_pass, hdl_none, hdl_some, leaveN_nx, leaveN_rt, leaveN_ct, leaveN_bk, leaveS_nx, leaveS_rt, leaveS_ct, leaveS_bk, noErr_nil, noErr_cons, noErrO_none, noErrO_dat, noErrO_own, noErrO_bor, noErrO_scr, noErrB_dat, noErrB_own, errI_t, errI_f, errV_t, errT_t, errT_f, e_rz, retB_err, look_err, rd_err, arg_err, set_err, e_count, drop_any, e_seq, sq_nx, sq_rt, sq_bk, sq_ct, sq_exc, e_then, then_ok, then_exc, set_dat, set_own, set_bor, set_scr, setL_dat, setL_own, setL_bor, ret_dat, ret_own, rd_dat, rd_own, rd_vw, rd_bor, rd_scr, frz_l, frz_k, frz_t, e_var, look_dat, look_own, look_bor, look_scr, e_retN, lookN_dat, lookN_own, e_bin2, bin2_ok, bin2_exc, bin2_exc2, e_one1, one1_ok, one1_exc, e_cons, cons_okK, cons_exc, cons_exc2, e_nil, e_call, bnd_ok, bnd_exc, e_own, arg_dat, arg_vw, arg_bor, arg_scr, retB_dat, retB_own, e_tst, tst_bl, e_testV, test_ok, test_exc, tru_bl, tru_int, tru_non, tru_tup, tru_lst, tru_vw, e_notT, notK_ok, notK_exc, e_and, e_or, and_t, and_f, or_t, or_f, and_exc, or_exc, e_iteV, iteV_t, iteV_f, e_andV, e_orV, andV_t, andV_f, andV_exc, orV_t, orV_f, orV_exc, e_iteS, iteS_t, iteS_f, iteS_exc, e_it, itK_ok, itK_exc, it_tup, it_ctup, it_lst, it_bor, it_vw, it_scr, it_str, e_index, index_ok, e_mut, mut_rev, e_ext, ext_own, ext_dat, e_rg, e_shl, e_pow, e_noP, e_atP, part_int, e_slc, slc_okK, e_comp, compK_ok, compK_exc, wipe_nil, wipe_cons, e_for, forK_ok, forK_exc, bindV_dat, bindV_own, bindO_some, bt_one, bt_tup, bt_ctup, bt_lst, pm_nil, pm_nil2, pm_cons, e_par2, par2_dd, par2_od, par2_do, par2_oo, e_lock, lock_own, lock_dat, lock_bor, lock_none, e_lockS, outR_nx, outR_rt, outR_exc, e_litI, e_litS, e_litB, e_litN, e_litD, e_newK, e_newT, e_nx, e_bk, e_ct, e_rtN, e_yes, e_app, own_of, app_dat, app_own, app_exc, e_put, put_dat, put_own, putO_some, e_forget, fg_nx, fg_bk, fg_ct, fg_rt, fg_exc, List.getElem?_cons_zero, List.getElem?_cons_succ, List.set_cons_zero, List.set_cons_succ, List.length_cons, List.length_nil, Nat.reduceAdd, Nat.reduceLT, Bool.not_true, Bool.not_false, e_chn, chn_ok, chnV_t, chnV_f, e_lstB, e_tupB, dats_nil, dats_cons, datsO_some, lstK_ok, tupK_ok, len_tup, len_lst, len_vw, len_bor, len_scr, len_S, neg_i, not_bl, tupF_lst, tupF_tup, tupF_vw, tupF_bor, lstF_tup, lstF_lst, int_i, int_bl, is_t, isn_t, is_n, isn_n, eq_bl, ne_bl, isi_bl, add_ii, sub_ii, lt_ii, gt_ii, le_ii, ge_ii, eq_ii, ne_ii, min_ii, max_ii, and_ii, slc_tup, slc_l, slc_vw, slc_bor, back_tup, back_lst, app_l, app_m, Nat.reduceLeDiff, Int.cast_ofNat_Int, Int.natCast_zero, Int.natCast_one, Int.reduceEq, eq_self, Int.reduceLE, Int.reduceLT, Int.reduceNeg, Int.reduceToNat, Int.toNat_natCast, Int.reduceAdd, Int.reduceSub, Int.reduceMul, Nat.reduceMul, Nat.reduceSub, decide_true, decide_false, Bool.true_and, Bool.false_and, Bool.and_true, Bool.true_or, Bool.false_or, Bool.or_false, not_true_eq_false, not_false_eq_true, if_true, if_false, Bool.false_eq_true, reduceCtorEq, c_law_names, e0, i4, m4, r1, w1, lr', i6, mp6, d6, r2, l2, hs]
end P
namespace P
open PySem PySem.Spec PyProof.Rows L2 Fn
/-! ### _law_drawn -/
theorem drawn_spec (sc : List Int) : ∃ top ps ts, WebOk top ps ts ∧ E_law_drawn_v2.F [.scr sc] = .ok (.dat (webD top ps ts)) := by
  obtain ⟨c, hc⟩ := cell_spec sc 0 (by decide) (by decide)
  obtain ⟨xs, hx, _, hn⟩ := numbers_spec c 24 (by decide) (by decide)
  have i12 := ixI (l := xs) (k := 12) (by omega) (by omega)
  generalize xs.getD (Int.toNat 12) 0 = x at *
  have m8 : modB (.dat (.int x)) (.dat (.int 8)) = .ok (.dat (.int (x % 8))) := mod_pos (by decide)
  have s13 := cut_drop (l := xs.map D.int) (k := 13) (by decide)
  simp only [Int.reduceToNat] at s13
  rw [← List.map_drop] at s13
  haveI : ISz (8 : Int) 4 := isz_of (by decide) (by decide)
  have d8 := div_z (i := x) (j := 8) (by decide) (by decide)
  have m7 : modB (.dat (.int (x / 8))) (.dat (.int 7)) = .ok (.dat (.int (x / 8 % 7))) := mod_pos (by decide)
  by_cases c1 : x % 8 = 1
  · obtain ⟨top, ps, ts, h, _, hw⟩ := chain_spec (xs.drop 13) (by rw [List.length_drop]; omega) (2 + x / 8 % 7) (by omega) (by omega)
    refine ⟨top, ps, ts, h, ?_⟩
    rw [d_law_drawn_v2 (by rfl)]
    simp only [B_law_drawn_v2, e_try, tryK_nx, tryK_rt, tryK_bk, tryK_ct, tryK_exc, tryK_pass, hdl_none, hdl_some, leaveN_nx, leaveN_rt, leaveN_ct, leaveN_bk, leaveS_nx, leaveS_rt, leaveS_ct, leaveS_bk, noErr_nil, noErr_cons, noErrO_none, noErrO_dat, noErrO_own, noErrO_bor, noErrO_scr, noErrB_dat, noErrB_own, errI_t, errI_f, errV_t, errT_t, errT_f, e_rz, retB_err, look_err, rd_err, arg_err, set_err, e_count, drop_any, e_seq, sq_nx, sq_rt, sq_bk, sq_ct, sq_exc, e_then, then_ok, then_exc, set_dat, set_own, set_bor, set_scr, setL_dat, setL_own, setL_bor, ret_dat, ret_own, rd_dat, rd_own, rd_vw, rd_bor, rd_scr, frz_l, frz_k, frz_t, e_var, look_dat, look_own, look_bor, look_scr, e_retN, lookN_dat, lookN_own, e_bin2, bin2_ok, bin2_exc, bin2_exc2, e_one1, one1_ok, one1_exc, e_cons, cons_okK, cons_exc, cons_exc2, e_nil, e_call, bnd_ok, bnd_exc, e_own, arg_dat, arg_vw, arg_bor, arg_scr, retB_dat, retB_own, e_tst, tst_bl, e_testV, test_ok, test_exc, tru_bl, tru_int, tru_non, tru_tup, tru_lst, tru_vw, e_notT, notK_ok, notK_exc, e_and, e_or, and_t, and_f, or_t, or_f, and_exc, or_exc, e_iteV, iteV_t, iteV_f, e_andV, e_orV, andV_t, andV_f, andV_exc, orV_t, orV_f, orV_exc, e_iteS, iteS_t, iteS_f, iteS_exc, e_it, itK_ok, itK_exc, it_tup, it_ctup, it_lst, it_bor, it_vw, it_scr, it_str, e_index, index_ok, e_mut, mut_rev, e_ext, ext_own, ext_dat, e_rg, e_shl, e_pow, e_noP, e_atP, part_int, e_slc, slc_okK, e_comp, compK_ok, compK_exc, wipe_nil, wipe_cons, e_for, forK_ok, forK_exc, bindV_dat, bindV_own, bindO_some, bt_one, bt_tup, bt_ctup, bt_lst, pm_nil, pm_nil2, pm_cons, e_par2, par2_dd, par2_od, par2_do, par2_oo, e_lock, lock_own, lock_dat, lock_bor, lock_none, e_lockS, outR_nx, outR_rt, outR_exc, e_litI, e_litS, e_litB, e_litN, e_litD, e_newK, e_newT, e_nx, e_bk, e_ct, e_rtN, e_yes, e_app, own_of, app_dat, app_own, app_exc, e_put, put_dat, put_own, putO_some, e_forget, fg_nx, fg_bk, fg_ct, fg_rt, fg_exc, List.getElem?_cons_zero, List.getElem?_cons_succ, List.set_cons_zero, List.set_cons_succ, List.length_cons, List.length_nil, Nat.reduceAdd, Nat.reduceLT, Bool.not_true, Bool.not_false, e_chn, chn_ok, chnV_t, chnV_f, e_lstB, e_tupB, dats_nil, dats_cons, datsO_some, lstK_ok, tupK_ok, len_tup, len_lst, len_vw, len_bor, len_scr, len_S, neg_i, not_bl, tupF_lst, tupF_tup, tupF_vw, tupF_bor, lstF_tup, lstF_lst, int_i, int_bl, is_t, isn_t, is_n, isn_n, eq_bl, ne_bl, isi_bl, add_ii, sub_ii, lt_ii, gt_ii, le_ii, ge_ii, eq_ii, ne_ii, min_ii, max_ii, and_ii, slc_tup, slc_l, slc_vw, slc_bor, back_tup, back_lst, app_l, app_m, Nat.reduceLeDiff, Int.cast_ofNat_Int, Int.natCast_zero, Int.natCast_one, Int.reduceEq, eq_self, Int.reduceLE, Int.reduceLT, Int.reduceNeg, Int.reduceToNat, Int.toNat_natCast, Int.reduceAdd, Int.reduceSub, Int.reduceMul, Nat.reduceMul, Nat.reduceSub, decide_true, decide_false, Bool.true_and, Bool.false_and, Bool.and_true, Bool.true_or, Bool.false_or, Bool.or_false, not_true_eq_false, not_false_eq_true, if_true, if_false, Bool.false_eq_true, reduceCtorEq, c_law_cell, hc, c_law_numbers, hn, i12, m8, c1, s13, d8, m7, c_law_chain, hw]
  · obtain ⟨m, tw, m0, m1⟩ : ∃ m : Int, idxB (.dat (.lst [.int 6, .int 8])) (.dat (.int (if decide (x % 8 = 2) = true then 1 else 0))) = .ok (.dat (.int m)) ∧ 0 < m ∧ m ≤ 8 := by
      cases decide (x % 8 = 2) with
      | true => exact ⟨8, idx_lst rfl, by decide, by decide⟩
      | false => exact ⟨6, idx_lst rfl, by decide, by decide⟩
    obtain ⟨top, ps, ts, h, _, hw⟩ := web_spec sc 1 m (by decide) (by decide) m0 m1
    refine ⟨top, ps, ts, h, ?_⟩
    rw [d_law_drawn_v2 (by rfl)]
    simp only [B_law_drawn_v2, e_try, tryK_nx, tryK_rt, tryK_bk, tryK_ct, tryK_exc, tryK_pass, hdl_none, hdl_some, leaveN_nx, leaveN_rt, leaveN_ct, leaveN_bk, leaveS_nx, leaveS_rt, leaveS_ct, leaveS_bk, noErr_nil, noErr_cons, noErrO_none, noErrO_dat, noErrO_own, noErrO_bor, noErrO_scr, noErrB_dat, noErrB_own, errI_t, errI_f, errV_t, errT_t, errT_f, e_rz, retB_err, look_err, rd_err, arg_err, set_err, e_count, drop_any, e_seq, sq_nx, sq_rt, sq_bk, sq_ct, sq_exc, e_then, then_ok, then_exc, set_dat, set_own, set_bor, set_scr, setL_dat, setL_own, setL_bor, ret_dat, ret_own, rd_dat, rd_own, rd_vw, rd_bor, rd_scr, frz_l, frz_k, frz_t, e_var, look_dat, look_own, look_bor, look_scr, e_retN, lookN_dat, lookN_own, e_bin2, bin2_ok, bin2_exc, bin2_exc2, e_one1, one1_ok, one1_exc, e_cons, cons_okK, cons_exc, cons_exc2, e_nil, e_call, bnd_ok, bnd_exc, e_own, arg_dat, arg_vw, arg_bor, arg_scr, retB_dat, retB_own, e_tst, tst_bl, e_testV, test_ok, test_exc, tru_bl, tru_int, tru_non, tru_tup, tru_lst, tru_vw, e_notT, notK_ok, notK_exc, e_and, e_or, and_t, and_f, or_t, or_f, and_exc, or_exc, e_iteV, iteV_t, iteV_f, e_andV, e_orV, andV_t, andV_f, andV_exc, orV_t, orV_f, orV_exc, e_iteS, iteS_t, iteS_f, iteS_exc, e_it, itK_ok, itK_exc, it_tup, it_ctup, it_lst, it_bor, it_vw, it_scr, it_str, e_index, index_ok, e_mut, mut_rev, e_ext, ext_own, ext_dat, e_rg, e_shl, e_pow, e_noP, e_atP, part_int, e_slc, slc_okK, e_comp, compK_ok, compK_exc, wipe_nil, wipe_cons, e_for, forK_ok, forK_exc, bindV_dat, bindV_own, bindO_some, bt_one, bt_tup, bt_ctup, bt_lst, pm_nil, pm_nil2, pm_cons, e_par2, par2_dd, par2_od, par2_do, par2_oo, e_lock, lock_own, lock_dat, lock_bor, lock_none, e_lockS, outR_nx, outR_rt, outR_exc, e_litI, e_litS, e_litB, e_litN, e_litD, e_newK, e_newT, e_nx, e_bk, e_ct, e_rtN, e_yes, e_app, own_of, app_dat, app_own, app_exc, e_put, put_dat, put_own, putO_some, e_forget, fg_nx, fg_bk, fg_ct, fg_rt, fg_exc, List.getElem?_cons_zero, List.getElem?_cons_succ, List.set_cons_zero, List.set_cons_succ, List.length_cons, List.length_nil, Nat.reduceAdd, Nat.reduceLT, Bool.not_true, Bool.not_false, e_chn, chn_ok, chnV_t, chnV_f, e_lstB, e_tupB, dats_nil, dats_cons, datsO_some, lstK_ok, tupK_ok, len_tup, len_lst, len_vw, len_bor, len_scr, len_S, neg_i, not_bl, tupF_lst, tupF_tup, tupF_vw, tupF_bor, lstF_tup, lstF_lst, int_i, int_bl, is_t, isn_t, is_n, isn_n, eq_bl, ne_bl, isi_bl, add_ii, sub_ii, lt_ii, gt_ii, le_ii, ge_ii, eq_ii, ne_ii, min_ii, max_ii, and_ii, slc_tup, slc_l, slc_vw, slc_bor, back_tup, back_lst, app_l, app_m, Nat.reduceLeDiff, Int.cast_ofNat_Int, Int.natCast_zero, Int.natCast_one, Int.reduceEq, eq_self, Int.reduceLE, Int.reduceLT, Int.reduceNeg, Int.reduceToNat, Int.toNat_natCast, Int.reduceAdd, Int.reduceSub, Int.reduceMul, Nat.reduceMul, Nat.reduceSub, decide_true, decide_false, Bool.true_and, Bool.false_and, Bool.and_true, Bool.true_or, Bool.false_or, Bool.or_false, not_true_eq_false, not_false_eq_true, if_true, if_false, Bool.false_eq_true, reduceCtorEq, c_law_cell, hc, c_law_numbers, hn, i12, m8, c1, tw, c_law_web, hw]
end P
namespace P
open PySem PySem.Spec PyProof.Rows L2 Fn
/-! ### names_of -/
theorem idx_w0 {top : Int} {ps : List Plc} {ts : List Tie} : idxB (.dat (webD top ps ts)) (.dat (.int 0)) = .ok (.dat (.int top)) := idx_tup rfl
theorem idx_w1 {top : Int} {ps : List Plc} {ts : List Tie} : idxB (.dat (webD top ps ts)) (.dat (.int 1)) = .ok (.dat (.tup (ps.map plD))) := idx_tup rfl
theorem idx_w2 {top : Int} {ps : List Plc} {ts : List Tie} : idxB (.dat (webD top ps ts)) (.dat (.int 2)) = .ok (.dat (.tup (ts.map tiD))) := idx_tup rfl
theorem comp_names {ρ : Fn.Env} {ps : List Plc} (hl : ps.length ≤ 8) (hi : 1 < ρ.length) : compD (.one 1) yesF (bin2 idxB (varB 1) (litI 0)) ρ (ps.map plD) = .ok (.own (.l (txs (ps.map Plc.n)))) := by
  rw [compD_all (h := fun p : Plc => D.str p.n) (le_sz (by omega)) (by
    intro p _
    have e1 : (ρ.set 1 (some (B.dat (plD p))))[1]? = some (some (.dat (plD p))) := List.getElem?_set_self hi
    have j0 : idxB (.dat (plD p)) (.dat (.int 0)) = .ok (.dat (.str p.n)) := idx_tup rfl
    simp only [e_try, tryK_nx, tryK_rt, tryK_bk, tryK_ct, tryK_exc, tryK_pass, hdl_none, hdl_some, leaveN_nx, leaveN_rt, leaveN_ct, leaveN_bk, leaveS_nx, leaveS_rt, leaveS_ct, leaveS_bk, noErr_nil, noErr_cons, noErrO_none, noErrO_dat, noErrO_own, noErrO_bor, noErrO_scr, noErrB_dat, noErrB_own, errI_t, errI_f, errV_t, errT_t, errT_f, e_rz, retB_err, look_err, rd_err, arg_err, set_err, e_count, drop_any, e_seq, sq_nx, sq_rt, sq_bk, sq_ct, sq_exc, e_then, then_ok, then_exc, set_dat, set_own, set_bor, set_scr, setL_dat, setL_own, setL_bor, ret_dat, ret_own, rd_dat, rd_own, rd_vw, rd_bor, rd_scr, frz_l, frz_k, frz_t, e_var, look_dat, look_own, look_bor, look_scr, e_retN, lookN_dat, lookN_own, e_bin2, bin2_ok, bin2_exc, bin2_exc2, e_one1, one1_ok, one1_exc, e_cons, cons_okK, cons_exc, cons_exc2, e_nil, e_call, bnd_ok, bnd_exc, e_own, arg_dat, arg_vw, arg_bor, arg_scr, retB_dat, retB_own, e_tst, tst_bl, e_testV, test_ok, test_exc, tru_bl, tru_int, tru_non, tru_tup, tru_lst, tru_vw, e_notT, notK_ok, notK_exc, e_and, e_or, and_t, and_f, or_t, or_f, and_exc, or_exc, e_iteV, iteV_t, iteV_f, e_andV, e_orV, andV_t, andV_f, andV_exc, orV_t, orV_f, orV_exc, e_iteS, iteS_t, iteS_f, iteS_exc, e_it, itK_ok, itK_exc, it_tup, it_ctup, it_lst, it_bor, it_vw, it_scr, it_str, e_index, index_ok, e_mut, mut_rev, e_ext, ext_own, ext_dat, e_rg, e_shl, e_pow, e_noP, e_atP, part_int, e_slc, slc_okK, e_comp, compK_ok, compK_exc, wipe_nil, wipe_cons, e_for, forK_ok, forK_exc, bindV_dat, bindV_own, bindO_some, bt_one, bt_tup, bt_ctup, bt_lst, pm_nil, pm_nil2, pm_cons, e_par2, par2_dd, par2_od, par2_do, par2_oo, e_lock, lock_own, lock_dat, lock_bor, lock_none, e_lockS, outR_nx, outR_rt, outR_exc, e_litI, e_litS, e_litB, e_litN, e_litD, e_newK, e_newT, e_nx, e_bk, e_ct, e_rtN, e_yes, e_app, own_of, app_dat, app_own, app_exc, e_put, put_dat, put_own, putO_some, e_forget, fg_nx, fg_bk, fg_ct, fg_rt, fg_exc, List.getElem?_cons_zero, List.getElem?_cons_succ, List.set_cons_zero, List.set_cons_succ, List.length_cons, List.length_nil, Nat.reduceAdd, Nat.reduceLT, Bool.not_true, Bool.not_false, e_chn, chn_ok, chnV_t, chnV_f, e_lstB, e_tupB, dats_nil, dats_cons, datsO_some, lstK_ok, tupK_ok, len_tup, len_lst, len_vw, len_bor, len_scr, len_S, neg_i, not_bl, tupF_lst, tupF_tup, tupF_vw, tupF_bor, lstF_tup, lstF_lst, int_i, int_bl, is_t, isn_t, is_n, isn_n, eq_bl, ne_bl, isi_bl, add_ii, sub_ii, lt_ii, gt_ii, le_ii, ge_ii, eq_ii, ne_ii, min_ii, max_ii, and_ii, slc_tup, slc_l, slc_vw, slc_bor, back_tup, back_lst, app_l, app_m, Nat.reduceLeDiff, Int.cast_ofNat_Int, Int.natCast_zero, Int.natCast_one, Int.reduceEq, eq_self, Int.reduceLE, Int.reduceLT, Int.reduceNeg, Int.reduceToNat, Int.toNat_natCast, Int.reduceAdd, Int.reduceSub, Int.reduceMul, Nat.reduceMul, Nat.reduceSub, decide_true, decide_false, Bool.true_and, Bool.false_and, Bool.and_true, Bool.true_or, Bool.false_or, Bool.or_false, not_true_eq_false, not_false_eq_true, if_true, if_false, Bool.false_eq_true, reduceCtorEq, mapC_nil, mapC_cons, consC_ok, e_step, stepK_some, stepV_t, stepV_f, datR_dat, datR_own, loop_nil, lk_nx, lk_ct, lk_bk, lk_rt, lk_exc, Option.toList, List.nil_append, List.cons_append, e1, j0])]
  rw [txs, List.map_map]
  rfl
theorem names_of_spec {top : Int} {ps : List Plc} {ts : List Tie} (hl : ps.length ≤ 8) : E_names_of.F [.dat (webD top ps ts)] = .ok (.dat (.tup (txs (ps.map Plc.n)))) := by
  rw [d_names_of (by rfl)]
  have c := comp_names (ρ := [some (.dat (webD top ps ts)), none]) hl (by show 1 < 2; decide)
  simp only [B_names_of, e_try, tryK_nx, tryK_rt, tryK_bk, tryK_ct, tryK_exc, tryK_pass, hdl_none, hdl_some, leaveN_nx, leaveN_rt, leaveN_ct, leaveN_bk, leaveS_nx, leaveS_rt, leaveS_ct, leaveS_bk, noErr_nil, noErr_cons, noErrO_none, noErrO_dat, noErrO_own, noErrO_bor, noErrO_scr, noErrB_dat, noErrB_own, errI_t, errI_f, errV_t, errT_t, errT_f, e_rz, retB_err, look_err, rd_err, arg_err, set_err, e_count, drop_any, e_seq, sq_nx, sq_rt, sq_bk, sq_ct, sq_exc, e_then, then_ok, then_exc, set_dat, set_own, set_bor, set_scr, setL_dat, setL_own, setL_bor, ret_dat, ret_own, rd_dat, rd_own, rd_vw, rd_bor, rd_scr, frz_l, frz_k, frz_t, e_var, look_dat, look_own, look_bor, look_scr, e_retN, lookN_dat, lookN_own, e_bin2, bin2_ok, bin2_exc, bin2_exc2, e_one1, one1_ok, one1_exc, e_cons, cons_okK, cons_exc, cons_exc2, e_nil, e_call, bnd_ok, bnd_exc, e_own, arg_dat, arg_vw, arg_bor, arg_scr, retB_dat, retB_own, e_tst, tst_bl, e_testV, test_ok, test_exc, tru_bl, tru_int, tru_non, tru_tup, tru_lst, tru_vw, e_notT, notK_ok, notK_exc, e_and, e_or, and_t, and_f, or_t, or_f, and_exc, or_exc, e_iteV, iteV_t, iteV_f, e_andV, e_orV, andV_t, andV_f, andV_exc, orV_t, orV_f, orV_exc, e_iteS, iteS_t, iteS_f, iteS_exc, e_it, itK_ok, itK_exc, it_tup, it_ctup, it_lst, it_bor, it_vw, it_scr, it_str, e_index, index_ok, e_mut, mut_rev, e_ext, ext_own, ext_dat, e_rg, e_shl, e_pow, e_noP, e_atP, part_int, e_slc, slc_okK, e_comp, compK_ok, compK_exc, wipe_nil, wipe_cons, e_for, forK_ok, forK_exc, bindV_dat, bindV_own, bindO_some, bt_one, bt_tup, bt_ctup, bt_lst, pm_nil, pm_nil2, pm_cons, e_par2, par2_dd, par2_od, par2_do, par2_oo, e_lock, lock_own, lock_dat, lock_bor, lock_none, e_lockS, outR_nx, outR_rt, outR_exc, e_litI, e_litS, e_litB, e_litN, e_litD, e_newK, e_newT, e_nx, e_bk, e_ct, e_rtN, e_yes, e_app, own_of, app_dat, app_own, app_exc, e_put, put_dat, put_own, putO_some, e_forget, fg_nx, fg_bk, fg_ct, fg_rt, fg_exc, List.getElem?_cons_zero, List.getElem?_cons_succ, List.set_cons_zero, List.set_cons_succ, List.length_cons, List.length_nil, Nat.reduceAdd, Nat.reduceLT, Bool.not_true, Bool.not_false, e_chn, chn_ok, chnV_t, chnV_f, e_lstB, e_tupB, dats_nil, dats_cons, datsO_some, lstK_ok, tupK_ok, len_tup, len_lst, len_vw, len_bor, len_scr, len_S, neg_i, not_bl, tupF_lst, tupF_tup, tupF_vw, tupF_bor, lstF_tup, lstF_lst, int_i, int_bl, is_t, isn_t, is_n, isn_n, eq_bl, ne_bl, isi_bl, add_ii, sub_ii, lt_ii, gt_ii, le_ii, ge_ii, eq_ii, ne_ii, min_ii, max_ii, and_ii, slc_tup, slc_l, slc_vw, slc_bor, back_tup, back_lst, app_l, app_m, Nat.reduceLeDiff, Int.cast_ofNat_Int, Int.natCast_zero, Int.natCast_one, Int.reduceEq, eq_self, Int.reduceLE, Int.reduceLT, Int.reduceNeg, Int.reduceToNat, Int.toNat_natCast, Int.reduceAdd, Int.reduceSub, Int.reduceMul, Nat.reduceMul, Nat.reduceSub, decide_true, decide_false, Bool.true_and, Bool.false_and, Bool.and_true, Bool.true_or, Bool.false_or, Bool.or_false, not_true_eq_false, not_false_eq_true, if_true, if_false, Bool.false_eq_true, reduceCtorEq, idx_w1, c]
end P
namespace P
open PySem PySem.Spec PyProof.Rows L2 Fn
/-! ### shared_part, fraction, is_fraction -/
theorem gcd_loop (r0 r1 : Option B) : ∀ (b a : Nat), whileC B_shared_part_1 B_shared_part_2 [r0, r1, some (.dat (.int (a : Int))), some (.dat (.int (b : Int)))] = .nx [r0, r1, some (.dat (.int (Nat.gcd a b : Nat))), some (.dat (.int 0))] := by
  intro b
  induction b using Nat.strongRecOn with
  | ind b ih =>
    intro a
    by_cases hb : b = 0
    · subst hb
      rw [Nat.gcd_zero_right]
      exact whileC_stop (by simp (decide := true) only [B_shared_part_1, e_try, tryK_nx, tryK_rt, tryK_bk, tryK_ct, tryK_exc, tryK_pass, hdl_none, hdl_some, leaveN_nx, leaveN_rt, leaveN_ct, leaveN_bk, leaveS_nx, leaveS_rt, leaveS_ct, leaveS_bk, noErr_nil, noErr_cons, noErrO_none, noErrO_dat, noErrO_own, noErrO_bor, noErrO_scr, noErrB_dat, noErrB_own, errI_t, errI_f, errV_t, errT_t, errT_f, e_rz, retB_err, look_err, rd_err, arg_err, set_err, e_count, drop_any, e_seq, sq_nx, sq_rt, sq_bk, sq_ct, sq_exc, e_then, then_ok, then_exc, set_dat, set_own, set_bor, set_scr, setL_dat, setL_own, setL_bor, ret_dat, ret_own, rd_dat, rd_own, rd_vw, rd_bor, rd_scr, frz_l, frz_k, frz_t, e_var, look_dat, look_own, look_bor, look_scr, e_retN, lookN_dat, lookN_own, e_bin2, bin2_ok, bin2_exc, bin2_exc2, e_one1, one1_ok, one1_exc, e_cons, cons_okK, cons_exc, cons_exc2, e_nil, e_call, bnd_ok, bnd_exc, e_own, arg_dat, arg_vw, arg_bor, arg_scr, retB_dat, retB_own, e_tst, tst_bl, e_testV, test_ok, test_exc, tru_bl, tru_int, tru_non, tru_tup, tru_lst, tru_vw, e_notT, notK_ok, notK_exc, e_and, e_or, and_t, and_f, or_t, or_f, and_exc, or_exc, e_iteV, iteV_t, iteV_f, e_andV, e_orV, andV_t, andV_f, andV_exc, orV_t, orV_f, orV_exc, e_iteS, iteS_t, iteS_f, iteS_exc, e_it, itK_ok, itK_exc, it_tup, it_ctup, it_lst, it_bor, it_vw, it_scr, it_str, e_index, index_ok, e_mut, mut_rev, e_ext, ext_own, ext_dat, e_rg, e_shl, e_pow, e_noP, e_atP, part_int, e_slc, slc_okK, e_comp, compK_ok, compK_exc, wipe_nil, wipe_cons, e_for, forK_ok, forK_exc, bindV_dat, bindV_own, bindO_some, bt_one, bt_tup, bt_ctup, bt_lst, pm_nil, pm_nil2, pm_cons, e_par2, par2_dd, par2_od, par2_do, par2_oo, e_lock, lock_own, lock_dat, lock_bor, lock_none, e_lockS, outR_nx, outR_rt, outR_exc, e_litI, e_litS, e_litB, e_litN, e_litD, e_newK, e_newT, e_nx, e_bk, e_ct, e_rtN, e_yes, e_app, own_of, app_dat, app_own, app_exc, e_put, put_dat, put_own, putO_some, e_forget, fg_nx, fg_bk, fg_ct, fg_rt, fg_exc, List.getElem?_cons_zero, List.getElem?_cons_succ, List.set_cons_zero, List.set_cons_succ, List.length_cons, List.length_nil, Nat.reduceAdd, Nat.reduceLT, Bool.not_true, Bool.not_false, e_chn, chn_ok, chnV_t, chnV_f, e_lstB, e_tupB, dats_nil, dats_cons, datsO_some, lstK_ok, tupK_ok, len_tup, len_lst, len_vw, len_bor, len_scr, len_S, neg_i, not_bl, tupF_lst, tupF_tup, tupF_vw, tupF_bor, lstF_tup, lstF_lst, int_i, int_bl, is_t, isn_t, is_n, isn_n, eq_bl, ne_bl, isi_bl, add_ii, sub_ii, lt_ii, gt_ii, le_ii, ge_ii, eq_ii, ne_ii, min_ii, max_ii, and_ii, slc_tup, slc_l, slc_vw, slc_bor, back_tup, back_lst, app_l, app_m, Nat.reduceLeDiff, Int.cast_ofNat_Int, Int.natCast_zero, Int.natCast_one, Int.reduceEq, eq_self, Int.reduceLE, Int.reduceLT, Int.reduceNeg, Int.reduceToNat, Int.toNat_natCast, Int.reduceAdd, Int.reduceSub, Int.reduceMul, Nat.reduceMul, Nat.reduceSub, decide_true, decide_false, Bool.true_and, Bool.false_and, Bool.and_true, Bool.true_or, Bool.false_or, Bool.or_false, not_true_eq_false, not_false_eq_true, if_true, if_false, Bool.false_eq_true, reduceCtorEq])
    · have c : (0 : Int) < (b : Int) := by omega
      have h1 : B_shared_part_1 [r0, r1, some (.dat (.int (a : Int))), some (.dat (.int (b : Int)))] = .ok true := by simp only [B_shared_part_1, e_try, tryK_nx, tryK_rt, tryK_bk, tryK_ct, tryK_exc, tryK_pass, hdl_none, hdl_some, leaveN_nx, leaveN_rt, leaveN_ct, leaveN_bk, leaveS_nx, leaveS_rt, leaveS_ct, leaveS_bk, noErr_nil, noErr_cons, noErrO_none, noErrO_dat, noErrO_own, noErrO_bor, noErrO_scr, noErrB_dat, noErrB_own, errI_t, errI_f, errV_t, errT_t, errT_f, e_rz, retB_err, look_err, rd_err, arg_err, set_err, e_count, drop_any, e_seq, sq_nx, sq_rt, sq_bk, sq_ct, sq_exc, e_then, then_ok, then_exc, set_dat, set_own, set_bor, set_scr, setL_dat, setL_own, setL_bor, ret_dat, ret_own, rd_dat, rd_own, rd_vw, rd_bor, rd_scr, frz_l, frz_k, frz_t, e_var, look_dat, look_own, look_bor, look_scr, e_retN, lookN_dat, lookN_own, e_bin2, bin2_ok, bin2_exc, bin2_exc2, e_one1, one1_ok, one1_exc, e_cons, cons_okK, cons_exc, cons_exc2, e_nil, e_call, bnd_ok, bnd_exc, e_own, arg_dat, arg_vw, arg_bor, arg_scr, retB_dat, retB_own, e_tst, tst_bl, e_testV, test_ok, test_exc, tru_bl, tru_int, tru_non, tru_tup, tru_lst, tru_vw, e_notT, notK_ok, notK_exc, e_and, e_or, and_t, and_f, or_t, or_f, and_exc, or_exc, e_iteV, iteV_t, iteV_f, e_andV, e_orV, andV_t, andV_f, andV_exc, orV_t, orV_f, orV_exc, e_iteS, iteS_t, iteS_f, iteS_exc, e_it, itK_ok, itK_exc, it_tup, it_ctup, it_lst, it_bor, it_vw, it_scr, it_str, e_index, index_ok, e_mut, mut_rev, e_ext, ext_own, ext_dat, e_rg, e_shl, e_pow, e_noP, e_atP, part_int, e_slc, slc_okK, e_comp, compK_ok, compK_exc, wipe_nil, wipe_cons, e_for, forK_ok, forK_exc, bindV_dat, bindV_own, bindO_some, bt_one, bt_tup, bt_ctup, bt_lst, pm_nil, pm_nil2, pm_cons, e_par2, par2_dd, par2_od, par2_do, par2_oo, e_lock, lock_own, lock_dat, lock_bor, lock_none, e_lockS, outR_nx, outR_rt, outR_exc, e_litI, e_litS, e_litB, e_litN, e_litD, e_newK, e_newT, e_nx, e_bk, e_ct, e_rtN, e_yes, e_app, own_of, app_dat, app_own, app_exc, e_put, put_dat, put_own, putO_some, e_forget, fg_nx, fg_bk, fg_ct, fg_rt, fg_exc, List.getElem?_cons_zero, List.getElem?_cons_succ, List.set_cons_zero, List.set_cons_succ, List.length_cons, List.length_nil, Nat.reduceAdd, Nat.reduceLT, Bool.not_true, Bool.not_false, e_chn, chn_ok, chnV_t, chnV_f, e_lstB, e_tupB, dats_nil, dats_cons, datsO_some, lstK_ok, tupK_ok, len_tup, len_lst, len_vw, len_bor, len_scr, len_S, neg_i, not_bl, tupF_lst, tupF_tup, tupF_vw, tupF_bor, lstF_tup, lstF_lst, int_i, int_bl, is_t, isn_t, is_n, isn_n, eq_bl, ne_bl, isi_bl, add_ii, sub_ii, lt_ii, gt_ii, le_ii, ge_ii, eq_ii, ne_ii, min_ii, max_ii, and_ii, slc_tup, slc_l, slc_vw, slc_bor, back_tup, back_lst, app_l, app_m, Nat.reduceLeDiff, Int.cast_ofNat_Int, Int.natCast_zero, Int.natCast_one, Int.reduceEq, eq_self, Int.reduceLE, Int.reduceLT, Int.reduceNeg, Int.reduceToNat, Int.toNat_natCast, Int.reduceAdd, Int.reduceSub, Int.reduceMul, Nat.reduceMul, Nat.reduceSub, decide_true, decide_false, Bool.true_and, Bool.false_and, Bool.and_true, Bool.true_or, Bool.false_or, Bool.or_false, not_true_eq_false, not_false_eq_true, if_true, if_false, Bool.false_eq_true, reduceCtorEq, c]
      have h2 : B_shared_part_2 [r0, r1, some (.dat (.int (a : Int))), some (.dat (.int (b : Int)))] = .nx [r0, r1, some (.dat (.int (b : Int))), some (.dat (.int ((a % b : Nat) : Int)))] := by
        rw [Int.natCast_emod]
        simp only [B_shared_part_2, e_try, tryK_nx, tryK_rt, tryK_bk, tryK_ct, tryK_exc, tryK_pass, hdl_none, hdl_some, leaveN_nx, leaveN_rt, leaveN_ct, leaveN_bk, leaveS_nx, leaveS_rt, leaveS_ct, leaveS_bk, noErr_nil, noErr_cons, noErrO_none, noErrO_dat, noErrO_own, noErrO_bor, noErrO_scr, noErrB_dat, noErrB_own, errI_t, errI_f, errV_t, errT_t, errT_f, e_rz, retB_err, look_err, rd_err, arg_err, set_err, e_count, drop_any, e_seq, sq_nx, sq_rt, sq_bk, sq_ct, sq_exc, e_then, then_ok, then_exc, set_dat, set_own, set_bor, set_scr, setL_dat, setL_own, setL_bor, ret_dat, ret_own, rd_dat, rd_own, rd_vw, rd_bor, rd_scr, frz_l, frz_k, frz_t, e_var, look_dat, look_own, look_bor, look_scr, e_retN, lookN_dat, lookN_own, e_bin2, bin2_ok, bin2_exc, bin2_exc2, e_one1, one1_ok, one1_exc, e_cons, cons_okK, cons_exc, cons_exc2, e_nil, e_call, bnd_ok, bnd_exc, e_own, arg_dat, arg_vw, arg_bor, arg_scr, retB_dat, retB_own, e_tst, tst_bl, e_testV, test_ok, test_exc, tru_bl, tru_int, tru_non, tru_tup, tru_lst, tru_vw, e_notT, notK_ok, notK_exc, e_and, e_or, and_t, and_f, or_t, or_f, and_exc, or_exc, e_iteV, iteV_t, iteV_f, e_andV, e_orV, andV_t, andV_f, andV_exc, orV_t, orV_f, orV_exc, e_iteS, iteS_t, iteS_f, iteS_exc, e_it, itK_ok, itK_exc, it_tup, it_ctup, it_lst, it_bor, it_vw, it_scr, it_str, e_index, index_ok, e_mut, mut_rev, e_ext, ext_own, ext_dat, e_rg, e_shl, e_pow, e_noP, e_atP, part_int, e_slc, slc_okK, e_comp, compK_ok, compK_exc, wipe_nil, wipe_cons, e_for, forK_ok, forK_exc, bindV_dat, bindV_own, bindO_some, bt_one, bt_tup, bt_ctup, bt_lst, pm_nil, pm_nil2, pm_cons, e_par2, par2_dd, par2_od, par2_do, par2_oo, e_lock, lock_own, lock_dat, lock_bor, lock_none, e_lockS, outR_nx, outR_rt, outR_exc, e_litI, e_litS, e_litB, e_litN, e_litD, e_newK, e_newT, e_nx, e_bk, e_ct, e_rtN, e_yes, e_app, own_of, app_dat, app_own, app_exc, e_put, put_dat, put_own, putO_some, e_forget, fg_nx, fg_bk, fg_ct, fg_rt, fg_exc, List.getElem?_cons_zero, List.getElem?_cons_succ, List.set_cons_zero, List.set_cons_succ, List.length_cons, List.length_nil, Nat.reduceAdd, Nat.reduceLT, Bool.not_true, Bool.not_false, e_chn, chn_ok, chnV_t, chnV_f, e_lstB, e_tupB, dats_nil, dats_cons, datsO_some, lstK_ok, tupK_ok, len_tup, len_lst, len_vw, len_bor, len_scr, len_S, neg_i, not_bl, tupF_lst, tupF_tup, tupF_vw, tupF_bor, lstF_tup, lstF_lst, int_i, int_bl, is_t, isn_t, is_n, isn_n, eq_bl, ne_bl, isi_bl, add_ii, sub_ii, lt_ii, gt_ii, le_ii, ge_ii, eq_ii, ne_ii, min_ii, max_ii, and_ii, slc_tup, slc_l, slc_vw, slc_bor, back_tup, back_lst, app_l, app_m, Nat.reduceLeDiff, Int.cast_ofNat_Int, Int.natCast_zero, Int.natCast_one, Int.reduceEq, eq_self, Int.reduceLE, Int.reduceLT, Int.reduceNeg, Int.reduceToNat, Int.toNat_natCast, Int.reduceAdd, Int.reduceSub, Int.reduceMul, Nat.reduceMul, Nat.reduceSub, decide_true, decide_false, Bool.true_and, Bool.false_and, Bool.and_true, Bool.true_or, Bool.false_or, Bool.or_false, not_true_eq_false, not_false_eq_true, if_true, if_false, Bool.false_eq_true, reduceCtorEq, mod_pos c]
      rw [whileC_nx h1 h2, ih (a % b) (Nat.mod_lt _ (by omega)) b]
      rw [Nat.gcd_comm b, ← Nat.gcd_rec, Nat.gcd_comm b a]
theorem shared_spec (a b : Int) : E_shared_part.F [.dat (.int a), .dat (.int b)] = .ok (.dat (.int (Int.gcd a b : Nat))) := by
  rw [d_shared_part (by rfl)]
  have lp := gcd_loop (some (.dat (.int a))) (some (.dat (.int b))) b.natAbs a.natAbs
  simp only [B_shared_part, e_try, tryK_nx, tryK_rt, tryK_bk, tryK_ct, tryK_exc, tryK_pass, hdl_none, hdl_some, leaveN_nx, leaveN_rt, leaveN_ct, leaveN_bk, leaveS_nx, leaveS_rt, leaveS_ct, leaveS_bk, noErr_nil, noErr_cons, noErrO_none, noErrO_dat, noErrO_own, noErrO_bor, noErrO_scr, noErrB_dat, noErrB_own, errI_t, errI_f, errV_t, errT_t, errT_f, e_rz, retB_err, look_err, rd_err, arg_err, set_err, e_count, drop_any, e_seq, sq_nx, sq_rt, sq_bk, sq_ct, sq_exc, e_then, then_ok, then_exc, set_dat, set_own, set_bor, set_scr, setL_dat, setL_own, setL_bor, ret_dat, ret_own, rd_dat, rd_own, rd_vw, rd_bor, rd_scr, frz_l, frz_k, frz_t, e_var, look_dat, look_own, look_bor, look_scr, e_retN, lookN_dat, lookN_own, e_bin2, bin2_ok, bin2_exc, bin2_exc2, e_one1, one1_ok, one1_exc, e_cons, cons_okK, cons_exc, cons_exc2, e_nil, e_call, bnd_ok, bnd_exc, e_own, arg_dat, arg_vw, arg_bor, arg_scr, retB_dat, retB_own, e_tst, tst_bl, e_testV, test_ok, test_exc, tru_bl, tru_int, tru_non, tru_tup, tru_lst, tru_vw, e_notT, notK_ok, notK_exc, e_and, e_or, and_t, and_f, or_t, or_f, and_exc, or_exc, e_iteV, iteV_t, iteV_f, e_andV, e_orV, andV_t, andV_f, andV_exc, orV_t, orV_f, orV_exc, e_iteS, iteS_t, iteS_f, iteS_exc, e_it, itK_ok, itK_exc, it_tup, it_ctup, it_lst, it_bor, it_vw, it_scr, it_str, e_index, index_ok, e_mut, mut_rev, e_ext, ext_own, ext_dat, e_rg, e_shl, e_pow, e_noP, e_atP, part_int, e_slc, slc_okK, e_comp, compK_ok, compK_exc, wipe_nil, wipe_cons, e_for, forK_ok, forK_exc, bindV_dat, bindV_own, bindO_some, bt_one, bt_tup, bt_ctup, bt_lst, pm_nil, pm_nil2, pm_cons, e_par2, par2_dd, par2_od, par2_do, par2_oo, e_lock, lock_own, lock_dat, lock_bor, lock_none, e_lockS, outR_nx, outR_rt, outR_exc, e_litI, e_litS, e_litB, e_litN, e_litD, e_newK, e_newT, e_nx, e_bk, e_ct, e_rtN, e_yes, e_app, own_of, app_dat, app_own, app_exc, e_put, put_dat, put_own, putO_some, e_forget, fg_nx, fg_bk, fg_ct, fg_rt, fg_exc, List.getElem?_cons_zero, List.getElem?_cons_succ, List.set_cons_zero, List.set_cons_succ, List.length_cons, List.length_nil, Nat.reduceAdd, Nat.reduceLT, Bool.not_true, Bool.not_false, e_chn, chn_ok, chnV_t, chnV_f, e_lstB, e_tupB, dats_nil, dats_cons, datsO_some, lstK_ok, tupK_ok, len_tup, len_lst, len_vw, len_bor, len_scr, len_S, neg_i, not_bl, tupF_lst, tupF_tup, tupF_vw, tupF_bor, lstF_tup, lstF_lst, int_i, int_bl, is_t, isn_t, is_n, isn_n, eq_bl, ne_bl, isi_bl, add_ii, sub_ii, lt_ii, gt_ii, le_ii, ge_ii, eq_ii, ne_ii, min_ii, max_ii, and_ii, slc_tup, slc_l, slc_vw, slc_bor, back_tup, back_lst, app_l, app_m, Nat.reduceLeDiff, Int.cast_ofNat_Int, Int.natCast_zero, Int.natCast_one, Int.reduceEq, eq_self, Int.reduceLE, Int.reduceLT, Int.reduceNeg, Int.reduceToNat, Int.toNat_natCast, Int.reduceAdd, Int.reduceSub, Int.reduceMul, Nat.reduceMul, Nat.reduceSub, decide_true, decide_false, Bool.true_and, Bool.false_and, Bool.and_true, Bool.true_or, Bool.false_or, Bool.or_false, not_true_eq_false, not_false_eq_true, if_true, if_false, Bool.false_eq_true, reduceCtorEq, abs_i, lp]
  rfl
theorem fraction_spec (t b : Int) (hb : b ≠ 0) (hz : b.natAbs < 2 ^ 8000) : E_fraction.F [.dat (.int t), .dat (.int b)] = .ok (.dat (frD (Rat.divInt t b))) := by
  rw [d_fraction (by rfl)]
  obtain ⟨g1, g2⟩ := gcd_small (t := t) hb hz
  obtain ⟨f1, f2⟩ := fr_low (t := t) hb
  have d1 := div_f (t := t) g1 g2
  have d2 := div_f (t := b) g1 g2
  rw [f1] at d1
  rw [f2] at d2
  by_cases c : b < 0
  · rw [if_pos c, show -((Int.gcd t b : Nat) : Int) = 0 - ((Int.gcd t b : Nat) : Int) by omega] at d1 d2
    simp only [B_fraction, e_try, tryK_nx, tryK_rt, tryK_bk, tryK_ct, tryK_exc, tryK_pass, hdl_none, hdl_some, leaveN_nx, leaveN_rt, leaveN_ct, leaveN_bk, leaveS_nx, leaveS_rt, leaveS_ct, leaveS_bk, noErr_nil, noErr_cons, noErrO_none, noErrO_dat, noErrO_own, noErrO_bor, noErrO_scr, noErrB_dat, noErrB_own, errI_t, errI_f, errV_t, errT_t, errT_f, e_rz, retB_err, look_err, rd_err, arg_err, set_err, e_count, drop_any, e_seq, sq_nx, sq_rt, sq_bk, sq_ct, sq_exc, e_then, then_ok, then_exc, set_dat, set_own, set_bor, set_scr, setL_dat, setL_own, setL_bor, ret_dat, ret_own, rd_dat, rd_own, rd_vw, rd_bor, rd_scr, frz_l, frz_k, frz_t, e_var, look_dat, look_own, look_bor, look_scr, e_retN, lookN_dat, lookN_own, e_bin2, bin2_ok, bin2_exc, bin2_exc2, e_one1, one1_ok, one1_exc, e_cons, cons_okK, cons_exc, cons_exc2, e_nil, e_call, bnd_ok, bnd_exc, e_own, arg_dat, arg_vw, arg_bor, arg_scr, retB_dat, retB_own, e_tst, tst_bl, e_testV, test_ok, test_exc, tru_bl, tru_int, tru_non, tru_tup, tru_lst, tru_vw, e_notT, notK_ok, notK_exc, e_and, e_or, and_t, and_f, or_t, or_f, and_exc, or_exc, e_iteV, iteV_t, iteV_f, e_andV, e_orV, andV_t, andV_f, andV_exc, orV_t, orV_f, orV_exc, e_iteS, iteS_t, iteS_f, iteS_exc, e_it, itK_ok, itK_exc, it_tup, it_ctup, it_lst, it_bor, it_vw, it_scr, it_str, e_index, index_ok, e_mut, mut_rev, e_ext, ext_own, ext_dat, e_rg, e_shl, e_pow, e_noP, e_atP, part_int, e_slc, slc_okK, e_comp, compK_ok, compK_exc, wipe_nil, wipe_cons, e_for, forK_ok, forK_exc, bindV_dat, bindV_own, bindO_some, bt_one, bt_tup, bt_ctup, bt_lst, pm_nil, pm_nil2, pm_cons, e_par2, par2_dd, par2_od, par2_do, par2_oo, e_lock, lock_own, lock_dat, lock_bor, lock_none, e_lockS, outR_nx, outR_rt, outR_exc, e_litI, e_litS, e_litB, e_litN, e_litD, e_newK, e_newT, e_nx, e_bk, e_ct, e_rtN, e_yes, e_app, own_of, app_dat, app_own, app_exc, e_put, put_dat, put_own, putO_some, e_forget, fg_nx, fg_bk, fg_ct, fg_rt, fg_exc, List.getElem?_cons_zero, List.getElem?_cons_succ, List.set_cons_zero, List.set_cons_succ, List.length_cons, List.length_nil, Nat.reduceAdd, Nat.reduceLT, Bool.not_true, Bool.not_false, e_chn, chn_ok, chnV_t, chnV_f, e_lstB, e_tupB, dats_nil, dats_cons, datsO_some, lstK_ok, tupK_ok, len_tup, len_lst, len_vw, len_bor, len_scr, len_S, neg_i, not_bl, tupF_lst, tupF_tup, tupF_vw, tupF_bor, lstF_tup, lstF_lst, int_i, int_bl, is_t, isn_t, is_n, isn_n, eq_bl, ne_bl, isi_bl, add_ii, sub_ii, lt_ii, gt_ii, le_ii, ge_ii, eq_ii, ne_ii, min_ii, max_ii, and_ii, slc_tup, slc_l, slc_vw, slc_bor, back_tup, back_lst, app_l, app_m, Nat.reduceLeDiff, Int.cast_ofNat_Int, Int.natCast_zero, Int.natCast_one, Int.reduceEq, eq_self, Int.reduceLE, Int.reduceLT, Int.reduceNeg, Int.reduceToNat, Int.toNat_natCast, Int.reduceAdd, Int.reduceSub, Int.reduceMul, Nat.reduceMul, Nat.reduceSub, decide_true, decide_false, Bool.true_and, Bool.false_and, Bool.and_true, Bool.true_or, Bool.false_or, Bool.or_false, not_true_eq_false, not_false_eq_true, if_true, if_false, Bool.false_eq_true, reduceCtorEq, hb, c_shared_part, shared_spec, c, d1, d2]
    rfl
  · rw [if_neg c] at d1 d2
    simp only [B_fraction, e_try, tryK_nx, tryK_rt, tryK_bk, tryK_ct, tryK_exc, tryK_pass, hdl_none, hdl_some, leaveN_nx, leaveN_rt, leaveN_ct, leaveN_bk, leaveS_nx, leaveS_rt, leaveS_ct, leaveS_bk, noErr_nil, noErr_cons, noErrO_none, noErrO_dat, noErrO_own, noErrO_bor, noErrO_scr, noErrB_dat, noErrB_own, errI_t, errI_f, errV_t, errT_t, errT_f, e_rz, retB_err, look_err, rd_err, arg_err, set_err, e_count, drop_any, e_seq, sq_nx, sq_rt, sq_bk, sq_ct, sq_exc, e_then, then_ok, then_exc, set_dat, set_own, set_bor, set_scr, setL_dat, setL_own, setL_bor, ret_dat, ret_own, rd_dat, rd_own, rd_vw, rd_bor, rd_scr, frz_l, frz_k, frz_t, e_var, look_dat, look_own, look_bor, look_scr, e_retN, lookN_dat, lookN_own, e_bin2, bin2_ok, bin2_exc, bin2_exc2, e_one1, one1_ok, one1_exc, e_cons, cons_okK, cons_exc, cons_exc2, e_nil, e_call, bnd_ok, bnd_exc, e_own, arg_dat, arg_vw, arg_bor, arg_scr, retB_dat, retB_own, e_tst, tst_bl, e_testV, test_ok, test_exc, tru_bl, tru_int, tru_non, tru_tup, tru_lst, tru_vw, e_notT, notK_ok, notK_exc, e_and, e_or, and_t, and_f, or_t, or_f, and_exc, or_exc, e_iteV, iteV_t, iteV_f, e_andV, e_orV, andV_t, andV_f, andV_exc, orV_t, orV_f, orV_exc, e_iteS, iteS_t, iteS_f, iteS_exc, e_it, itK_ok, itK_exc, it_tup, it_ctup, it_lst, it_bor, it_vw, it_scr, it_str, e_index, index_ok, e_mut, mut_rev, e_ext, ext_own, ext_dat, e_rg, e_shl, e_pow, e_noP, e_atP, part_int, e_slc, slc_okK, e_comp, compK_ok, compK_exc, wipe_nil, wipe_cons, e_for, forK_ok, forK_exc, bindV_dat, bindV_own, bindO_some, bt_one, bt_tup, bt_ctup, bt_lst, pm_nil, pm_nil2, pm_cons, e_par2, par2_dd, par2_od, par2_do, par2_oo, e_lock, lock_own, lock_dat, lock_bor, lock_none, e_lockS, outR_nx, outR_rt, outR_exc, e_litI, e_litS, e_litB, e_litN, e_litD, e_newK, e_newT, e_nx, e_bk, e_ct, e_rtN, e_yes, e_app, own_of, app_dat, app_own, app_exc, e_put, put_dat, put_own, putO_some, e_forget, fg_nx, fg_bk, fg_ct, fg_rt, fg_exc, List.getElem?_cons_zero, List.getElem?_cons_succ, List.set_cons_zero, List.set_cons_succ, List.length_cons, List.length_nil, Nat.reduceAdd, Nat.reduceLT, Bool.not_true, Bool.not_false, e_chn, chn_ok, chnV_t, chnV_f, e_lstB, e_tupB, dats_nil, dats_cons, datsO_some, lstK_ok, tupK_ok, len_tup, len_lst, len_vw, len_bor, len_scr, len_S, neg_i, not_bl, tupF_lst, tupF_tup, tupF_vw, tupF_bor, lstF_tup, lstF_lst, int_i, int_bl, is_t, isn_t, is_n, isn_n, eq_bl, ne_bl, isi_bl, add_ii, sub_ii, lt_ii, gt_ii, le_ii, ge_ii, eq_ii, ne_ii, min_ii, max_ii, and_ii, slc_tup, slc_l, slc_vw, slc_bor, back_tup, back_lst, app_l, app_m, Nat.reduceLeDiff, Int.cast_ofNat_Int, Int.natCast_zero, Int.natCast_one, Int.reduceEq, eq_self, Int.reduceLE, Int.reduceLT, Int.reduceNeg, Int.reduceToNat, Int.toNat_natCast, Int.reduceAdd, Int.reduceSub, Int.reduceMul, Nat.reduceMul, Nat.reduceSub, decide_true, decide_false, Bool.true_and, Bool.false_and, Bool.and_true, Bool.true_or, Bool.false_or, Bool.or_false, not_true_eq_false, not_false_eq_true, if_true, if_false, Bool.false_eq_true, reduceCtorEq, hb, c_shared_part, shared_spec, c, d1, d2]
    rfl
/-- whether it is a fraction -/
def isFr : D → Bool
  | .tup [.int a, .int b] => decide (0 < b) && decide (Int.gcd a b = 1)
  | _ => false
theorem isFr_some {d : D} (h : isFr d = true) : ∃ q : Rat, d = frD q := by
  unfold isFr at h
  split at h
  · rename_i a b
    rw [Bool.and_eq_true, decide_eq_true_eq, decide_eq_true_eq] at h
    exact ⟨_, fr_is h.1 h.2⟩
  · cases h
theorem isFr_fr (q : Rat) : isFr (frD q) = true := by
  show (decide (0 < (q.den : Int)) && decide (Int.gcd q.num q.den = 1)) = true
  rw [fr_gcd, Bool.and_eq_true, decide_eq_true_eq, decide_eq_true_eq]
  have := q.den_pos
  omega
def isWh : D → Bool
  | .int _ => true
  | _ => false
theorem isWh_int {d : D} (h : isWh d = true) : ∃ i, d = .int i := by
  cases d <;> first | exact ⟨_, rfl⟩ | cases h
theorem whole_spec (d : D) (h : d.isF = false) : E_is_whole.F [.dat d] = .ok (.dat (.bl (isWh d))) := by
  rw [d_is_whole (by rfl)]
  cases d <;> first | (cases h; done) | rfl
theorem is_fraction_spec {n : Nat} (d : D) (f : fit n d = true) : E_is_fraction.F [.dat d] = .ok (.dat (.bl (isFr d))) := by
  rw [d_is_fraction (by rfl)]
  by_cases hs : d.isT = true
  · obtain ⟨ds, rfl⟩ := isT_tup f hs
    obtain ⟨hl, hf⟩ := fit_tup f
    by_cases h2 : (ds.length : Int) = 2
    · obtain ⟨a, b, rfl⟩ : ∃ a b, ds = [a, b] := by
        match ds, h2 with
        | [a, b], _ => exact ⟨a, b, rfl⟩
      have wa := whole_spec a (fit_noF (hf a (by simp)))
      have wb := whole_spec b (fit_noF (hf b (by simp)))
      have j0 : idxB (.dat (.tup [a, b])) (.dat (.int 0)) = .ok (.dat a) := idx_tup rfl
      have j1 : idxB (.dat (.tup [a, b])) (.dat (.int 1)) = .ok (.dat b) := idx_tup rfl
      by_cases h0 : isWh a = true
      · by_cases h1 : isWh b = true
        · obtain ⟨x, rfl⟩ := isWh_int h0
          obtain ⟨y, rfl⟩ := isWh_int h1
          have e : decide (((Int.gcd x y : Nat) : Int) = 1) = decide (Int.gcd x y = 1) := decide_eq_decide.mpr (by omega)
          by_cases hy : 0 < y
          · simp only [B_is_fraction, e_try, tryK_nx, tryK_rt, tryK_bk, tryK_ct, tryK_exc, tryK_pass, hdl_none, hdl_some, leaveN_nx, leaveN_rt, leaveN_ct, leaveN_bk, leaveS_nx, leaveS_rt, leaveS_ct, leaveS_bk, noErr_nil, noErr_cons, noErrO_none, noErrO_dat, noErrO_own, noErrO_bor, noErrO_scr, noErrB_dat, noErrB_own, errI_t, errI_f, errV_t, errT_t, errT_f, e_rz, retB_err, look_err, rd_err, arg_err, set_err, e_count, drop_any, e_seq, sq_nx, sq_rt, sq_bk, sq_ct, sq_exc, e_then, then_ok, then_exc, set_dat, set_own, set_bor, set_scr, setL_dat, setL_own, setL_bor, ret_dat, ret_own, rd_dat, rd_own, rd_vw, rd_bor, rd_scr, frz_l, frz_k, frz_t, e_var, look_dat, look_own, look_bor, look_scr, e_retN, lookN_dat, lookN_own, e_bin2, bin2_ok, bin2_exc, bin2_exc2, e_one1, one1_ok, one1_exc, e_cons, cons_okK, cons_exc, cons_exc2, e_nil, e_call, bnd_ok, bnd_exc, e_own, arg_dat, arg_vw, arg_bor, arg_scr, retB_dat, retB_own, e_tst, tst_bl, e_testV, test_ok, test_exc, tru_bl, tru_int, tru_non, tru_tup, tru_lst, tru_vw, e_notT, notK_ok, notK_exc, e_and, e_or, and_t, and_f, or_t, or_f, and_exc, or_exc, e_iteV, iteV_t, iteV_f, e_andV, e_orV, andV_t, andV_f, andV_exc, orV_t, orV_f, orV_exc, e_iteS, iteS_t, iteS_f, iteS_exc, e_it, itK_ok, itK_exc, it_tup, it_ctup, it_lst, it_bor, it_vw, it_scr, it_str, e_index, index_ok, e_mut, mut_rev, e_ext, ext_own, ext_dat, e_rg, e_shl, e_pow, e_noP, e_atP, part_int, e_slc, slc_okK, e_comp, compK_ok, compK_exc, wipe_nil, wipe_cons, e_for, forK_ok, forK_exc, bindV_dat, bindV_own, bindO_some, bt_one, bt_tup, bt_ctup, bt_lst, pm_nil, pm_nil2, pm_cons, e_par2, par2_dd, par2_od, par2_do, par2_oo, e_lock, lock_own, lock_dat, lock_bor, lock_none, e_lockS, outR_nx, outR_rt, outR_exc, e_litI, e_litS, e_litB, e_litN, e_litD, e_newK, e_newT, e_nx, e_bk, e_ct, e_rtN, e_yes, e_app, own_of, app_dat, app_own, app_exc, e_put, put_dat, put_own, putO_some, e_forget, fg_nx, fg_bk, fg_ct, fg_rt, fg_exc, List.getElem?_cons_zero, List.getElem?_cons_succ, List.set_cons_zero, List.set_cons_succ, List.length_cons, List.length_nil, Nat.reduceAdd, Nat.reduceLT, Bool.not_true, Bool.not_false, e_chn, chn_ok, chnV_t, chnV_f, e_lstB, e_tupB, dats_nil, dats_cons, datsO_some, lstK_ok, tupK_ok, len_tup, len_lst, len_vw, len_bor, len_scr, len_S, neg_i, not_bl, tupF_lst, tupF_tup, tupF_vw, tupF_bor, lstF_tup, lstF_lst, int_i, int_bl, is_t, isn_t, is_n, isn_n, eq_bl, ne_bl, isi_bl, add_ii, sub_ii, lt_ii, gt_ii, le_ii, ge_ii, eq_ii, ne_ii, min_ii, max_ii, and_ii, slc_tup, slc_l, slc_vw, slc_bor, back_tup, back_lst, app_l, app_m, Nat.reduceLeDiff, Int.cast_ofNat_Int, Int.natCast_zero, Int.natCast_one, Int.reduceEq, eq_self, Int.reduceLE, Int.reduceLT, Int.reduceNeg, Int.reduceToNat, Int.toNat_natCast, Int.reduceAdd, Int.reduceSub, Int.reduceMul, Nat.reduceMul, Nat.reduceSub, decide_true, decide_false, Bool.true_and, Bool.false_and, Bool.and_true, Bool.true_or, Bool.false_or, Bool.or_false, not_true_eq_false, not_false_eq_true, if_true, if_false, Bool.false_eq_true, reduceCtorEq, and_go, or_go, and_r, or_r, andV_go, orV_go, andV_r, orV_r, iteV_go, iteS_go, stepV_go, chnV_go, isi_tup (fit_noF f), hs, j0, j1, c_is_whole, wa, wb, h0, h1, c_shared_part, shared_spec, hy, isFr, e]
          · simp only [B_is_fraction, e_try, tryK_nx, tryK_rt, tryK_bk, tryK_ct, tryK_exc, tryK_pass, hdl_none, hdl_some, leaveN_nx, leaveN_rt, leaveN_ct, leaveN_bk, leaveS_nx, leaveS_rt, leaveS_ct, leaveS_bk, noErr_nil, noErr_cons, noErrO_none, noErrO_dat, noErrO_own, noErrO_bor, noErrO_scr, noErrB_dat, noErrB_own, errI_t, errI_f, errV_t, errT_t, errT_f, e_rz, retB_err, look_err, rd_err, arg_err, set_err, e_count, drop_any, e_seq, sq_nx, sq_rt, sq_bk, sq_ct, sq_exc, e_then, then_ok, then_exc, set_dat, set_own, set_bor, set_scr, setL_dat, setL_own, setL_bor, ret_dat, ret_own, rd_dat, rd_own, rd_vw, rd_bor, rd_scr, frz_l, frz_k, frz_t, e_var, look_dat, look_own, look_bor, look_scr, e_retN, lookN_dat, lookN_own, e_bin2, bin2_ok, bin2_exc, bin2_exc2, e_one1, one1_ok, one1_exc, e_cons, cons_okK, cons_exc, cons_exc2, e_nil, e_call, bnd_ok, bnd_exc, e_own, arg_dat, arg_vw, arg_bor, arg_scr, retB_dat, retB_own, e_tst, tst_bl, e_testV, test_ok, test_exc, tru_bl, tru_int, tru_non, tru_tup, tru_lst, tru_vw, e_notT, notK_ok, notK_exc, e_and, e_or, and_t, and_f, or_t, or_f, and_exc, or_exc, e_iteV, iteV_t, iteV_f, e_andV, e_orV, andV_t, andV_f, andV_exc, orV_t, orV_f, orV_exc, e_iteS, iteS_t, iteS_f, iteS_exc, e_it, itK_ok, itK_exc, it_tup, it_ctup, it_lst, it_bor, it_vw, it_scr, it_str, e_index, index_ok, e_mut, mut_rev, e_ext, ext_own, ext_dat, e_rg, e_shl, e_pow, e_noP, e_atP, part_int, e_slc, slc_okK, e_comp, compK_ok, compK_exc, wipe_nil, wipe_cons, e_for, forK_ok, forK_exc, bindV_dat, bindV_own, bindO_some, bt_one, bt_tup, bt_ctup, bt_lst, pm_nil, pm_nil2, pm_cons, e_par2, par2_dd, par2_od, par2_do, par2_oo, e_lock, lock_own, lock_dat, lock_bor, lock_none, e_lockS, outR_nx, outR_rt, outR_exc, e_litI, e_litS, e_litB, e_litN, e_litD, e_newK, e_newT, e_nx, e_bk, e_ct, e_rtN, e_yes, e_app, own_of, app_dat, app_own, app_exc, e_put, put_dat, put_own, putO_some, e_forget, fg_nx, fg_bk, fg_ct, fg_rt, fg_exc, List.getElem?_cons_zero, List.getElem?_cons_succ, List.set_cons_zero, List.set_cons_succ, List.length_cons, List.length_nil, Nat.reduceAdd, Nat.reduceLT, Bool.not_true, Bool.not_false, e_chn, chn_ok, chnV_t, chnV_f, e_lstB, e_tupB, dats_nil, dats_cons, datsO_some, lstK_ok, tupK_ok, len_tup, len_lst, len_vw, len_bor, len_scr, len_S, neg_i, not_bl, tupF_lst, tupF_tup, tupF_vw, tupF_bor, lstF_tup, lstF_lst, int_i, int_bl, is_t, isn_t, is_n, isn_n, eq_bl, ne_bl, isi_bl, add_ii, sub_ii, lt_ii, gt_ii, le_ii, ge_ii, eq_ii, ne_ii, min_ii, max_ii, and_ii, slc_tup, slc_l, slc_vw, slc_bor, back_tup, back_lst, app_l, app_m, Nat.reduceLeDiff, Int.cast_ofNat_Int, Int.natCast_zero, Int.natCast_one, Int.reduceEq, eq_self, Int.reduceLE, Int.reduceLT, Int.reduceNeg, Int.reduceToNat, Int.toNat_natCast, Int.reduceAdd, Int.reduceSub, Int.reduceMul, Nat.reduceMul, Nat.reduceSub, decide_true, decide_false, Bool.true_and, Bool.false_and, Bool.and_true, Bool.true_or, Bool.false_or, Bool.or_false, not_true_eq_false, not_false_eq_true, if_true, if_false, Bool.false_eq_true, reduceCtorEq, and_go, or_go, and_r, or_r, andV_go, orV_go, andV_r, orV_r, iteV_go, iteS_go, stepV_go, chnV_go, isi_tup (fit_noF f), hs, j0, j1, c_is_whole, wa, wb, h0, h1, c_shared_part, shared_spec, hy, isFr, e]
        · rw [Bool.not_eq_true] at h1
          have e : isFr (.tup [a, b]) = false := by
            unfold isFr
            split
            · rename_i h; simp only [D.tup.injEq, List.cons.injEq, and_true] at h; rw [h.2] at h1; cases h1
            · rfl
          simp only [B_is_fraction, e_try, tryK_nx, tryK_rt, tryK_bk, tryK_ct, tryK_exc, tryK_pass, hdl_none, hdl_some, leaveN_nx, leaveN_rt, leaveN_ct, leaveN_bk, leaveS_nx, leaveS_rt, leaveS_ct, leaveS_bk, noErr_nil, noErr_cons, noErrO_none, noErrO_dat, noErrO_own, noErrO_bor, noErrO_scr, noErrB_dat, noErrB_own, errI_t, errI_f, errV_t, errT_t, errT_f, e_rz, retB_err, look_err, rd_err, arg_err, set_err, e_count, drop_any, e_seq, sq_nx, sq_rt, sq_bk, sq_ct, sq_exc, e_then, then_ok, then_exc, set_dat, set_own, set_bor, set_scr, setL_dat, setL_own, setL_bor, ret_dat, ret_own, rd_dat, rd_own, rd_vw, rd_bor, rd_scr, frz_l, frz_k, frz_t, e_var, look_dat, look_own, look_bor, look_scr, e_retN, lookN_dat, lookN_own, e_bin2, bin2_ok, bin2_exc, bin2_exc2, e_one1, one1_ok, one1_exc, e_cons, cons_okK, cons_exc, cons_exc2, e_nil, e_call, bnd_ok, bnd_exc, e_own, arg_dat, arg_vw, arg_bor, arg_scr, retB_dat, retB_own, e_tst, tst_bl, e_testV, test_ok, test_exc, tru_bl, tru_int, tru_non, tru_tup, tru_lst, tru_vw, e_notT, notK_ok, notK_exc, e_and, e_or, and_t, and_f, or_t, or_f, and_exc, or_exc, e_iteV, iteV_t, iteV_f, e_andV, e_orV, andV_t, andV_f, andV_exc, orV_t, orV_f, orV_exc, e_iteS, iteS_t, iteS_f, iteS_exc, e_it, itK_ok, itK_exc, it_tup, it_ctup, it_lst, it_bor, it_vw, it_scr, it_str, e_index, index_ok, e_mut, mut_rev, e_ext, ext_own, ext_dat, e_rg, e_shl, e_pow, e_noP, e_atP, part_int, e_slc, slc_okK, e_comp, compK_ok, compK_exc, wipe_nil, wipe_cons, e_for, forK_ok, forK_exc, bindV_dat, bindV_own, bindO_some, bt_one, bt_tup, bt_ctup, bt_lst, pm_nil, pm_nil2, pm_cons, e_par2, par2_dd, par2_od, par2_do, par2_oo, e_lock, lock_own, lock_dat, lock_bor, lock_none, e_lockS, outR_nx, outR_rt, outR_exc, e_litI, e_litS, e_litB, e_litN, e_litD, e_newK, e_newT, e_nx, e_bk, e_ct, e_rtN, e_yes, e_app, own_of, app_dat, app_own, app_exc, e_put, put_dat, put_own, putO_some, e_forget, fg_nx, fg_bk, fg_ct, fg_rt, fg_exc, List.getElem?_cons_zero, List.getElem?_cons_succ, List.set_cons_zero, List.set_cons_succ, List.length_cons, List.length_nil, Nat.reduceAdd, Nat.reduceLT, Bool.not_true, Bool.not_false, e_chn, chn_ok, chnV_t, chnV_f, e_lstB, e_tupB, dats_nil, dats_cons, datsO_some, lstK_ok, tupK_ok, len_tup, len_lst, len_vw, len_bor, len_scr, len_S, neg_i, not_bl, tupF_lst, tupF_tup, tupF_vw, tupF_bor, lstF_tup, lstF_lst, int_i, int_bl, is_t, isn_t, is_n, isn_n, eq_bl, ne_bl, isi_bl, add_ii, sub_ii, lt_ii, gt_ii, le_ii, ge_ii, eq_ii, ne_ii, min_ii, max_ii, and_ii, slc_tup, slc_l, slc_vw, slc_bor, back_tup, back_lst, app_l, app_m, Nat.reduceLeDiff, Int.cast_ofNat_Int, Int.natCast_zero, Int.natCast_one, Int.reduceEq, eq_self, Int.reduceLE, Int.reduceLT, Int.reduceNeg, Int.reduceToNat, Int.toNat_natCast, Int.reduceAdd, Int.reduceSub, Int.reduceMul, Nat.reduceMul, Nat.reduceSub, decide_true, decide_false, Bool.true_and, Bool.false_and, Bool.and_true, Bool.true_or, Bool.false_or, Bool.or_false, not_true_eq_false, not_false_eq_true, if_true, if_false, Bool.false_eq_true, reduceCtorEq, isi_tup (fit_noF f), hs, j0, j1, c_is_whole, wa, wb, h0, h1, e]
      · rw [Bool.not_eq_true] at h0
        have e : isFr (.tup [a, b]) = false := by
          unfold isFr
          split
          · rename_i h; simp only [D.tup.injEq, List.cons.injEq, and_true] at h; rw [h.1] at h0; cases h0
          · rfl
        simp only [B_is_fraction, e_try, tryK_nx, tryK_rt, tryK_bk, tryK_ct, tryK_exc, tryK_pass, hdl_none, hdl_some, leaveN_nx, leaveN_rt, leaveN_ct, leaveN_bk, leaveS_nx, leaveS_rt, leaveS_ct, leaveS_bk, noErr_nil, noErr_cons, noErrO_none, noErrO_dat, noErrO_own, noErrO_bor, noErrO_scr, noErrB_dat, noErrB_own, errI_t, errI_f, errV_t, errT_t, errT_f, e_rz, retB_err, look_err, rd_err, arg_err, set_err, e_count, drop_any, e_seq, sq_nx, sq_rt, sq_bk, sq_ct, sq_exc, e_then, then_ok, then_exc, set_dat, set_own, set_bor, set_scr, setL_dat, setL_own, setL_bor, ret_dat, ret_own, rd_dat, rd_own, rd_vw, rd_bor, rd_scr, frz_l, frz_k, frz_t, e_var, look_dat, look_own, look_bor, look_scr, e_retN, lookN_dat, lookN_own, e_bin2, bin2_ok, bin2_exc, bin2_exc2, e_one1, one1_ok, one1_exc, e_cons, cons_okK, cons_exc, cons_exc2, e_nil, e_call, bnd_ok, bnd_exc, e_own, arg_dat, arg_vw, arg_bor, arg_scr, retB_dat, retB_own, e_tst, tst_bl, e_testV, test_ok, test_exc, tru_bl, tru_int, tru_non, tru_tup, tru_lst, tru_vw, e_notT, notK_ok, notK_exc, e_and, e_or, and_t, and_f, or_t, or_f, and_exc, or_exc, e_iteV, iteV_t, iteV_f, e_andV, e_orV, andV_t, andV_f, andV_exc, orV_t, orV_f, orV_exc, e_iteS, iteS_t, iteS_f, iteS_exc, e_it, itK_ok, itK_exc, it_tup, it_ctup, it_lst, it_bor, it_vw, it_scr, it_str, e_index, index_ok, e_mut, mut_rev, e_ext, ext_own, ext_dat, e_rg, e_shl, e_pow, e_noP, e_atP, part_int, e_slc, slc_okK, e_comp, compK_ok, compK_exc, wipe_nil, wipe_cons, e_for, forK_ok, forK_exc, bindV_dat, bindV_own, bindO_some, bt_one, bt_tup, bt_ctup, bt_lst, pm_nil, pm_nil2, pm_cons, e_par2, par2_dd, par2_od, par2_do, par2_oo, e_lock, lock_own, lock_dat, lock_bor, lock_none, e_lockS, outR_nx, outR_rt, outR_exc, e_litI, e_litS, e_litB, e_litN, e_litD, e_newK, e_newT, e_nx, e_bk, e_ct, e_rtN, e_yes, e_app, own_of, app_dat, app_own, app_exc, e_put, put_dat, put_own, putO_some, e_forget, fg_nx, fg_bk, fg_ct, fg_rt, fg_exc, List.getElem?_cons_zero, List.getElem?_cons_succ, List.set_cons_zero, List.set_cons_succ, List.length_cons, List.length_nil, Nat.reduceAdd, Nat.reduceLT, Bool.not_true, Bool.not_false, e_chn, chn_ok, chnV_t, chnV_f, e_lstB, e_tupB, dats_nil, dats_cons, datsO_some, lstK_ok, tupK_ok, len_tup, len_lst, len_vw, len_bor, len_scr, len_S, neg_i, not_bl, tupF_lst, tupF_tup, tupF_vw, tupF_bor, lstF_tup, lstF_lst, int_i, int_bl, is_t, isn_t, is_n, isn_n, eq_bl, ne_bl, isi_bl, add_ii, sub_ii, lt_ii, gt_ii, le_ii, ge_ii, eq_ii, ne_ii, min_ii, max_ii, and_ii, slc_tup, slc_l, slc_vw, slc_bor, back_tup, back_lst, app_l, app_m, Nat.reduceLeDiff, Int.cast_ofNat_Int, Int.natCast_zero, Int.natCast_one, Int.reduceEq, eq_self, Int.reduceLE, Int.reduceLT, Int.reduceNeg, Int.reduceToNat, Int.toNat_natCast, Int.reduceAdd, Int.reduceSub, Int.reduceMul, Nat.reduceMul, Nat.reduceSub, decide_true, decide_false, Bool.true_and, Bool.false_and, Bool.and_true, Bool.true_or, Bool.false_or, Bool.or_false, not_true_eq_false, not_false_eq_true, if_true, if_false, Bool.false_eq_true, reduceCtorEq, isi_tup (fit_noF f), hs, j0, j1, c_is_whole, wa, wb, h0, e]
    · have e : isFr (.tup ds) = false := by
        unfold isFr
        split
        · rename_i h; simp only [D.tup.injEq] at h; rw [h] at h2; exact absurd rfl h2
        · rfl
      simp only [B_is_fraction, e_try, tryK_nx, tryK_rt, tryK_bk, tryK_ct, tryK_exc, tryK_pass, hdl_none, hdl_some, leaveN_nx, leaveN_rt, leaveN_ct, leaveN_bk, leaveS_nx, leaveS_rt, leaveS_ct, leaveS_bk, noErr_nil, noErr_cons, noErrO_none, noErrO_dat, noErrO_own, noErrO_bor, noErrO_scr, noErrB_dat, noErrB_own, errI_t, errI_f, errV_t, errT_t, errT_f, e_rz, retB_err, look_err, rd_err, arg_err, set_err, e_count, drop_any, e_seq, sq_nx, sq_rt, sq_bk, sq_ct, sq_exc, e_then, then_ok, then_exc, set_dat, set_own, set_bor, set_scr, setL_dat, setL_own, setL_bor, ret_dat, ret_own, rd_dat, rd_own, rd_vw, rd_bor, rd_scr, frz_l, frz_k, frz_t, e_var, look_dat, look_own, look_bor, look_scr, e_retN, lookN_dat, lookN_own, e_bin2, bin2_ok, bin2_exc, bin2_exc2, e_one1, one1_ok, one1_exc, e_cons, cons_okK, cons_exc, cons_exc2, e_nil, e_call, bnd_ok, bnd_exc, e_own, arg_dat, arg_vw, arg_bor, arg_scr, retB_dat, retB_own, e_tst, tst_bl, e_testV, test_ok, test_exc, tru_bl, tru_int, tru_non, tru_tup, tru_lst, tru_vw, e_notT, notK_ok, notK_exc, e_and, e_or, and_t, and_f, or_t, or_f, and_exc, or_exc, e_iteV, iteV_t, iteV_f, e_andV, e_orV, andV_t, andV_f, andV_exc, orV_t, orV_f, orV_exc, e_iteS, iteS_t, iteS_f, iteS_exc, e_it, itK_ok, itK_exc, it_tup, it_ctup, it_lst, it_bor, it_vw, it_scr, it_str, e_index, index_ok, e_mut, mut_rev, e_ext, ext_own, ext_dat, e_rg, e_shl, e_pow, e_noP, e_atP, part_int, e_slc, slc_okK, e_comp, compK_ok, compK_exc, wipe_nil, wipe_cons, e_for, forK_ok, forK_exc, bindV_dat, bindV_own, bindO_some, bt_one, bt_tup, bt_ctup, bt_lst, pm_nil, pm_nil2, pm_cons, e_par2, par2_dd, par2_od, par2_do, par2_oo, e_lock, lock_own, lock_dat, lock_bor, lock_none, e_lockS, outR_nx, outR_rt, outR_exc, e_litI, e_litS, e_litB, e_litN, e_litD, e_newK, e_newT, e_nx, e_bk, e_ct, e_rtN, e_yes, e_app, own_of, app_dat, app_own, app_exc, e_put, put_dat, put_own, putO_some, e_forget, fg_nx, fg_bk, fg_ct, fg_rt, fg_exc, List.getElem?_cons_zero, List.getElem?_cons_succ, List.set_cons_zero, List.set_cons_succ, List.length_cons, List.length_nil, Nat.reduceAdd, Nat.reduceLT, Bool.not_true, Bool.not_false, e_chn, chn_ok, chnV_t, chnV_f, e_lstB, e_tupB, dats_nil, dats_cons, datsO_some, lstK_ok, tupK_ok, len_tup, len_lst, len_vw, len_bor, len_scr, len_S, neg_i, not_bl, tupF_lst, tupF_tup, tupF_vw, tupF_bor, lstF_tup, lstF_lst, int_i, int_bl, is_t, isn_t, is_n, isn_n, eq_bl, ne_bl, isi_bl, add_ii, sub_ii, lt_ii, gt_ii, le_ii, ge_ii, eq_ii, ne_ii, min_ii, max_ii, and_ii, slc_tup, slc_l, slc_vw, slc_bor, back_tup, back_lst, app_l, app_m, Nat.reduceLeDiff, Int.cast_ofNat_Int, Int.natCast_zero, Int.natCast_one, Int.reduceEq, eq_self, Int.reduceLE, Int.reduceLT, Int.reduceNeg, Int.reduceToNat, Int.toNat_natCast, Int.reduceAdd, Int.reduceSub, Int.reduceMul, Nat.reduceMul, Nat.reduceSub, decide_true, decide_false, Bool.true_and, Bool.false_and, Bool.and_true, Bool.true_or, Bool.false_or, Bool.or_false, not_true_eq_false, not_false_eq_true, if_true, if_false, Bool.false_eq_true, reduceCtorEq, isi_tup (fit_noF f), hs, h2, e]
  · rw [Bool.not_eq_true] at hs
    have e : isFr d = false := by
      unfold isFr
      split
      · cases hs
      · rfl
    simp only [B_is_fraction, e_try, tryK_nx, tryK_rt, tryK_bk, tryK_ct, tryK_exc, tryK_pass, hdl_none, hdl_some, leaveN_nx, leaveN_rt, leaveN_ct, leaveN_bk, leaveS_nx, leaveS_rt, leaveS_ct, leaveS_bk, noErr_nil, noErr_cons, noErrO_none, noErrO_dat, noErrO_own, noErrO_bor, noErrO_scr, noErrB_dat, noErrB_own, errI_t, errI_f, errV_t, errT_t, errT_f, e_rz, retB_err, look_err, rd_err, arg_err, set_err, e_count, drop_any, e_seq, sq_nx, sq_rt, sq_bk, sq_ct, sq_exc, e_then, then_ok, then_exc, set_dat, set_own, set_bor, set_scr, setL_dat, setL_own, setL_bor, ret_dat, ret_own, rd_dat, rd_own, rd_vw, rd_bor, rd_scr, frz_l, frz_k, frz_t, e_var, look_dat, look_own, look_bor, look_scr, e_retN, lookN_dat, lookN_own, e_bin2, bin2_ok, bin2_exc, bin2_exc2, e_one1, one1_ok, one1_exc, e_cons, cons_okK, cons_exc, cons_exc2, e_nil, e_call, bnd_ok, bnd_exc, e_own, arg_dat, arg_vw, arg_bor, arg_scr, retB_dat, retB_own, e_tst, tst_bl, e_testV, test_ok, test_exc, tru_bl, tru_int, tru_non, tru_tup, tru_lst, tru_vw, e_notT, notK_ok, notK_exc, e_and, e_or, and_t, and_f, or_t, or_f, and_exc, or_exc, e_iteV, iteV_t, iteV_f, e_andV, e_orV, andV_t, andV_f, andV_exc, orV_t, orV_f, orV_exc, e_iteS, iteS_t, iteS_f, iteS_exc, e_it, itK_ok, itK_exc, it_tup, it_ctup, it_lst, it_bor, it_vw, it_scr, it_str, e_index, index_ok, e_mut, mut_rev, e_ext, ext_own, ext_dat, e_rg, e_shl, e_pow, e_noP, e_atP, part_int, e_slc, slc_okK, e_comp, compK_ok, compK_exc, wipe_nil, wipe_cons, e_for, forK_ok, forK_exc, bindV_dat, bindV_own, bindO_some, bt_one, bt_tup, bt_ctup, bt_lst, pm_nil, pm_nil2, pm_cons, e_par2, par2_dd, par2_od, par2_do, par2_oo, e_lock, lock_own, lock_dat, lock_bor, lock_none, e_lockS, outR_nx, outR_rt, outR_exc, e_litI, e_litS, e_litB, e_litN, e_litD, e_newK, e_newT, e_nx, e_bk, e_ct, e_rtN, e_yes, e_app, own_of, app_dat, app_own, app_exc, e_put, put_dat, put_own, putO_some, e_forget, fg_nx, fg_bk, fg_ct, fg_rt, fg_exc, List.getElem?_cons_zero, List.getElem?_cons_succ, List.set_cons_zero, List.set_cons_succ, List.length_cons, List.length_nil, Nat.reduceAdd, Nat.reduceLT, Bool.not_true, Bool.not_false, e_chn, chn_ok, chnV_t, chnV_f, e_lstB, e_tupB, dats_nil, dats_cons, datsO_some, lstK_ok, tupK_ok, len_tup, len_lst, len_vw, len_bor, len_scr, len_S, neg_i, not_bl, tupF_lst, tupF_tup, tupF_vw, tupF_bor, lstF_tup, lstF_lst, int_i, int_bl, is_t, isn_t, is_n, isn_n, eq_bl, ne_bl, isi_bl, add_ii, sub_ii, lt_ii, gt_ii, le_ii, ge_ii, eq_ii, ne_ii, min_ii, max_ii, and_ii, slc_tup, slc_l, slc_vw, slc_bor, back_tup, back_lst, app_l, app_m, Nat.reduceLeDiff, Int.cast_ofNat_Int, Int.natCast_zero, Int.natCast_one, Int.reduceEq, eq_self, Int.reduceLE, Int.reduceLT, Int.reduceNeg, Int.reduceToNat, Int.toNat_natCast, Int.reduceAdd, Int.reduceSub, Int.reduceMul, Nat.reduceMul, Nat.reduceSub, decide_true, decide_false, Bool.true_and, Bool.false_and, Bool.and_true, Bool.true_or, Bool.false_or, Bool.or_false, not_true_eq_false, not_false_eq_true, if_true, if_false, Bool.false_eq_true, reduceCtorEq, isi_tup (fit_noF f), hs, e]
end P
namespace P
open PySem PySem.Spec PyProof.Rows L2 Fn
theorem plus_spec {p q : Rat} {n m : Nat} (a : FrB p n) (b : FrB q m) (h : n + m ≤ 8000) : E_plus.F [.dat (frD p), .dat (frD q)] = .ok (.dat (frD (p + q))) := by
  rw [d_plus (by rfl)]
  haveI := a.zn
  haveI := a.zd
  haveI := b.zn
  haveI := b.zd
  have m1 := mul_z (i := p.num) (j := (q.den : Int)) (by omega)
  have m2 := mul_z (i := q.num) (j := (p.den : Int)) (by omega)
  have m3 := mul_z (i := (p.den : Int)) (j := (q.den : Int)) (by omega)
  have m4 := mul_z (i := p.num) (j := q.num) (by omega)
  have m5 := mul_z (i := (p.den : Int)) (j := q.num) (by omega)
  have sz : ((p.den : Int) * (q.den : Int)).natAbs < 2 ^ 8000 := by
    rw [Int.natAbs_mul, Int.natAbs_natCast, Int.natAbs_natCast]
    exact Nat.lt_of_lt_of_le (pow_mul_lt a.dd b.dd) (Nat.pow_le_pow_right (by decide) h)
  have f := fraction_spec (p.num * q.den + q.num * p.den) _ mul_den_ne sz
  rw [fr_add] at f
  simp only [B_plus, e_try, tryK_nx, tryK_rt, tryK_bk, tryK_ct, tryK_exc, tryK_pass, hdl_none, hdl_some, leaveN_nx, leaveN_rt, leaveN_ct, leaveN_bk, leaveS_nx, leaveS_rt, leaveS_ct, leaveS_bk, noErr_nil, noErr_cons, noErrO_none, noErrO_dat, noErrO_own, noErrO_bor, noErrO_scr, noErrB_dat, noErrB_own, errI_t, errI_f, errV_t, errT_t, errT_f, e_rz, retB_err, look_err, rd_err, arg_err, set_err, e_count, drop_any, e_seq, sq_nx, sq_rt, sq_bk, sq_ct, sq_exc, e_then, then_ok, then_exc, set_dat, set_own, set_bor, set_scr, setL_dat, setL_own, setL_bor, ret_dat, ret_own, rd_dat, rd_own, rd_vw, rd_bor, rd_scr, frz_l, frz_k, frz_t, e_var, look_dat, look_own, look_bor, look_scr, e_retN, lookN_dat, lookN_own, e_bin2, bin2_ok, bin2_exc, bin2_exc2, e_one1, one1_ok, one1_exc, e_cons, cons_okK, cons_exc, cons_exc2, e_nil, e_call, bnd_ok, bnd_exc, e_own, arg_dat, arg_vw, arg_bor, arg_scr, retB_dat, retB_own, e_tst, tst_bl, e_testV, test_ok, test_exc, tru_bl, tru_int, tru_non, tru_tup, tru_lst, tru_vw, e_notT, notK_ok, notK_exc, e_and, e_or, and_t, and_f, or_t, or_f, and_exc, or_exc, e_iteV, iteV_t, iteV_f, e_andV, e_orV, andV_t, andV_f, andV_exc, orV_t, orV_f, orV_exc, e_iteS, iteS_t, iteS_f, iteS_exc, e_it, itK_ok, itK_exc, it_tup, it_ctup, it_lst, it_bor, it_vw, it_scr, it_str, e_index, index_ok, e_mut, mut_rev, e_ext, ext_own, ext_dat, e_rg, e_shl, e_pow, e_noP, e_atP, part_int, e_slc, slc_okK, e_comp, compK_ok, compK_exc, wipe_nil, wipe_cons, e_for, forK_ok, forK_exc, bindV_dat, bindV_own, bindO_some, bt_one, bt_tup, bt_ctup, bt_lst, pm_nil, pm_nil2, pm_cons, e_par2, par2_dd, par2_od, par2_do, par2_oo, e_lock, lock_own, lock_dat, lock_bor, lock_none, e_lockS, outR_nx, outR_rt, outR_exc, e_litI, e_litS, e_litB, e_litN, e_litD, e_newK, e_newT, e_nx, e_bk, e_ct, e_rtN, e_yes, e_app, own_of, app_dat, app_own, app_exc, e_put, put_dat, put_own, putO_some, e_forget, fg_nx, fg_bk, fg_ct, fg_rt, fg_exc, List.getElem?_cons_zero, List.getElem?_cons_succ, List.set_cons_zero, List.set_cons_succ, List.length_cons, List.length_nil, Nat.reduceAdd, Nat.reduceLT, Bool.not_true, Bool.not_false, e_chn, chn_ok, chnV_t, chnV_f, e_lstB, e_tupB, dats_nil, dats_cons, datsO_some, lstK_ok, tupK_ok, len_tup, len_lst, len_vw, len_bor, len_scr, len_S, neg_i, not_bl, tupF_lst, tupF_tup, tupF_vw, tupF_bor, lstF_tup, lstF_lst, int_i, int_bl, is_t, isn_t, is_n, isn_n, eq_bl, ne_bl, isi_bl, add_ii, sub_ii, lt_ii, gt_ii, le_ii, ge_ii, eq_ii, ne_ii, min_ii, max_ii, and_ii, slc_tup, slc_l, slc_vw, slc_bor, back_tup, back_lst, app_l, app_m, Nat.reduceLeDiff, Int.cast_ofNat_Int, Int.natCast_zero, Int.natCast_one, Int.reduceEq, eq_self, Int.reduceLE, Int.reduceLT, Int.reduceNeg, Int.reduceToNat, Int.toNat_natCast, Int.reduceAdd, Int.reduceSub, Int.reduceMul, Nat.reduceMul, Nat.reduceSub, decide_true, decide_false, Bool.true_and, Bool.false_and, Bool.and_true, Bool.true_or, Bool.false_or, Bool.or_false, not_true_eq_false, not_false_eq_true, if_true, if_false, Bool.false_eq_true, reduceCtorEq, fr_0, fr_1, m1, m2, m3, m4, c_fraction, f]
end P
namespace P
open PySem PySem.Spec PyProof.Rows L2 Fn
theorem times_spec {p q : Rat} {n m : Nat} (a : FrB p n) (b : FrB q m) (h : n + m ≤ 8000) : E_times.F [.dat (frD p), .dat (frD q)] = .ok (.dat (frD (p * q))) := by
  rw [d_times (by rfl)]
  haveI := a.zn
  haveI := a.zd
  haveI := b.zn
  haveI := b.zd
  have m1 := mul_z (i := p.num) (j := (q.den : Int)) (by omega)
  have m2 := mul_z (i := q.num) (j := (p.den : Int)) (by omega)
  have m3 := mul_z (i := (p.den : Int)) (j := (q.den : Int)) (by omega)
  have m4 := mul_z (i := p.num) (j := q.num) (by omega)
  have m5 := mul_z (i := (p.den : Int)) (j := q.num) (by omega)
  have sz : ((p.den : Int) * (q.den : Int)).natAbs < 2 ^ 8000 := by
    rw [Int.natAbs_mul, Int.natAbs_natCast, Int.natAbs_natCast]
    exact Nat.lt_of_lt_of_le (pow_mul_lt a.dd b.dd) (Nat.pow_le_pow_right (by decide) h)
  have f := fraction_spec (p.num * q.num) _ mul_den_ne sz
  rw [fr_mul] at f
  simp only [B_times, e_try, tryK_nx, tryK_rt, tryK_bk, tryK_ct, tryK_exc, tryK_pass, hdl_none, hdl_some, leaveN_nx, leaveN_rt, leaveN_ct, leaveN_bk, leaveS_nx, leaveS_rt, leaveS_ct, leaveS_bk, noErr_nil, noErr_cons, noErrO_none, noErrO_dat, noErrO_own, noErrO_bor, noErrO_scr, noErrB_dat, noErrB_own, errI_t, errI_f, errV_t, errT_t, errT_f, e_rz, retB_err, look_err, rd_err, arg_err, set_err, e_count, drop_any, e_seq, sq_nx, sq_rt, sq_bk, sq_ct, sq_exc, e_then, then_ok, then_exc, set_dat, set_own, set_bor, set_scr, setL_dat, setL_own, setL_bor, ret_dat, ret_own, rd_dat, rd_own, rd_vw, rd_bor, rd_scr, frz_l, frz_k, frz_t, e_var, look_dat, look_own, look_bor, look_scr, e_retN, lookN_dat, lookN_own, e_bin2, bin2_ok, bin2_exc, bin2_exc2, e_one1, one1_ok, one1_exc, e_cons, cons_okK, cons_exc, cons_exc2, e_nil, e_call, bnd_ok, bnd_exc, e_own, arg_dat, arg_vw, arg_bor, arg_scr, retB_dat, retB_own, e_tst, tst_bl, e_testV, test_ok, test_exc, tru_bl, tru_int, tru_non, tru_tup, tru_lst, tru_vw, e_notT, notK_ok, notK_exc, e_and, e_or, and_t, and_f, or_t, or_f, and_exc, or_exc, e_iteV, iteV_t, iteV_f, e_andV, e_orV, andV_t, andV_f, andV_exc, orV_t, orV_f, orV_exc, e_iteS, iteS_t, iteS_f, iteS_exc, e_it, itK_ok, itK_exc, it_tup, it_ctup, it_lst, it_bor, it_vw, it_scr, it_str, e_index, index_ok, e_mut, mut_rev, e_ext, ext_own, ext_dat, e_rg, e_shl, e_pow, e_noP, e_atP, part_int, e_slc, slc_okK, e_comp, compK_ok, compK_exc, wipe_nil, wipe_cons, e_for, forK_ok, forK_exc, bindV_dat, bindV_own, bindO_some, bt_one, bt_tup, bt_ctup, bt_lst, pm_nil, pm_nil2, pm_cons, e_par2, par2_dd, par2_od, par2_do, par2_oo, e_lock, lock_own, lock_dat, lock_bor, lock_none, e_lockS, outR_nx, outR_rt, outR_exc, e_litI, e_litS, e_litB, e_litN, e_litD, e_newK, e_newT, e_nx, e_bk, e_ct, e_rtN, e_yes, e_app, own_of, app_dat, app_own, app_exc, e_put, put_dat, put_own, putO_some, e_forget, fg_nx, fg_bk, fg_ct, fg_rt, fg_exc, List.getElem?_cons_zero, List.getElem?_cons_succ, List.set_cons_zero, List.set_cons_succ, List.length_cons, List.length_nil, Nat.reduceAdd, Nat.reduceLT, Bool.not_true, Bool.not_false, e_chn, chn_ok, chnV_t, chnV_f, e_lstB, e_tupB, dats_nil, dats_cons, datsO_some, lstK_ok, tupK_ok, len_tup, len_lst, len_vw, len_bor, len_scr, len_S, neg_i, not_bl, tupF_lst, tupF_tup, tupF_vw, tupF_bor, lstF_tup, lstF_lst, int_i, int_bl, is_t, isn_t, is_n, isn_n, eq_bl, ne_bl, isi_bl, add_ii, sub_ii, lt_ii, gt_ii, le_ii, ge_ii, eq_ii, ne_ii, min_ii, max_ii, and_ii, slc_tup, slc_l, slc_vw, slc_bor, back_tup, back_lst, app_l, app_m, Nat.reduceLeDiff, Int.cast_ofNat_Int, Int.natCast_zero, Int.natCast_one, Int.reduceEq, eq_self, Int.reduceLE, Int.reduceLT, Int.reduceNeg, Int.reduceToNat, Int.toNat_natCast, Int.reduceAdd, Int.reduceSub, Int.reduceMul, Nat.reduceMul, Nat.reduceSub, decide_true, decide_false, Bool.true_and, Bool.false_and, Bool.and_true, Bool.true_or, Bool.false_or, Bool.or_false, not_true_eq_false, not_false_eq_true, if_true, if_false, Bool.false_eq_true, reduceCtorEq, fr_0, fr_1, m1, m2, m3, m4, c_fraction, f]
end P
namespace P
open PySem PySem.Spec PyProof.Rows L2 Fn
theorem minus_spec {p q : Rat} {n m : Nat} (a : FrB p n) (b : FrB q m) (h : n + m ≤ 8000) : E_minus.F [.dat (frD p), .dat (frD q)] = .ok (.dat (frD (p - q))) := by
  rw [d_minus (by rfl)]
  haveI := a.zn
  haveI := a.zd
  haveI := b.zn
  haveI := b.zd
  have m1 := mul_z (i := p.num) (j := (q.den : Int)) (by omega)
  have m2 := mul_z (i := q.num) (j := (p.den : Int)) (by omega)
  have m3 := mul_z (i := (p.den : Int)) (j := (q.den : Int)) (by omega)
  have m4 := mul_z (i := p.num) (j := q.num) (by omega)
  have m5 := mul_z (i := (p.den : Int)) (j := q.num) (by omega)
  have sz : ((p.den : Int) * (q.den : Int)).natAbs < 2 ^ 8000 := by
    rw [Int.natAbs_mul, Int.natAbs_natCast, Int.natAbs_natCast]
    exact Nat.lt_of_lt_of_le (pow_mul_lt a.dd b.dd) (Nat.pow_le_pow_right (by decide) h)
  have f := fraction_spec (p.num * q.den - q.num * p.den) _ mul_den_ne sz
  rw [fr_sub] at f
  simp only [B_minus, e_try, tryK_nx, tryK_rt, tryK_bk, tryK_ct, tryK_exc, tryK_pass, hdl_none, hdl_some, leaveN_nx, leaveN_rt, leaveN_ct, leaveN_bk, leaveS_nx, leaveS_rt, leaveS_ct, leaveS_bk, noErr_nil, noErr_cons, noErrO_none, noErrO_dat, noErrO_own, noErrO_bor, noErrO_scr, noErrB_dat, noErrB_own, errI_t, errI_f, errV_t, errT_t, errT_f, e_rz, retB_err, look_err, rd_err, arg_err, set_err, e_count, drop_any, e_seq, sq_nx, sq_rt, sq_bk, sq_ct, sq_exc, e_then, then_ok, then_exc, set_dat, set_own, set_bor, set_scr, setL_dat, setL_own, setL_bor, ret_dat, ret_own, rd_dat, rd_own, rd_vw, rd_bor, rd_scr, frz_l, frz_k, frz_t, e_var, look_dat, look_own, look_bor, look_scr, e_retN, lookN_dat, lookN_own, e_bin2, bin2_ok, bin2_exc, bin2_exc2, e_one1, one1_ok, one1_exc, e_cons, cons_okK, cons_exc, cons_exc2, e_nil, e_call, bnd_ok, bnd_exc, e_own, arg_dat, arg_vw, arg_bor, arg_scr, retB_dat, retB_own, e_tst, tst_bl, e_testV, test_ok, test_exc, tru_bl, tru_int, tru_non, tru_tup, tru_lst, tru_vw, e_notT, notK_ok, notK_exc, e_and, e_or, and_t, and_f, or_t, or_f, and_exc, or_exc, e_iteV, iteV_t, iteV_f, e_andV, e_orV, andV_t, andV_f, andV_exc, orV_t, orV_f, orV_exc, e_iteS, iteS_t, iteS_f, iteS_exc, e_it, itK_ok, itK_exc, it_tup, it_ctup, it_lst, it_bor, it_vw, it_scr, it_str, e_index, index_ok, e_mut, mut_rev, e_ext, ext_own, ext_dat, e_rg, e_shl, e_pow, e_noP, e_atP, part_int, e_slc, slc_okK, e_comp, compK_ok, compK_exc, wipe_nil, wipe_cons, e_for, forK_ok, forK_exc, bindV_dat, bindV_own, bindO_some, bt_one, bt_tup, bt_ctup, bt_lst, pm_nil, pm_nil2, pm_cons, e_par2, par2_dd, par2_od, par2_do, par2_oo, e_lock, lock_own, lock_dat, lock_bor, lock_none, e_lockS, outR_nx, outR_rt, outR_exc, e_litI, e_litS, e_litB, e_litN, e_litD, e_newK, e_newT, e_nx, e_bk, e_ct, e_rtN, e_yes, e_app, own_of, app_dat, app_own, app_exc, e_put, put_dat, put_own, putO_some, e_forget, fg_nx, fg_bk, fg_ct, fg_rt, fg_exc, List.getElem?_cons_zero, List.getElem?_cons_succ, List.set_cons_zero, List.set_cons_succ, List.length_cons, List.length_nil, Nat.reduceAdd, Nat.reduceLT, Bool.not_true, Bool.not_false, e_chn, chn_ok, chnV_t, chnV_f, e_lstB, e_tupB, dats_nil, dats_cons, datsO_some, lstK_ok, tupK_ok, len_tup, len_lst, len_vw, len_bor, len_scr, len_S, neg_i, not_bl, tupF_lst, tupF_tup, tupF_vw, tupF_bor, lstF_tup, lstF_lst, int_i, int_bl, is_t, isn_t, is_n, isn_n, eq_bl, ne_bl, isi_bl, add_ii, sub_ii, lt_ii, gt_ii, le_ii, ge_ii, eq_ii, ne_ii, min_ii, max_ii, and_ii, slc_tup, slc_l, slc_vw, slc_bor, back_tup, back_lst, app_l, app_m, Nat.reduceLeDiff, Int.cast_ofNat_Int, Int.natCast_zero, Int.natCast_one, Int.reduceEq, eq_self, Int.reduceLE, Int.reduceLT, Int.reduceNeg, Int.reduceToNat, Int.toNat_natCast, Int.reduceAdd, Int.reduceSub, Int.reduceMul, Nat.reduceMul, Nat.reduceSub, decide_true, decide_false, Bool.true_and, Bool.false_and, Bool.and_true, Bool.true_or, Bool.false_or, Bool.or_false, not_true_eq_false, not_false_eq_true, if_true, if_false, Bool.false_eq_true, reduceCtorEq, fr_0, fr_1, m1, m2, m3, m4, c_fraction, f]
end P
namespace P
open PySem PySem.Spec PyProof.Rows L2 Fn
theorem below_pair {x y : B} {a b c d : Int} {n m k l : Nat} [ISz a n] [ISz b m] [ISz c k] [ISz d l] (hx : okArg x = true) (hy : okArg y = true) (h1 : n + l < 1000000) (h2 : k + m < 1000000)
    (x0 : idxB x (.dat (.int 0)) = .ok (.dat (.int a))) (x1 : idxB x (.dat (.int 1)) = .ok (.dat (.int b))) (y0 : idxB y (.dat (.int 0)) = .ok (.dat (.int c))) (y1 : idxB y (.dat (.int 1)) = .ok (.dat (.int d)))
    (ax : look (some (some x)) = .ok x) (ay : look (some (some y)) = .ok y) (rx : rd x = x) (ry : rd y = y) : E_below.F [x, y] = .ok (.dat (.bl (decide (a * d < c * b)))) := by
  rw [d_below (by rw [List.all_cons, List.all_cons, hx, hy]; rfl)]
  have m1 := mul_z (i := a) (j := d) h1
  have m2 := mul_z (i := c) (j := b) h2
  simp only [B_below, e_try, tryK_nx, tryK_rt, tryK_bk, tryK_ct, tryK_exc, tryK_pass, hdl_none, hdl_some, leaveN_nx, leaveN_rt, leaveN_ct, leaveN_bk, leaveS_nx, leaveS_rt, leaveS_ct, leaveS_bk, noErr_nil, noErr_cons, noErrO_none, noErrO_dat, noErrO_own, noErrO_bor, noErrO_scr, noErrB_dat, noErrB_own, errI_t, errI_f, errV_t, errT_t, errT_f, e_rz, retB_err, look_err, rd_err, arg_err, set_err, e_count, drop_any, e_seq, sq_nx, sq_rt, sq_bk, sq_ct, sq_exc, e_then, then_ok, then_exc, set_dat, set_own, set_bor, set_scr, setL_dat, setL_own, setL_bor, ret_dat, ret_own, rd_dat, rd_own, rd_vw, rd_bor, rd_scr, frz_l, frz_k, frz_t, e_var, look_dat, look_own, look_bor, look_scr, e_retN, lookN_dat, lookN_own, e_bin2, bin2_ok, bin2_exc, bin2_exc2, e_one1, one1_ok, one1_exc, e_cons, cons_okK, cons_exc, cons_exc2, e_nil, e_call, bnd_ok, bnd_exc, e_own, arg_dat, arg_vw, arg_bor, arg_scr, retB_dat, retB_own, e_tst, tst_bl, e_testV, test_ok, test_exc, tru_bl, tru_int, tru_non, tru_tup, tru_lst, tru_vw, e_notT, notK_ok, notK_exc, e_and, e_or, and_t, and_f, or_t, or_f, and_exc, or_exc, e_iteV, iteV_t, iteV_f, e_andV, e_orV, andV_t, andV_f, andV_exc, orV_t, orV_f, orV_exc, e_iteS, iteS_t, iteS_f, iteS_exc, e_it, itK_ok, itK_exc, it_tup, it_ctup, it_lst, it_bor, it_vw, it_scr, it_str, e_index, index_ok, e_mut, mut_rev, e_ext, ext_own, ext_dat, e_rg, e_shl, e_pow, e_noP, e_atP, part_int, e_slc, slc_okK, e_comp, compK_ok, compK_exc, wipe_nil, wipe_cons, e_for, forK_ok, forK_exc, bindV_dat, bindV_own, bindO_some, bt_one, bt_tup, bt_ctup, bt_lst, pm_nil, pm_nil2, pm_cons, e_par2, par2_dd, par2_od, par2_do, par2_oo, e_lock, lock_own, lock_dat, lock_bor, lock_none, e_lockS, outR_nx, outR_rt, outR_exc, e_litI, e_litS, e_litB, e_litN, e_litD, e_newK, e_newT, e_nx, e_bk, e_ct, e_rtN, e_yes, e_app, own_of, app_dat, app_own, app_exc, e_put, put_dat, put_own, putO_some, e_forget, fg_nx, fg_bk, fg_ct, fg_rt, fg_exc, List.getElem?_cons_zero, List.getElem?_cons_succ, List.set_cons_zero, List.set_cons_succ, List.length_cons, List.length_nil, Nat.reduceAdd, Nat.reduceLT, Bool.not_true, Bool.not_false, e_chn, chn_ok, chnV_t, chnV_f, e_lstB, e_tupB, dats_nil, dats_cons, datsO_some, lstK_ok, tupK_ok, len_tup, len_lst, len_vw, len_bor, len_scr, len_S, neg_i, not_bl, tupF_lst, tupF_tup, tupF_vw, tupF_bor, lstF_tup, lstF_lst, int_i, int_bl, is_t, isn_t, is_n, isn_n, eq_bl, ne_bl, isi_bl, add_ii, sub_ii, lt_ii, gt_ii, le_ii, ge_ii, eq_ii, ne_ii, min_ii, max_ii, and_ii, slc_tup, slc_l, slc_vw, slc_bor, back_tup, back_lst, app_l, app_m, Nat.reduceLeDiff, Int.cast_ofNat_Int, Int.natCast_zero, Int.natCast_one, Int.reduceEq, eq_self, Int.reduceLE, Int.reduceLT, Int.reduceNeg, Int.reduceToNat, Int.toNat_natCast, Int.reduceAdd, Int.reduceSub, Int.reduceMul, Nat.reduceMul, Nat.reduceSub, decide_true, decide_false, Bool.true_and, Bool.false_and, Bool.and_true, Bool.true_or, Bool.false_or, Bool.or_false, not_true_eq_false, not_false_eq_true, if_true, if_false, Bool.false_eq_true, reduceCtorEq, ax, ay, rx, ry, x0, x1, y0, y1, m1, m2]
theorem below_spec {p q : Rat} {n m : Nat} (a : FrB p n) (b : FrB q m) (h : n + m ≤ 8000) : E_below.F [.dat (frD p), .dat (frD q)] = .ok (.dat (.bl (decide (p < q)))) := by
  haveI := a.zn
  haveI := a.zd
  haveI := b.zn
  haveI := b.zd
  rw [below_pair (a := p.num) (b := p.den) (c := q.num) (d := q.den) rfl rfl (by omega) (by omega) fr_0 fr_1 fr_0 fr_1 rfl rfl rfl rfl, decide_eq_decide.mpr (Rat.lt_iff p q).symm]
end P
namespace P
open PySem PySem.Spec PyProof.Rows L2 Fn
/-! ### is_price -/
theorem is_price_fr {top : Int} {ps : List Plc} {ts : List Tie} (h : WebOk top ps ts) {q : Rat} {n : Nat} (b : FrB q n) (hn : n ≤ 4000) : E_is_price.F [.dat (webD top ps ts), .dat (frD q)] = .ok (.dat (.bl (decide (0 ≤ q) && decide (q ≤ (top : Rat))))) := by
  rw [d_is_price (by rfl)]
  haveI := b.zn
  haveI := b.zd
  have ht := h.t1
  have ht9 := h.t9
  haveI : ISz top 4 := isz_of (by omega) (by omega)
  haveI : ISz (1 : Int) 1 := isz_of (by decide) (by decide)
  haveI : ISz (0 : Int) 1 := isz_of (by decide) (by decide)
  have isf := is_fraction_spec (n := 1) (frD q) rfl
  rw [isFr_fr] at isf
  have b1 := below_pair (x := .dat (frD q)) (y := .dat (.ctup [.int 0, .int 1])) (a := q.num) (b := q.den) (c := 0) (d := 1) rfl rfl (by omega) (by omega) fr_0 fr_1 rfl rfl rfl rfl rfl rfl
  have b2 := below_pair (x := .dat (.tup [.int top, .int 1])) (y := .dat (frD q)) (a := top) (b := 1) (c := q.num) (d := q.den) rfl rfl (by omega) (by omega) (idx_tup rfl) (idx_tup rfl) fr_0 fr_1 rfl rfl rfl rfl
  have e1 : decide (q.num * 1 < 0 * (q.den : Int)) = !decide (0 ≤ q) := by
    rw [← decide_not, decide_eq_decide, Rat.not_le, Rat.lt_iff]
    show _ ↔ q.num * ((0 : Rat).den : Int) < (0 : Rat).num * _
    rfl
  have e2 : decide (top * (q.den : Int) < q.num * 1) = !decide (q ≤ (top : Rat)) := by
    rw [← decide_not, decide_eq_decide, Rat.not_le, Rat.lt_iff, Rat.num_intCast, Rat.den_intCast]
    rfl
  rw [e1] at b1
  rw [e2] at b2
  simp only [B_is_price, e_try, tryK_nx, tryK_rt, tryK_bk, tryK_ct, tryK_exc, tryK_pass, hdl_none, hdl_some, leaveN_nx, leaveN_rt, leaveN_ct, leaveN_bk, leaveS_nx, leaveS_rt, leaveS_ct, leaveS_bk, noErr_nil, noErr_cons, noErrO_none, noErrO_dat, noErrO_own, noErrO_bor, noErrO_scr, noErrB_dat, noErrB_own, errI_t, errI_f, errV_t, errT_t, errT_f, e_rz, retB_err, look_err, rd_err, arg_err, set_err, e_count, drop_any, e_seq, sq_nx, sq_rt, sq_bk, sq_ct, sq_exc, e_then, then_ok, then_exc, set_dat, set_own, set_bor, set_scr, setL_dat, setL_own, setL_bor, ret_dat, ret_own, rd_dat, rd_own, rd_vw, rd_bor, rd_scr, frz_l, frz_k, frz_t, e_var, look_dat, look_own, look_bor, look_scr, e_retN, lookN_dat, lookN_own, e_bin2, bin2_ok, bin2_exc, bin2_exc2, e_one1, one1_ok, one1_exc, e_cons, cons_okK, cons_exc, cons_exc2, e_nil, e_call, bnd_ok, bnd_exc, e_own, arg_dat, arg_vw, arg_bor, arg_scr, retB_dat, retB_own, e_tst, tst_bl, e_testV, test_ok, test_exc, tru_bl, tru_int, tru_non, tru_tup, tru_lst, tru_vw, e_notT, notK_ok, notK_exc, e_and, e_or, and_t, and_f, or_t, or_f, and_exc, or_exc, e_iteV, iteV_t, iteV_f, e_andV, e_orV, andV_t, andV_f, andV_exc, orV_t, orV_f, orV_exc, e_iteS, iteS_t, iteS_f, iteS_exc, e_it, itK_ok, itK_exc, it_tup, it_ctup, it_lst, it_bor, it_vw, it_scr, it_str, e_index, index_ok, e_mut, mut_rev, e_ext, ext_own, ext_dat, e_rg, e_shl, e_pow, e_noP, e_atP, part_int, e_slc, slc_okK, e_comp, compK_ok, compK_exc, wipe_nil, wipe_cons, e_for, forK_ok, forK_exc, bindV_dat, bindV_own, bindO_some, bt_one, bt_tup, bt_ctup, bt_lst, pm_nil, pm_nil2, pm_cons, e_par2, par2_dd, par2_od, par2_do, par2_oo, e_lock, lock_own, lock_dat, lock_bor, lock_none, e_lockS, outR_nx, outR_rt, outR_exc, e_litI, e_litS, e_litB, e_litN, e_litD, e_newK, e_newT, e_nx, e_bk, e_ct, e_rtN, e_yes, e_app, own_of, app_dat, app_own, app_exc, e_put, put_dat, put_own, putO_some, e_forget, fg_nx, fg_bk, fg_ct, fg_rt, fg_exc, List.getElem?_cons_zero, List.getElem?_cons_succ, List.set_cons_zero, List.set_cons_succ, List.length_cons, List.length_nil, Nat.reduceAdd, Nat.reduceLT, Bool.not_true, Bool.not_false, e_chn, chn_ok, chnV_t, chnV_f, e_lstB, e_tupB, dats_nil, dats_cons, datsO_some, lstK_ok, tupK_ok, len_tup, len_lst, len_vw, len_bor, len_scr, len_S, neg_i, not_bl, tupF_lst, tupF_tup, tupF_vw, tupF_bor, lstF_tup, lstF_lst, int_i, int_bl, is_t, isn_t, is_n, isn_n, eq_bl, ne_bl, isi_bl, add_ii, sub_ii, lt_ii, gt_ii, le_ii, ge_ii, eq_ii, ne_ii, min_ii, max_ii, and_ii, slc_tup, slc_l, slc_vw, slc_bor, back_tup, back_lst, app_l, app_m, Nat.reduceLeDiff, Int.cast_ofNat_Int, Int.natCast_zero, Int.natCast_one, Int.reduceEq, eq_self, Int.reduceLE, Int.reduceLT, Int.reduceNeg, Int.reduceToNat, Int.toNat_natCast, Int.reduceAdd, Int.reduceSub, Int.reduceMul, Nat.reduceMul, Nat.reduceSub, decide_true, decide_false, Bool.true_and, Bool.false_and, Bool.and_true, Bool.true_or, Bool.false_or, Bool.or_false, not_true_eq_false, not_false_eq_true, if_true, if_false, Bool.false_eq_true, reduceCtorEq, and_go, or_go, and_r, or_r, andV_go, orV_go, andV_r, orV_r, iteV_go, iteS_go, stepV_go, chnV_go, c_is_fraction, isf, c_below, b1, b2, idx_w0, Bool.not_not]
theorem is_price_no {top : Int} {ps : List Plc} {ts : List Tie} {n : Nat} {d : D} (f : fit n d = true) (hf : isFr d = false) : E_is_price.F [.dat (webD top ps ts), .dat d] = .ok (.dat (.bl false)) := by
  rw [d_is_price (by rfl)]
  have isf := is_fraction_spec d f
  rw [hf] at isf
  simp only [B_is_price, e_try, tryK_nx, tryK_rt, tryK_bk, tryK_ct, tryK_exc, tryK_pass, hdl_none, hdl_some, leaveN_nx, leaveN_rt, leaveN_ct, leaveN_bk, leaveS_nx, leaveS_rt, leaveS_ct, leaveS_bk, noErr_nil, noErr_cons, noErrO_none, noErrO_dat, noErrO_own, noErrO_bor, noErrO_scr, noErrB_dat, noErrB_own, errI_t, errI_f, errV_t, errT_t, errT_f, e_rz, retB_err, look_err, rd_err, arg_err, set_err, e_count, drop_any, e_seq, sq_nx, sq_rt, sq_bk, sq_ct, sq_exc, e_then, then_ok, then_exc, set_dat, set_own, set_bor, set_scr, setL_dat, setL_own, setL_bor, ret_dat, ret_own, rd_dat, rd_own, rd_vw, rd_bor, rd_scr, frz_l, frz_k, frz_t, e_var, look_dat, look_own, look_bor, look_scr, e_retN, lookN_dat, lookN_own, e_bin2, bin2_ok, bin2_exc, bin2_exc2, e_one1, one1_ok, one1_exc, e_cons, cons_okK, cons_exc, cons_exc2, e_nil, e_call, bnd_ok, bnd_exc, e_own, arg_dat, arg_vw, arg_bor, arg_scr, retB_dat, retB_own, e_tst, tst_bl, e_testV, test_ok, test_exc, tru_bl, tru_int, tru_non, tru_tup, tru_lst, tru_vw, e_notT, notK_ok, notK_exc, e_and, e_or, and_t, and_f, or_t, or_f, and_exc, or_exc, e_iteV, iteV_t, iteV_f, e_andV, e_orV, andV_t, andV_f, andV_exc, orV_t, orV_f, orV_exc, e_iteS, iteS_t, iteS_f, iteS_exc, e_it, itK_ok, itK_exc, it_tup, it_ctup, it_lst, it_bor, it_vw, it_scr, it_str, e_index, index_ok, e_mut, mut_rev, e_ext, ext_own, ext_dat, e_rg, e_shl, e_pow, e_noP, e_atP, part_int, e_slc, slc_okK, e_comp, compK_ok, compK_exc, wipe_nil, wipe_cons, e_for, forK_ok, forK_exc, bindV_dat, bindV_own, bindO_some, bt_one, bt_tup, bt_ctup, bt_lst, pm_nil, pm_nil2, pm_cons, e_par2, par2_dd, par2_od, par2_do, par2_oo, e_lock, lock_own, lock_dat, lock_bor, lock_none, e_lockS, outR_nx, outR_rt, outR_exc, e_litI, e_litS, e_litB, e_litN, e_litD, e_newK, e_newT, e_nx, e_bk, e_ct, e_rtN, e_yes, e_app, own_of, app_dat, app_own, app_exc, e_put, put_dat, put_own, putO_some, e_forget, fg_nx, fg_bk, fg_ct, fg_rt, fg_exc, List.getElem?_cons_zero, List.getElem?_cons_succ, List.set_cons_zero, List.set_cons_succ, List.length_cons, List.length_nil, Nat.reduceAdd, Nat.reduceLT, Bool.not_true, Bool.not_false, e_chn, chn_ok, chnV_t, chnV_f, e_lstB, e_tupB, dats_nil, dats_cons, datsO_some, lstK_ok, tupK_ok, len_tup, len_lst, len_vw, len_bor, len_scr, len_S, neg_i, not_bl, tupF_lst, tupF_tup, tupF_vw, tupF_bor, lstF_tup, lstF_lst, int_i, int_bl, is_t, isn_t, is_n, isn_n, eq_bl, ne_bl, isi_bl, add_ii, sub_ii, lt_ii, gt_ii, le_ii, ge_ii, eq_ii, ne_ii, min_ii, max_ii, and_ii, slc_tup, slc_l, slc_vw, slc_bor, back_tup, back_lst, app_l, app_m, Nat.reduceLeDiff, Int.cast_ofNat_Int, Int.natCast_zero, Int.natCast_one, Int.reduceEq, eq_self, Int.reduceLE, Int.reduceLT, Int.reduceNeg, Int.reduceToNat, Int.toNat_natCast, Int.reduceAdd, Int.reduceSub, Int.reduceMul, Nat.reduceMul, Nat.reduceSub, decide_true, decide_false, Bool.true_and, Bool.false_and, Bool.and_true, Bool.true_or, Bool.false_or, Bool.or_false, not_true_eq_false, not_false_eq_true, if_true, if_false, Bool.false_eq_true, reduceCtorEq, c_is_fraction, isf]
end P
namespace P
open PySem PySem.Spec PyProof.Rows L2 Fn
/-! ### check_price, sizes_at -/
theorem divInt_one (i : Int) : Rat.divInt i 1 = (i : Rat) := by have := Rat.num_divInt_den (i : Rat); rw [Rat.num_intCast, Rat.den_intCast] at this; exact this
theorem fraction_int (i : Int) : E_fraction.F [.dat (.int i), .dat (.int 1)] = .ok (.dat (frD (i : Rat))) := by
  rw [fraction_spec i 1 (by decide) (by decide +kernel), divInt_one]
theorem check_no {top : Int} {ps : List Plc} {ts : List Tie} {d : D} (hp : E_is_price.F [.dat (webD top ps ts), .dat d] = .ok (.dat (.bl false))) : E_check_price.F [.dat (webD top ps ts), .dat d] = .exc 4 := by
  rw [d_check_price (by rfl)]
  simp only [B_check_price, e_try, tryK_nx, tryK_rt, tryK_bk, tryK_ct, tryK_exc, tryK_pass, hdl_none, hdl_some, leaveN_nx, leaveN_rt, leaveN_ct, leaveN_bk, leaveS_nx, leaveS_rt, leaveS_ct, leaveS_bk, noErr_nil, noErr_cons, noErrO_none, noErrO_dat, noErrO_own, noErrO_bor, noErrO_scr, noErrB_dat, noErrB_own, errI_t, errI_f, errV_t, errT_t, errT_f, e_rz, retB_err, look_err, rd_err, arg_err, set_err, e_count, drop_any, e_seq, sq_nx, sq_rt, sq_bk, sq_ct, sq_exc, e_then, then_ok, then_exc, set_dat, set_own, set_bor, set_scr, setL_dat, setL_own, setL_bor, ret_dat, ret_own, rd_dat, rd_own, rd_vw, rd_bor, rd_scr, frz_l, frz_k, frz_t, e_var, look_dat, look_own, look_bor, look_scr, e_retN, lookN_dat, lookN_own, e_bin2, bin2_ok, bin2_exc, bin2_exc2, e_one1, one1_ok, one1_exc, e_cons, cons_okK, cons_exc, cons_exc2, e_nil, e_call, bnd_ok, bnd_exc, e_own, arg_dat, arg_vw, arg_bor, arg_scr, retB_dat, retB_own, e_tst, tst_bl, e_testV, test_ok, test_exc, tru_bl, tru_int, tru_non, tru_tup, tru_lst, tru_vw, e_notT, notK_ok, notK_exc, e_and, e_or, and_t, and_f, or_t, or_f, and_exc, or_exc, e_iteV, iteV_t, iteV_f, e_andV, e_orV, andV_t, andV_f, andV_exc, orV_t, orV_f, orV_exc, e_iteS, iteS_t, iteS_f, iteS_exc, e_it, itK_ok, itK_exc, it_tup, it_ctup, it_lst, it_bor, it_vw, it_scr, it_str, e_index, index_ok, e_mut, mut_rev, e_ext, ext_own, ext_dat, e_rg, e_shl, e_pow, e_noP, e_atP, part_int, e_slc, slc_okK, e_comp, compK_ok, compK_exc, wipe_nil, wipe_cons, e_for, forK_ok, forK_exc, bindV_dat, bindV_own, bindO_some, bt_one, bt_tup, bt_ctup, bt_lst, pm_nil, pm_nil2, pm_cons, e_par2, par2_dd, par2_od, par2_do, par2_oo, e_lock, lock_own, lock_dat, lock_bor, lock_none, e_lockS, outR_nx, outR_rt, outR_exc, e_litI, e_litS, e_litB, e_litN, e_litD, e_newK, e_newT, e_nx, e_bk, e_ct, e_rtN, e_yes, e_app, own_of, app_dat, app_own, app_exc, e_put, put_dat, put_own, putO_some, e_forget, fg_nx, fg_bk, fg_ct, fg_rt, fg_exc, List.getElem?_cons_zero, List.getElem?_cons_succ, List.set_cons_zero, List.set_cons_succ, List.length_cons, List.length_nil, Nat.reduceAdd, Nat.reduceLT, Bool.not_true, Bool.not_false, e_chn, chn_ok, chnV_t, chnV_f, e_lstB, e_tupB, dats_nil, dats_cons, datsO_some, lstK_ok, tupK_ok, len_tup, len_lst, len_vw, len_bor, len_scr, len_S, neg_i, not_bl, tupF_lst, tupF_tup, tupF_vw, tupF_bor, lstF_tup, lstF_lst, int_i, int_bl, is_t, isn_t, is_n, isn_n, eq_bl, ne_bl, isi_bl, add_ii, sub_ii, lt_ii, gt_ii, le_ii, ge_ii, eq_ii, ne_ii, min_ii, max_ii, and_ii, slc_tup, slc_l, slc_vw, slc_bor, back_tup, back_lst, app_l, app_m, Nat.reduceLeDiff, Int.cast_ofNat_Int, Int.natCast_zero, Int.natCast_one, Int.reduceEq, eq_self, Int.reduceLE, Int.reduceLT, Int.reduceNeg, Int.reduceToNat, Int.toNat_natCast, Int.reduceAdd, Int.reduceSub, Int.reduceMul, Nat.reduceMul, Nat.reduceSub, decide_true, decide_false, Bool.true_and, Bool.false_and, Bool.and_true, Bool.true_or, Bool.false_or, Bool.or_false, not_true_eq_false, not_false_eq_true, if_true, if_false, Bool.false_eq_true, reduceCtorEq, c_is_price, hp]
theorem check_ok {top : Int} {ps : List Plc} {ts : List Tie} {d : D} (hp : E_is_price.F [.dat (webD top ps ts), .dat d] = .ok (.dat (.bl true))) : E_check_price.F [.dat (webD top ps ts), .dat d] = .ok (.dat .non) := by
  rw [d_check_price (by rfl)]
  simp only [B_check_price, e_try, tryK_nx, tryK_rt, tryK_bk, tryK_ct, tryK_exc, tryK_pass, hdl_none, hdl_some, leaveN_nx, leaveN_rt, leaveN_ct, leaveN_bk, leaveS_nx, leaveS_rt, leaveS_ct, leaveS_bk, noErr_nil, noErr_cons, noErrO_none, noErrO_dat, noErrO_own, noErrO_bor, noErrO_scr, noErrB_dat, noErrB_own, errI_t, errI_f, errV_t, errT_t, errT_f, e_rz, retB_err, look_err, rd_err, arg_err, set_err, e_count, drop_any, e_seq, sq_nx, sq_rt, sq_bk, sq_ct, sq_exc, e_then, then_ok, then_exc, set_dat, set_own, set_bor, set_scr, setL_dat, setL_own, setL_bor, ret_dat, ret_own, rd_dat, rd_own, rd_vw, rd_bor, rd_scr, frz_l, frz_k, frz_t, e_var, look_dat, look_own, look_bor, look_scr, e_retN, lookN_dat, lookN_own, e_bin2, bin2_ok, bin2_exc, bin2_exc2, e_one1, one1_ok, one1_exc, e_cons, cons_okK, cons_exc, cons_exc2, e_nil, e_call, bnd_ok, bnd_exc, e_own, arg_dat, arg_vw, arg_bor, arg_scr, retB_dat, retB_own, e_tst, tst_bl, e_testV, test_ok, test_exc, tru_bl, tru_int, tru_non, tru_tup, tru_lst, tru_vw, e_notT, notK_ok, notK_exc, e_and, e_or, and_t, and_f, or_t, or_f, and_exc, or_exc, e_iteV, iteV_t, iteV_f, e_andV, e_orV, andV_t, andV_f, andV_exc, orV_t, orV_f, orV_exc, e_iteS, iteS_t, iteS_f, iteS_exc, e_it, itK_ok, itK_exc, it_tup, it_ctup, it_lst, it_bor, it_vw, it_scr, it_str, e_index, index_ok, e_mut, mut_rev, e_ext, ext_own, ext_dat, e_rg, e_shl, e_pow, e_noP, e_atP, part_int, e_slc, slc_okK, e_comp, compK_ok, compK_exc, wipe_nil, wipe_cons, e_for, forK_ok, forK_exc, bindV_dat, bindV_own, bindO_some, bt_one, bt_tup, bt_ctup, bt_lst, pm_nil, pm_nil2, pm_cons, e_par2, par2_dd, par2_od, par2_do, par2_oo, e_lock, lock_own, lock_dat, lock_bor, lock_none, e_lockS, outR_nx, outR_rt, outR_exc, e_litI, e_litS, e_litB, e_litN, e_litD, e_newK, e_newT, e_nx, e_bk, e_ct, e_rtN, e_yes, e_app, own_of, app_dat, app_own, app_exc, e_put, put_dat, put_own, putO_some, e_forget, fg_nx, fg_bk, fg_ct, fg_rt, fg_exc, List.getElem?_cons_zero, List.getElem?_cons_succ, List.set_cons_zero, List.set_cons_succ, List.length_cons, List.length_nil, Nat.reduceAdd, Nat.reduceLT, Bool.not_true, Bool.not_false, e_chn, chn_ok, chnV_t, chnV_f, e_lstB, e_tupB, dats_nil, dats_cons, datsO_some, lstK_ok, tupK_ok, len_tup, len_lst, len_vw, len_bor, len_scr, len_S, neg_i, not_bl, tupF_lst, tupF_tup, tupF_vw, tupF_bor, lstF_tup, lstF_lst, int_i, int_bl, is_t, isn_t, is_n, isn_n, eq_bl, ne_bl, isi_bl, add_ii, sub_ii, lt_ii, gt_ii, le_ii, ge_ii, eq_ii, ne_ii, min_ii, max_ii, and_ii, slc_tup, slc_l, slc_vw, slc_bor, back_tup, back_lst, app_l, app_m, Nat.reduceLeDiff, Int.cast_ofNat_Int, Int.natCast_zero, Int.natCast_one, Int.reduceEq, eq_self, Int.reduceLE, Int.reduceLT, Int.reduceNeg, Int.reduceToNat, Int.toNat_natCast, Int.reduceAdd, Int.reduceSub, Int.reduceMul, Nat.reduceMul, Nat.reduceSub, decide_true, decide_false, Bool.true_and, Bool.false_and, Bool.and_true, Bool.true_or, Bool.false_or, Bool.or_false, not_true_eq_false, not_false_eq_true, if_true, if_false, Bool.false_eq_true, reduceCtorEq, c_is_price, hp]
theorem sizes_no {top : Int} {ps : List Plc} {ts : List Tie} {d : D} (hp : E_is_price.F [.dat (webD top ps ts), .dat d] = .ok (.dat (.bl false))) : E_sizes_at.F [.dat (webD top ps ts), .dat d] = .exc 4 := by
  rw [d_sizes_at (by rfl)]
  simp only [B_sizes_at, e_try, tryK_nx, tryK_rt, tryK_bk, tryK_ct, tryK_exc, tryK_pass, hdl_none, hdl_some, leaveN_nx, leaveN_rt, leaveN_ct, leaveN_bk, leaveS_nx, leaveS_rt, leaveS_ct, leaveS_bk, noErr_nil, noErr_cons, noErrO_none, noErrO_dat, noErrO_own, noErrO_bor, noErrO_scr, noErrB_dat, noErrB_own, errI_t, errI_f, errV_t, errT_t, errT_f, e_rz, retB_err, look_err, rd_err, arg_err, set_err, e_count, drop_any, e_seq, sq_nx, sq_rt, sq_bk, sq_ct, sq_exc, e_then, then_ok, then_exc, set_dat, set_own, set_bor, set_scr, setL_dat, setL_own, setL_bor, ret_dat, ret_own, rd_dat, rd_own, rd_vw, rd_bor, rd_scr, frz_l, frz_k, frz_t, e_var, look_dat, look_own, look_bor, look_scr, e_retN, lookN_dat, lookN_own, e_bin2, bin2_ok, bin2_exc, bin2_exc2, e_one1, one1_ok, one1_exc, e_cons, cons_okK, cons_exc, cons_exc2, e_nil, e_call, bnd_ok, bnd_exc, e_own, arg_dat, arg_vw, arg_bor, arg_scr, retB_dat, retB_own, e_tst, tst_bl, e_testV, test_ok, test_exc, tru_bl, tru_int, tru_non, tru_tup, tru_lst, tru_vw, e_notT, notK_ok, notK_exc, e_and, e_or, and_t, and_f, or_t, or_f, and_exc, or_exc, e_iteV, iteV_t, iteV_f, e_andV, e_orV, andV_t, andV_f, andV_exc, orV_t, orV_f, orV_exc, e_iteS, iteS_t, iteS_f, iteS_exc, e_it, itK_ok, itK_exc, it_tup, it_ctup, it_lst, it_bor, it_vw, it_scr, it_str, e_index, index_ok, e_mut, mut_rev, e_ext, ext_own, ext_dat, e_rg, e_shl, e_pow, e_noP, e_atP, part_int, e_slc, slc_okK, e_comp, compK_ok, compK_exc, wipe_nil, wipe_cons, e_for, forK_ok, forK_exc, bindV_dat, bindV_own, bindO_some, bt_one, bt_tup, bt_ctup, bt_lst, pm_nil, pm_nil2, pm_cons, e_par2, par2_dd, par2_od, par2_do, par2_oo, e_lock, lock_own, lock_dat, lock_bor, lock_none, e_lockS, outR_nx, outR_rt, outR_exc, e_litI, e_litS, e_litB, e_litN, e_litD, e_newK, e_newT, e_nx, e_bk, e_ct, e_rtN, e_yes, e_app, own_of, app_dat, app_own, app_exc, e_put, put_dat, put_own, putO_some, e_forget, fg_nx, fg_bk, fg_ct, fg_rt, fg_exc, List.getElem?_cons_zero, List.getElem?_cons_succ, List.set_cons_zero, List.set_cons_succ, List.length_cons, List.length_nil, Nat.reduceAdd, Nat.reduceLT, Bool.not_true, Bool.not_false, e_chn, chn_ok, chnV_t, chnV_f, e_lstB, e_tupB, dats_nil, dats_cons, datsO_some, lstK_ok, tupK_ok, len_tup, len_lst, len_vw, len_bor, len_scr, len_S, neg_i, not_bl, tupF_lst, tupF_tup, tupF_vw, tupF_bor, lstF_tup, lstF_lst, int_i, int_bl, is_t, isn_t, is_n, isn_n, eq_bl, ne_bl, isi_bl, add_ii, sub_ii, lt_ii, gt_ii, le_ii, ge_ii, eq_ii, ne_ii, min_ii, max_ii, and_ii, slc_tup, slc_l, slc_vw, slc_bor, back_tup, back_lst, app_l, app_m, Nat.reduceLeDiff, Int.cast_ofNat_Int, Int.natCast_zero, Int.natCast_one, Int.reduceEq, eq_self, Int.reduceLE, Int.reduceLT, Int.reduceNeg, Int.reduceToNat, Int.toNat_natCast, Int.reduceAdd, Int.reduceSub, Int.reduceMul, Nat.reduceMul, Nat.reduceSub, decide_true, decide_false, Bool.true_and, Bool.false_and, Bool.and_true, Bool.true_or, Bool.false_or, Bool.or_false, not_true_eq_false, not_false_eq_true, if_true, if_false, Bool.false_eq_true, reduceCtorEq, c_check_price, check_no hp]
theorem sizes_spec {top : Int} {ps : List Plc} {ts : List Tie} (h : WebOk top ps ts) {q : Rat} {m : Nat} (b : FrB q m) (hm : m ≤ 3000) (q0 : 0 ≤ q) (q1 : q ≤ (top : Rat)) :
    E_sizes_at.F [.dat (webD top ps ts), .dat (frD q)] = .ok (.dat (.tup [.tup (ps.map fun p => frD (inS p q)), .tup (ts.map fun t => D.tup [.int t.2, .int 1]), .tup (ps.map fun p => frD (ouS p q))])) := by
  have pr := is_price_fr h b (by omega)
  rw [decide_eq_true q0, decide_eq_true q1] at pr
  have ck := check_ok pr
  have lp : ∀ (L P : List Plc), P ++ L = ps → loopF (.many [4, 5, 6, 7, 8]) B_sizes_at_1 (L.map plD) [some (.dat (webD top ps ts)), some (.dat (frD q)), some (.own (.l (P.map fun p => frD (inS p q)))), some (.own (.l (P.map fun p => frD (ouS p q)))), none, none, none, none, none, none] =
      .nx [some (.dat (webD top ps ts)), some (.dat (frD q)), some (.own (.l (ps.map fun p => frD (inS p q)))), some (.own (.l (ps.map fun p => frD (ouS p q)))), none, none, none, none, none, none] := by
    intro L
    induction L with
    | nil => intro P e; rw [List.append_nil] at e; subst e; rfl
    | cons p L ih =>
      intro P e
      have hp : p ∈ ps := by rw [← e]; simp
      have ok := h.pl p hp
      have c0 := ok.c0' h.t1
      have a0 := ok.a0
      have a1 := ok.a1
      have b0 := ok.b0
      have b1 := ok.b1
      have c1 := ok.c1
      have d0 := ok.d0
      have d1 := ok.d1
      have hle := h.le
      have hPl : P.length < 900 := by have := congrArg List.length e; rw [List.length_append, List.length_cons] at this; omega
      rw [List.map_cons, loop_one (bt_tup (by rfl))]
      have fb := int_frB (i := p.b) (n := 10) (by decide) (by omega) (by omega)
      have fd := int_frB (i := p.d) (n := 10) (by decide) (by omega) (by omega)
      have fa := int_frB (i := p.a) (n := 10) (by decide) (by omega) (by omega)
      have fc := int_frB (i := p.c) (n := 10) (by decide) (by omega) (by omega)
      have t1 := times_spec fb b (by omega)
      have t2 := times_spec fd b (by omega)
      have s1 : E_plus.F [.dat (frD (p.a : Rat)), .dat (frD ((p.b : Rat) * q))] = .ok (.dat (frD (inS p q))) := plus_spec fa (fb.mul b) (by omega)
      have s2 : E_minus.F [.dat (frD (p.c : Rat)), .dat (frD ((p.d : Rat) * q))] = .ok (.dat (frD (ouS p q))) := minus_spec fc (fd.mul b) (by omega)
      have g1 : (P.map fun p => frD (inS p q)).length < 1000 := by rw [List.length_map]; omega
      have g2 : (P.map fun p => frD (ouS p q)).length < 1000 := by rw [List.length_map]; omega
      have st : B_sizes_at_1 (putMany [4, 5, 6, 7, 8] [.str p.n, .int p.a, .int p.b, .int p.c, .int p.d] [some (.dat (webD top ps ts)), some (.dat (frD q)), some (.own (.l (P.map fun p => frD (inS p q)))), some (.own (.l (P.map fun p => frD (ouS p q)))), none, none, none, none, none, none]) =
          .nx [some (.dat (webD top ps ts)), some (.dat (frD q)), some (.own (.l (P.map (fun p => frD (inS p q)) ++ [frD (inS p q)]))), some (.own (.l (P.map (fun p => frD (ouS p q)) ++ [frD (ouS p q)]))), none, none, none, none, none, none] := by
        simp only [B_sizes_at_1, e_try, tryK_nx, tryK_rt, tryK_bk, tryK_ct, tryK_exc, tryK_pass, hdl_none, hdl_some, leaveN_nx, leaveN_rt, leaveN_ct, leaveN_bk, leaveS_nx, leaveS_rt, leaveS_ct, leaveS_bk, noErr_nil, noErr_cons, noErrO_none, noErrO_dat, noErrO_own, noErrO_bor, noErrO_scr, noErrB_dat, noErrB_own, errI_t, errI_f, errV_t, errT_t, errT_f, e_rz, retB_err, look_err, rd_err, arg_err, set_err, e_count, drop_any, e_seq, sq_nx, sq_rt, sq_bk, sq_ct, sq_exc, e_then, then_ok, then_exc, set_dat, set_own, set_bor, set_scr, setL_dat, setL_own, setL_bor, ret_dat, ret_own, rd_dat, rd_own, rd_vw, rd_bor, rd_scr, frz_l, frz_k, frz_t, e_var, look_dat, look_own, look_bor, look_scr, e_retN, lookN_dat, lookN_own, e_bin2, bin2_ok, bin2_exc, bin2_exc2, e_one1, one1_ok, one1_exc, e_cons, cons_okK, cons_exc, cons_exc2, e_nil, e_call, bnd_ok, bnd_exc, e_own, arg_dat, arg_vw, arg_bor, arg_scr, retB_dat, retB_own, e_tst, tst_bl, e_testV, test_ok, test_exc, tru_bl, tru_int, tru_non, tru_tup, tru_lst, tru_vw, e_notT, notK_ok, notK_exc, e_and, e_or, and_t, and_f, or_t, or_f, and_exc, or_exc, e_iteV, iteV_t, iteV_f, e_andV, e_orV, andV_t, andV_f, andV_exc, orV_t, orV_f, orV_exc, e_iteS, iteS_t, iteS_f, iteS_exc, e_it, itK_ok, itK_exc, it_tup, it_ctup, it_lst, it_bor, it_vw, it_scr, it_str, e_index, index_ok, e_mut, mut_rev, e_ext, ext_own, ext_dat, e_rg, e_shl, e_pow, e_noP, e_atP, part_int, e_slc, slc_okK, e_comp, compK_ok, compK_exc, wipe_nil, wipe_cons, e_for, forK_ok, forK_exc, bindV_dat, bindV_own, bindO_some, bt_one, bt_tup, bt_ctup, bt_lst, pm_nil, pm_nil2, pm_cons, e_par2, par2_dd, par2_od, par2_do, par2_oo, e_lock, lock_own, lock_dat, lock_bor, lock_none, e_lockS, outR_nx, outR_rt, outR_exc, e_litI, e_litS, e_litB, e_litN, e_litD, e_newK, e_newT, e_nx, e_bk, e_ct, e_rtN, e_yes, e_app, own_of, app_dat, app_own, app_exc, e_put, put_dat, put_own, putO_some, e_forget, fg_nx, fg_bk, fg_ct, fg_rt, fg_exc, List.getElem?_cons_zero, List.getElem?_cons_succ, List.set_cons_zero, List.set_cons_succ, List.length_cons, List.length_nil, Nat.reduceAdd, Nat.reduceLT, Bool.not_true, Bool.not_false, e_chn, chn_ok, chnV_t, chnV_f, e_lstB, e_tupB, dats_nil, dats_cons, datsO_some, lstK_ok, tupK_ok, len_tup, len_lst, len_vw, len_bor, len_scr, len_S, neg_i, not_bl, tupF_lst, tupF_tup, tupF_vw, tupF_bor, lstF_tup, lstF_lst, int_i, int_bl, is_t, isn_t, is_n, isn_n, eq_bl, ne_bl, isi_bl, add_ii, sub_ii, lt_ii, gt_ii, le_ii, ge_ii, eq_ii, ne_ii, min_ii, max_ii, and_ii, slc_tup, slc_l, slc_vw, slc_bor, back_tup, back_lst, app_l, app_m, Nat.reduceLeDiff, Int.cast_ofNat_Int, Int.natCast_zero, Int.natCast_one, Int.reduceEq, eq_self, Int.reduceLE, Int.reduceLT, Int.reduceNeg, Int.reduceToNat, Int.toNat_natCast, Int.reduceAdd, Int.reduceSub, Int.reduceMul, Nat.reduceMul, Nat.reduceSub, decide_true, decide_false, Bool.true_and, Bool.false_and, Bool.and_true, Bool.true_or, Bool.false_or, Bool.or_false, not_true_eq_false, not_false_eq_true, if_true, if_false, Bool.false_eq_true, reduceCtorEq, c_fraction, fraction_int, c_times, t1, t2, c_plus, s1, c_minus, s2, g1, g2]
      rw [st, lk_nx]
      have := ih (P ++ [p]) (by rw [List.append_assoc]; exact e)
      rw [List.map_append, List.map_append] at this
      exact this
  have lp0 := lp ps [] rfl
  simp only [List.map_nil] at lp0
  have cc : compD (.many [5, 7, 9]) yesF (callF tupB (consA (varB 9) (consA (litI 1) nilA))) [some (.dat (webD top ps ts)), some (.dat (frD q)), some (.dat (.lst (ps.map fun p => frD (inS p q)))), some (.dat (.lst (ps.map fun p => frD (ouS p q)))), none, none, none, none, none, none] (ts.map tiD) = .ok (.own (.l (ts.map fun t => D.tup [.int t.2, .int 1]))) :=
    compD_all (h := fun t : Tie => D.tup [.int t.2, .int 1]) (le_sz (by have := h.few; omega)) (by
      intro t _
      simp only [e_try, tryK_nx, tryK_rt, tryK_bk, tryK_ct, tryK_exc, tryK_pass, hdl_none, hdl_some, leaveN_nx, leaveN_rt, leaveN_ct, leaveN_bk, leaveS_nx, leaveS_rt, leaveS_ct, leaveS_bk, noErr_nil, noErr_cons, noErrO_none, noErrO_dat, noErrO_own, noErrO_bor, noErrO_scr, noErrB_dat, noErrB_own, errI_t, errI_f, errV_t, errT_t, errT_f, e_rz, retB_err, look_err, rd_err, arg_err, set_err, e_count, drop_any, e_seq, sq_nx, sq_rt, sq_bk, sq_ct, sq_exc, e_then, then_ok, then_exc, set_dat, set_own, set_bor, set_scr, setL_dat, setL_own, setL_bor, ret_dat, ret_own, rd_dat, rd_own, rd_vw, rd_bor, rd_scr, frz_l, frz_k, frz_t, e_var, look_dat, look_own, look_bor, look_scr, e_retN, lookN_dat, lookN_own, e_bin2, bin2_ok, bin2_exc, bin2_exc2, e_one1, one1_ok, one1_exc, e_cons, cons_okK, cons_exc, cons_exc2, e_nil, e_call, bnd_ok, bnd_exc, e_own, arg_dat, arg_vw, arg_bor, arg_scr, retB_dat, retB_own, e_tst, tst_bl, e_testV, test_ok, test_exc, tru_bl, tru_int, tru_non, tru_tup, tru_lst, tru_vw, e_notT, notK_ok, notK_exc, e_and, e_or, and_t, and_f, or_t, or_f, and_exc, or_exc, e_iteV, iteV_t, iteV_f, e_andV, e_orV, andV_t, andV_f, andV_exc, orV_t, orV_f, orV_exc, e_iteS, iteS_t, iteS_f, iteS_exc, e_it, itK_ok, itK_exc, it_tup, it_ctup, it_lst, it_bor, it_vw, it_scr, it_str, e_index, index_ok, e_mut, mut_rev, e_ext, ext_own, ext_dat, e_rg, e_shl, e_pow, e_noP, e_atP, part_int, e_slc, slc_okK, e_comp, compK_ok, compK_exc, wipe_nil, wipe_cons, e_for, forK_ok, forK_exc, bindV_dat, bindV_own, bindO_some, bt_one, bt_tup, bt_ctup, bt_lst, pm_nil, pm_nil2, pm_cons, e_par2, par2_dd, par2_od, par2_do, par2_oo, e_lock, lock_own, lock_dat, lock_bor, lock_none, e_lockS, outR_nx, outR_rt, outR_exc, e_litI, e_litS, e_litB, e_litN, e_litD, e_newK, e_newT, e_nx, e_bk, e_ct, e_rtN, e_yes, e_app, own_of, app_dat, app_own, app_exc, e_put, put_dat, put_own, putO_some, e_forget, fg_nx, fg_bk, fg_ct, fg_rt, fg_exc, List.getElem?_cons_zero, List.getElem?_cons_succ, List.set_cons_zero, List.set_cons_succ, List.length_cons, List.length_nil, Nat.reduceAdd, Nat.reduceLT, Bool.not_true, Bool.not_false, e_chn, chn_ok, chnV_t, chnV_f, e_lstB, e_tupB, dats_nil, dats_cons, datsO_some, lstK_ok, tupK_ok, len_tup, len_lst, len_vw, len_bor, len_scr, len_S, neg_i, not_bl, tupF_lst, tupF_tup, tupF_vw, tupF_bor, lstF_tup, lstF_lst, int_i, int_bl, is_t, isn_t, is_n, isn_n, eq_bl, ne_bl, isi_bl, add_ii, sub_ii, lt_ii, gt_ii, le_ii, ge_ii, eq_ii, ne_ii, min_ii, max_ii, and_ii, slc_tup, slc_l, slc_vw, slc_bor, back_tup, back_lst, app_l, app_m, Nat.reduceLeDiff, Int.cast_ofNat_Int, Int.natCast_zero, Int.natCast_one, Int.reduceEq, eq_self, Int.reduceLE, Int.reduceLT, Int.reduceNeg, Int.reduceToNat, Int.toNat_natCast, Int.reduceAdd, Int.reduceSub, Int.reduceMul, Nat.reduceMul, Nat.reduceSub, decide_true, decide_false, Bool.true_and, Bool.false_and, Bool.and_true, Bool.true_or, Bool.false_or, Bool.or_false, not_true_eq_false, not_false_eq_true, if_true, if_false, Bool.false_eq_true, reduceCtorEq, mapC_nil, mapC_cons, consC_ok, e_step, stepK_some, stepV_t, stepV_f, datR_dat, datR_own, loop_nil, lk_nx, lk_ct, lk_bk, lk_rt, lk_exc, Option.toList, List.nil_append, List.cons_append])
  rw [d_sizes_at (by rfl)]
  simp only [B_sizes_at, e_try, tryK_nx, tryK_rt, tryK_bk, tryK_ct, tryK_exc, tryK_pass, hdl_none, hdl_some, leaveN_nx, leaveN_rt, leaveN_ct, leaveN_bk, leaveS_nx, leaveS_rt, leaveS_ct, leaveS_bk, noErr_nil, noErr_cons, noErrO_none, noErrO_dat, noErrO_own, noErrO_bor, noErrO_scr, noErrB_dat, noErrB_own, errI_t, errI_f, errV_t, errT_t, errT_f, e_rz, retB_err, look_err, rd_err, arg_err, set_err, e_count, drop_any, e_seq, sq_nx, sq_rt, sq_bk, sq_ct, sq_exc, e_then, then_ok, then_exc, set_dat, set_own, set_bor, set_scr, setL_dat, setL_own, setL_bor, ret_dat, ret_own, rd_dat, rd_own, rd_vw, rd_bor, rd_scr, frz_l, frz_k, frz_t, e_var, look_dat, look_own, look_bor, look_scr, e_retN, lookN_dat, lookN_own, e_bin2, bin2_ok, bin2_exc, bin2_exc2, e_one1, one1_ok, one1_exc, e_cons, cons_okK, cons_exc, cons_exc2, e_nil, e_call, bnd_ok, bnd_exc, e_own, arg_dat, arg_vw, arg_bor, arg_scr, retB_dat, retB_own, e_tst, tst_bl, e_testV, test_ok, test_exc, tru_bl, tru_int, tru_non, tru_tup, tru_lst, tru_vw, e_notT, notK_ok, notK_exc, e_and, e_or, and_t, and_f, or_t, or_f, and_exc, or_exc, e_iteV, iteV_t, iteV_f, e_andV, e_orV, andV_t, andV_f, andV_exc, orV_t, orV_f, orV_exc, e_iteS, iteS_t, iteS_f, iteS_exc, e_it, itK_ok, itK_exc, it_tup, it_ctup, it_lst, it_bor, it_vw, it_scr, it_str, e_index, index_ok, e_mut, mut_rev, e_ext, ext_own, ext_dat, e_rg, e_shl, e_pow, e_noP, e_atP, part_int, e_slc, slc_okK, e_comp, compK_ok, compK_exc, wipe_nil, wipe_cons, e_for, forK_ok, forK_exc, bindV_dat, bindV_own, bindO_some, bt_one, bt_tup, bt_ctup, bt_lst, pm_nil, pm_nil2, pm_cons, e_par2, par2_dd, par2_od, par2_do, par2_oo, e_lock, lock_own, lock_dat, lock_bor, lock_none, e_lockS, outR_nx, outR_rt, outR_exc, e_litI, e_litS, e_litB, e_litN, e_litD, e_newK, e_newT, e_nx, e_bk, e_ct, e_rtN, e_yes, e_app, own_of, app_dat, app_own, app_exc, e_put, put_dat, put_own, putO_some, e_forget, fg_nx, fg_bk, fg_ct, fg_rt, fg_exc, List.getElem?_cons_zero, List.getElem?_cons_succ, List.set_cons_zero, List.set_cons_succ, List.length_cons, List.length_nil, Nat.reduceAdd, Nat.reduceLT, Bool.not_true, Bool.not_false, e_chn, chn_ok, chnV_t, chnV_f, e_lstB, e_tupB, dats_nil, dats_cons, datsO_some, lstK_ok, tupK_ok, len_tup, len_lst, len_vw, len_bor, len_scr, len_S, neg_i, not_bl, tupF_lst, tupF_tup, tupF_vw, tupF_bor, lstF_tup, lstF_lst, int_i, int_bl, is_t, isn_t, is_n, isn_n, eq_bl, ne_bl, isi_bl, add_ii, sub_ii, lt_ii, gt_ii, le_ii, ge_ii, eq_ii, ne_ii, min_ii, max_ii, and_ii, slc_tup, slc_l, slc_vw, slc_bor, back_tup, back_lst, app_l, app_m, Nat.reduceLeDiff, Int.cast_ofNat_Int, Int.natCast_zero, Int.natCast_one, Int.reduceEq, eq_self, Int.reduceLE, Int.reduceLT, Int.reduceNeg, Int.reduceToNat, Int.toNat_natCast, Int.reduceAdd, Int.reduceSub, Int.reduceMul, Nat.reduceMul, Nat.reduceSub, decide_true, decide_false, Bool.true_and, Bool.false_and, Bool.and_true, Bool.true_or, Bool.false_or, Bool.or_false, not_true_eq_false, not_false_eq_true, if_true, if_false, Bool.false_eq_true, reduceCtorEq, c_check_price, ck, idx_w1, idx_w2, lp0, cc]
end P
namespace P
open PySem PySem.Spec PyProof.Rows L2 Fn
/-! ### _law_low -/
theorem law_gcd_loop (r0 r1 : Option B) : ∀ (b a : Nat), whileC B_law_low_1 B_law_low_2 [r0, r1, some (.dat (.int (a : Int))), some (.dat (.int (b : Int)))] = .nx [r0, r1, some (.dat (.int (Nat.gcd a b : Nat))), some (.dat (.int 0))] := by
  intro b
  induction b using Nat.strongRecOn with
  | ind b ih =>
    intro a
    by_cases hb : b = 0
    · subst hb
      rw [Nat.gcd_zero_right]
      exact whileC_stop (by simp (decide := true) only [B_law_low_1, e_try, tryK_nx, tryK_rt, tryK_bk, tryK_ct, tryK_exc, tryK_pass, hdl_none, hdl_some, leaveN_nx, leaveN_rt, leaveN_ct, leaveN_bk, leaveS_nx, leaveS_rt, leaveS_ct, leaveS_bk, noErr_nil, noErr_cons, noErrO_none, noErrO_dat, noErrO_own, noErrO_bor, noErrO_scr, noErrB_dat, noErrB_own, errI_t, errI_f, errV_t, errT_t, errT_f, e_rz, retB_err, look_err, rd_err, arg_err, set_err, e_count, drop_any, e_seq, sq_nx, sq_rt, sq_bk, sq_ct, sq_exc, e_then, then_ok, then_exc, set_dat, set_own, set_bor, set_scr, setL_dat, setL_own, setL_bor, ret_dat, ret_own, rd_dat, rd_own, rd_vw, rd_bor, rd_scr, frz_l, frz_k, frz_t, e_var, look_dat, look_own, look_bor, look_scr, e_retN, lookN_dat, lookN_own, e_bin2, bin2_ok, bin2_exc, bin2_exc2, e_one1, one1_ok, one1_exc, e_cons, cons_okK, cons_exc, cons_exc2, e_nil, e_call, bnd_ok, bnd_exc, e_own, arg_dat, arg_vw, arg_bor, arg_scr, retB_dat, retB_own, e_tst, tst_bl, e_testV, test_ok, test_exc, tru_bl, tru_int, tru_non, tru_tup, tru_lst, tru_vw, e_notT, notK_ok, notK_exc, e_and, e_or, and_t, and_f, or_t, or_f, and_exc, or_exc, e_iteV, iteV_t, iteV_f, e_andV, e_orV, andV_t, andV_f, andV_exc, orV_t, orV_f, orV_exc, e_iteS, iteS_t, iteS_f, iteS_exc, e_it, itK_ok, itK_exc, it_tup, it_ctup, it_lst, it_bor, it_vw, it_scr, it_str, e_index, index_ok, e_mut, mut_rev, e_ext, ext_own, ext_dat, e_rg, e_shl, e_pow, e_noP, e_atP, part_int, e_slc, slc_okK, e_comp, compK_ok, compK_exc, wipe_nil, wipe_cons, e_for, forK_ok, forK_exc, bindV_dat, bindV_own, bindO_some, bt_one, bt_tup, bt_ctup, bt_lst, pm_nil, pm_nil2, pm_cons, e_par2, par2_dd, par2_od, par2_do, par2_oo, e_lock, lock_own, lock_dat, lock_bor, lock_none, e_lockS, outR_nx, outR_rt, outR_exc, e_litI, e_litS, e_litB, e_litN, e_litD, e_newK, e_newT, e_nx, e_bk, e_ct, e_rtN, e_yes, e_app, own_of, app_dat, app_own, app_exc, e_put, put_dat, put_own, putO_some, e_forget, fg_nx, fg_bk, fg_ct, fg_rt, fg_exc, List.getElem?_cons_zero, List.getElem?_cons_succ, List.set_cons_zero, List.set_cons_succ, List.length_cons, List.length_nil, Nat.reduceAdd, Nat.reduceLT, Bool.not_true, Bool.not_false, e_chn, chn_ok, chnV_t, chnV_f, e_lstB, e_tupB, dats_nil, dats_cons, datsO_some, lstK_ok, tupK_ok, len_tup, len_lst, len_vw, len_bor, len_scr, len_S, neg_i, not_bl, tupF_lst, tupF_tup, tupF_vw, tupF_bor, lstF_tup, lstF_lst, int_i, int_bl, is_t, isn_t, is_n, isn_n, eq_bl, ne_bl, isi_bl, add_ii, sub_ii, lt_ii, gt_ii, le_ii, ge_ii, eq_ii, ne_ii, min_ii, max_ii, and_ii, slc_tup, slc_l, slc_vw, slc_bor, back_tup, back_lst, app_l, app_m, Nat.reduceLeDiff, Int.cast_ofNat_Int, Int.natCast_zero, Int.natCast_one, Int.reduceEq, eq_self, Int.reduceLE, Int.reduceLT, Int.reduceNeg, Int.reduceToNat, Int.toNat_natCast, Int.reduceAdd, Int.reduceSub, Int.reduceMul, Nat.reduceMul, Nat.reduceSub, decide_true, decide_false, Bool.true_and, Bool.false_and, Bool.and_true, Bool.true_or, Bool.false_or, Bool.or_false, not_true_eq_false, not_false_eq_true, if_true, if_false, Bool.false_eq_true, reduceCtorEq])
    · have c : (0 : Int) < (b : Int) := by omega
      have h1 : B_law_low_1 [r0, r1, some (.dat (.int (a : Int))), some (.dat (.int (b : Int)))] = .ok true := by simp only [B_law_low_1, e_try, tryK_nx, tryK_rt, tryK_bk, tryK_ct, tryK_exc, tryK_pass, hdl_none, hdl_some, leaveN_nx, leaveN_rt, leaveN_ct, leaveN_bk, leaveS_nx, leaveS_rt, leaveS_ct, leaveS_bk, noErr_nil, noErr_cons, noErrO_none, noErrO_dat, noErrO_own, noErrO_bor, noErrO_scr, noErrB_dat, noErrB_own, errI_t, errI_f, errV_t, errT_t, errT_f, e_rz, retB_err, look_err, rd_err, arg_err, set_err, e_count, drop_any, e_seq, sq_nx, sq_rt, sq_bk, sq_ct, sq_exc, e_then, then_ok, then_exc, set_dat, set_own, set_bor, set_scr, setL_dat, setL_own, setL_bor, ret_dat, ret_own, rd_dat, rd_own, rd_vw, rd_bor, rd_scr, frz_l, frz_k, frz_t, e_var, look_dat, look_own, look_bor, look_scr, e_retN, lookN_dat, lookN_own, e_bin2, bin2_ok, bin2_exc, bin2_exc2, e_one1, one1_ok, one1_exc, e_cons, cons_okK, cons_exc, cons_exc2, e_nil, e_call, bnd_ok, bnd_exc, e_own, arg_dat, arg_vw, arg_bor, arg_scr, retB_dat, retB_own, e_tst, tst_bl, e_testV, test_ok, test_exc, tru_bl, tru_int, tru_non, tru_tup, tru_lst, tru_vw, e_notT, notK_ok, notK_exc, e_and, e_or, and_t, and_f, or_t, or_f, and_exc, or_exc, e_iteV, iteV_t, iteV_f, e_andV, e_orV, andV_t, andV_f, andV_exc, orV_t, orV_f, orV_exc, e_iteS, iteS_t, iteS_f, iteS_exc, e_it, itK_ok, itK_exc, it_tup, it_ctup, it_lst, it_bor, it_vw, it_scr, it_str, e_index, index_ok, e_mut, mut_rev, e_ext, ext_own, ext_dat, e_rg, e_shl, e_pow, e_noP, e_atP, part_int, e_slc, slc_okK, e_comp, compK_ok, compK_exc, wipe_nil, wipe_cons, e_for, forK_ok, forK_exc, bindV_dat, bindV_own, bindO_some, bt_one, bt_tup, bt_ctup, bt_lst, pm_nil, pm_nil2, pm_cons, e_par2, par2_dd, par2_od, par2_do, par2_oo, e_lock, lock_own, lock_dat, lock_bor, lock_none, e_lockS, outR_nx, outR_rt, outR_exc, e_litI, e_litS, e_litB, e_litN, e_litD, e_newK, e_newT, e_nx, e_bk, e_ct, e_rtN, e_yes, e_app, own_of, app_dat, app_own, app_exc, e_put, put_dat, put_own, putO_some, e_forget, fg_nx, fg_bk, fg_ct, fg_rt, fg_exc, List.getElem?_cons_zero, List.getElem?_cons_succ, List.set_cons_zero, List.set_cons_succ, List.length_cons, List.length_nil, Nat.reduceAdd, Nat.reduceLT, Bool.not_true, Bool.not_false, e_chn, chn_ok, chnV_t, chnV_f, e_lstB, e_tupB, dats_nil, dats_cons, datsO_some, lstK_ok, tupK_ok, len_tup, len_lst, len_vw, len_bor, len_scr, len_S, neg_i, not_bl, tupF_lst, tupF_tup, tupF_vw, tupF_bor, lstF_tup, lstF_lst, int_i, int_bl, is_t, isn_t, is_n, isn_n, eq_bl, ne_bl, isi_bl, add_ii, sub_ii, lt_ii, gt_ii, le_ii, ge_ii, eq_ii, ne_ii, min_ii, max_ii, and_ii, slc_tup, slc_l, slc_vw, slc_bor, back_tup, back_lst, app_l, app_m, Nat.reduceLeDiff, Int.cast_ofNat_Int, Int.natCast_zero, Int.natCast_one, Int.reduceEq, eq_self, Int.reduceLE, Int.reduceLT, Int.reduceNeg, Int.reduceToNat, Int.toNat_natCast, Int.reduceAdd, Int.reduceSub, Int.reduceMul, Nat.reduceMul, Nat.reduceSub, decide_true, decide_false, Bool.true_and, Bool.false_and, Bool.and_true, Bool.true_or, Bool.false_or, Bool.or_false, not_true_eq_false, not_false_eq_true, if_true, if_false, Bool.false_eq_true, reduceCtorEq, c]
      have h2 : B_law_low_2 [r0, r1, some (.dat (.int (a : Int))), some (.dat (.int (b : Int)))] = .nx [r0, r1, some (.dat (.int (b : Int))), some (.dat (.int ((a % b : Nat) : Int)))] := by
        rw [Int.natCast_emod]
        simp only [B_law_low_2, e_try, tryK_nx, tryK_rt, tryK_bk, tryK_ct, tryK_exc, tryK_pass, hdl_none, hdl_some, leaveN_nx, leaveN_rt, leaveN_ct, leaveN_bk, leaveS_nx, leaveS_rt, leaveS_ct, leaveS_bk, noErr_nil, noErr_cons, noErrO_none, noErrO_dat, noErrO_own, noErrO_bor, noErrO_scr, noErrB_dat, noErrB_own, errI_t, errI_f, errV_t, errT_t, errT_f, e_rz, retB_err, look_err, rd_err, arg_err, set_err, e_count, drop_any, e_seq, sq_nx, sq_rt, sq_bk, sq_ct, sq_exc, e_then, then_ok, then_exc, set_dat, set_own, set_bor, set_scr, setL_dat, setL_own, setL_bor, ret_dat, ret_own, rd_dat, rd_own, rd_vw, rd_bor, rd_scr, frz_l, frz_k, frz_t, e_var, look_dat, look_own, look_bor, look_scr, e_retN, lookN_dat, lookN_own, e_bin2, bin2_ok, bin2_exc, bin2_exc2, e_one1, one1_ok, one1_exc, e_cons, cons_okK, cons_exc, cons_exc2, e_nil, e_call, bnd_ok, bnd_exc, e_own, arg_dat, arg_vw, arg_bor, arg_scr, retB_dat, retB_own, e_tst, tst_bl, e_testV, test_ok, test_exc, tru_bl, tru_int, tru_non, tru_tup, tru_lst, tru_vw, e_notT, notK_ok, notK_exc, e_and, e_or, and_t, and_f, or_t, or_f, and_exc, or_exc, e_iteV, iteV_t, iteV_f, e_andV, e_orV, andV_t, andV_f, andV_exc, orV_t, orV_f, orV_exc, e_iteS, iteS_t, iteS_f, iteS_exc, e_it, itK_ok, itK_exc, it_tup, it_ctup, it_lst, it_bor, it_vw, it_scr, it_str, e_index, index_ok, e_mut, mut_rev, e_ext, ext_own, ext_dat, e_rg, e_shl, e_pow, e_noP, e_atP, part_int, e_slc, slc_okK, e_comp, compK_ok, compK_exc, wipe_nil, wipe_cons, e_for, forK_ok, forK_exc, bindV_dat, bindV_own, bindO_some, bt_one, bt_tup, bt_ctup, bt_lst, pm_nil, pm_nil2, pm_cons, e_par2, par2_dd, par2_od, par2_do, par2_oo, e_lock, lock_own, lock_dat, lock_bor, lock_none, e_lockS, outR_nx, outR_rt, outR_exc, e_litI, e_litS, e_litB, e_litN, e_litD, e_newK, e_newT, e_nx, e_bk, e_ct, e_rtN, e_yes, e_app, own_of, app_dat, app_own, app_exc, e_put, put_dat, put_own, putO_some, e_forget, fg_nx, fg_bk, fg_ct, fg_rt, fg_exc, List.getElem?_cons_zero, List.getElem?_cons_succ, List.set_cons_zero, List.set_cons_succ, List.length_cons, List.length_nil, Nat.reduceAdd, Nat.reduceLT, Bool.not_true, Bool.not_false, e_chn, chn_ok, chnV_t, chnV_f, e_lstB, e_tupB, dats_nil, dats_cons, datsO_some, lstK_ok, tupK_ok, len_tup, len_lst, len_vw, len_bor, len_scr, len_S, neg_i, not_bl, tupF_lst, tupF_tup, tupF_vw, tupF_bor, lstF_tup, lstF_lst, int_i, int_bl, is_t, isn_t, is_n, isn_n, eq_bl, ne_bl, isi_bl, add_ii, sub_ii, lt_ii, gt_ii, le_ii, ge_ii, eq_ii, ne_ii, min_ii, max_ii, and_ii, slc_tup, slc_l, slc_vw, slc_bor, back_tup, back_lst, app_l, app_m, Nat.reduceLeDiff, Int.cast_ofNat_Int, Int.natCast_zero, Int.natCast_one, Int.reduceEq, eq_self, Int.reduceLE, Int.reduceLT, Int.reduceNeg, Int.reduceToNat, Int.toNat_natCast, Int.reduceAdd, Int.reduceSub, Int.reduceMul, Nat.reduceMul, Nat.reduceSub, decide_true, decide_false, Bool.true_and, Bool.false_and, Bool.and_true, Bool.true_or, Bool.false_or, Bool.or_false, not_true_eq_false, not_false_eq_true, if_true, if_false, Bool.false_eq_true, reduceCtorEq, mod_pos c]
      rw [whileC_nx h1 h2, ih (a % b) (Nat.mod_lt _ (by omega)) b]
      rw [Nat.gcd_comm b, ← Nat.gcd_rec, Nat.gcd_comm b a]
theorem law_low_spec (t b : Int) (hb : b ≠ 0) (hz : b.natAbs < 2 ^ 8000) : E_law_low.F [.dat (.int t), .dat (.int b)] = .ok (.dat (frD (Rat.divInt t b))) := by
  rw [d_law_low (by rfl)]
  obtain ⟨g1, g2⟩ := gcd_small (t := t) hb hz
  obtain ⟨f1, f2⟩ := fr_low (t := t) hb
  have d1 := div_f (t := t) g1 g2
  have d2 := div_f (t := b) g1 g2
  rw [f1] at d1
  rw [f2] at d2
  have lp := law_gcd_loop (some (.dat (.int t))) (some (.dat (.int b))) b.natAbs t.natAbs
  have lp2 : whileC B_law_low_1 B_law_low_2 [some (.dat (.int t)), some (.dat (.int b)), some (.dat (.int (t.natAbs : Int))), some (.dat (.int (b.natAbs : Int)))] = .nx [some (.dat (.int t)), some (.dat (.int b)), some (.dat (.int (Int.gcd t b : Nat))), some (.dat (.int 0))] := lp
  by_cases c : b < 0
  · rw [if_pos c, show -((Int.gcd t b : Nat) : Int) = 0 - ((Int.gcd t b : Nat) : Int) by omega] at d1 d2
    simp only [B_law_low, e_try, tryK_nx, tryK_rt, tryK_bk, tryK_ct, tryK_exc, tryK_pass, hdl_none, hdl_some, leaveN_nx, leaveN_rt, leaveN_ct, leaveN_bk, leaveS_nx, leaveS_rt, leaveS_ct, leaveS_bk, noErr_nil, noErr_cons, noErrO_none, noErrO_dat, noErrO_own, noErrO_bor, noErrO_scr, noErrB_dat, noErrB_own, errI_t, errI_f, errV_t, errT_t, errT_f, e_rz, retB_err, look_err, rd_err, arg_err, set_err, e_count, drop_any, e_seq, sq_nx, sq_rt, sq_bk, sq_ct, sq_exc, e_then, then_ok, then_exc, set_dat, set_own, set_bor, set_scr, setL_dat, setL_own, setL_bor, ret_dat, ret_own, rd_dat, rd_own, rd_vw, rd_bor, rd_scr, frz_l, frz_k, frz_t, e_var, look_dat, look_own, look_bor, look_scr, e_retN, lookN_dat, lookN_own, e_bin2, bin2_ok, bin2_exc, bin2_exc2, e_one1, one1_ok, one1_exc, e_cons, cons_okK, cons_exc, cons_exc2, e_nil, e_call, bnd_ok, bnd_exc, e_own, arg_dat, arg_vw, arg_bor, arg_scr, retB_dat, retB_own, e_tst, tst_bl, e_testV, test_ok, test_exc, tru_bl, tru_int, tru_non, tru_tup, tru_lst, tru_vw, e_notT, notK_ok, notK_exc, e_and, e_or, and_t, and_f, or_t, or_f, and_exc, or_exc, e_iteV, iteV_t, iteV_f, e_andV, e_orV, andV_t, andV_f, andV_exc, orV_t, orV_f, orV_exc, e_iteS, iteS_t, iteS_f, iteS_exc, e_it, itK_ok, itK_exc, it_tup, it_ctup, it_lst, it_bor, it_vw, it_scr, it_str, e_index, index_ok, e_mut, mut_rev, e_ext, ext_own, ext_dat, e_rg, e_shl, e_pow, e_noP, e_atP, part_int, e_slc, slc_okK, e_comp, compK_ok, compK_exc, wipe_nil, wipe_cons, e_for, forK_ok, forK_exc, bindV_dat, bindV_own, bindO_some, bt_one, bt_tup, bt_ctup, bt_lst, pm_nil, pm_nil2, pm_cons, e_par2, par2_dd, par2_od, par2_do, par2_oo, e_lock, lock_own, lock_dat, lock_bor, lock_none, e_lockS, outR_nx, outR_rt, outR_exc, e_litI, e_litS, e_litB, e_litN, e_litD, e_newK, e_newT, e_nx, e_bk, e_ct, e_rtN, e_yes, e_app, own_of, app_dat, app_own, app_exc, e_put, put_dat, put_own, putO_some, e_forget, fg_nx, fg_bk, fg_ct, fg_rt, fg_exc, List.getElem?_cons_zero, List.getElem?_cons_succ, List.set_cons_zero, List.set_cons_succ, List.length_cons, List.length_nil, Nat.reduceAdd, Nat.reduceLT, Bool.not_true, Bool.not_false, e_chn, chn_ok, chnV_t, chnV_f, e_lstB, e_tupB, dats_nil, dats_cons, datsO_some, lstK_ok, tupK_ok, len_tup, len_lst, len_vw, len_bor, len_scr, len_S, neg_i, not_bl, tupF_lst, tupF_tup, tupF_vw, tupF_bor, lstF_tup, lstF_lst, int_i, int_bl, is_t, isn_t, is_n, isn_n, eq_bl, ne_bl, isi_bl, add_ii, sub_ii, lt_ii, gt_ii, le_ii, ge_ii, eq_ii, ne_ii, min_ii, max_ii, and_ii, slc_tup, slc_l, slc_vw, slc_bor, back_tup, back_lst, app_l, app_m, Nat.reduceLeDiff, Int.cast_ofNat_Int, Int.natCast_zero, Int.natCast_one, Int.reduceEq, eq_self, Int.reduceLE, Int.reduceLT, Int.reduceNeg, Int.reduceToNat, Int.toNat_natCast, Int.reduceAdd, Int.reduceSub, Int.reduceMul, Nat.reduceMul, Nat.reduceSub, decide_true, decide_false, Bool.true_and, Bool.false_and, Bool.and_true, Bool.true_or, Bool.false_or, Bool.or_false, not_true_eq_false, not_false_eq_true, if_true, if_false, Bool.false_eq_true, reduceCtorEq, abs_i, lp2, c, d1, d2]
    rfl
  · rw [if_neg c] at d1 d2
    simp only [B_law_low, e_try, tryK_nx, tryK_rt, tryK_bk, tryK_ct, tryK_exc, tryK_pass, hdl_none, hdl_some, leaveN_nx, leaveN_rt, leaveN_ct, leaveN_bk, leaveS_nx, leaveS_rt, leaveS_ct, leaveS_bk, noErr_nil, noErr_cons, noErrO_none, noErrO_dat, noErrO_own, noErrO_bor, noErrO_scr, noErrB_dat, noErrB_own, errI_t, errI_f, errV_t, errT_t, errT_f, e_rz, retB_err, look_err, rd_err, arg_err, set_err, e_count, drop_any, e_seq, sq_nx, sq_rt, sq_bk, sq_ct, sq_exc, e_then, then_ok, then_exc, set_dat, set_own, set_bor, set_scr, setL_dat, setL_own, setL_bor, ret_dat, ret_own, rd_dat, rd_own, rd_vw, rd_bor, rd_scr, frz_l, frz_k, frz_t, e_var, look_dat, look_own, look_bor, look_scr, e_retN, lookN_dat, lookN_own, e_bin2, bin2_ok, bin2_exc, bin2_exc2, e_one1, one1_ok, one1_exc, e_cons, cons_okK, cons_exc, cons_exc2, e_nil, e_call, bnd_ok, bnd_exc, e_own, arg_dat, arg_vw, arg_bor, arg_scr, retB_dat, retB_own, e_tst, tst_bl, e_testV, test_ok, test_exc, tru_bl, tru_int, tru_non, tru_tup, tru_lst, tru_vw, e_notT, notK_ok, notK_exc, e_and, e_or, and_t, and_f, or_t, or_f, and_exc, or_exc, e_iteV, iteV_t, iteV_f, e_andV, e_orV, andV_t, andV_f, andV_exc, orV_t, orV_f, orV_exc, e_iteS, iteS_t, iteS_f, iteS_exc, e_it, itK_ok, itK_exc, it_tup, it_ctup, it_lst, it_bor, it_vw, it_scr, it_str, e_index, index_ok, e_mut, mut_rev, e_ext, ext_own, ext_dat, e_rg, e_shl, e_pow, e_noP, e_atP, part_int, e_slc, slc_okK, e_comp, compK_ok, compK_exc, wipe_nil, wipe_cons, e_for, forK_ok, forK_exc, bindV_dat, bindV_own, bindO_some, bt_one, bt_tup, bt_ctup, bt_lst, pm_nil, pm_nil2, pm_cons, e_par2, par2_dd, par2_od, par2_do, par2_oo, e_lock, lock_own, lock_dat, lock_bor, lock_none, e_lockS, outR_nx, outR_rt, outR_exc, e_litI, e_litS, e_litB, e_litN, e_litD, e_newK, e_newT, e_nx, e_bk, e_ct, e_rtN, e_yes, e_app, own_of, app_dat, app_own, app_exc, e_put, put_dat, put_own, putO_some, e_forget, fg_nx, fg_bk, fg_ct, fg_rt, fg_exc, List.getElem?_cons_zero, List.getElem?_cons_succ, List.set_cons_zero, List.set_cons_succ, List.length_cons, List.length_nil, Nat.reduceAdd, Nat.reduceLT, Bool.not_true, Bool.not_false, e_chn, chn_ok, chnV_t, chnV_f, e_lstB, e_tupB, dats_nil, dats_cons, datsO_some, lstK_ok, tupK_ok, len_tup, len_lst, len_vw, len_bor, len_scr, len_S, neg_i, not_bl, tupF_lst, tupF_tup, tupF_vw, tupF_bor, lstF_tup, lstF_lst, int_i, int_bl, is_t, isn_t, is_n, isn_n, eq_bl, ne_bl, isi_bl, add_ii, sub_ii, lt_ii, gt_ii, le_ii, ge_ii, eq_ii, ne_ii, min_ii, max_ii, and_ii, slc_tup, slc_l, slc_vw, slc_bor, back_tup, back_lst, app_l, app_m, Nat.reduceLeDiff, Int.cast_ofNat_Int, Int.natCast_zero, Int.natCast_one, Int.reduceEq, eq_self, Int.reduceLE, Int.reduceLT, Int.reduceNeg, Int.reduceToNat, Int.toNat_natCast, Int.reduceAdd, Int.reduceSub, Int.reduceMul, Nat.reduceMul, Nat.reduceSub, decide_true, decide_false, Bool.true_and, Bool.false_and, Bool.and_true, Bool.true_or, Bool.false_or, Bool.or_false, not_true_eq_false, not_false_eq_true, if_true, if_false, Bool.false_eq_true, reduceCtorEq, abs_i, lp2, c, d1, d2]
    rfl
end P
namespace P
open PySem PySem.Spec PyProof.Rows L2 Fn
/-! ### _law_price -/
theorem eight_at {l : List Int} (h : l.length = 8) {k : Int} (h0 : 0 ≤ k) (h1 : k < 8) (P : Int → Prop) (hp : ∀ x ∈ l, P x) : ∃ m : Int, idxB (.dat (.lst (l.map .int))) (.dat (.int k)) = .ok (.dat (.int m)) ∧ P m := by
  have := ixI (l := l) (k := k) h0 (by omega)
  refine ⟨_, this, hp _ ?_⟩
  rw [List.getD_eq_getElem?_getD, List.getElem?_eq_getElem (by omega)]
  exact List.getElem_mem _
theorem law_price_spec {top : Int} {ps : List Plc} {ts : List Tie} (h : WebOk top ps ts) (x y : Int) (hy0 : 0 ≤ y) : ∃ q : Rat, E_law_price.F [.dat (webD top ps ts), .dat (.int x), .dat (.int y)] = .ok (.dat (frD q)) ∧ FrB q 60 ∧ 0 ≤ q ∧ q ≤ (top : Rat) := by
  have t1 := h.t1
  have t9 := h.t9
  have y0 : 0 ≤ y / 64 % 8 := Int.emod_nonneg _ (by decide)
  have y1 : y / 64 % 8 < 8 := Int.emod_lt_of_pos _ (by decide)
  obtain ⟨m, hm, hm0, hm1⟩ := eight_at (l := [1, 2, 3, 7, 12, 60, 999983, 99999999977]) rfl y0 y1 (fun m => 0 < m ∧ m < 2 ^ 40) (by decide)
  have z0 : 0 ≤ y % m := Int.emod_nonneg _ (by omega)
  have z1 : y % m < m := Int.emod_lt_of_pos _ hm0
  have hmod : modB (.dat (.int y)) (.dat (.int m)) = .ok (.dat (.int (y % m))) := mod_pos hm0
  generalize y % m = z at *
  haveI : ISz top 4 := isz_of (by omega) (by omega)
  haveI : ISz (1 + z) 41 := isz_of (by omega) (by omega)
  have tb0 : 1 ≤ top * (1 + z) := by have := Int.mul_le_mul t1 (show (1 : Int) ≤ 1 + z by omega) (by decide) (by omega); omega
  have tb1 : top * (1 + z) ≤ 9 * 2 ^ 41 := Int.mul_le_mul t9 (by omega) (by omega) (by decide)
  have m2 : modB (.dat (.int x)) (.dat (.int (top * (1 + z) + 1))) = .ok (.dat (.int (x % (top * (1 + z) + 1)))) := mod_pos (by omega)
  have w0 : 0 ≤ x % (top * (1 + z) + 1) := Int.emod_nonneg _ (by omega)
  have w1 : x % (top * (1 + z) + 1) < top * (1 + z) + 1 := Int.emod_lt_of_pos _ (by omega)
  generalize x % (top * (1 + z) + 1) = w at *
  have hz : (1 + z).natAbs < 2 ^ 60 := by omega
  have lw := law_low_spec w (1 + z) (by omega) (Nat.lt_of_lt_of_le hz (Nat.pow_le_pow_right (by decide) (by decide)))
  refine ⟨Rat.divInt w (1 + z), ?_, divInt_frB (by omega) (by omega) hz, divInt_nn w0 (by omega), divInt_le (by omega) (by omega)⟩
  rw [d_law_price (by rfl)]
  have hm' : idxB (.dat (.lst [D.int 1, .int 2, .int 3, .int 7, .int 12, .int 60, .int 999983, .int 99999999977])) (.dat (.int (y / 64 % 8))) = .ok (.dat (.int m)) := hm
  simp (decide := true) only [B_law_price, e_try, tryK_nx, tryK_rt, tryK_bk, tryK_ct, tryK_exc, tryK_pass, hdl_none, hdl_some, leaveN_nx, leaveN_rt, leaveN_ct, leaveN_bk, leaveS_nx, leaveS_rt, leaveS_ct, leaveS_bk, noErr_nil, noErr_cons, noErrO_none, noErrO_dat, noErrO_own, noErrO_bor, noErrO_scr, noErrB_dat, noErrB_own, errI_t, errI_f, errV_t, errT_t, errT_f, e_rz, retB_err, look_err, rd_err, arg_err, set_err, e_count, drop_any, e_seq, sq_nx, sq_rt, sq_bk, sq_ct, sq_exc, e_then, then_ok, then_exc, set_dat, set_own, set_bor, set_scr, setL_dat, setL_own, setL_bor, ret_dat, ret_own, rd_dat, rd_own, rd_vw, rd_bor, rd_scr, frz_l, frz_k, frz_t, e_var, look_dat, look_own, look_bor, look_scr, e_retN, lookN_dat, lookN_own, e_bin2, bin2_ok, bin2_exc, bin2_exc2, e_one1, one1_ok, one1_exc, e_cons, cons_okK, cons_exc, cons_exc2, e_nil, e_call, bnd_ok, bnd_exc, e_own, arg_dat, arg_vw, arg_bor, arg_scr, retB_dat, retB_own, e_tst, tst_bl, e_testV, test_ok, test_exc, tru_bl, tru_int, tru_non, tru_tup, tru_lst, tru_vw, e_notT, notK_ok, notK_exc, e_and, e_or, and_t, and_f, or_t, or_f, and_exc, or_exc, e_iteV, iteV_t, iteV_f, e_andV, e_orV, andV_t, andV_f, andV_exc, orV_t, orV_f, orV_exc, e_iteS, iteS_t, iteS_f, iteS_exc, e_it, itK_ok, itK_exc, it_tup, it_ctup, it_lst, it_bor, it_vw, it_scr, it_str, e_index, index_ok, e_mut, mut_rev, e_ext, ext_own, ext_dat, e_rg, e_shl, e_pow, e_noP, e_atP, part_int, e_slc, slc_okK, e_comp, compK_ok, compK_exc, wipe_nil, wipe_cons, e_for, forK_ok, forK_exc, bindV_dat, bindV_own, bindO_some, bt_one, bt_tup, bt_ctup, bt_lst, pm_nil, pm_nil2, pm_cons, e_par2, par2_dd, par2_od, par2_do, par2_oo, e_lock, lock_own, lock_dat, lock_bor, lock_none, e_lockS, outR_nx, outR_rt, outR_exc, e_litI, e_litS, e_litB, e_litN, e_litD, e_newK, e_newT, e_nx, e_bk, e_ct, e_rtN, e_yes, e_app, own_of, app_dat, app_own, app_exc, e_put, put_dat, put_own, putO_some, e_forget, fg_nx, fg_bk, fg_ct, fg_rt, fg_exc, List.getElem?_cons_zero, List.getElem?_cons_succ, List.set_cons_zero, List.set_cons_succ, List.length_cons, List.length_nil, Nat.reduceAdd, Nat.reduceLT, Bool.not_true, Bool.not_false, e_chn, chn_ok, chnV_t, chnV_f, e_lstB, e_tupB, dats_nil, dats_cons, datsO_some, lstK_ok, tupK_ok, len_tup, len_lst, len_vw, len_bor, len_scr, len_S, neg_i, not_bl, tupF_lst, tupF_tup, tupF_vw, tupF_bor, lstF_tup, lstF_lst, int_i, int_bl, is_t, isn_t, is_n, isn_n, eq_bl, ne_bl, isi_bl, add_ii, sub_ii, lt_ii, gt_ii, le_ii, ge_ii, eq_ii, ne_ii, min_ii, max_ii, and_ii, slc_tup, slc_l, slc_vw, slc_bor, back_tup, back_lst, app_l, app_m, Nat.reduceLeDiff, Int.cast_ofNat_Int, Int.natCast_zero, Int.natCast_one, Int.reduceEq, eq_self, Int.reduceLE, Int.reduceLT, Int.reduceNeg, Int.reduceToNat, Int.toNat_natCast, Int.reduceAdd, Int.reduceSub, Int.reduceMul, Nat.reduceMul, Nat.reduceSub, decide_true, decide_false, Bool.true_and, Bool.false_and, Bool.and_true, Bool.true_or, Bool.false_or, Bool.or_false, not_true_eq_false, not_false_eq_true, if_true, if_false, Bool.false_eq_true, reduceCtorEq, div_z, mod_pos, hm', hmod, idx_w0, mul_z, m2, c_law_low, lw]
end P
namespace P
open PySem PySem.Spec PyProof.Rows L2 Fn
theorem law_is_whole_spec (d : D) (h : d.isF = false) : E_law_is_whole.F [.dat d] = .ok (.dat (.bl (isWh d))) := by
  rw [d_law_is_whole (by rfl)]
  cases d <;> first | (cases h; done) | rfl
/-- small where it might be a fraction -/
def Sm2 (d : D) : Prop := ∀ a b : Int, d = .tup [.int a, .int b] → a.natAbs < 2 ^ 100 ∧ b.natAbs < 2 ^ 100
theorem sm2_no {d : D} (h : ∀ a b : Int, d ≠ .tup [.int a, .int b]) : Sm2 d := fun a b e => absurd e (h a b)
theorem sm2_fr {q : Rat} (h : FrB q 100) : Sm2 (frD q) := fun a b e => by
  unfold frD at e
  simp only [D.tup.injEq, List.cons.injEq, D.int.injEq, and_true] at e
  rw [← e.1, ← e.2, Int.natAbs_natCast]
  exact ⟨h.nn, h.dd⟩
theorem fr_eq_iff {a b : Int} (h : 0 < b) : frD (Rat.divInt a b) = .tup [.int a, .int b] ↔ Int.gcd a b = 1 := by
  constructor
  · intro e
    have := fr_gcd (Rat.divInt a b)
    unfold frD at e
    simp only [D.tup.injEq, List.cons.injEq, D.int.injEq, and_true] at e
    rw [e.1, e.2] at this
    exact this
  · intro e
    exact (fr_is h e).symm
theorem law_is_fraction_spec {n : Nat} (d : D) (f : fit n d = true) (sm : Sm2 d) : E_law_is_fraction_v2.F [.dat d] = .ok (.dat (.bl (isFr d))) := by
  rw [d_law_is_fraction_v2 (by rfl)]
  by_cases hs : d.isT = true
  · obtain ⟨ds, rfl⟩ := isT_tup f hs
    obtain ⟨hl, hf⟩ := fit_tup f
    have cc : compD (.one 1) yesF (ownF E_law_is_whole (consA (varB 1) nilA)) [some (.dat (.tup ds)), none] ds = .ok (.own (.l (ds.map fun d => D.bl (isWh d)))) := compD_D (h := fun d => D.bl (isWh d)) (le_sz hl) (by
      intro d hd
      have := law_is_whole_spec d (fit_noF (hf d hd))
      simp only [e_try, tryK_nx, tryK_rt, tryK_bk, tryK_ct, tryK_exc, tryK_pass, hdl_none, hdl_some, leaveN_nx, leaveN_rt, leaveN_ct, leaveN_bk, leaveS_nx, leaveS_rt, leaveS_ct, leaveS_bk, noErr_nil, noErr_cons, noErrO_none, noErrO_dat, noErrO_own, noErrO_bor, noErrO_scr, noErrB_dat, noErrB_own, errI_t, errI_f, errV_t, errT_t, errT_f, e_rz, retB_err, look_err, rd_err, arg_err, set_err, e_count, drop_any, e_seq, sq_nx, sq_rt, sq_bk, sq_ct, sq_exc, e_then, then_ok, then_exc, set_dat, set_own, set_bor, set_scr, setL_dat, setL_own, setL_bor, ret_dat, ret_own, rd_dat, rd_own, rd_vw, rd_bor, rd_scr, frz_l, frz_k, frz_t, e_var, look_dat, look_own, look_bor, look_scr, e_retN, lookN_dat, lookN_own, e_bin2, bin2_ok, bin2_exc, bin2_exc2, e_one1, one1_ok, one1_exc, e_cons, cons_okK, cons_exc, cons_exc2, e_nil, e_call, bnd_ok, bnd_exc, e_own, arg_dat, arg_vw, arg_bor, arg_scr, retB_dat, retB_own, e_tst, tst_bl, e_testV, test_ok, test_exc, tru_bl, tru_int, tru_non, tru_tup, tru_lst, tru_vw, e_notT, notK_ok, notK_exc, e_and, e_or, and_t, and_f, or_t, or_f, and_exc, or_exc, e_iteV, iteV_t, iteV_f, e_andV, e_orV, andV_t, andV_f, andV_exc, orV_t, orV_f, orV_exc, e_iteS, iteS_t, iteS_f, iteS_exc, e_it, itK_ok, itK_exc, it_tup, it_ctup, it_lst, it_bor, it_vw, it_scr, it_str, e_index, index_ok, e_mut, mut_rev, e_ext, ext_own, ext_dat, e_rg, e_shl, e_pow, e_noP, e_atP, part_int, e_slc, slc_okK, e_comp, compK_ok, compK_exc, wipe_nil, wipe_cons, e_for, forK_ok, forK_exc, bindV_dat, bindV_own, bindO_some, bt_one, bt_tup, bt_ctup, bt_lst, pm_nil, pm_nil2, pm_cons, e_par2, par2_dd, par2_od, par2_do, par2_oo, e_lock, lock_own, lock_dat, lock_bor, lock_none, e_lockS, outR_nx, outR_rt, outR_exc, e_litI, e_litS, e_litB, e_litN, e_litD, e_newK, e_newT, e_nx, e_bk, e_ct, e_rtN, e_yes, e_app, own_of, app_dat, app_own, app_exc, e_put, put_dat, put_own, putO_some, e_forget, fg_nx, fg_bk, fg_ct, fg_rt, fg_exc, List.getElem?_cons_zero, List.getElem?_cons_succ, List.set_cons_zero, List.set_cons_succ, List.length_cons, List.length_nil, Nat.reduceAdd, Nat.reduceLT, Bool.not_true, Bool.not_false, e_chn, chn_ok, chnV_t, chnV_f, e_lstB, e_tupB, dats_nil, dats_cons, datsO_some, lstK_ok, tupK_ok, len_tup, len_lst, len_vw, len_bor, len_scr, len_S, neg_i, not_bl, tupF_lst, tupF_tup, tupF_vw, tupF_bor, lstF_tup, lstF_lst, int_i, int_bl, is_t, isn_t, is_n, isn_n, eq_bl, ne_bl, isi_bl, add_ii, sub_ii, lt_ii, gt_ii, le_ii, ge_ii, eq_ii, ne_ii, min_ii, max_ii, and_ii, slc_tup, slc_l, slc_vw, slc_bor, back_tup, back_lst, app_l, app_m, Nat.reduceLeDiff, Int.cast_ofNat_Int, Int.natCast_zero, Int.natCast_one, Int.reduceEq, eq_self, Int.reduceLE, Int.reduceLT, Int.reduceNeg, Int.reduceToNat, Int.toNat_natCast, Int.reduceAdd, Int.reduceSub, Int.reduceMul, Nat.reduceMul, Nat.reduceSub, decide_true, decide_false, Bool.true_and, Bool.false_and, Bool.and_true, Bool.true_or, Bool.false_or, Bool.or_false, not_true_eq_false, not_false_eq_true, if_true, if_false, Bool.false_eq_true, reduceCtorEq, mapC_nil, mapC_cons, consC_ok, e_step, stepK_some, stepV_t, stepV_f, datR_dat, datR_own, loop_nil, lk_nx, lk_ct, lk_bk, lk_rt, lk_exc, Option.toList, List.nil_append, List.cons_append, c_law_is_whole, this])
    by_cases h2 : (ds.length : Int) = 2
    · obtain ⟨a, b, rfl⟩ : ∃ a b, ds = [a, b] := by
        match ds, h2 with
        | [a, b], _ => exact ⟨a, b, rfl⟩
      have j0 : idxB (.dat (.tup [a, b])) (.dat (.int 0)) = .ok (.dat a) := idx_tup rfl
      have j1 : idxB (.dat (.tup [a, b])) (.dat (.int 1)) = .ok (.dat b) := idx_tup rfl
      have aw : allF [.dat (.lst ([a, b].map fun d => D.bl (isWh d)))] = .ok (.dat (.bl (isWh a && (isWh b && true)))) := by rw [all_map]; rfl
      by_cases h0 : isWh a = true
      · by_cases h1 : isWh b = true
        · obtain ⟨x, rfl⟩ := isWh_int h0
          obtain ⟨y, rfl⟩ := isWh_int h1
          rw [h0, h1] at aw
          by_cases hy : 0 < y
          · have lw := law_low_spec x y (by omega) (Nat.lt_of_lt_of_le (sm x y rfl).2 (Nat.pow_le_pow_right (by decide) (by decide)))
            have s2 : Shp (.tup [.int x, .int y]) 1 := shp_tup (all_cons_ (shp_int _) (all_cons_ (shp_int _) all_nil_))
            have eq := eq_pur_b (x := decide (Int.gcd x y = 1)) (shp_fr (Rat.divInt x y)) s2 (by decide) (by decide) rfl rfl (by rw [decide_eq_true_eq]; exact (fr_eq_iff hy).symm)
            simp only [B_law_is_fraction_v2, e_try, tryK_nx, tryK_rt, tryK_bk, tryK_ct, tryK_exc, tryK_pass, hdl_none, hdl_some, leaveN_nx, leaveN_rt, leaveN_ct, leaveN_bk, leaveS_nx, leaveS_rt, leaveS_ct, leaveS_bk, noErr_nil, noErr_cons, noErrO_none, noErrO_dat, noErrO_own, noErrO_bor, noErrO_scr, noErrB_dat, noErrB_own, errI_t, errI_f, errV_t, errT_t, errT_f, e_rz, retB_err, look_err, rd_err, arg_err, set_err, e_count, drop_any, e_seq, sq_nx, sq_rt, sq_bk, sq_ct, sq_exc, e_then, then_ok, then_exc, set_dat, set_own, set_bor, set_scr, setL_dat, setL_own, setL_bor, ret_dat, ret_own, rd_dat, rd_own, rd_vw, rd_bor, rd_scr, frz_l, frz_k, frz_t, e_var, look_dat, look_own, look_bor, look_scr, e_retN, lookN_dat, lookN_own, e_bin2, bin2_ok, bin2_exc, bin2_exc2, e_one1, one1_ok, one1_exc, e_cons, cons_okK, cons_exc, cons_exc2, e_nil, e_call, bnd_ok, bnd_exc, e_own, arg_dat, arg_vw, arg_bor, arg_scr, retB_dat, retB_own, e_tst, tst_bl, e_testV, test_ok, test_exc, tru_bl, tru_int, tru_non, tru_tup, tru_lst, tru_vw, e_notT, notK_ok, notK_exc, e_and, e_or, and_t, and_f, or_t, or_f, and_exc, or_exc, e_iteV, iteV_t, iteV_f, e_andV, e_orV, andV_t, andV_f, andV_exc, orV_t, orV_f, orV_exc, e_iteS, iteS_t, iteS_f, iteS_exc, e_it, itK_ok, itK_exc, it_tup, it_ctup, it_lst, it_bor, it_vw, it_scr, it_str, e_index, index_ok, e_mut, mut_rev, e_ext, ext_own, ext_dat, e_rg, e_shl, e_pow, e_noP, e_atP, part_int, e_slc, slc_okK, e_comp, compK_ok, compK_exc, wipe_nil, wipe_cons, e_for, forK_ok, forK_exc, bindV_dat, bindV_own, bindO_some, bt_one, bt_tup, bt_ctup, bt_lst, pm_nil, pm_nil2, pm_cons, e_par2, par2_dd, par2_od, par2_do, par2_oo, e_lock, lock_own, lock_dat, lock_bor, lock_none, e_lockS, outR_nx, outR_rt, outR_exc, e_litI, e_litS, e_litB, e_litN, e_litD, e_newK, e_newT, e_nx, e_bk, e_ct, e_rtN, e_yes, e_app, own_of, app_dat, app_own, app_exc, e_put, put_dat, put_own, putO_some, e_forget, fg_nx, fg_bk, fg_ct, fg_rt, fg_exc, List.getElem?_cons_zero, List.getElem?_cons_succ, List.set_cons_zero, List.set_cons_succ, List.length_cons, List.length_nil, Nat.reduceAdd, Nat.reduceLT, Bool.not_true, Bool.not_false, e_chn, chn_ok, chnV_t, chnV_f, e_lstB, e_tupB, dats_nil, dats_cons, datsO_some, lstK_ok, tupK_ok, len_tup, len_lst, len_vw, len_bor, len_scr, len_S, neg_i, not_bl, tupF_lst, tupF_tup, tupF_vw, tupF_bor, lstF_tup, lstF_lst, int_i, int_bl, is_t, isn_t, is_n, isn_n, eq_bl, ne_bl, isi_bl, add_ii, sub_ii, lt_ii, gt_ii, le_ii, ge_ii, eq_ii, ne_ii, min_ii, max_ii, and_ii, slc_tup, slc_l, slc_vw, slc_bor, back_tup, back_lst, app_l, app_m, Nat.reduceLeDiff, Int.cast_ofNat_Int, Int.natCast_zero, Int.natCast_one, Int.reduceEq, eq_self, Int.reduceLE, Int.reduceLT, Int.reduceNeg, Int.reduceToNat, Int.toNat_natCast, Int.reduceAdd, Int.reduceSub, Int.reduceMul, Nat.reduceMul, Nat.reduceSub, decide_true, decide_false, Bool.true_and, Bool.false_and, Bool.and_true, Bool.true_or, Bool.false_or, Bool.or_false, not_true_eq_false, not_false_eq_true, if_true, if_false, Bool.false_eq_true, reduceCtorEq, and_go, or_go, and_r, or_r, andV_go, orV_go, andV_r, orV_r, iteV_go, iteS_go, stepV_go, chnV_go, isi_tup (fit_noF f), hs, cc, aw, j0, j1, hy, c_law_low, lw, eq, isFr]
          · simp only [B_law_is_fraction_v2, e_try, tryK_nx, tryK_rt, tryK_bk, tryK_ct, tryK_exc, tryK_pass, hdl_none, hdl_some, leaveN_nx, leaveN_rt, leaveN_ct, leaveN_bk, leaveS_nx, leaveS_rt, leaveS_ct, leaveS_bk, noErr_nil, noErr_cons, noErrO_none, noErrO_dat, noErrO_own, noErrO_bor, noErrO_scr, noErrB_dat, noErrB_own, errI_t, errI_f, errV_t, errT_t, errT_f, e_rz, retB_err, look_err, rd_err, arg_err, set_err, e_count, drop_any, e_seq, sq_nx, sq_rt, sq_bk, sq_ct, sq_exc, e_then, then_ok, then_exc, set_dat, set_own, set_bor, set_scr, setL_dat, setL_own, setL_bor, ret_dat, ret_own, rd_dat, rd_own, rd_vw, rd_bor, rd_scr, frz_l, frz_k, frz_t, e_var, look_dat, look_own, look_bor, look_scr, e_retN, lookN_dat, lookN_own, e_bin2, bin2_ok, bin2_exc, bin2_exc2, e_one1, one1_ok, one1_exc, e_cons, cons_okK, cons_exc, cons_exc2, e_nil, e_call, bnd_ok, bnd_exc, e_own, arg_dat, arg_vw, arg_bor, arg_scr, retB_dat, retB_own, e_tst, tst_bl, e_testV, test_ok, test_exc, tru_bl, tru_int, tru_non, tru_tup, tru_lst, tru_vw, e_notT, notK_ok, notK_exc, e_and, e_or, and_t, and_f, or_t, or_f, and_exc, or_exc, e_iteV, iteV_t, iteV_f, e_andV, e_orV, andV_t, andV_f, andV_exc, orV_t, orV_f, orV_exc, e_iteS, iteS_t, iteS_f, iteS_exc, e_it, itK_ok, itK_exc, it_tup, it_ctup, it_lst, it_bor, it_vw, it_scr, it_str, e_index, index_ok, e_mut, mut_rev, e_ext, ext_own, ext_dat, e_rg, e_shl, e_pow, e_noP, e_atP, part_int, e_slc, slc_okK, e_comp, compK_ok, compK_exc, wipe_nil, wipe_cons, e_for, forK_ok, forK_exc, bindV_dat, bindV_own, bindO_some, bt_one, bt_tup, bt_ctup, bt_lst, pm_nil, pm_nil2, pm_cons, e_par2, par2_dd, par2_od, par2_do, par2_oo, e_lock, lock_own, lock_dat, lock_bor, lock_none, e_lockS, outR_nx, outR_rt, outR_exc, e_litI, e_litS, e_litB, e_litN, e_litD, e_newK, e_newT, e_nx, e_bk, e_ct, e_rtN, e_yes, e_app, own_of, app_dat, app_own, app_exc, e_put, put_dat, put_own, putO_some, e_forget, fg_nx, fg_bk, fg_ct, fg_rt, fg_exc, List.getElem?_cons_zero, List.getElem?_cons_succ, List.set_cons_zero, List.set_cons_succ, List.length_cons, List.length_nil, Nat.reduceAdd, Nat.reduceLT, Bool.not_true, Bool.not_false, e_chn, chn_ok, chnV_t, chnV_f, e_lstB, e_tupB, dats_nil, dats_cons, datsO_some, lstK_ok, tupK_ok, len_tup, len_lst, len_vw, len_bor, len_scr, len_S, neg_i, not_bl, tupF_lst, tupF_tup, tupF_vw, tupF_bor, lstF_tup, lstF_lst, int_i, int_bl, is_t, isn_t, is_n, isn_n, eq_bl, ne_bl, isi_bl, add_ii, sub_ii, lt_ii, gt_ii, le_ii, ge_ii, eq_ii, ne_ii, min_ii, max_ii, and_ii, slc_tup, slc_l, slc_vw, slc_bor, back_tup, back_lst, app_l, app_m, Nat.reduceLeDiff, Int.cast_ofNat_Int, Int.natCast_zero, Int.natCast_one, Int.reduceEq, eq_self, Int.reduceLE, Int.reduceLT, Int.reduceNeg, Int.reduceToNat, Int.toNat_natCast, Int.reduceAdd, Int.reduceSub, Int.reduceMul, Nat.reduceMul, Nat.reduceSub, decide_true, decide_false, Bool.true_and, Bool.false_and, Bool.and_true, Bool.true_or, Bool.false_or, Bool.or_false, not_true_eq_false, not_false_eq_true, if_true, if_false, Bool.false_eq_true, reduceCtorEq, and_go, or_go, and_r, or_r, andV_go, orV_go, andV_r, orV_r, iteV_go, iteS_go, stepV_go, chnV_go, isi_tup (fit_noF f), hs, cc, aw, j0, j1, hy, isFr]
        · rw [Bool.not_eq_true] at h1
          rw [h1, Bool.false_and, Bool.and_false] at aw
          have e : isFr (.tup [a, b]) = false := by
            unfold isFr
            split
            · rename_i h; simp only [D.tup.injEq, List.cons.injEq, and_true] at h; rw [h.2] at h1; cases h1
            · rfl
          simp only [B_law_is_fraction_v2, e_try, tryK_nx, tryK_rt, tryK_bk, tryK_ct, tryK_exc, tryK_pass, hdl_none, hdl_some, leaveN_nx, leaveN_rt, leaveN_ct, leaveN_bk, leaveS_nx, leaveS_rt, leaveS_ct, leaveS_bk, noErr_nil, noErr_cons, noErrO_none, noErrO_dat, noErrO_own, noErrO_bor, noErrO_scr, noErrB_dat, noErrB_own, errI_t, errI_f, errV_t, errT_t, errT_f, e_rz, retB_err, look_err, rd_err, arg_err, set_err, e_count, drop_any, e_seq, sq_nx, sq_rt, sq_bk, sq_ct, sq_exc, e_then, then_ok, then_exc, set_dat, set_own, set_bor, set_scr, setL_dat, setL_own, setL_bor, ret_dat, ret_own, rd_dat, rd_own, rd_vw, rd_bor, rd_scr, frz_l, frz_k, frz_t, e_var, look_dat, look_own, look_bor, look_scr, e_retN, lookN_dat, lookN_own, e_bin2, bin2_ok, bin2_exc, bin2_exc2, e_one1, one1_ok, one1_exc, e_cons, cons_okK, cons_exc, cons_exc2, e_nil, e_call, bnd_ok, bnd_exc, e_own, arg_dat, arg_vw, arg_bor, arg_scr, retB_dat, retB_own, e_tst, tst_bl, e_testV, test_ok, test_exc, tru_bl, tru_int, tru_non, tru_tup, tru_lst, tru_vw, e_notT, notK_ok, notK_exc, e_and, e_or, and_t, and_f, or_t, or_f, and_exc, or_exc, e_iteV, iteV_t, iteV_f, e_andV, e_orV, andV_t, andV_f, andV_exc, orV_t, orV_f, orV_exc, e_iteS, iteS_t, iteS_f, iteS_exc, e_it, itK_ok, itK_exc, it_tup, it_ctup, it_lst, it_bor, it_vw, it_scr, it_str, e_index, index_ok, e_mut, mut_rev, e_ext, ext_own, ext_dat, e_rg, e_shl, e_pow, e_noP, e_atP, part_int, e_slc, slc_okK, e_comp, compK_ok, compK_exc, wipe_nil, wipe_cons, e_for, forK_ok, forK_exc, bindV_dat, bindV_own, bindO_some, bt_one, bt_tup, bt_ctup, bt_lst, pm_nil, pm_nil2, pm_cons, e_par2, par2_dd, par2_od, par2_do, par2_oo, e_lock, lock_own, lock_dat, lock_bor, lock_none, e_lockS, outR_nx, outR_rt, outR_exc, e_litI, e_litS, e_litB, e_litN, e_litD, e_newK, e_newT, e_nx, e_bk, e_ct, e_rtN, e_yes, e_app, own_of, app_dat, app_own, app_exc, e_put, put_dat, put_own, putO_some, e_forget, fg_nx, fg_bk, fg_ct, fg_rt, fg_exc, List.getElem?_cons_zero, List.getElem?_cons_succ, List.set_cons_zero, List.set_cons_succ, List.length_cons, List.length_nil, Nat.reduceAdd, Nat.reduceLT, Bool.not_true, Bool.not_false, e_chn, chn_ok, chnV_t, chnV_f, e_lstB, e_tupB, dats_nil, dats_cons, datsO_some, lstK_ok, tupK_ok, len_tup, len_lst, len_vw, len_bor, len_scr, len_S, neg_i, not_bl, tupF_lst, tupF_tup, tupF_vw, tupF_bor, lstF_tup, lstF_lst, int_i, int_bl, is_t, isn_t, is_n, isn_n, eq_bl, ne_bl, isi_bl, add_ii, sub_ii, lt_ii, gt_ii, le_ii, ge_ii, eq_ii, ne_ii, min_ii, max_ii, and_ii, slc_tup, slc_l, slc_vw, slc_bor, back_tup, back_lst, app_l, app_m, Nat.reduceLeDiff, Int.cast_ofNat_Int, Int.natCast_zero, Int.natCast_one, Int.reduceEq, eq_self, Int.reduceLE, Int.reduceLT, Int.reduceNeg, Int.reduceToNat, Int.toNat_natCast, Int.reduceAdd, Int.reduceSub, Int.reduceMul, Nat.reduceMul, Nat.reduceSub, decide_true, decide_false, Bool.true_and, Bool.false_and, Bool.and_true, Bool.true_or, Bool.false_or, Bool.or_false, not_true_eq_false, not_false_eq_true, if_true, if_false, Bool.false_eq_true, reduceCtorEq, isi_tup (fit_noF f), hs, cc, aw, e]
      · rw [Bool.not_eq_true] at h0
        rw [h0, Bool.false_and] at aw
        have e : isFr (.tup [a, b]) = false := by
          unfold isFr
          split
          · rename_i h; simp only [D.tup.injEq, List.cons.injEq, and_true] at h; rw [h.1] at h0; cases h0
          · rfl
        simp only [B_law_is_fraction_v2, e_try, tryK_nx, tryK_rt, tryK_bk, tryK_ct, tryK_exc, tryK_pass, hdl_none, hdl_some, leaveN_nx, leaveN_rt, leaveN_ct, leaveN_bk, leaveS_nx, leaveS_rt, leaveS_ct, leaveS_bk, noErr_nil, noErr_cons, noErrO_none, noErrO_dat, noErrO_own, noErrO_bor, noErrO_scr, noErrB_dat, noErrB_own, errI_t, errI_f, errV_t, errT_t, errT_f, e_rz, retB_err, look_err, rd_err, arg_err, set_err, e_count, drop_any, e_seq, sq_nx, sq_rt, sq_bk, sq_ct, sq_exc, e_then, then_ok, then_exc, set_dat, set_own, set_bor, set_scr, setL_dat, setL_own, setL_bor, ret_dat, ret_own, rd_dat, rd_own, rd_vw, rd_bor, rd_scr, frz_l, frz_k, frz_t, e_var, look_dat, look_own, look_bor, look_scr, e_retN, lookN_dat, lookN_own, e_bin2, bin2_ok, bin2_exc, bin2_exc2, e_one1, one1_ok, one1_exc, e_cons, cons_okK, cons_exc, cons_exc2, e_nil, e_call, bnd_ok, bnd_exc, e_own, arg_dat, arg_vw, arg_bor, arg_scr, retB_dat, retB_own, e_tst, tst_bl, e_testV, test_ok, test_exc, tru_bl, tru_int, tru_non, tru_tup, tru_lst, tru_vw, e_notT, notK_ok, notK_exc, e_and, e_or, and_t, and_f, or_t, or_f, and_exc, or_exc, e_iteV, iteV_t, iteV_f, e_andV, e_orV, andV_t, andV_f, andV_exc, orV_t, orV_f, orV_exc, e_iteS, iteS_t, iteS_f, iteS_exc, e_it, itK_ok, itK_exc, it_tup, it_ctup, it_lst, it_bor, it_vw, it_scr, it_str, e_index, index_ok, e_mut, mut_rev, e_ext, ext_own, ext_dat, e_rg, e_shl, e_pow, e_noP, e_atP, part_int, e_slc, slc_okK, e_comp, compK_ok, compK_exc, wipe_nil, wipe_cons, e_for, forK_ok, forK_exc, bindV_dat, bindV_own, bindO_some, bt_one, bt_tup, bt_ctup, bt_lst, pm_nil, pm_nil2, pm_cons, e_par2, par2_dd, par2_od, par2_do, par2_oo, e_lock, lock_own, lock_dat, lock_bor, lock_none, e_lockS, outR_nx, outR_rt, outR_exc, e_litI, e_litS, e_litB, e_litN, e_litD, e_newK, e_newT, e_nx, e_bk, e_ct, e_rtN, e_yes, e_app, own_of, app_dat, app_own, app_exc, e_put, put_dat, put_own, putO_some, e_forget, fg_nx, fg_bk, fg_ct, fg_rt, fg_exc, List.getElem?_cons_zero, List.getElem?_cons_succ, List.set_cons_zero, List.set_cons_succ, List.length_cons, List.length_nil, Nat.reduceAdd, Nat.reduceLT, Bool.not_true, Bool.not_false, e_chn, chn_ok, chnV_t, chnV_f, e_lstB, e_tupB, dats_nil, dats_cons, datsO_some, lstK_ok, tupK_ok, len_tup, len_lst, len_vw, len_bor, len_scr, len_S, neg_i, not_bl, tupF_lst, tupF_tup, tupF_vw, tupF_bor, lstF_tup, lstF_lst, int_i, int_bl, is_t, isn_t, is_n, isn_n, eq_bl, ne_bl, isi_bl, add_ii, sub_ii, lt_ii, gt_ii, le_ii, ge_ii, eq_ii, ne_ii, min_ii, max_ii, and_ii, slc_tup, slc_l, slc_vw, slc_bor, back_tup, back_lst, app_l, app_m, Nat.reduceLeDiff, Int.cast_ofNat_Int, Int.natCast_zero, Int.natCast_one, Int.reduceEq, eq_self, Int.reduceLE, Int.reduceLT, Int.reduceNeg, Int.reduceToNat, Int.toNat_natCast, Int.reduceAdd, Int.reduceSub, Int.reduceMul, Nat.reduceMul, Nat.reduceSub, decide_true, decide_false, Bool.true_and, Bool.false_and, Bool.and_true, Bool.true_or, Bool.false_or, Bool.or_false, not_true_eq_false, not_false_eq_true, if_true, if_false, Bool.false_eq_true, reduceCtorEq, isi_tup (fit_noF f), hs, cc, aw, e]
    · have e : isFr (.tup ds) = false := by
        unfold isFr
        split
        · rename_i h; simp only [D.tup.injEq] at h; rw [h] at h2; exact absurd rfl h2
        · rfl
      simp only [B_law_is_fraction_v2, e_try, tryK_nx, tryK_rt, tryK_bk, tryK_ct, tryK_exc, tryK_pass, hdl_none, hdl_some, leaveN_nx, leaveN_rt, leaveN_ct, leaveN_bk, leaveS_nx, leaveS_rt, leaveS_ct, leaveS_bk, noErr_nil, noErr_cons, noErrO_none, noErrO_dat, noErrO_own, noErrO_bor, noErrO_scr, noErrB_dat, noErrB_own, errI_t, errI_f, errV_t, errT_t, errT_f, e_rz, retB_err, look_err, rd_err, arg_err, set_err, e_count, drop_any, e_seq, sq_nx, sq_rt, sq_bk, sq_ct, sq_exc, e_then, then_ok, then_exc, set_dat, set_own, set_bor, set_scr, setL_dat, setL_own, setL_bor, ret_dat, ret_own, rd_dat, rd_own, rd_vw, rd_bor, rd_scr, frz_l, frz_k, frz_t, e_var, look_dat, look_own, look_bor, look_scr, e_retN, lookN_dat, lookN_own, e_bin2, bin2_ok, bin2_exc, bin2_exc2, e_one1, one1_ok, one1_exc, e_cons, cons_okK, cons_exc, cons_exc2, e_nil, e_call, bnd_ok, bnd_exc, e_own, arg_dat, arg_vw, arg_bor, arg_scr, retB_dat, retB_own, e_tst, tst_bl, e_testV, test_ok, test_exc, tru_bl, tru_int, tru_non, tru_tup, tru_lst, tru_vw, e_notT, notK_ok, notK_exc, e_and, e_or, and_t, and_f, or_t, or_f, and_exc, or_exc, e_iteV, iteV_t, iteV_f, e_andV, e_orV, andV_t, andV_f, andV_exc, orV_t, orV_f, orV_exc, e_iteS, iteS_t, iteS_f, iteS_exc, e_it, itK_ok, itK_exc, it_tup, it_ctup, it_lst, it_bor, it_vw, it_scr, it_str, e_index, index_ok, e_mut, mut_rev, e_ext, ext_own, ext_dat, e_rg, e_shl, e_pow, e_noP, e_atP, part_int, e_slc, slc_okK, e_comp, compK_ok, compK_exc, wipe_nil, wipe_cons, e_for, forK_ok, forK_exc, bindV_dat, bindV_own, bindO_some, bt_one, bt_tup, bt_ctup, bt_lst, pm_nil, pm_nil2, pm_cons, e_par2, par2_dd, par2_od, par2_do, par2_oo, e_lock, lock_own, lock_dat, lock_bor, lock_none, e_lockS, outR_nx, outR_rt, outR_exc, e_litI, e_litS, e_litB, e_litN, e_litD, e_newK, e_newT, e_nx, e_bk, e_ct, e_rtN, e_yes, e_app, own_of, app_dat, app_own, app_exc, e_put, put_dat, put_own, putO_some, e_forget, fg_nx, fg_bk, fg_ct, fg_rt, fg_exc, List.getElem?_cons_zero, List.getElem?_cons_succ, List.set_cons_zero, List.set_cons_succ, List.length_cons, List.length_nil, Nat.reduceAdd, Nat.reduceLT, Bool.not_true, Bool.not_false, e_chn, chn_ok, chnV_t, chnV_f, e_lstB, e_tupB, dats_nil, dats_cons, datsO_some, lstK_ok, tupK_ok, len_tup, len_lst, len_vw, len_bor, len_scr, len_S, neg_i, not_bl, tupF_lst, tupF_tup, tupF_vw, tupF_bor, lstF_tup, lstF_lst, int_i, int_bl, is_t, isn_t, is_n, isn_n, eq_bl, ne_bl, isi_bl, add_ii, sub_ii, lt_ii, gt_ii, le_ii, ge_ii, eq_ii, ne_ii, min_ii, max_ii, and_ii, slc_tup, slc_l, slc_vw, slc_bor, back_tup, back_lst, app_l, app_m, Nat.reduceLeDiff, Int.cast_ofNat_Int, Int.natCast_zero, Int.natCast_one, Int.reduceEq, eq_self, Int.reduceLE, Int.reduceLT, Int.reduceNeg, Int.reduceToNat, Int.toNat_natCast, Int.reduceAdd, Int.reduceSub, Int.reduceMul, Nat.reduceMul, Nat.reduceSub, decide_true, decide_false, Bool.true_and, Bool.false_and, Bool.and_true, Bool.true_or, Bool.false_or, Bool.or_false, not_true_eq_false, not_false_eq_true, if_true, if_false, Bool.false_eq_true, reduceCtorEq, isi_tup (fit_noF f), hs, h2, e]
  · rw [Bool.not_eq_true] at hs
    have e : isFr d = false := by
      unfold isFr
      split
      · cases hs
      · rfl
    simp only [B_law_is_fraction_v2, e_try, tryK_nx, tryK_rt, tryK_bk, tryK_ct, tryK_exc, tryK_pass, hdl_none, hdl_some, leaveN_nx, leaveN_rt, leaveN_ct, leaveN_bk, leaveS_nx, leaveS_rt, leaveS_ct, leaveS_bk, noErr_nil, noErr_cons, noErrO_none, noErrO_dat, noErrO_own, noErrO_bor, noErrO_scr, noErrB_dat, noErrB_own, errI_t, errI_f, errV_t, errT_t, errT_f, e_rz, retB_err, look_err, rd_err, arg_err, set_err, e_count, drop_any, e_seq, sq_nx, sq_rt, sq_bk, sq_ct, sq_exc, e_then, then_ok, then_exc, set_dat, set_own, set_bor, set_scr, setL_dat, setL_own, setL_bor, ret_dat, ret_own, rd_dat, rd_own, rd_vw, rd_bor, rd_scr, frz_l, frz_k, frz_t, e_var, look_dat, look_own, look_bor, look_scr, e_retN, lookN_dat, lookN_own, e_bin2, bin2_ok, bin2_exc, bin2_exc2, e_one1, one1_ok, one1_exc, e_cons, cons_okK, cons_exc, cons_exc2, e_nil, e_call, bnd_ok, bnd_exc, e_own, arg_dat, arg_vw, arg_bor, arg_scr, retB_dat, retB_own, e_tst, tst_bl, e_testV, test_ok, test_exc, tru_bl, tru_int, tru_non, tru_tup, tru_lst, tru_vw, e_notT, notK_ok, notK_exc, e_and, e_or, and_t, and_f, or_t, or_f, and_exc, or_exc, e_iteV, iteV_t, iteV_f, e_andV, e_orV, andV_t, andV_f, andV_exc, orV_t, orV_f, orV_exc, e_iteS, iteS_t, iteS_f, iteS_exc, e_it, itK_ok, itK_exc, it_tup, it_ctup, it_lst, it_bor, it_vw, it_scr, it_str, e_index, index_ok, e_mut, mut_rev, e_ext, ext_own, ext_dat, e_rg, e_shl, e_pow, e_noP, e_atP, part_int, e_slc, slc_okK, e_comp, compK_ok, compK_exc, wipe_nil, wipe_cons, e_for, forK_ok, forK_exc, bindV_dat, bindV_own, bindO_some, bt_one, bt_tup, bt_ctup, bt_lst, pm_nil, pm_nil2, pm_cons, e_par2, par2_dd, par2_od, par2_do, par2_oo, e_lock, lock_own, lock_dat, lock_bor, lock_none, e_lockS, outR_nx, outR_rt, outR_exc, e_litI, e_litS, e_litB, e_litN, e_litD, e_newK, e_newT, e_nx, e_bk, e_ct, e_rtN, e_yes, e_app, own_of, app_dat, app_own, app_exc, e_put, put_dat, put_own, putO_some, e_forget, fg_nx, fg_bk, fg_ct, fg_rt, fg_exc, List.getElem?_cons_zero, List.getElem?_cons_succ, List.set_cons_zero, List.set_cons_succ, List.length_cons, List.length_nil, Nat.reduceAdd, Nat.reduceLT, Bool.not_true, Bool.not_false, e_chn, chn_ok, chnV_t, chnV_f, e_lstB, e_tupB, dats_nil, dats_cons, datsO_some, lstK_ok, tupK_ok, len_tup, len_lst, len_vw, len_bor, len_scr, len_S, neg_i, not_bl, tupF_lst, tupF_tup, tupF_vw, tupF_bor, lstF_tup, lstF_lst, int_i, int_bl, is_t, isn_t, is_n, isn_n, eq_bl, ne_bl, isi_bl, add_ii, sub_ii, lt_ii, gt_ii, le_ii, ge_ii, eq_ii, ne_ii, min_ii, max_ii, and_ii, slc_tup, slc_l, slc_vw, slc_bor, back_tup, back_lst, app_l, app_m, Nat.reduceLeDiff, Int.cast_ofNat_Int, Int.natCast_zero, Int.natCast_one, Int.reduceEq, eq_self, Int.reduceLE, Int.reduceLT, Int.reduceNeg, Int.reduceToNat, Int.toNat_natCast, Int.reduceAdd, Int.reduceSub, Int.reduceMul, Nat.reduceMul, Nat.reduceSub, decide_true, decide_false, Bool.true_and, Bool.false_and, Bool.and_true, Bool.true_or, Bool.false_or, Bool.or_false, not_true_eq_false, not_false_eq_true, if_true, if_false, Bool.false_eq_true, reduceCtorEq, isi_tup (fit_noF f), hs, e]
/-! ### caught, due, right -/
theorem caught_ok {web d r : D} (h : E_sizes_at.F [.dat web, .dat d] = .ok (.dat r)) : E_law_caught_v2.F [.dat web, .dat d] = .ok (.dat r) := by
  rw [d_law_caught_v2 (by rfl)]
  simp (decide := true) only [B_law_caught_v2, B_law_caught_v2_1, e_try, tryK_nx, tryK_rt, tryK_bk, tryK_ct, tryK_exc, tryK_pass, hdl_none, hdl_some, leaveN_nx, leaveN_rt, leaveN_ct, leaveN_bk, leaveS_nx, leaveS_rt, leaveS_ct, leaveS_bk, noErr_nil, noErr_cons, noErrO_none, noErrO_dat, noErrO_own, noErrO_bor, noErrO_scr, noErrB_dat, noErrB_own, errI_t, errI_f, errV_t, errT_t, errT_f, e_rz, retB_err, look_err, rd_err, arg_err, set_err, e_count, drop_any, e_seq, sq_nx, sq_rt, sq_bk, sq_ct, sq_exc, e_then, then_ok, then_exc, set_dat, set_own, set_bor, set_scr, setL_dat, setL_own, setL_bor, ret_dat, ret_own, rd_dat, rd_own, rd_vw, rd_bor, rd_scr, frz_l, frz_k, frz_t, e_var, look_dat, look_own, look_bor, look_scr, e_retN, lookN_dat, lookN_own, e_bin2, bin2_ok, bin2_exc, bin2_exc2, e_one1, one1_ok, one1_exc, e_cons, cons_okK, cons_exc, cons_exc2, e_nil, e_call, bnd_ok, bnd_exc, e_own, arg_dat, arg_vw, arg_bor, arg_scr, retB_dat, retB_own, e_tst, tst_bl, e_testV, test_ok, test_exc, tru_bl, tru_int, tru_non, tru_tup, tru_lst, tru_vw, e_notT, notK_ok, notK_exc, e_and, e_or, and_t, and_f, or_t, or_f, and_exc, or_exc, e_iteV, iteV_t, iteV_f, e_andV, e_orV, andV_t, andV_f, andV_exc, orV_t, orV_f, orV_exc, e_iteS, iteS_t, iteS_f, iteS_exc, e_it, itK_ok, itK_exc, it_tup, it_ctup, it_lst, it_bor, it_vw, it_scr, it_str, e_index, index_ok, e_mut, mut_rev, e_ext, ext_own, ext_dat, e_rg, e_shl, e_pow, e_noP, e_atP, part_int, e_slc, slc_okK, e_comp, compK_ok, compK_exc, wipe_nil, wipe_cons, e_for, forK_ok, forK_exc, bindV_dat, bindV_own, bindO_some, bt_one, bt_tup, bt_ctup, bt_lst, pm_nil, pm_nil2, pm_cons, e_par2, par2_dd, par2_od, par2_do, par2_oo, e_lock, lock_own, lock_dat, lock_bor, lock_none, e_lockS, outR_nx, outR_rt, outR_exc, e_litI, e_litS, e_litB, e_litN, e_litD, e_newK, e_newT, e_nx, e_bk, e_ct, e_rtN, e_yes, e_app, own_of, app_dat, app_own, app_exc, e_put, put_dat, put_own, putO_some, e_forget, fg_nx, fg_bk, fg_ct, fg_rt, fg_exc, List.getElem?_cons_zero, List.getElem?_cons_succ, List.set_cons_zero, List.set_cons_succ, List.length_cons, List.length_nil, Nat.reduceAdd, Nat.reduceLT, Bool.not_true, Bool.not_false, e_chn, chn_ok, chnV_t, chnV_f, e_lstB, e_tupB, dats_nil, dats_cons, datsO_some, lstK_ok, tupK_ok, len_tup, len_lst, len_vw, len_bor, len_scr, len_S, neg_i, not_bl, tupF_lst, tupF_tup, tupF_vw, tupF_bor, lstF_tup, lstF_lst, int_i, int_bl, is_t, isn_t, is_n, isn_n, eq_bl, ne_bl, isi_bl, add_ii, sub_ii, lt_ii, gt_ii, le_ii, ge_ii, eq_ii, ne_ii, min_ii, max_ii, and_ii, slc_tup, slc_l, slc_vw, slc_bor, back_tup, back_lst, app_l, app_m, Nat.reduceLeDiff, Int.cast_ofNat_Int, Int.natCast_zero, Int.natCast_one, Int.reduceEq, eq_self, Int.reduceLE, Int.reduceLT, Int.reduceNeg, Int.reduceToNat, Int.toNat_natCast, Int.reduceAdd, Int.reduceSub, Int.reduceMul, Nat.reduceMul, Nat.reduceSub, decide_true, decide_false, Bool.true_and, Bool.false_and, Bool.and_true, Bool.true_or, Bool.false_or, Bool.or_false, not_true_eq_false, not_false_eq_true, if_true, if_false, Bool.false_eq_true, reduceCtorEq, c_sizes_at, h]
theorem caught_no {web d : D} (h : E_sizes_at.F [.dat web, .dat d] = .exc 4) : E_law_caught_v2.F [.dat web, .dat d] = .ok (.dat (.str "refused")) := by
  rw [d_law_caught_v2 (by rfl)]
  have ix : idxB (.dat (.lst [.str "other", .str "refused"])) (.dat (.int 1)) = .ok (.dat (.str "refused")) := idx_lst rfl
  simp (decide := true) only [B_law_caught_v2, B_law_caught_v2_1, B_law_caught_v2_2, e_try, tryK_nx, tryK_rt, tryK_bk, tryK_ct, tryK_exc, tryK_pass, hdl_none, hdl_some, leaveN_nx, leaveN_rt, leaveN_ct, leaveN_bk, leaveS_nx, leaveS_rt, leaveS_ct, leaveS_bk, noErr_nil, noErr_cons, noErrO_none, noErrO_dat, noErrO_own, noErrO_bor, noErrO_scr, noErrB_dat, noErrB_own, errI_t, errI_f, errV_t, errT_t, errT_f, e_rz, retB_err, look_err, rd_err, arg_err, set_err, e_count, drop_any, e_seq, sq_nx, sq_rt, sq_bk, sq_ct, sq_exc, e_then, then_ok, then_exc, set_dat, set_own, set_bor, set_scr, setL_dat, setL_own, setL_bor, ret_dat, ret_own, rd_dat, rd_own, rd_vw, rd_bor, rd_scr, frz_l, frz_k, frz_t, e_var, look_dat, look_own, look_bor, look_scr, e_retN, lookN_dat, lookN_own, e_bin2, bin2_ok, bin2_exc, bin2_exc2, e_one1, one1_ok, one1_exc, e_cons, cons_okK, cons_exc, cons_exc2, e_nil, e_call, bnd_ok, bnd_exc, e_own, arg_dat, arg_vw, arg_bor, arg_scr, retB_dat, retB_own, e_tst, tst_bl, e_testV, test_ok, test_exc, tru_bl, tru_int, tru_non, tru_tup, tru_lst, tru_vw, e_notT, notK_ok, notK_exc, e_and, e_or, and_t, and_f, or_t, or_f, and_exc, or_exc, e_iteV, iteV_t, iteV_f, e_andV, e_orV, andV_t, andV_f, andV_exc, orV_t, orV_f, orV_exc, e_iteS, iteS_t, iteS_f, iteS_exc, e_it, itK_ok, itK_exc, it_tup, it_ctup, it_lst, it_bor, it_vw, it_scr, it_str, e_index, index_ok, e_mut, mut_rev, e_ext, ext_own, ext_dat, e_rg, e_shl, e_pow, e_noP, e_atP, part_int, e_slc, slc_okK, e_comp, compK_ok, compK_exc, wipe_nil, wipe_cons, e_for, forK_ok, forK_exc, bindV_dat, bindV_own, bindO_some, bt_one, bt_tup, bt_ctup, bt_lst, pm_nil, pm_nil2, pm_cons, e_par2, par2_dd, par2_od, par2_do, par2_oo, e_lock, lock_own, lock_dat, lock_bor, lock_none, e_lockS, outR_nx, outR_rt, outR_exc, e_litI, e_litS, e_litB, e_litN, e_litD, e_newK, e_newT, e_nx, e_bk, e_ct, e_rtN, e_yes, e_app, own_of, app_dat, app_own, app_exc, e_put, put_dat, put_own, putO_some, e_forget, fg_nx, fg_bk, fg_ct, fg_rt, fg_exc, List.getElem?_cons_zero, List.getElem?_cons_succ, List.set_cons_zero, List.set_cons_succ, List.length_cons, List.length_nil, Nat.reduceAdd, Nat.reduceLT, Bool.not_true, Bool.not_false, e_chn, chn_ok, chnV_t, chnV_f, e_lstB, e_tupB, dats_nil, dats_cons, datsO_some, lstK_ok, tupK_ok, len_tup, len_lst, len_vw, len_bor, len_scr, len_S, neg_i, not_bl, tupF_lst, tupF_tup, tupF_vw, tupF_bor, lstF_tup, lstF_lst, int_i, int_bl, is_t, isn_t, is_n, isn_n, eq_bl, ne_bl, isi_bl, add_ii, sub_ii, lt_ii, gt_ii, le_ii, ge_ii, eq_ii, ne_ii, min_ii, max_ii, and_ii, slc_tup, slc_l, slc_vw, slc_bor, back_tup, back_lst, app_l, app_m, Nat.reduceLeDiff, Int.cast_ofNat_Int, Int.natCast_zero, Int.natCast_one, Int.reduceEq, eq_self, Int.reduceLE, Int.reduceLT, Int.reduceNeg, Int.reduceToNat, Int.toNat_natCast, Int.reduceAdd, Int.reduceSub, Int.reduceMul, Nat.reduceMul, Nat.reduceSub, decide_true, decide_false, Bool.true_and, Bool.false_and, Bool.and_true, Bool.true_or, Bool.false_or, Bool.or_false, not_true_eq_false, not_false_eq_true, if_true, if_false, Bool.false_eq_true, reduceCtorEq, c_sizes_at, h, ix]
theorem due_fr (a b : Int) (q : Rat) : Rat.divInt (a * q.den + b * q.num) q.den = (a : Rat) + (b : Rat) * q := by
  have hd : ((q.den : Int) : Rat) ≠ 0 := fun z => den_ne (q := q) (by exact_mod_cast z)
  have hq : q * ((q.den : Int) : Rat) = (q.num : Rat) := by
    have := Rat.num_divInt_den q
    rw [Rat.divInt_eq_div] at this
    rw [← Rat.div_mul_cancel (a := (q.num : Rat)) hd, this]
  rw [Rat.divInt_eq_div, Rat.intCast_add, Rat.intCast_mul, Rat.intCast_mul]
  grind
theorem due_fr2 (a b : Int) (q : Rat) : Rat.divInt (a * q.den - b * q.num) q.den = (a : Rat) - (b : Rat) * q := by
  have hd : ((q.den : Int) : Rat) ≠ 0 := fun z => den_ne (q := q) (by exact_mod_cast z)
  have hq : q * ((q.den : Int) : Rat) = (q.num : Rat) := by
    have := Rat.num_divInt_den q
    rw [Rat.divInt_eq_div] at this
    rw [← Rat.div_mul_cancel (a := (q.num : Rat)) hd, this]
  rw [Rat.divInt_eq_div, Rat.intCast_sub, Rat.intCast_mul, Rat.intCast_mul]
  grind
theorem due_spec {top : Int} {ps : List Plc} {ts : List Tie} (h : WebOk top ps ts) {q : Rat} (b : FrB q 100) :
    E_law_due_v1.F [.dat (webD top ps ts), .dat (frD q)] = .ok (.dat (.tup [.tup (ps.map fun p => frD (inS p q)), .tup (ts.map fun t => D.tup [.int t.2, .int 1]), .tup (ps.map fun p => frD (ouS p q))])) := by
  haveI := b.zn
  haveI := b.zd
  have hle := h.le
  have lp : ∀ (L P : List Plc), P ++ L = ps → loopF (.many [6, 7, 8, 9, 10]) B_law_due_v1_1 (L.map plD) [some (.dat (webD top ps ts)), some (.dat (frD q)), some (.dat (.int q.num)), some (.dat (.int (q.den : Int))), some (.own (.l (P.map fun p => frD (inS p q)))), some (.own (.l (P.map fun p => frD (ouS p q)))), none, none, none, none, none, none] =
      .nx [some (.dat (webD top ps ts)), some (.dat (frD q)), some (.dat (.int q.num)), some (.dat (.int (q.den : Int))), some (.own (.l (ps.map fun p => frD (inS p q)))), some (.own (.l (ps.map fun p => frD (ouS p q)))), none, none, none, none, none, none] := by
    intro L
    induction L with
    | nil => intro P e; rw [List.append_nil] at e; subst e; rfl
    | cons p L ih =>
      intro P e
      have hp : p ∈ ps := by rw [← e]; simp
      have ok := h.pl p hp
      have c0 := ok.c0' h.t1
      have a0 := ok.a0
      have a1 := ok.a1
      have b0 := ok.b0
      have b1 := ok.b1
      have c1 := ok.c1
      have d0 := ok.d0
      have d1 := ok.d1
      have hPl : P.length < 900 := by have := congrArg List.length e; rw [List.length_append, List.length_cons] at this; omega
      rw [List.map_cons, loop_one (bt_tup (by rfl))]
      haveI : ISz p.a 10 := isz_of (by omega) (by omega)
      haveI : ISz p.b 10 := isz_of (by omega) (by omega)
      haveI : ISz p.c 10 := isz_of (by omega) (by omega)
      haveI : ISz p.d 10 := isz_of (by omega) (by omega)
      have m1 := mul_z (i := p.a) (j := (q.den : Int)) (by decide)
      have m2 := mul_z (i := p.b) (j := q.num) (by decide)
      have m3 := mul_z (i := p.c) (j := (q.den : Int)) (by decide)
      have m4 := mul_z (i := p.d) (j := q.num) (by decide)
      have dz : ((q.den : Int)).natAbs < 2 ^ 8000 := by rw [Int.natAbs_natCast]; exact Nat.lt_of_lt_of_le b.dd (Nat.pow_le_pow_right (by decide) (by decide))
      have s1 : E_law_low.F [.dat (.int (p.a * (q.den : Int) + p.b * q.num)), .dat (.int (q.den : Int))] = .ok (.dat (frD (inS p q))) := by rw [law_low_spec _ _ den_ne dz, due_fr]; rfl
      have s2 : E_law_low.F [.dat (.int (p.c * (q.den : Int) - p.d * q.num)), .dat (.int (q.den : Int))] = .ok (.dat (frD (ouS p q))) := by rw [law_low_spec _ _ den_ne dz, due_fr2]; rfl
      have g1 : (P.map fun p => frD (inS p q)).length < 1000 := by rw [List.length_map]; omega
      have g2 : (P.map fun p => frD (ouS p q)).length < 1000 := by rw [List.length_map]; omega
      have st : B_law_due_v1_1 (putMany [6, 7, 8, 9, 10] [.str p.n, .int p.a, .int p.b, .int p.c, .int p.d] [some (.dat (webD top ps ts)), some (.dat (frD q)), some (.dat (.int q.num)), some (.dat (.int (q.den : Int))), some (.own (.l (P.map fun p => frD (inS p q)))), some (.own (.l (P.map fun p => frD (ouS p q)))), none, none, none, none, none, none]) =
          .nx [some (.dat (webD top ps ts)), some (.dat (frD q)), some (.dat (.int q.num)), some (.dat (.int (q.den : Int))), some (.own (.l (P.map (fun p => frD (inS p q)) ++ [frD (inS p q)]))), some (.own (.l (P.map (fun p => frD (ouS p q)) ++ [frD (ouS p q)]))), none, none, none, none, none, none] := by
        simp only [B_law_due_v1_1, e_try, tryK_nx, tryK_rt, tryK_bk, tryK_ct, tryK_exc, tryK_pass, hdl_none, hdl_some, leaveN_nx, leaveN_rt, leaveN_ct, leaveN_bk, leaveS_nx, leaveS_rt, leaveS_ct, leaveS_bk, noErr_nil, noErr_cons, noErrO_none, noErrO_dat, noErrO_own, noErrO_bor, noErrO_scr, noErrB_dat, noErrB_own, errI_t, errI_f, errV_t, errT_t, errT_f, e_rz, retB_err, look_err, rd_err, arg_err, set_err, e_count, drop_any, e_seq, sq_nx, sq_rt, sq_bk, sq_ct, sq_exc, e_then, then_ok, then_exc, set_dat, set_own, set_bor, set_scr, setL_dat, setL_own, setL_bor, ret_dat, ret_own, rd_dat, rd_own, rd_vw, rd_bor, rd_scr, frz_l, frz_k, frz_t, e_var, look_dat, look_own, look_bor, look_scr, e_retN, lookN_dat, lookN_own, e_bin2, bin2_ok, bin2_exc, bin2_exc2, e_one1, one1_ok, one1_exc, e_cons, cons_okK, cons_exc, cons_exc2, e_nil, e_call, bnd_ok, bnd_exc, e_own, arg_dat, arg_vw, arg_bor, arg_scr, retB_dat, retB_own, e_tst, tst_bl, e_testV, test_ok, test_exc, tru_bl, tru_int, tru_non, tru_tup, tru_lst, tru_vw, e_notT, notK_ok, notK_exc, e_and, e_or, and_t, and_f, or_t, or_f, and_exc, or_exc, e_iteV, iteV_t, iteV_f, e_andV, e_orV, andV_t, andV_f, andV_exc, orV_t, orV_f, orV_exc, e_iteS, iteS_t, iteS_f, iteS_exc, e_it, itK_ok, itK_exc, it_tup, it_ctup, it_lst, it_bor, it_vw, it_scr, it_str, e_index, index_ok, e_mut, mut_rev, e_ext, ext_own, ext_dat, e_rg, e_shl, e_pow, e_noP, e_atP, part_int, e_slc, slc_okK, e_comp, compK_ok, compK_exc, wipe_nil, wipe_cons, e_for, forK_ok, forK_exc, bindV_dat, bindV_own, bindO_some, bt_one, bt_tup, bt_ctup, bt_lst, pm_nil, pm_nil2, pm_cons, e_par2, par2_dd, par2_od, par2_do, par2_oo, e_lock, lock_own, lock_dat, lock_bor, lock_none, e_lockS, outR_nx, outR_rt, outR_exc, e_litI, e_litS, e_litB, e_litN, e_litD, e_newK, e_newT, e_nx, e_bk, e_ct, e_rtN, e_yes, e_app, own_of, app_dat, app_own, app_exc, e_put, put_dat, put_own, putO_some, e_forget, fg_nx, fg_bk, fg_ct, fg_rt, fg_exc, List.getElem?_cons_zero, List.getElem?_cons_succ, List.set_cons_zero, List.set_cons_succ, List.length_cons, List.length_nil, Nat.reduceAdd, Nat.reduceLT, Bool.not_true, Bool.not_false, e_chn, chn_ok, chnV_t, chnV_f, e_lstB, e_tupB, dats_nil, dats_cons, datsO_some, lstK_ok, tupK_ok, len_tup, len_lst, len_vw, len_bor, len_scr, len_S, neg_i, not_bl, tupF_lst, tupF_tup, tupF_vw, tupF_bor, lstF_tup, lstF_lst, int_i, int_bl, is_t, isn_t, is_n, isn_n, eq_bl, ne_bl, isi_bl, add_ii, sub_ii, lt_ii, gt_ii, le_ii, ge_ii, eq_ii, ne_ii, min_ii, max_ii, and_ii, slc_tup, slc_l, slc_vw, slc_bor, back_tup, back_lst, app_l, app_m, Nat.reduceLeDiff, Int.cast_ofNat_Int, Int.natCast_zero, Int.natCast_one, Int.reduceEq, eq_self, Int.reduceLE, Int.reduceLT, Int.reduceNeg, Int.reduceToNat, Int.toNat_natCast, Int.reduceAdd, Int.reduceSub, Int.reduceMul, Nat.reduceMul, Nat.reduceSub, decide_true, decide_false, Bool.true_and, Bool.false_and, Bool.and_true, Bool.true_or, Bool.false_or, Bool.or_false, not_true_eq_false, not_false_eq_true, if_true, if_false, Bool.false_eq_true, reduceCtorEq, m1, m2, m3, m4, c_law_low, s1, s2, g1, g2]
      rw [st, lk_nx]
      have := ih (P ++ [p]) (by rw [List.append_assoc]; exact e)
      rw [List.map_append, List.map_append] at this
      exact this
  have lp0 := lp ps [] rfl
  simp only [List.map_nil] at lp0
  have cc : compD (.one 11) yesF (callF tupB (consA (bin2 idxB (varB 11) (litI 2)) (consA (litI 1) nilA))) [some (.dat (webD top ps ts)), some (.dat (frD q)), some (.dat (.int q.num)), some (.dat (.int (q.den : Int))), some (.dat (.lst (ps.map fun p => frD (inS p q)))), some (.dat (.lst (ps.map fun p => frD (ouS p q)))), none, none, none, none, none, none] (ts.map tiD) = .ok (.own (.l (ts.map fun t => D.tup [.int t.2, .int 1]))) :=
    compD_all (h := fun t : Tie => D.tup [.int t.2, .int 1]) (le_sz (by have := h.few; omega)) (by
      intro t _
      have j : idxB (.dat (tiD t)) (.dat (.int 2)) = .ok (.dat (.int t.2)) := idx_tup rfl
      simp only [e_try, tryK_nx, tryK_rt, tryK_bk, tryK_ct, tryK_exc, tryK_pass, hdl_none, hdl_some, leaveN_nx, leaveN_rt, leaveN_ct, leaveN_bk, leaveS_nx, leaveS_rt, leaveS_ct, leaveS_bk, noErr_nil, noErr_cons, noErrO_none, noErrO_dat, noErrO_own, noErrO_bor, noErrO_scr, noErrB_dat, noErrB_own, errI_t, errI_f, errV_t, errT_t, errT_f, e_rz, retB_err, look_err, rd_err, arg_err, set_err, e_count, drop_any, e_seq, sq_nx, sq_rt, sq_bk, sq_ct, sq_exc, e_then, then_ok, then_exc, set_dat, set_own, set_bor, set_scr, setL_dat, setL_own, setL_bor, ret_dat, ret_own, rd_dat, rd_own, rd_vw, rd_bor, rd_scr, frz_l, frz_k, frz_t, e_var, look_dat, look_own, look_bor, look_scr, e_retN, lookN_dat, lookN_own, e_bin2, bin2_ok, bin2_exc, bin2_exc2, e_one1, one1_ok, one1_exc, e_cons, cons_okK, cons_exc, cons_exc2, e_nil, e_call, bnd_ok, bnd_exc, e_own, arg_dat, arg_vw, arg_bor, arg_scr, retB_dat, retB_own, e_tst, tst_bl, e_testV, test_ok, test_exc, tru_bl, tru_int, tru_non, tru_tup, tru_lst, tru_vw, e_notT, notK_ok, notK_exc, e_and, e_or, and_t, and_f, or_t, or_f, and_exc, or_exc, e_iteV, iteV_t, iteV_f, e_andV, e_orV, andV_t, andV_f, andV_exc, orV_t, orV_f, orV_exc, e_iteS, iteS_t, iteS_f, iteS_exc, e_it, itK_ok, itK_exc, it_tup, it_ctup, it_lst, it_bor, it_vw, it_scr, it_str, e_index, index_ok, e_mut, mut_rev, e_ext, ext_own, ext_dat, e_rg, e_shl, e_pow, e_noP, e_atP, part_int, e_slc, slc_okK, e_comp, compK_ok, compK_exc, wipe_nil, wipe_cons, e_for, forK_ok, forK_exc, bindV_dat, bindV_own, bindO_some, bt_one, bt_tup, bt_ctup, bt_lst, pm_nil, pm_nil2, pm_cons, e_par2, par2_dd, par2_od, par2_do, par2_oo, e_lock, lock_own, lock_dat, lock_bor, lock_none, e_lockS, outR_nx, outR_rt, outR_exc, e_litI, e_litS, e_litB, e_litN, e_litD, e_newK, e_newT, e_nx, e_bk, e_ct, e_rtN, e_yes, e_app, own_of, app_dat, app_own, app_exc, e_put, put_dat, put_own, putO_some, e_forget, fg_nx, fg_bk, fg_ct, fg_rt, fg_exc, List.getElem?_cons_zero, List.getElem?_cons_succ, List.set_cons_zero, List.set_cons_succ, List.length_cons, List.length_nil, Nat.reduceAdd, Nat.reduceLT, Bool.not_true, Bool.not_false, e_chn, chn_ok, chnV_t, chnV_f, e_lstB, e_tupB, dats_nil, dats_cons, datsO_some, lstK_ok, tupK_ok, len_tup, len_lst, len_vw, len_bor, len_scr, len_S, neg_i, not_bl, tupF_lst, tupF_tup, tupF_vw, tupF_bor, lstF_tup, lstF_lst, int_i, int_bl, is_t, isn_t, is_n, isn_n, eq_bl, ne_bl, isi_bl, add_ii, sub_ii, lt_ii, gt_ii, le_ii, ge_ii, eq_ii, ne_ii, min_ii, max_ii, and_ii, slc_tup, slc_l, slc_vw, slc_bor, back_tup, back_lst, app_l, app_m, Nat.reduceLeDiff, Int.cast_ofNat_Int, Int.natCast_zero, Int.natCast_one, Int.reduceEq, eq_self, Int.reduceLE, Int.reduceLT, Int.reduceNeg, Int.reduceToNat, Int.toNat_natCast, Int.reduceAdd, Int.reduceSub, Int.reduceMul, Nat.reduceMul, Nat.reduceSub, decide_true, decide_false, Bool.true_and, Bool.false_and, Bool.and_true, Bool.true_or, Bool.false_or, Bool.or_false, not_true_eq_false, not_false_eq_true, if_true, if_false, Bool.false_eq_true, reduceCtorEq, mapC_nil, mapC_cons, consC_ok, e_step, stepK_some, stepV_t, stepV_f, datR_dat, datR_own, loop_nil, lk_nx, lk_ct, lk_bk, lk_rt, lk_exc, Option.toList, List.nil_append, List.cons_append, j])
  have bv : bindV (.many [2, 3]) (.dat (frD q)) [some (.dat (webD top ps ts)), some (.dat (frD q)), none, none, none, none, none, none, none, none, none, none] = .nx [some (.dat (webD top ps ts)), some (.dat (frD q)), some (.dat (.int q.num)), some (.dat (.int (q.den : Int))), none, none, none, none, none, none, none, none] := rfl
  rw [d_law_due_v1 (by rfl)]
  simp only [B_law_due_v1, e_try, tryK_nx, tryK_rt, tryK_bk, tryK_ct, tryK_exc, tryK_pass, hdl_none, hdl_some, leaveN_nx, leaveN_rt, leaveN_ct, leaveN_bk, leaveS_nx, leaveS_rt, leaveS_ct, leaveS_bk, noErr_nil, noErr_cons, noErrO_none, noErrO_dat, noErrO_own, noErrO_bor, noErrO_scr, noErrB_dat, noErrB_own, errI_t, errI_f, errV_t, errT_t, errT_f, e_rz, retB_err, look_err, rd_err, arg_err, set_err, e_count, drop_any, e_seq, sq_nx, sq_rt, sq_bk, sq_ct, sq_exc, e_then, then_ok, then_exc, set_dat, set_own, set_bor, set_scr, setL_dat, setL_own, setL_bor, ret_dat, ret_own, rd_dat, rd_own, rd_vw, rd_bor, rd_scr, frz_l, frz_k, frz_t, e_var, look_dat, look_own, look_bor, look_scr, e_retN, lookN_dat, lookN_own, e_bin2, bin2_ok, bin2_exc, bin2_exc2, e_one1, one1_ok, one1_exc, e_cons, cons_okK, cons_exc, cons_exc2, e_nil, e_call, bnd_ok, bnd_exc, e_own, arg_dat, arg_vw, arg_bor, arg_scr, retB_dat, retB_own, e_tst, tst_bl, e_testV, test_ok, test_exc, tru_bl, tru_int, tru_non, tru_tup, tru_lst, tru_vw, e_notT, notK_ok, notK_exc, e_and, e_or, and_t, and_f, or_t, or_f, and_exc, or_exc, e_iteV, iteV_t, iteV_f, e_andV, e_orV, andV_t, andV_f, andV_exc, orV_t, orV_f, orV_exc, e_iteS, iteS_t, iteS_f, iteS_exc, e_it, itK_ok, itK_exc, it_tup, it_ctup, it_lst, it_bor, it_vw, it_scr, it_str, e_index, index_ok, e_mut, mut_rev, e_ext, ext_own, ext_dat, e_rg, e_shl, e_pow, e_noP, e_atP, part_int, e_slc, slc_okK, e_comp, compK_ok, compK_exc, wipe_nil, wipe_cons, e_for, forK_ok, forK_exc, bindV_dat, bindV_own, bindO_some, bt_one, bt_tup, bt_ctup, bt_lst, pm_nil, pm_nil2, pm_cons, e_par2, par2_dd, par2_od, par2_do, par2_oo, e_lock, lock_own, lock_dat, lock_bor, lock_none, e_lockS, outR_nx, outR_rt, outR_exc, e_litI, e_litS, e_litB, e_litN, e_litD, e_newK, e_newT, e_nx, e_bk, e_ct, e_rtN, e_yes, e_app, own_of, app_dat, app_own, app_exc, e_put, put_dat, put_own, putO_some, e_forget, fg_nx, fg_bk, fg_ct, fg_rt, fg_exc, List.getElem?_cons_zero, List.getElem?_cons_succ, List.set_cons_zero, List.set_cons_succ, List.length_cons, List.length_nil, Nat.reduceAdd, Nat.reduceLT, Bool.not_true, Bool.not_false, e_chn, chn_ok, chnV_t, chnV_f, e_lstB, e_tupB, dats_nil, dats_cons, datsO_some, lstK_ok, tupK_ok, len_tup, len_lst, len_vw, len_bor, len_scr, len_S, neg_i, not_bl, tupF_lst, tupF_tup, tupF_vw, tupF_bor, lstF_tup, lstF_lst, int_i, int_bl, is_t, isn_t, is_n, isn_n, eq_bl, ne_bl, isi_bl, add_ii, sub_ii, lt_ii, gt_ii, le_ii, ge_ii, eq_ii, ne_ii, min_ii, max_ii, and_ii, slc_tup, slc_l, slc_vw, slc_bor, back_tup, back_lst, app_l, app_m, Nat.reduceLeDiff, Int.cast_ofNat_Int, Int.natCast_zero, Int.natCast_one, Int.reduceEq, eq_self, Int.reduceLE, Int.reduceLT, Int.reduceNeg, Int.reduceToNat, Int.toNat_natCast, Int.reduceAdd, Int.reduceSub, Int.reduceMul, Nat.reduceMul, Nat.reduceSub, decide_true, decide_false, Bool.true_and, Bool.false_and, Bool.and_true, Bool.true_or, Bool.false_or, Bool.or_false, not_true_eq_false, not_false_eq_true, if_true, if_false, Bool.false_eq_true, reduceCtorEq, bv, idx_w1, idx_w2, lp0, cc]
theorem num_nn (q : Rat) : decide (0 ≤ q.num) = decide (0 ≤ q) := by
  rw [decide_eq_decide, Rat.le_iff]
  show _ ↔ (0 : Rat).num * _ ≤ q.num * ((0 : Rat).den : Int)
  rw [show (0 : Rat).num = 0 from rfl, show ((0 : Rat).den : Int) = 1 from rfl, Int.zero_mul, Int.mul_one]
theorem num_le (q : Rat) (t : Int) : decide (q.num ≤ t * (q.den : Int)) = decide (q ≤ (t : Rat)) := by
  rw [decide_eq_decide, Rat.le_iff, Rat.num_intCast, Rat.den_intCast, Int.natCast_one, Int.mul_one]
theorem ty_bl (x : Bool) : isTy .bool (.bl x) = true := rfl
theorem right_spec {top : Int} {ps : List Plc} {ts : List Tie} (h : WebOk top ps ts) {d : D} (f : fit 4 d = true) (sm : Sm2 d) : E_law_right_v1.F [.dat (webD top ps ts), .dat d] = .ok (.dat (.bl true)) := by
  have lf := law_is_fraction_spec d f sm
  have rf : eqB (.dat (.str "refused")) (.dat (.str "refused")) = .ok (.dat (.bl true)) := eq_self_ (shp_str (by decide +kernel)) (by decide)
  rw [d_law_right_v1 (by rfl)]
  cases hf : isFr d with
  | false =>
    rw [hf] at lf
    have pr := is_price_no (top := top) (ps := ps) (ts := ts) f hf
    have cn := caught_no (sizes_no pr)
    simp only [B_law_right_v1, e_try, tryK_nx, tryK_rt, tryK_bk, tryK_ct, tryK_exc, tryK_pass, hdl_none, hdl_some, leaveN_nx, leaveN_rt, leaveN_ct, leaveN_bk, leaveS_nx, leaveS_rt, leaveS_ct, leaveS_bk, noErr_nil, noErr_cons, noErrO_none, noErrO_dat, noErrO_own, noErrO_bor, noErrO_scr, noErrB_dat, noErrB_own, errI_t, errI_f, errV_t, errT_t, errT_f, e_rz, retB_err, look_err, rd_err, arg_err, set_err, e_count, drop_any, e_seq, sq_nx, sq_rt, sq_bk, sq_ct, sq_exc, e_then, then_ok, then_exc, set_dat, set_own, set_bor, set_scr, setL_dat, setL_own, setL_bor, ret_dat, ret_own, rd_dat, rd_own, rd_vw, rd_bor, rd_scr, frz_l, frz_k, frz_t, e_var, look_dat, look_own, look_bor, look_scr, e_retN, lookN_dat, lookN_own, e_bin2, bin2_ok, bin2_exc, bin2_exc2, e_one1, one1_ok, one1_exc, e_cons, cons_okK, cons_exc, cons_exc2, e_nil, e_call, bnd_ok, bnd_exc, e_own, arg_dat, arg_vw, arg_bor, arg_scr, retB_dat, retB_own, e_tst, tst_bl, e_testV, test_ok, test_exc, tru_bl, tru_int, tru_non, tru_tup, tru_lst, tru_vw, e_notT, notK_ok, notK_exc, e_and, e_or, and_t, and_f, or_t, or_f, and_exc, or_exc, e_iteV, iteV_t, iteV_f, e_andV, e_orV, andV_t, andV_f, andV_exc, orV_t, orV_f, orV_exc, e_iteS, iteS_t, iteS_f, iteS_exc, e_it, itK_ok, itK_exc, it_tup, it_ctup, it_lst, it_bor, it_vw, it_scr, it_str, e_index, index_ok, e_mut, mut_rev, e_ext, ext_own, ext_dat, e_rg, e_shl, e_pow, e_noP, e_atP, part_int, e_slc, slc_okK, e_comp, compK_ok, compK_exc, wipe_nil, wipe_cons, e_for, forK_ok, forK_exc, bindV_dat, bindV_own, bindO_some, bt_one, bt_tup, bt_ctup, bt_lst, pm_nil, pm_nil2, pm_cons, e_par2, par2_dd, par2_od, par2_do, par2_oo, e_lock, lock_own, lock_dat, lock_bor, lock_none, e_lockS, outR_nx, outR_rt, outR_exc, e_litI, e_litS, e_litB, e_litN, e_litD, e_newK, e_newT, e_nx, e_bk, e_ct, e_rtN, e_yes, e_app, own_of, app_dat, app_own, app_exc, e_put, put_dat, put_own, putO_some, e_forget, fg_nx, fg_bk, fg_ct, fg_rt, fg_exc, List.getElem?_cons_zero, List.getElem?_cons_succ, List.set_cons_zero, List.set_cons_succ, List.length_cons, List.length_nil, Nat.reduceAdd, Nat.reduceLT, Bool.not_true, Bool.not_false, e_chn, chn_ok, chnV_t, chnV_f, e_lstB, e_tupB, dats_nil, dats_cons, datsO_some, lstK_ok, tupK_ok, len_tup, len_lst, len_vw, len_bor, len_scr, len_S, neg_i, not_bl, tupF_lst, tupF_tup, tupF_vw, tupF_bor, lstF_tup, lstF_lst, int_i, int_bl, is_t, isn_t, is_n, isn_n, eq_bl, ne_bl, isi_bl, add_ii, sub_ii, lt_ii, gt_ii, le_ii, ge_ii, eq_ii, ne_ii, min_ii, max_ii, and_ii, slc_tup, slc_l, slc_vw, slc_bor, back_tup, back_lst, app_l, app_m, Nat.reduceLeDiff, Int.cast_ofNat_Int, Int.natCast_zero, Int.natCast_one, Int.reduceEq, eq_self, Int.reduceLE, Int.reduceLT, Int.reduceNeg, Int.reduceToNat, Int.toNat_natCast, Int.reduceAdd, Int.reduceSub, Int.reduceMul, Nat.reduceMul, Nat.reduceSub, decide_true, decide_false, Bool.true_and, Bool.false_and, Bool.and_true, Bool.true_or, Bool.false_or, Bool.or_false, not_true_eq_false, not_false_eq_true, if_true, if_false, Bool.false_eq_true, reduceCtorEq, ty_bl, c_law_is_fraction_v2, lf, c_is_price, pr, c_law_caught_v2, cn, rf, Bool.not_false]
  | true =>
    rw [hf] at lf
    obtain ⟨q, rfl⟩ := isFr_some hf
    obtain ⟨s1, s2⟩ := sm _ _ rfl
    have b : FrB q 100 := ⟨s1, by rwa [Int.natAbs_natCast] at s2⟩
    have t1 := h.t1
    have t9 := h.t9
    haveI := b.zd
    haveI : ISz top 4 := isz_of (by omega) (by omega)
    have m1 := mul_z (i := top) (j := (q.den : Int)) (by decide)
    have pr := is_price_fr h b (by decide)
    cases h0 : decide (0 ≤ q) with
    | false =>
      rw [h0, Bool.false_and] at pr
      have cn := caught_no (sizes_no pr)
      have e0 := num_nn q
      rw [h0] at e0
      simp only [B_law_right_v1, e_try, tryK_nx, tryK_rt, tryK_bk, tryK_ct, tryK_exc, tryK_pass, hdl_none, hdl_some, leaveN_nx, leaveN_rt, leaveN_ct, leaveN_bk, leaveS_nx, leaveS_rt, leaveS_ct, leaveS_bk, noErr_nil, noErr_cons, noErrO_none, noErrO_dat, noErrO_own, noErrO_bor, noErrO_scr, noErrB_dat, noErrB_own, errI_t, errI_f, errV_t, errT_t, errT_f, e_rz, retB_err, look_err, rd_err, arg_err, set_err, e_count, drop_any, e_seq, sq_nx, sq_rt, sq_bk, sq_ct, sq_exc, e_then, then_ok, then_exc, set_dat, set_own, set_bor, set_scr, setL_dat, setL_own, setL_bor, ret_dat, ret_own, rd_dat, rd_own, rd_vw, rd_bor, rd_scr, frz_l, frz_k, frz_t, e_var, look_dat, look_own, look_bor, look_scr, e_retN, lookN_dat, lookN_own, e_bin2, bin2_ok, bin2_exc, bin2_exc2, e_one1, one1_ok, one1_exc, e_cons, cons_okK, cons_exc, cons_exc2, e_nil, e_call, bnd_ok, bnd_exc, e_own, arg_dat, arg_vw, arg_bor, arg_scr, retB_dat, retB_own, e_tst, tst_bl, e_testV, test_ok, test_exc, tru_bl, tru_int, tru_non, tru_tup, tru_lst, tru_vw, e_notT, notK_ok, notK_exc, e_and, e_or, and_t, and_f, or_t, or_f, and_exc, or_exc, e_iteV, iteV_t, iteV_f, e_andV, e_orV, andV_t, andV_f, andV_exc, orV_t, orV_f, orV_exc, e_iteS, iteS_t, iteS_f, iteS_exc, e_it, itK_ok, itK_exc, it_tup, it_ctup, it_lst, it_bor, it_vw, it_scr, it_str, e_index, index_ok, e_mut, mut_rev, e_ext, ext_own, ext_dat, e_rg, e_shl, e_pow, e_noP, e_atP, part_int, e_slc, slc_okK, e_comp, compK_ok, compK_exc, wipe_nil, wipe_cons, e_for, forK_ok, forK_exc, bindV_dat, bindV_own, bindO_some, bt_one, bt_tup, bt_ctup, bt_lst, pm_nil, pm_nil2, pm_cons, e_par2, par2_dd, par2_od, par2_do, par2_oo, e_lock, lock_own, lock_dat, lock_bor, lock_none, e_lockS, outR_nx, outR_rt, outR_exc, e_litI, e_litS, e_litB, e_litN, e_litD, e_newK, e_newT, e_nx, e_bk, e_ct, e_rtN, e_yes, e_app, own_of, app_dat, app_own, app_exc, e_put, put_dat, put_own, putO_some, e_forget, fg_nx, fg_bk, fg_ct, fg_rt, fg_exc, List.getElem?_cons_zero, List.getElem?_cons_succ, List.set_cons_zero, List.set_cons_succ, List.length_cons, List.length_nil, Nat.reduceAdd, Nat.reduceLT, Bool.not_true, Bool.not_false, e_chn, chn_ok, chnV_t, chnV_f, e_lstB, e_tupB, dats_nil, dats_cons, datsO_some, lstK_ok, tupK_ok, len_tup, len_lst, len_vw, len_bor, len_scr, len_S, neg_i, not_bl, tupF_lst, tupF_tup, tupF_vw, tupF_bor, lstF_tup, lstF_lst, int_i, int_bl, is_t, isn_t, is_n, isn_n, eq_bl, ne_bl, isi_bl, add_ii, sub_ii, lt_ii, gt_ii, le_ii, ge_ii, eq_ii, ne_ii, min_ii, max_ii, and_ii, slc_tup, slc_l, slc_vw, slc_bor, back_tup, back_lst, app_l, app_m, Nat.reduceLeDiff, Int.cast_ofNat_Int, Int.natCast_zero, Int.natCast_one, Int.reduceEq, eq_self, Int.reduceLE, Int.reduceLT, Int.reduceNeg, Int.reduceToNat, Int.toNat_natCast, Int.reduceAdd, Int.reduceSub, Int.reduceMul, Nat.reduceMul, Nat.reduceSub, decide_true, decide_false, Bool.true_and, Bool.false_and, Bool.and_true, Bool.true_or, Bool.false_or, Bool.or_false, not_true_eq_false, not_false_eq_true, if_true, if_false, Bool.false_eq_true, reduceCtorEq, ty_bl, c_law_is_fraction_v2, lf, fr_0, fr_1, idx_w0, m1, e0, c_is_price, pr, c_law_caught_v2, cn, rf]
    | true =>
      have e0 := num_nn q
      rw [h0] at e0
      have e1 := num_le q top
      cases h1 : decide (q ≤ (top : Rat)) with
      | false =>
        rw [h0, h1, Bool.and_false] at pr
        rw [h1] at e1
        have cn := caught_no (sizes_no pr)
        simp only [B_law_right_v1, e_try, tryK_nx, tryK_rt, tryK_bk, tryK_ct, tryK_exc, tryK_pass, hdl_none, hdl_some, leaveN_nx, leaveN_rt, leaveN_ct, leaveN_bk, leaveS_nx, leaveS_rt, leaveS_ct, leaveS_bk, noErr_nil, noErr_cons, noErrO_none, noErrO_dat, noErrO_own, noErrO_bor, noErrO_scr, noErrB_dat, noErrB_own, errI_t, errI_f, errV_t, errT_t, errT_f, e_rz, retB_err, look_err, rd_err, arg_err, set_err, e_count, drop_any, e_seq, sq_nx, sq_rt, sq_bk, sq_ct, sq_exc, e_then, then_ok, then_exc, set_dat, set_own, set_bor, set_scr, setL_dat, setL_own, setL_bor, ret_dat, ret_own, rd_dat, rd_own, rd_vw, rd_bor, rd_scr, frz_l, frz_k, frz_t, e_var, look_dat, look_own, look_bor, look_scr, e_retN, lookN_dat, lookN_own, e_bin2, bin2_ok, bin2_exc, bin2_exc2, e_one1, one1_ok, one1_exc, e_cons, cons_okK, cons_exc, cons_exc2, e_nil, e_call, bnd_ok, bnd_exc, e_own, arg_dat, arg_vw, arg_bor, arg_scr, retB_dat, retB_own, e_tst, tst_bl, e_testV, test_ok, test_exc, tru_bl, tru_int, tru_non, tru_tup, tru_lst, tru_vw, e_notT, notK_ok, notK_exc, e_and, e_or, and_t, and_f, or_t, or_f, and_exc, or_exc, e_iteV, iteV_t, iteV_f, e_andV, e_orV, andV_t, andV_f, andV_exc, orV_t, orV_f, orV_exc, e_iteS, iteS_t, iteS_f, iteS_exc, e_it, itK_ok, itK_exc, it_tup, it_ctup, it_lst, it_bor, it_vw, it_scr, it_str, e_index, index_ok, e_mut, mut_rev, e_ext, ext_own, ext_dat, e_rg, e_shl, e_pow, e_noP, e_atP, part_int, e_slc, slc_okK, e_comp, compK_ok, compK_exc, wipe_nil, wipe_cons, e_for, forK_ok, forK_exc, bindV_dat, bindV_own, bindO_some, bt_one, bt_tup, bt_ctup, bt_lst, pm_nil, pm_nil2, pm_cons, e_par2, par2_dd, par2_od, par2_do, par2_oo, e_lock, lock_own, lock_dat, lock_bor, lock_none, e_lockS, outR_nx, outR_rt, outR_exc, e_litI, e_litS, e_litB, e_litN, e_litD, e_newK, e_newT, e_nx, e_bk, e_ct, e_rtN, e_yes, e_app, own_of, app_dat, app_own, app_exc, e_put, put_dat, put_own, putO_some, e_forget, fg_nx, fg_bk, fg_ct, fg_rt, fg_exc, List.getElem?_cons_zero, List.getElem?_cons_succ, List.set_cons_zero, List.set_cons_succ, List.length_cons, List.length_nil, Nat.reduceAdd, Nat.reduceLT, Bool.not_true, Bool.not_false, e_chn, chn_ok, chnV_t, chnV_f, e_lstB, e_tupB, dats_nil, dats_cons, datsO_some, lstK_ok, tupK_ok, len_tup, len_lst, len_vw, len_bor, len_scr, len_S, neg_i, not_bl, tupF_lst, tupF_tup, tupF_vw, tupF_bor, lstF_tup, lstF_lst, int_i, int_bl, is_t, isn_t, is_n, isn_n, eq_bl, ne_bl, isi_bl, add_ii, sub_ii, lt_ii, gt_ii, le_ii, ge_ii, eq_ii, ne_ii, min_ii, max_ii, and_ii, slc_tup, slc_l, slc_vw, slc_bor, back_tup, back_lst, app_l, app_m, Nat.reduceLeDiff, Int.cast_ofNat_Int, Int.natCast_zero, Int.natCast_one, Int.reduceEq, eq_self, Int.reduceLE, Int.reduceLT, Int.reduceNeg, Int.reduceToNat, Int.toNat_natCast, Int.reduceAdd, Int.reduceSub, Int.reduceMul, Nat.reduceMul, Nat.reduceSub, decide_true, decide_false, Bool.true_and, Bool.false_and, Bool.and_true, Bool.true_or, Bool.false_or, Bool.or_false, not_true_eq_false, not_false_eq_true, if_true, if_false, Bool.false_eq_true, reduceCtorEq, ty_bl, c_law_is_fraction_v2, lf, fr_0, fr_1, idx_w0, m1, e0, e1, c_is_price, pr, c_law_caught_v2, cn, rf]
      | true =>
        rw [h0, h1, Bool.and_self] at pr
        rw [h1] at e1
        have sz := sizes_spec h b (by decide) (of_decide_eq_true h0) (of_decide_eq_true h1)
        have co := caught_ok sz
        have du := due_spec h b
        have sh : Shp (.tup [.tup (ps.map fun p => frD (inS p q)), .tup (ts.map fun t => D.tup [.int t.2, .int 1]), .tup (ps.map fun p => frD (ouS p q))]) 3 :=
          shp_tup (all_cons_ (shp_tup (all_map_ fun p _ => shp_fr _)) (all_cons_ (shp_tup (all_map_ fun t _ => shp_tup (all_cons_ (shp_int _) (all_cons_ (shp_int _) all_nil_)))) (all_cons_ (shp_tup (all_map_ fun p _ => shp_fr _)) all_nil_)))
        have eq := eq_self_ sh (by decide)
        simp only [B_law_right_v1, e_try, tryK_nx, tryK_rt, tryK_bk, tryK_ct, tryK_exc, tryK_pass, hdl_none, hdl_some, leaveN_nx, leaveN_rt, leaveN_ct, leaveN_bk, leaveS_nx, leaveS_rt, leaveS_ct, leaveS_bk, noErr_nil, noErr_cons, noErrO_none, noErrO_dat, noErrO_own, noErrO_bor, noErrO_scr, noErrB_dat, noErrB_own, errI_t, errI_f, errV_t, errT_t, errT_f, e_rz, retB_err, look_err, rd_err, arg_err, set_err, e_count, drop_any, e_seq, sq_nx, sq_rt, sq_bk, sq_ct, sq_exc, e_then, then_ok, then_exc, set_dat, set_own, set_bor, set_scr, setL_dat, setL_own, setL_bor, ret_dat, ret_own, rd_dat, rd_own, rd_vw, rd_bor, rd_scr, frz_l, frz_k, frz_t, e_var, look_dat, look_own, look_bor, look_scr, e_retN, lookN_dat, lookN_own, e_bin2, bin2_ok, bin2_exc, bin2_exc2, e_one1, one1_ok, one1_exc, e_cons, cons_okK, cons_exc, cons_exc2, e_nil, e_call, bnd_ok, bnd_exc, e_own, arg_dat, arg_vw, arg_bor, arg_scr, retB_dat, retB_own, e_tst, tst_bl, e_testV, test_ok, test_exc, tru_bl, tru_int, tru_non, tru_tup, tru_lst, tru_vw, e_notT, notK_ok, notK_exc, e_and, e_or, and_t, and_f, or_t, or_f, and_exc, or_exc, e_iteV, iteV_t, iteV_f, e_andV, e_orV, andV_t, andV_f, andV_exc, orV_t, orV_f, orV_exc, e_iteS, iteS_t, iteS_f, iteS_exc, e_it, itK_ok, itK_exc, it_tup, it_ctup, it_lst, it_bor, it_vw, it_scr, it_str, e_index, index_ok, e_mut, mut_rev, e_ext, ext_own, ext_dat, e_rg, e_shl, e_pow, e_noP, e_atP, part_int, e_slc, slc_okK, e_comp, compK_ok, compK_exc, wipe_nil, wipe_cons, e_for, forK_ok, forK_exc, bindV_dat, bindV_own, bindO_some, bt_one, bt_tup, bt_ctup, bt_lst, pm_nil, pm_nil2, pm_cons, e_par2, par2_dd, par2_od, par2_do, par2_oo, e_lock, lock_own, lock_dat, lock_bor, lock_none, e_lockS, outR_nx, outR_rt, outR_exc, e_litI, e_litS, e_litB, e_litN, e_litD, e_newK, e_newT, e_nx, e_bk, e_ct, e_rtN, e_yes, e_app, own_of, app_dat, app_own, app_exc, e_put, put_dat, put_own, putO_some, e_forget, fg_nx, fg_bk, fg_ct, fg_rt, fg_exc, List.getElem?_cons_zero, List.getElem?_cons_succ, List.set_cons_zero, List.set_cons_succ, List.length_cons, List.length_nil, Nat.reduceAdd, Nat.reduceLT, Bool.not_true, Bool.not_false, e_chn, chn_ok, chnV_t, chnV_f, e_lstB, e_tupB, dats_nil, dats_cons, datsO_some, lstK_ok, tupK_ok, len_tup, len_lst, len_vw, len_bor, len_scr, len_S, neg_i, not_bl, tupF_lst, tupF_tup, tupF_vw, tupF_bor, lstF_tup, lstF_lst, int_i, int_bl, is_t, isn_t, is_n, isn_n, eq_bl, ne_bl, isi_bl, add_ii, sub_ii, lt_ii, gt_ii, le_ii, ge_ii, eq_ii, ne_ii, min_ii, max_ii, and_ii, slc_tup, slc_l, slc_vw, slc_bor, back_tup, back_lst, app_l, app_m, Nat.reduceLeDiff, Int.cast_ofNat_Int, Int.natCast_zero, Int.natCast_one, Int.reduceEq, eq_self, Int.reduceLE, Int.reduceLT, Int.reduceNeg, Int.reduceToNat, Int.toNat_natCast, Int.reduceAdd, Int.reduceSub, Int.reduceMul, Nat.reduceMul, Nat.reduceSub, decide_true, decide_false, Bool.true_and, Bool.false_and, Bool.and_true, Bool.true_or, Bool.false_or, Bool.or_false, not_true_eq_false, not_false_eq_true, if_true, if_false, Bool.false_eq_true, reduceCtorEq, ty_bl, c_law_is_fraction_v2, lf, fr_0, fr_1, idx_w0, m1, e0, e1, c_is_price, pr, c_law_caught_v2, co, c_law_due_v1, du, eq]
end P
namespace P
open PySem PySem.Spec PyProof.Rows L2 Fn
theorem sm2_pair {x y : Int} (hx : x.natAbs < 2 ^ 100) (hy : y.natAbs < 2 ^ 100) : Sm2 (.tup [.int x, .int y]) := fun a b e => by
  simp only [D.tup.injEq, List.cons.injEq, D.int.injEq, and_true] at e
  rw [← e.1, ← e.2]
  exact ⟨hx, hy⟩
theorem comp_names9 {ρ : Fn.Env} {ps : List Plc} (hl : ps.length ≤ 8) (hi : 9 < ρ.length) : compD (.one 9) yesF (bin2 idxB (varB 9) (litI 0)) ρ (ps.map plD) = .ok (.own (.l (txs (ps.map Plc.n)))) := by
  rw [compD_all (h := fun p : Plc => D.str p.n) (le_sz (by omega)) (by
    intro p _
    have e1 : (ρ.set 9 (some (B.dat (plD p))))[9]? = some (some (.dat (plD p))) := List.getElem?_set_self hi
    have j0 : idxB (.dat (plD p)) (.dat (.int 0)) = .ok (.dat (.str p.n)) := idx_tup rfl
    simp only [e_try, tryK_nx, tryK_rt, tryK_bk, tryK_ct, tryK_exc, tryK_pass, hdl_none, hdl_some, leaveN_nx, leaveN_rt, leaveN_ct, leaveN_bk, leaveS_nx, leaveS_rt, leaveS_ct, leaveS_bk, noErr_nil, noErr_cons, noErrO_none, noErrO_dat, noErrO_own, noErrO_bor, noErrO_scr, noErrB_dat, noErrB_own, errI_t, errI_f, errV_t, errT_t, errT_f, e_rz, retB_err, look_err, rd_err, arg_err, set_err, e_count, drop_any, e_seq, sq_nx, sq_rt, sq_bk, sq_ct, sq_exc, e_then, then_ok, then_exc, set_dat, set_own, set_bor, set_scr, setL_dat, setL_own, setL_bor, ret_dat, ret_own, rd_dat, rd_own, rd_vw, rd_bor, rd_scr, frz_l, frz_k, frz_t, e_var, look_dat, look_own, look_bor, look_scr, e_retN, lookN_dat, lookN_own, e_bin2, bin2_ok, bin2_exc, bin2_exc2, e_one1, one1_ok, one1_exc, e_cons, cons_okK, cons_exc, cons_exc2, e_nil, e_call, bnd_ok, bnd_exc, e_own, arg_dat, arg_vw, arg_bor, arg_scr, retB_dat, retB_own, e_tst, tst_bl, e_testV, test_ok, test_exc, tru_bl, tru_int, tru_non, tru_tup, tru_lst, tru_vw, e_notT, notK_ok, notK_exc, e_and, e_or, and_t, and_f, or_t, or_f, and_exc, or_exc, e_iteV, iteV_t, iteV_f, e_andV, e_orV, andV_t, andV_f, andV_exc, orV_t, orV_f, orV_exc, e_iteS, iteS_t, iteS_f, iteS_exc, e_it, itK_ok, itK_exc, it_tup, it_ctup, it_lst, it_bor, it_vw, it_scr, it_str, e_index, index_ok, e_mut, mut_rev, e_ext, ext_own, ext_dat, e_rg, e_shl, e_pow, e_noP, e_atP, part_int, e_slc, slc_okK, e_comp, compK_ok, compK_exc, wipe_nil, wipe_cons, e_for, forK_ok, forK_exc, bindV_dat, bindV_own, bindO_some, bt_one, bt_tup, bt_ctup, bt_lst, pm_nil, pm_nil2, pm_cons, e_par2, par2_dd, par2_od, par2_do, par2_oo, e_lock, lock_own, lock_dat, lock_bor, lock_none, e_lockS, outR_nx, outR_rt, outR_exc, e_litI, e_litS, e_litB, e_litN, e_litD, e_newK, e_newT, e_nx, e_bk, e_ct, e_rtN, e_yes, e_app, own_of, app_dat, app_own, app_exc, e_put, put_dat, put_own, putO_some, e_forget, fg_nx, fg_bk, fg_ct, fg_rt, fg_exc, List.getElem?_cons_zero, List.getElem?_cons_succ, List.set_cons_zero, List.set_cons_succ, List.length_cons, List.length_nil, Nat.reduceAdd, Nat.reduceLT, Bool.not_true, Bool.not_false, e_chn, chn_ok, chnV_t, chnV_f, e_lstB, e_tupB, dats_nil, dats_cons, datsO_some, lstK_ok, tupK_ok, len_tup, len_lst, len_vw, len_bor, len_scr, len_S, neg_i, not_bl, tupF_lst, tupF_tup, tupF_vw, tupF_bor, lstF_tup, lstF_lst, int_i, int_bl, is_t, isn_t, is_n, isn_n, eq_bl, ne_bl, isi_bl, add_ii, sub_ii, lt_ii, gt_ii, le_ii, ge_ii, eq_ii, ne_ii, min_ii, max_ii, and_ii, slc_tup, slc_l, slc_vw, slc_bor, back_tup, back_lst, app_l, app_m, Nat.reduceLeDiff, Int.cast_ofNat_Int, Int.natCast_zero, Int.natCast_one, Int.reduceEq, eq_self, Int.reduceLE, Int.reduceLT, Int.reduceNeg, Int.reduceToNat, Int.toNat_natCast, Int.reduceAdd, Int.reduceSub, Int.reduceMul, Nat.reduceMul, Nat.reduceSub, decide_true, decide_false, Bool.true_and, Bool.false_and, Bool.and_true, Bool.true_or, Bool.false_or, Bool.or_false, not_true_eq_false, not_false_eq_true, if_true, if_false, Bool.false_eq_true, reduceCtorEq, mapC_nil, mapC_cons, consC_ok, e_step, stepK_some, stepV_t, stepV_f, datR_dat, datR_own, loop_nil, lk_nx, lk_ct, lk_bk, lk_rt, lk_exc, Option.toList, List.nil_append, List.cons_append, e1, j0])]
  rw [txs, List.map_map]
  rfl
theorem law_2 {top : Int} {ps : List Plc} {ts : List Tie} (h : WebOk top ps ts) (a b : Option B) (c : Int) : B_law_2 [a, some (.dat (webD top ps ts)), b, some (.dat (.int c)), none, none, none, none, none, none] = .nx [a, some (.dat (webD top ps ts)), b, none, none, none, none, none, none, none] := by
  obtain ⟨xs, hx, hb, hn⟩ := numbers_spec c 6 (by decide) (by decide)
  have i0 := ixI (l := xs) (k := 0) (by omega) (by omega)
  have i1 := ixI (l := xs) (k := 1) (by omega) (by omega)
  have p1 : 0 ≤ xs.getD (Int.toNat 1) 0 := by
    rw [List.getD_eq_getElem?_getD, List.getElem?_eq_getElem (by show 1 < xs.length; omega)]
    exact (hb _ (List.getElem_mem _)).1
  generalize xs.getD (Int.toNat 0) 0 = x0 at *
  generalize xs.getD (Int.toNat 1) 0 = x1 at *
  obtain ⟨q, hq, qb, q0, q1⟩ := law_price_spec h x0 x1 p1
  have t1 := h.t1
  have t9 := h.t9
  have nn := qb.nn
  have dd := qb.dd
  haveI := qb.zn
  haveI := qb.zd
  haveI : ISz top 4 := isz_of (by omega) (by omega)
  have m1 := mul_z (i := 2) (j := q.num) (by decide)
  have m2 := mul_z (i := 2) (j := (q.den : Int)) (by decide)
  have m3 := mul_z (i := top) (j := (q.den : Int)) (by decide)
  have pw := pow_z (i := 10) (k := 11) (by decide) (by decide) (by decide)
  obtain ⟨big, hbig, m4⟩ : ∃ big : Int, big = 10 ^ Int.toNat 11 ∧ mulB (.dat (.int 4)) (.dat (.int big)) = .ok (.dat (.int (4 * big))) := ⟨_, rfl, mul_ok (by decide +kernel) (by decide +kernel)⟩
  rw [← hbig] at pw
  obtain ⟨d2, tw, f2, s2⟩ : ∃ d2 : D, idxB (.dat (.lst [.tup [.int (2 * q.num), .int (2 * (q.den : Int))], .tup [.int 2, .int 2]])) (.dat (.int (if decide (4 * big < q.num) = true then 1 else 0))) = .ok (.dat d2) ∧ fit 4 d2 = true ∧ Sm2 d2 := by
    cases decide (4 * big < q.num) with
    | true => exact ⟨_, idx_lst rfl, rfl, sm2_pair (by decide) (by decide)⟩
    | false => exact ⟨_, idx_lst rfl, rfl, sm2_pair (by omega) (by omega)⟩
  have tb : (top * (q.den : Int)).natAbs < 2 ^ 64 := by
    have := pow_mul_lt (a := top.natAbs) (n := 4) (by omega) dd
    rw [Int.natAbs_mul, Int.natAbs_natCast]
    exact this
  have nd : (0 - (q.den : Int)).natAbs < 2 ^ 100 := by omega
  have A : ∀ d ∈ [frD q, d2, .tup [.int (top * (q.den : Int) + 1), .int (q.den : Int)], .tup [.int (0 - q.num), .int (q.den : Int)], .tup [.int q.num, .int (0 - (q.den : Int))], .lst [.int q.num, .int (q.den : Int)]], fit 4 d = true ∧ Sm2 d := by
    refine all_cons_ (p := fun d => fit 4 d = true ∧ Sm2 d) ⟨rfl, sm2_fr (qb.up (by decide))⟩ ?_
    refine all_cons_ (p := fun d => fit 4 d = true ∧ Sm2 d) ⟨f2, s2⟩ ?_
    refine all_cons_ (p := fun d => fit 4 d = true ∧ Sm2 d) ⟨rfl, sm2_pair (by omega) (by omega)⟩ ?_
    refine all_cons_ (p := fun d => fit 4 d = true ∧ Sm2 d) ⟨rfl, sm2_pair (by omega) (by omega)⟩ ?_
    refine all_cons_ (p := fun d => fit 4 d = true ∧ Sm2 d) ⟨rfl, sm2_pair (by omega) nd⟩ ?_
    exact all_cons_ (p := fun d => fit 4 d = true ∧ Sm2 d) ⟨rfl, sm2_no (by intro a b e; cases e)⟩ all_nil_
  have lp : loopF (.one 8) B_law_1 ([frD q, d2, .tup [.int (top * (q.den : Int) + 1), .int (q.den : Int)], .tup [.int (0 - q.num), .int (q.den : Int)], .tup [.int q.num, .int (0 - (q.den : Int))], .lst [.int q.num, .int (q.den : Int)]]) [a, some (.dat (webD top ps ts)), b, some (.dat (.int c)), some (.dat (.lst (xs.map .int))), some (.dat (frD q)), some (.dat d2), some (.dat (.tup [.int (top * (q.den : Int) + 1), .int (q.den : Int)])), none, none] =
      .nx [a, some (.dat (webD top ps ts)), b, some (.dat (.int c)), some (.dat (.lst (xs.map .int))), some (.dat (frD q)), some (.dat d2), some (.dat (.tup [.int (top * (q.den : Int) + 1), .int (q.den : Int)])), none, none] := by
    refine loop_sameD fun d hd => ⟨_, bt_one, .inl ?_⟩
    obtain ⟨hf, hs⟩ := A d hd
    simp only [B_law_1, e_try, tryK_nx, tryK_rt, tryK_bk, tryK_ct, tryK_exc, tryK_pass, hdl_none, hdl_some, leaveN_nx, leaveN_rt, leaveN_ct, leaveN_bk, leaveS_nx, leaveS_rt, leaveS_ct, leaveS_bk, noErr_nil, noErr_cons, noErrO_none, noErrO_dat, noErrO_own, noErrO_bor, noErrO_scr, noErrB_dat, noErrB_own, errI_t, errI_f, errV_t, errT_t, errT_f, e_rz, retB_err, look_err, rd_err, arg_err, set_err, e_count, drop_any, e_seq, sq_nx, sq_rt, sq_bk, sq_ct, sq_exc, e_then, then_ok, then_exc, set_dat, set_own, set_bor, set_scr, setL_dat, setL_own, setL_bor, ret_dat, ret_own, rd_dat, rd_own, rd_vw, rd_bor, rd_scr, frz_l, frz_k, frz_t, e_var, look_dat, look_own, look_bor, look_scr, e_retN, lookN_dat, lookN_own, e_bin2, bin2_ok, bin2_exc, bin2_exc2, e_one1, one1_ok, one1_exc, e_cons, cons_okK, cons_exc, cons_exc2, e_nil, e_call, bnd_ok, bnd_exc, e_own, arg_dat, arg_vw, arg_bor, arg_scr, retB_dat, retB_own, e_tst, tst_bl, e_testV, test_ok, test_exc, tru_bl, tru_int, tru_non, tru_tup, tru_lst, tru_vw, e_notT, notK_ok, notK_exc, e_and, e_or, and_t, and_f, or_t, or_f, and_exc, or_exc, e_iteV, iteV_t, iteV_f, e_andV, e_orV, andV_t, andV_f, andV_exc, orV_t, orV_f, orV_exc, e_iteS, iteS_t, iteS_f, iteS_exc, e_it, itK_ok, itK_exc, it_tup, it_ctup, it_lst, it_bor, it_vw, it_scr, it_str, e_index, index_ok, e_mut, mut_rev, e_ext, ext_own, ext_dat, e_rg, e_shl, e_pow, e_noP, e_atP, part_int, e_slc, slc_okK, e_comp, compK_ok, compK_exc, wipe_nil, wipe_cons, e_for, forK_ok, forK_exc, bindV_dat, bindV_own, bindO_some, bt_one, bt_tup, bt_ctup, bt_lst, pm_nil, pm_nil2, pm_cons, e_par2, par2_dd, par2_od, par2_do, par2_oo, e_lock, lock_own, lock_dat, lock_bor, lock_none, e_lockS, outR_nx, outR_rt, outR_exc, e_litI, e_litS, e_litB, e_litN, e_litD, e_newK, e_newT, e_nx, e_bk, e_ct, e_rtN, e_yes, e_app, own_of, app_dat, app_own, app_exc, e_put, put_dat, put_own, putO_some, e_forget, fg_nx, fg_bk, fg_ct, fg_rt, fg_exc, List.getElem?_cons_zero, List.getElem?_cons_succ, List.set_cons_zero, List.set_cons_succ, List.length_cons, List.length_nil, Nat.reduceAdd, Nat.reduceLT, Bool.not_true, Bool.not_false, e_chn, chn_ok, chnV_t, chnV_f, e_lstB, e_tupB, dats_nil, dats_cons, datsO_some, lstK_ok, tupK_ok, len_tup, len_lst, len_vw, len_bor, len_scr, len_S, neg_i, not_bl, tupF_lst, tupF_tup, tupF_vw, tupF_bor, lstF_tup, lstF_lst, int_i, int_bl, is_t, isn_t, is_n, isn_n, eq_bl, ne_bl, isi_bl, add_ii, sub_ii, lt_ii, gt_ii, le_ii, ge_ii, eq_ii, ne_ii, min_ii, max_ii, and_ii, slc_tup, slc_l, slc_vw, slc_bor, back_tup, back_lst, app_l, app_m, Nat.reduceLeDiff, Int.cast_ofNat_Int, Int.natCast_zero, Int.natCast_one, Int.reduceEq, eq_self, Int.reduceLE, Int.reduceLT, Int.reduceNeg, Int.reduceToNat, Int.toNat_natCast, Int.reduceAdd, Int.reduceSub, Int.reduceMul, Nat.reduceMul, Nat.reduceSub, decide_true, decide_false, Bool.true_and, Bool.false_and, Bool.and_true, Bool.true_or, Bool.false_or, Bool.or_false, not_true_eq_false, not_false_eq_true, if_true, if_false, Bool.false_eq_true, reduceCtorEq, c_law_right_v1, right_spec h hf hs]
  have lf : lstF [.dat (frD q)] = .ok (.own (.l [.int q.num, .int (q.den : Int)])) := lstF_tup
  simp only [B_law_2, e_try, tryK_nx, tryK_rt, tryK_bk, tryK_ct, tryK_exc, tryK_pass, hdl_none, hdl_some, leaveN_nx, leaveN_rt, leaveN_ct, leaveN_bk, leaveS_nx, leaveS_rt, leaveS_ct, leaveS_bk, noErr_nil, noErr_cons, noErrO_none, noErrO_dat, noErrO_own, noErrO_bor, noErrO_scr, noErrB_dat, noErrB_own, errI_t, errI_f, errV_t, errT_t, errT_f, e_rz, retB_err, look_err, rd_err, arg_err, set_err, e_count, drop_any, e_seq, sq_nx, sq_rt, sq_bk, sq_ct, sq_exc, e_then, then_ok, then_exc, set_dat, set_own, set_bor, set_scr, setL_dat, setL_own, setL_bor, ret_dat, ret_own, rd_dat, rd_own, rd_vw, rd_bor, rd_scr, frz_l, frz_k, frz_t, e_var, look_dat, look_own, look_bor, look_scr, e_retN, lookN_dat, lookN_own, e_bin2, bin2_ok, bin2_exc, bin2_exc2, e_one1, one1_ok, one1_exc, e_cons, cons_okK, cons_exc, cons_exc2, e_nil, e_call, bnd_ok, bnd_exc, e_own, arg_dat, arg_vw, arg_bor, arg_scr, retB_dat, retB_own, e_tst, tst_bl, e_testV, test_ok, test_exc, tru_bl, tru_int, tru_non, tru_tup, tru_lst, tru_vw, e_notT, notK_ok, notK_exc, e_and, e_or, and_t, and_f, or_t, or_f, and_exc, or_exc, e_iteV, iteV_t, iteV_f, e_andV, e_orV, andV_t, andV_f, andV_exc, orV_t, orV_f, orV_exc, e_iteS, iteS_t, iteS_f, iteS_exc, e_it, itK_ok, itK_exc, it_tup, it_ctup, it_lst, it_bor, it_vw, it_scr, it_str, e_index, index_ok, e_mut, mut_rev, e_ext, ext_own, ext_dat, e_rg, e_shl, e_pow, e_noP, e_atP, part_int, e_slc, slc_okK, e_comp, compK_ok, compK_exc, wipe_nil, wipe_cons, e_for, forK_ok, forK_exc, bindV_dat, bindV_own, bindO_some, bt_one, bt_tup, bt_ctup, bt_lst, pm_nil, pm_nil2, pm_cons, e_par2, par2_dd, par2_od, par2_do, par2_oo, e_lock, lock_own, lock_dat, lock_bor, lock_none, e_lockS, outR_nx, outR_rt, outR_exc, e_litI, e_litS, e_litB, e_litN, e_litD, e_newK, e_newT, e_nx, e_bk, e_ct, e_rtN, e_yes, e_app, own_of, app_dat, app_own, app_exc, e_put, put_dat, put_own, putO_some, e_forget, fg_nx, fg_bk, fg_ct, fg_rt, fg_exc, List.getElem?_cons_zero, List.getElem?_cons_succ, List.set_cons_zero, List.set_cons_succ, List.length_cons, List.length_nil, Nat.reduceAdd, Nat.reduceLT, Bool.not_true, Bool.not_false, e_chn, chn_ok, chnV_t, chnV_f, e_lstB, e_tupB, dats_nil, dats_cons, datsO_some, lstK_ok, tupK_ok, len_tup, len_lst, len_vw, len_bor, len_scr, len_S, neg_i, not_bl, tupF_lst, tupF_tup, tupF_vw, tupF_bor, lstF_tup, lstF_lst, int_i, int_bl, is_t, isn_t, is_n, isn_n, eq_bl, ne_bl, isi_bl, add_ii, sub_ii, lt_ii, gt_ii, le_ii, ge_ii, eq_ii, ne_ii, min_ii, max_ii, and_ii, slc_tup, slc_l, slc_vw, slc_bor, back_tup, back_lst, app_l, app_m, Nat.reduceLeDiff, Int.cast_ofNat_Int, Int.natCast_zero, Int.natCast_one, Int.reduceEq, eq_self, Int.reduceLE, Int.reduceLT, Int.reduceNeg, Int.reduceToNat, Int.toNat_natCast, Int.reduceAdd, Int.reduceSub, Int.reduceMul, Nat.reduceMul, Nat.reduceSub, decide_true, decide_false, Bool.true_and, Bool.false_and, Bool.and_true, Bool.true_or, Bool.false_or, Bool.or_false, not_true_eq_false, not_false_eq_true, if_true, if_false, Bool.false_eq_true, reduceCtorEq, c_law_numbers, hn, i0, i1, c_law_price, hq, fr_0, fr_1, idx_w0, m1, m2, m3, pw, m4, tw, lf, lp]
theorem main (sc : List Int) (hsc : sc.length ≤ 63) : E_law.F [.scr sc] = .ok (.dat (.bl true)) := by
  rw [d_law (by rfl)]
  obtain ⟨top, ps, ts, h, hw⟩ := drawn_spec sc
  have nm := names_of_spec (top := top) (ts := ts) h.le
  have cn := comp_names9 (ρ := [some (.scr sc), some (.dat (webD top ps ts)), none, none, none, none, none, none, none, none]) h.le (by show 9 < 10; decide)
  have ns := ne_self_ (shp_txs h.nm.lay) (n := 1) (by decide)
  have ty : isiB .tuple (.dat (.tup (txs (ps.map Plc.n)))) = .ok (.dat (.bl true)) := isi_tup rfl
  have t1 := h.t1
  have t9 := h.t9
  haveI : ISz top 4 := isz_of (by omega) (by omega)
  have m1 := mul_z (i := 999) (j := top) (by decide)
  have A1 : ∀ d ∈ ([D.tup [.int 0, .int 1], .tup [.int top, .int 1], .tup [.int (top + 1), .int 1], .tup [.int (-1), .int 1], .tup [.int (999 * top + 1), .int 999], .tup [.int 1, .int 999], .tup [.int (-1), .int 999999]] : List D), fit 4 d = true ∧ Sm2 d := by
    refine all_cons_ (p := fun d => fit 4 d = true ∧ Sm2 d) (a := .tup [.int 0, .int 1]) ⟨rfl, sm2_pair (by first | decide | omega) (by first | decide | omega)⟩ ?_
    refine all_cons_ (p := fun d => fit 4 d = true ∧ Sm2 d) (a := .tup [.int top, .int 1]) ⟨rfl, sm2_pair (by first | decide | omega) (by first | decide | omega)⟩ ?_
    refine all_cons_ (p := fun d => fit 4 d = true ∧ Sm2 d) (a := .tup [.int (top + 1), .int 1]) ⟨rfl, sm2_pair (by first | decide | omega) (by first | decide | omega)⟩ ?_
    refine all_cons_ (p := fun d => fit 4 d = true ∧ Sm2 d) (a := .tup [.int (-1), .int 1]) ⟨rfl, sm2_pair (by first | decide | omega) (by first | decide | omega)⟩ ?_
    refine all_cons_ (p := fun d => fit 4 d = true ∧ Sm2 d) (a := .tup [.int (999 * top + 1), .int 999]) ⟨rfl, sm2_pair (by first | decide | omega) (by first | decide | omega)⟩ ?_
    refine all_cons_ (p := fun d => fit 4 d = true ∧ Sm2 d) (a := .tup [.int 1, .int 999]) ⟨rfl, sm2_pair (by first | decide | omega) (by first | decide | omega)⟩ ?_
    refine all_cons_ (p := fun d => fit 4 d = true ∧ Sm2 d) (a := .tup [.int (-1), .int 999999]) ⟨rfl, sm2_pair (by first | decide | omega) (by first | decide | omega)⟩ ?_
    exact all_nil_
  have A2 : ∀ d ∈ ([D.non, .bl true, .int 0, .int 1] : List D), fit 4 d = true ∧ Sm2 d := by
    refine all_cons_ (p := fun d => fit 4 d = true ∧ Sm2 d) (a := .non) ⟨by first | rfl | decide +kernel, sm2_no (by intro a b e; first | (cases e; done) | (simp at e; done))⟩ ?_
    refine all_cons_ (p := fun d => fit 4 d = true ∧ Sm2 d) (a := .bl true) ⟨by first | rfl | decide +kernel, sm2_no (by intro a b e; first | (cases e; done) | (simp at e; done))⟩ ?_
    refine all_cons_ (p := fun d => fit 4 d = true ∧ Sm2 d) (a := .int 0) ⟨by first | rfl | decide +kernel, sm2_no (by intro a b e; first | (cases e; done) | (simp at e; done))⟩ ?_
    refine all_cons_ (p := fun d => fit 4 d = true ∧ Sm2 d) (a := .int 1) ⟨by first | rfl | decide +kernel, sm2_no (by intro a b e; first | (cases e; done) | (simp at e; done))⟩ ?_
    exact all_nil_
  have A3 : ∀ d ∈ ([D.str "1", .str "", .tup [], .tup [.int 1], .tup [.int 0, .int 2], .tup [.int 2, .int 2], .lst [.int 0, .int 1], .tup [.int 0, .bl true], .tup [.bl true, .int 1]] : List D), fit 4 d = true ∧ Sm2 d := by
    refine all_cons_ (p := fun d => fit 4 d = true ∧ Sm2 d) (a := .str "1") ⟨by first | rfl | decide +kernel, sm2_no (by intro a b e; first | (cases e; done) | (simp at e; done))⟩ ?_
    refine all_cons_ (p := fun d => fit 4 d = true ∧ Sm2 d) (a := .str "") ⟨by first | rfl | decide +kernel, sm2_no (by intro a b e; first | (cases e; done) | (simp at e; done))⟩ ?_
    refine all_cons_ (p := fun d => fit 4 d = true ∧ Sm2 d) (a := .tup []) ⟨by first | rfl | decide +kernel, sm2_no (by intro a b e; first | (cases e; done) | (simp at e; done))⟩ ?_
    refine all_cons_ (p := fun d => fit 4 d = true ∧ Sm2 d) (a := .tup [.int 1]) ⟨by first | rfl | decide +kernel, sm2_no (by intro a b e; first | (cases e; done) | (simp at e; done))⟩ ?_
    refine all_cons_ (p := fun d => fit 4 d = true ∧ Sm2 d) (a := .tup [.int 0, .int 2]) ⟨rfl, sm2_pair (by first | decide | omega) (by first | decide | omega)⟩ ?_
    refine all_cons_ (p := fun d => fit 4 d = true ∧ Sm2 d) (a := .tup [.int 2, .int 2]) ⟨rfl, sm2_pair (by first | decide | omega) (by first | decide | omega)⟩ ?_
    refine all_cons_ (p := fun d => fit 4 d = true ∧ Sm2 d) (a := .lst [.int 0, .int 1]) ⟨by first | rfl | decide +kernel, sm2_no (by intro a b e; first | (cases e; done) | (simp at e; done))⟩ ?_
    refine all_cons_ (p := fun d => fit 4 d = true ∧ Sm2 d) (a := .tup [.int 0, .bl true]) ⟨by first | rfl | decide +kernel, sm2_no (by intro a b e; first | (cases e; done) | (simp at e; done))⟩ ?_
    refine all_cons_ (p := fun d => fit 4 d = true ∧ Sm2 d) (a := .tup [.bl true, .int 1]) ⟨by first | rfl | decide +kernel, sm2_no (by intro a b e; first | (cases e; done) | (simp at e; done))⟩ ?_
    exact all_nil_
  have A4 : ∀ d ∈ ([D.tup [.int 1, .int 0], .tup [.int 0, .int (-1)], .dk [], .tup [.tup [.int 0, .int 1]], .tup [.int 0, .int 1, .int 1], .tup [.lst [.int 0], .int 1], .tup [.int 0, .lst [.int 1]], .tup [.dk [], .int 1]] : List D), fit 4 d = true ∧ Sm2 d := by
    refine all_cons_ (p := fun d => fit 4 d = true ∧ Sm2 d) (a := .tup [.int 1, .int 0]) ⟨rfl, sm2_pair (by first | decide | omega) (by first | decide | omega)⟩ ?_
    refine all_cons_ (p := fun d => fit 4 d = true ∧ Sm2 d) (a := .tup [.int 0, .int (-1)]) ⟨rfl, sm2_pair (by first | decide | omega) (by first | decide | omega)⟩ ?_
    refine all_cons_ (p := fun d => fit 4 d = true ∧ Sm2 d) (a := .dk []) ⟨by first | rfl | decide +kernel, sm2_no (by intro a b e; first | (cases e; done) | (simp at e; done))⟩ ?_
    refine all_cons_ (p := fun d => fit 4 d = true ∧ Sm2 d) (a := .tup [.tup [.int 0, .int 1]]) ⟨by first | rfl | decide +kernel, sm2_no (by intro a b e; first | (cases e; done) | (simp at e; done))⟩ ?_
    refine all_cons_ (p := fun d => fit 4 d = true ∧ Sm2 d) (a := .tup [.int 0, .int 1, .int 1]) ⟨by first | rfl | decide +kernel, sm2_no (by intro a b e; first | (cases e; done) | (simp at e; done))⟩ ?_
    refine all_cons_ (p := fun d => fit 4 d = true ∧ Sm2 d) (a := .tup [.lst [.int 0], .int 1]) ⟨by first | rfl | decide +kernel, sm2_no (by intro a b e; first | (cases e; done) | (simp at e; done))⟩ ?_
    refine all_cons_ (p := fun d => fit 4 d = true ∧ Sm2 d) (a := .tup [.int 0, .lst [.int 1]]) ⟨by first | rfl | decide +kernel, sm2_no (by intro a b e; first | (cases e; done) | (simp at e; done))⟩ ?_
    refine all_cons_ (p := fun d => fit 4 d = true ∧ Sm2 d) (a := .tup [.dk [], .int 1]) ⟨by first | rfl | decide +kernel, sm2_no (by intro a b e; first | (cases e; done) | (simp at e; done))⟩ ?_
    exact all_nil_
  have A := all_app_ (p := fun d => fit 4 d = true ∧ Sm2 d) (all_app_ (p := fun d => fit 4 d = true ∧ Sm2 d) (all_app_ (p := fun d => fit 4 d = true ∧ Sm2 d) A1 A2) A3) A4
  have c1 := cat_l (ds := [D.tup [.int 0, .int 1], .tup [.int top, .int 1], .tup [.int (top + 1), .int 1], .tup [.int (-1), .int 1], .tup [.int (999 * top + 1), .int 999], .tup [.int 1, .int 999], .tup [.int (-1), .int 999999]]) (es := [D.non, .bl true, .int 0, .int 1]) (by show 11 ≤ 1000; decide)
  have c2 := cat_l (ds := [D.tup [.int 0, .int 1], .tup [.int top, .int 1], .tup [.int (top + 1), .int 1], .tup [.int (-1), .int 1], .tup [.int (999 * top + 1), .int 999], .tup [.int 1, .int 999], .tup [.int (-1), .int 999999], .non, .bl true, .int 0, .int 1]) (es := [D.str "1", .str "", .tup [], .tup [.int 1], .tup [.int 0, .int 2], .tup [.int 2, .int 2], .lst [.int 0, .int 1], .tup [.int 0, .bl true], .tup [.bl true, .int 1]]) (by show 20 ≤ 1000; decide)
  have c3 := cat_l (ds := [D.tup [.int 0, .int 1], .tup [.int top, .int 1], .tup [.int (top + 1), .int 1], .tup [.int (-1), .int 1], .tup [.int (999 * top + 1), .int 999], .tup [.int 1, .int 999], .tup [.int (-1), .int 999999], .non, .bl true, .int 0, .int 1, .str "1", .str "", .tup [], .tup [.int 1], .tup [.int 0, .int 2], .tup [.int 2, .int 2], .lst [.int 0, .int 1], .tup [.int 0, .bl true], .tup [.bl true, .int 1]]) (es := [D.tup [.int 1, .int 0], .tup [.int 0, .int (-1)], .dk [], .tup [.tup [.int 0, .int 1]], .tup [.int 0, .int 1, .int 1], .tup [.lst [.int 0], .int 1], .tup [.int 0, .lst [.int 1]], .tup [.dk [], .int 1]]) (by show 28 ≤ 1000; decide)
  simp only [List.cons_append, List.nil_append] at c1 c2 c3 A
  have cc : compD (.one 8) yesF (ownF E_law_right_v1 (consA (varB 1) (consA (varB 8) nilA))) [some (.scr sc), some (.dat (webD top ps ts)), some (.dat (.lst [D.tup [.int 0, .int 1], .tup [.int top, .int 1], .tup [.int (top + 1), .int 1], .tup [.int (-1), .int 1], .tup [.int (999 * top + 1), .int 999], .tup [.int 1, .int 999], .tup [.int (-1), .int 999999], .non, .bl true, .int 0, .int 1, .str "1", .str "", .tup [], .tup [.int 1], .tup [.int 0, .int 2], .tup [.int 2, .int 2], .lst [.int 0, .int 1], .tup [.int 0, .bl true], .tup [.bl true, .int 1], .tup [.int 1, .int 0], .tup [.int 0, .int (-1)], .dk [], .tup [.tup [.int 0, .int 1]], .tup [.int 0, .int 1, .int 1], .tup [.lst [.int 0], .int 1], .tup [.int 0, .lst [.int 1]], .tup [.dk [], .int 1]])), none, none, none, none, none, none, none] [D.tup [.int 0, .int 1], .tup [.int top, .int 1], .tup [.int (top + 1), .int 1], .tup [.int (-1), .int 1], .tup [.int (999 * top + 1), .int 999], .tup [.int 1, .int 999], .tup [.int (-1), .int 999999], .non, .bl true, .int 0, .int 1, .str "1", .str "", .tup [], .tup [.int 1], .tup [.int 0, .int 2], .tup [.int 2, .int 2], .lst [.int 0, .int 1], .tup [.int 0, .bl true], .tup [.bl true, .int 1], .tup [.int 1, .int 0], .tup [.int 0, .int (-1)], .dk [], .tup [.tup [.int 0, .int 1]], .tup [.int 0, .int 1, .int 1], .tup [.lst [.int 0], .int 1], .tup [.int 0, .lst [.int 1]], .tup [.dk [], .int 1]] = .ok (.own (.l ([D.tup [.int 0, .int 1], .tup [.int top, .int 1], .tup [.int (top + 1), .int 1], .tup [.int (-1), .int 1], .tup [.int (999 * top + 1), .int 999], .tup [.int 1, .int 999], .tup [.int (-1), .int 999999], .non, .bl true, .int 0, .int 1, .str "1", .str "", .tup [], .tup [.int 1], .tup [.int 0, .int 2], .tup [.int 2, .int 2], .lst [.int 0, .int 1], .tup [.int 0, .bl true], .tup [.bl true, .int 1], .tup [.int 1, .int 0], .tup [.int 0, .int (-1)], .dk [], .tup [.tup [.int 0, .int 1]], .tup [.int 0, .int 1, .int 1], .tup [.lst [.int 0], .int 1], .tup [.int 0, .lst [.int 1]], .tup [.dk [], .int 1]].map fun _ => D.bl true))) :=
    compD_D (h := fun _ => D.bl true) (le_sz (by show 28 ≤ 1000; decide)) (by
      intro d hd
      obtain ⟨hf, hs⟩ := A d hd
      simp only [e_try, tryK_nx, tryK_rt, tryK_bk, tryK_ct, tryK_exc, tryK_pass, hdl_none, hdl_some, leaveN_nx, leaveN_rt, leaveN_ct, leaveN_bk, leaveS_nx, leaveS_rt, leaveS_ct, leaveS_bk, noErr_nil, noErr_cons, noErrO_none, noErrO_dat, noErrO_own, noErrO_bor, noErrO_scr, noErrB_dat, noErrB_own, errI_t, errI_f, errV_t, errT_t, errT_f, e_rz, retB_err, look_err, rd_err, arg_err, set_err, e_count, drop_any, e_seq, sq_nx, sq_rt, sq_bk, sq_ct, sq_exc, e_then, then_ok, then_exc, set_dat, set_own, set_bor, set_scr, setL_dat, setL_own, setL_bor, ret_dat, ret_own, rd_dat, rd_own, rd_vw, rd_bor, rd_scr, frz_l, frz_k, frz_t, e_var, look_dat, look_own, look_bor, look_scr, e_retN, lookN_dat, lookN_own, e_bin2, bin2_ok, bin2_exc, bin2_exc2, e_one1, one1_ok, one1_exc, e_cons, cons_okK, cons_exc, cons_exc2, e_nil, e_call, bnd_ok, bnd_exc, e_own, arg_dat, arg_vw, arg_bor, arg_scr, retB_dat, retB_own, e_tst, tst_bl, e_testV, test_ok, test_exc, tru_bl, tru_int, tru_non, tru_tup, tru_lst, tru_vw, e_notT, notK_ok, notK_exc, e_and, e_or, and_t, and_f, or_t, or_f, and_exc, or_exc, e_iteV, iteV_t, iteV_f, e_andV, e_orV, andV_t, andV_f, andV_exc, orV_t, orV_f, orV_exc, e_iteS, iteS_t, iteS_f, iteS_exc, e_it, itK_ok, itK_exc, it_tup, it_ctup, it_lst, it_bor, it_vw, it_scr, it_str, e_index, index_ok, e_mut, mut_rev, e_ext, ext_own, ext_dat, e_rg, e_shl, e_pow, e_noP, e_atP, part_int, e_slc, slc_okK, e_comp, compK_ok, compK_exc, wipe_nil, wipe_cons, e_for, forK_ok, forK_exc, bindV_dat, bindV_own, bindO_some, bt_one, bt_tup, bt_ctup, bt_lst, pm_nil, pm_nil2, pm_cons, e_par2, par2_dd, par2_od, par2_do, par2_oo, e_lock, lock_own, lock_dat, lock_bor, lock_none, e_lockS, outR_nx, outR_rt, outR_exc, e_litI, e_litS, e_litB, e_litN, e_litD, e_newK, e_newT, e_nx, e_bk, e_ct, e_rtN, e_yes, e_app, own_of, app_dat, app_own, app_exc, e_put, put_dat, put_own, putO_some, e_forget, fg_nx, fg_bk, fg_ct, fg_rt, fg_exc, List.getElem?_cons_zero, List.getElem?_cons_succ, List.set_cons_zero, List.set_cons_succ, List.length_cons, List.length_nil, Nat.reduceAdd, Nat.reduceLT, Bool.not_true, Bool.not_false, e_chn, chn_ok, chnV_t, chnV_f, e_lstB, e_tupB, dats_nil, dats_cons, datsO_some, lstK_ok, tupK_ok, len_tup, len_lst, len_vw, len_bor, len_scr, len_S, neg_i, not_bl, tupF_lst, tupF_tup, tupF_vw, tupF_bor, lstF_tup, lstF_lst, int_i, int_bl, is_t, isn_t, is_n, isn_n, eq_bl, ne_bl, isi_bl, add_ii, sub_ii, lt_ii, gt_ii, le_ii, ge_ii, eq_ii, ne_ii, min_ii, max_ii, and_ii, slc_tup, slc_l, slc_vw, slc_bor, back_tup, back_lst, app_l, app_m, Nat.reduceLeDiff, Int.cast_ofNat_Int, Int.natCast_zero, Int.natCast_one, Int.reduceEq, eq_self, Int.reduceLE, Int.reduceLT, Int.reduceNeg, Int.reduceToNat, Int.toNat_natCast, Int.reduceAdd, Int.reduceSub, Int.reduceMul, Nat.reduceMul, Nat.reduceSub, decide_true, decide_false, Bool.true_and, Bool.false_and, Bool.and_true, Bool.true_or, Bool.false_or, Bool.or_false, not_true_eq_false, not_false_eq_true, if_true, if_false, Bool.false_eq_true, reduceCtorEq, mapC_nil, mapC_cons, consC_ok, e_step, stepK_some, stepV_t, stepV_f, datR_dat, datR_own, loop_nil, lk_nx, lk_ct, lk_bk, lk_rt, lk_exc, Option.toList, List.nil_append, List.cons_append, c_law_right_v1, right_spec h hf hs])
  have at7 : ∀ l : List D, l.all (fun _ => true) = true := fun l => by rw [List.all_eq_true]; exact fun _ _ => rfl
  obtain ⟨c30, hc⟩ := cell_spec sc 30 (by decide) (by decide)
  have sl := slc_scr (sc := sc) (lo := some 31) (hi := some 46)
  have ls : (cutL sc (some 31) (some 46)).length ≤ 63 := Nat.le_trans cut_len_ hsc
  have ca2 := cat_l (ds := [D.int c30]) (es := (cutL sc (some 31) (some 46)).map .int) (by rw [List.length_map]; show 1 + _ ≤ 1000; omega)
  have e2 : [D.int c30] ++ (cutL sc (some 31) (some 46)).map .int = (c30 :: cutL sc (some 31) (some 46)).map .int := rfl
  rw [e2] at ca2
  have lp : ∀ b : Option B, loopF (.one 3) B_law_2 ((c30 :: cutL sc (some 31) (some 46)).map .int) [some (.scr sc), some (.dat (webD top ps ts)), b, none, none, none, none, none, none, none] = .nx [some (.scr sc), some (.dat (webD top ps ts)), b, none, none, none, none, none, none, none] := fun b =>
    loop_same (fun k _ => ⟨_, bt_one, .inl (law_2 h _ _ _)⟩)
  simp only [B_law, e_try, tryK_nx, tryK_rt, tryK_bk, tryK_ct, tryK_exc, tryK_pass, hdl_none, hdl_some, leaveN_nx, leaveN_rt, leaveN_ct, leaveN_bk, leaveS_nx, leaveS_rt, leaveS_ct, leaveS_bk, noErr_nil, noErr_cons, noErrO_none, noErrO_dat, noErrO_own, noErrO_bor, noErrO_scr, noErrB_dat, noErrB_own, errI_t, errI_f, errV_t, errT_t, errT_f, e_rz, retB_err, look_err, rd_err, arg_err, set_err, e_count, drop_any, e_seq, sq_nx, sq_rt, sq_bk, sq_ct, sq_exc, e_then, then_ok, then_exc, set_dat, set_own, set_bor, set_scr, setL_dat, setL_own, setL_bor, ret_dat, ret_own, rd_dat, rd_own, rd_vw, rd_bor, rd_scr, frz_l, frz_k, frz_t, e_var, look_dat, look_own, look_bor, look_scr, e_retN, lookN_dat, lookN_own, e_bin2, bin2_ok, bin2_exc, bin2_exc2, e_one1, one1_ok, one1_exc, e_cons, cons_okK, cons_exc, cons_exc2, e_nil, e_call, bnd_ok, bnd_exc, e_own, arg_dat, arg_vw, arg_bor, arg_scr, retB_dat, retB_own, e_tst, tst_bl, e_testV, test_ok, test_exc, tru_bl, tru_int, tru_non, tru_tup, tru_lst, tru_vw, e_notT, notK_ok, notK_exc, e_and, e_or, and_t, and_f, or_t, or_f, and_exc, or_exc, e_iteV, iteV_t, iteV_f, e_andV, e_orV, andV_t, andV_f, andV_exc, orV_t, orV_f, orV_exc, e_iteS, iteS_t, iteS_f, iteS_exc, e_it, itK_ok, itK_exc, it_tup, it_ctup, it_lst, it_bor, it_vw, it_scr, it_str, e_index, index_ok, e_mut, mut_rev, e_ext, ext_own, ext_dat, e_rg, e_shl, e_pow, e_noP, e_atP, part_int, e_slc, slc_okK, e_comp, compK_ok, compK_exc, wipe_nil, wipe_cons, e_for, forK_ok, forK_exc, bindV_dat, bindV_own, bindO_some, bt_one, bt_tup, bt_ctup, bt_lst, pm_nil, pm_nil2, pm_cons, e_par2, par2_dd, par2_od, par2_do, par2_oo, e_lock, lock_own, lock_dat, lock_bor, lock_none, e_lockS, outR_nx, outR_rt, outR_exc, e_litI, e_litS, e_litB, e_litN, e_litD, e_newK, e_newT, e_nx, e_bk, e_ct, e_rtN, e_yes, e_app, own_of, app_dat, app_own, app_exc, e_put, put_dat, put_own, putO_some, e_forget, fg_nx, fg_bk, fg_ct, fg_rt, fg_exc, List.getElem?_cons_zero, List.getElem?_cons_succ, List.set_cons_zero, List.set_cons_succ, List.length_cons, List.length_nil, Nat.reduceAdd, Nat.reduceLT, Bool.not_true, Bool.not_false, e_chn, chn_ok, chnV_t, chnV_f, e_lstB, e_tupB, dats_nil, dats_cons, datsO_some, lstK_ok, tupK_ok, len_tup, len_lst, len_vw, len_bor, len_scr, len_S, neg_i, not_bl, tupF_lst, tupF_tup, tupF_vw, tupF_bor, lstF_tup, lstF_lst, int_i, int_bl, is_t, isn_t, is_n, isn_n, eq_bl, ne_bl, isi_bl, add_ii, sub_ii, lt_ii, gt_ii, le_ii, ge_ii, eq_ii, ne_ii, min_ii, max_ii, and_ii, slc_tup, slc_l, slc_vw, slc_bor, back_tup, back_lst, app_l, app_m, Nat.reduceLeDiff, Int.cast_ofNat_Int, Int.natCast_zero, Int.natCast_one, Int.reduceEq, eq_self, Int.reduceLE, Int.reduceLT, Int.reduceNeg, Int.reduceToNat, Int.toNat_natCast, Int.reduceAdd, Int.reduceSub, Int.reduceMul, Nat.reduceMul, Nat.reduceSub, decide_true, decide_false, Bool.true_and, Bool.false_and, Bool.and_true, Bool.true_or, Bool.false_or, Bool.or_false, not_true_eq_false, not_false_eq_true, if_true, if_false, Bool.false_eq_true, reduceCtorEq, c_law_drawn_v2, hw, c_names_of, nm, idx_w0, idx_w1, cn, ns, ty, m1, c1, c2, c3, cc, all_map, at7, c_law_cell, hc, sl, ca2, lp]
end P
namespace P
open PySem L2 Fn
/-! ### the table, the top -/
theorem all_mk {l : PySem.W.OpenLaw} {w : World} {K : PySem.W.Frag} {h : Heap} {mg : Str → Option Value} {fa : Addr} (X : K.In h) (G : h.Ns mainGlobals mg) (hfa : mg "law" = some (.ref fa))
    {od0 an0 : Option Addr} {sl0 : Array (Option Value)} {oc0 kV0 dc0 pm0 cd0 ct0 : Value} {f0 : Addr}
    {od1 an1 : Option Addr} {sl1 : Array (Option Value)} {oc1 kV1 dc1 pm1 cd1 ct1 : Value} {f1 : Addr}
    {od2 an2 : Option Addr} {sl2 : Array (Option Value)} {oc2 kV2 dc2 pm2 cd2 ct2 : Value} {f2 : Addr}
    {od3 an3 : Option Addr} {sl3 : Array (Option Value)} {oc3 kV3 dc3 pm3 cd3 ct3 : Value} {f3 : Addr}
    {od4 an4 : Option Addr} {sl4 : Array (Option Value)} {oc4 kV4 dc4 pm4 cd4 ct4 : Value} {f4 : Addr}
    {od5 an5 : Option Addr} {sl5 : Array (Option Value)} {oc5 kV5 dc5 pm5 cd5 ct5 : Value} {f5 : Addr}
    {od6 an6 : Option Addr} {sl6 : Array (Option Value)} {oc6 kV6 dc6 pm6 cd6 ct6 : Value} {f6 : Addr}
    {od7 an7 : Option Addr} {sl7 : Array (Option Value)} {oc7 kV7 dc7 pm7 cd7 ct7 : Value} {f7 : Addr}
    {od8 an8 : Option Addr} {sl8 : Array (Option Value)} {oc8 kV8 dc8 pm8 cd8 ct8 : Value} {f8 : Addr}
    {od9 an9 : Option Addr} {sl9 : Array (Option Value)} {oc9 kV9 dc9 pm9 cd9 ct9 : Value} {f9 : Addr}
    {od10 an10 : Option Addr} {sl10 : Array (Option Value)} {oc10 kV10 dc10 pm10 cd10 ct10 : Value} {f10 : Addr}
    {od11 an11 : Option Addr} {sl11 : Array (Option Value)} {oc11 kV11 dc11 pm11 cd11 ct11 : Value} {f11 : Addr}
    {od12 an12 : Option Addr} {sl12 : Array (Option Value)} {oc12 kV12 dc12 pm12 cd12 ct12 : Value} {f12 : Addr}
    {od13 an13 : Option Addr} {sl13 : Array (Option Value)} {oc13 kV13 dc13 pm13 cd13 ct13 : Value} {f13 : Addr}
    {od14 an14 : Option Addr} {sl14 : Array (Option Value)} {oc14 kV14 dc14 pm14 cd14 ct14 : Value} {f14 : Addr}
    {od15 an15 : Option Addr} {sl15 : Array (Option Value)} {oc15 kV15 dc15 pm15 cd15 ct15 : Value} {f15 : Addr}
    {od16 an16 : Option Addr} {sl16 : Array (Option Value)} {oc16 kV16 dc16 pm16 cd16 ct16 : Value} {f16 : Addr}
    {od17 an17 : Option Addr} {sl17 : Array (Option Value)} {oc17 kV17 dc17 pm17 cd17 ct17 : Value} {f17 : Addr}
    {od18 an18 : Option Addr} {sl18 : Array (Option Value)} {oc18 kV18 dc18 pm18 cd18 ct18 : Value} {f18 : Addr}
    {od19 an19 : Option Addr} {sl19 : Array (Option Value)} {oc19 kV19 dc19 pm19 cd19 ct19 : Value} {f19 : Addr}
    {od20 an20 : Option Addr} {sl20 : Array (Option Value)} {oc20 kV20 dc20 pm20 cd20 ct20 : Value} {f20 : Addr}
    {od21 an21 : Option Addr} {sl21 : Array (Option Value)} {oc21 kV21 dc21 pm21 cd21 ct21 : Value} {f21 : Addr}
    {od22 an22 : Option Addr} {sl22 : Array (Option Value)} {oc22 kV22 dc22 pm22 cd22 ct22 : Value} {f22 : Addr}
    {od23 an23 : Option Addr} {sl23 : Array (Option Value)} {oc23 kV23 dc23 pm23 cd23 ct23 : Value} {f23 : Addr}
    {od24 an24 : Option Addr} {sl24 : Array (Option Value)} {oc24 kV24 dc24 pm24 cd24 ct24 : Value} {f24 : Addr}
    {od25 an25 : Option Addr} {sl25 : Array (Option Value)} {oc25 kV25 dc25 pm25 cd25 ct25 : Value} {f25 : Addr}
    {od26 an26 : Option Addr} {sl26 : Array (Option Value)} {oc26 kV26 dc26 pm26 cd26 ct26 : Value} {f26 : Addr}
    {od27 an27 : Option Addr} {sl27 : Array (Option Value)} {oc27 kV27 dc27 pm27 cd27 ct27 : Value} {f27 : Addr}
    (a0 : PySem.W.nsIn K mainGlobals "_law_numbers" = some (some (.ref f0))) (l0 : K.lookup f0 = some ⟨oc0, od0, .func (PySem.W.fnOf "_law_numbers" "_law_numbers" (defArgs S_law_numbers) (defBody S_law_numbers) (defScope S_law_numbers) .none kV0 dc0 pm0 an0 cd0 ct0), sl0⟩) (c0 : PySem.W.codeIn K cd0 "_law_numbers" = true) (k0 : PySem.W.keepIn K (.ref f0) = true)
    (a1 : PySem.W.nsIn K mainGlobals "_law_cell" = some (some (.ref f1))) (l1 : K.lookup f1 = some ⟨oc1, od1, .func (PySem.W.fnOf "_law_cell" "_law_cell" (defArgs S_law_cell) (defBody S_law_cell) (defScope S_law_cell) .none kV1 dc1 pm1 an1 cd1 ct1), sl1⟩) (c1 : PySem.W.codeIn K cd1 "_law_cell" = true) (k1 : PySem.W.keepIn K (.ref f1) = true)
    (a2 : PySem.W.nsIn K mainGlobals "_law_names" = some (some (.ref f2))) (l2 : K.lookup f2 = some ⟨oc2, od2, .func (PySem.W.fnOf "_law_names" "_law_names" (defArgs S_law_names) (defBody S_law_names) (defScope S_law_names) .none kV2 dc2 pm2 an2 cd2 ct2), sl2⟩) (c2 : PySem.W.codeIn K cd2 "_law_names" = true) (k2 : PySem.W.keepIn K (.ref f2) = true)
    (a3 : PySem.W.nsIn K mainGlobals "_law_chain" = some (some (.ref f3))) (l3 : K.lookup f3 = some ⟨oc3, od3, .func (PySem.W.fnOf "_law_chain" "_law_chain" (defArgs S_law_chain) (defBody S_law_chain) (defScope S_law_chain) .none kV3 dc3 pm3 an3 cd3 ct3), sl3⟩) (c3 : PySem.W.codeIn K cd3 "_law_chain" = true) (k3 : PySem.W.keepIn K (.ref f3) = true)
    (a4 : PySem.W.nsIn K mainGlobals "_law_place" = some (some (.ref f4))) (l4 : K.lookup f4 = some ⟨oc4, od4, .func (PySem.W.fnOf "_law_place" "_law_place" (defArgs S_law_place) (defBody S_law_place) (defScope S_law_place) .none kV4 dc4 pm4 an4 cd4 ct4), sl4⟩) (c4 : PySem.W.codeIn K cd4 "_law_place" = true) (k4 : PySem.W.keepIn K (.ref f4) = true)
    (a5 : PySem.W.nsIn K mainGlobals "_law_ties" = some (some (.ref f5))) (l5 : K.lookup f5 = some ⟨oc5, od5, .func (PySem.W.fnOf "_law_ties" "_law_ties" (defArgs S_law_ties) (defBody S_law_ties) (defScope S_law_ties) .none kV5 dc5 pm5 an5 cd5 ct5), sl5⟩) (c5 : PySem.W.codeIn K cd5 "_law_ties" = true) (k5 : PySem.W.keepIn K (.ref f5) = true)
    (a6 : PySem.W.nsIn K mainGlobals "_law_web" = some (some (.ref f6))) (l6 : K.lookup f6 = some ⟨oc6, od6, .func (PySem.W.fnOf "_law_web" "_law_web" (defArgs S_law_web) (defBody S_law_web) (defScope S_law_web) .none kV6 dc6 pm6 an6 cd6 ct6), sl6⟩) (c6 : PySem.W.codeIn K cd6 "_law_web" = true) (k6 : PySem.W.keepIn K (.ref f6) = true)
    (a7 : PySem.W.nsIn K mainGlobals "_law_drawn" = some (some (.ref f7))) (l7 : K.lookup f7 = some ⟨oc7, od7, .func (PySem.W.fnOf "_law_drawn" "_law_drawn" (defArgs S_law_drawn_v2) (defBody S_law_drawn_v2) (defScope S_law_drawn_v2) .none kV7 dc7 pm7 an7 cd7 ct7), sl7⟩) (c7 : PySem.W.codeIn K cd7 "_law_drawn" = true) (k7 : PySem.W.keepIn K (.ref f7) = true)
    (a8 : PySem.W.nsIn K mainGlobals "names_of" = some (some (.ref f8))) (l8 : K.lookup f8 = some ⟨oc8, od8, .func (PySem.W.fnOf "names_of" "names_of" (defArgs S_names_of) (defBody S_names_of) (defScope S_names_of) .none kV8 dc8 pm8 an8 cd8 ct8), sl8⟩) (c8 : PySem.W.codeIn K cd8 "names_of" = true) (k8 : PySem.W.keepIn K (.ref f8) = true)
    (a9 : PySem.W.nsIn K mainGlobals "_law_is_whole" = some (some (.ref f9))) (l9 : K.lookup f9 = some ⟨oc9, od9, .func (PySem.W.fnOf "_law_is_whole" "_law_is_whole" (defArgs S_law_is_whole) (defBody S_law_is_whole) (defScope S_law_is_whole) .none kV9 dc9 pm9 an9 cd9 ct9), sl9⟩) (c9 : PySem.W.codeIn K cd9 "_law_is_whole" = true) (k9 : PySem.W.keepIn K (.ref f9) = true)
    (a10 : PySem.W.nsIn K mainGlobals "_law_low" = some (some (.ref f10))) (l10 : K.lookup f10 = some ⟨oc10, od10, .func (PySem.W.fnOf "_law_low" "_law_low" (defArgs S_law_low) (defBody S_law_low) (defScope S_law_low) .none kV10 dc10 pm10 an10 cd10 ct10), sl10⟩) (c10 : PySem.W.codeIn K cd10 "_law_low" = true) (k10 : PySem.W.keepIn K (.ref f10) = true)
    (a11 : PySem.W.nsIn K mainGlobals "_law_is_fraction" = some (some (.ref f11))) (l11 : K.lookup f11 = some ⟨oc11, od11, .func (PySem.W.fnOf "_law_is_fraction" "_law_is_fraction" (defArgs S_law_is_fraction_v2) (defBody S_law_is_fraction_v2) (defScope S_law_is_fraction_v2) .none kV11 dc11 pm11 an11 cd11 ct11), sl11⟩) (c11 : PySem.W.codeIn K cd11 "_law_is_fraction" = true) (k11 : PySem.W.keepIn K (.ref f11) = true)
    (a12 : PySem.W.nsIn K mainGlobals "is_whole" = some (some (.ref f12))) (l12 : K.lookup f12 = some ⟨oc12, od12, .func (PySem.W.fnOf "is_whole" "is_whole" (defArgs S_is_whole) (defBody S_is_whole) (defScope S_is_whole) .none kV12 dc12 pm12 an12 cd12 ct12), sl12⟩) (c12 : PySem.W.codeIn K cd12 "is_whole" = true) (k12 : PySem.W.keepIn K (.ref f12) = true)
    (a13 : PySem.W.nsIn K mainGlobals "shared_part" = some (some (.ref f13))) (l13 : K.lookup f13 = some ⟨oc13, od13, .func (PySem.W.fnOf "shared_part" "shared_part" (defArgs S_shared_part) (defBody S_shared_part) (defScope S_shared_part) .none kV13 dc13 pm13 an13 cd13 ct13), sl13⟩) (c13 : PySem.W.codeIn K cd13 "shared_part" = true) (k13 : PySem.W.keepIn K (.ref f13) = true)
    (a14 : PySem.W.nsIn K mainGlobals "is_fraction" = some (some (.ref f14))) (l14 : K.lookup f14 = some ⟨oc14, od14, .func (PySem.W.fnOf "is_fraction" "is_fraction" (defArgs S_is_fraction) (defBody S_is_fraction) (defScope S_is_fraction) .none kV14 dc14 pm14 an14 cd14 ct14), sl14⟩) (c14 : PySem.W.codeIn K cd14 "is_fraction" = true) (k14 : PySem.W.keepIn K (.ref f14) = true)
    (a15 : PySem.W.nsIn K mainGlobals "below" = some (some (.ref f15))) (l15 : K.lookup f15 = some ⟨oc15, od15, .func (PySem.W.fnOf "below" "below" (defArgs S_below) (defBody S_below) (defScope S_below) .none kV15 dc15 pm15 an15 cd15 ct15), sl15⟩) (c15 : PySem.W.codeIn K cd15 "below" = true) (k15 : PySem.W.keepIn K (.ref f15) = true)
    (a16 : PySem.W.nsIn K mainGlobals "is_price" = some (some (.ref f16))) (l16 : K.lookup f16 = some ⟨oc16, od16, .func (PySem.W.fnOf "is_price" "is_price" (defArgs S_is_price) (defBody S_is_price) (defScope S_is_price) .none kV16 dc16 pm16 an16 cd16 ct16), sl16⟩) (c16 : PySem.W.codeIn K cd16 "is_price" = true) (k16 : PySem.W.keepIn K (.ref f16) = true)
    (a17 : PySem.W.nsIn K mainGlobals "check_price" = some (some (.ref f17))) (l17 : K.lookup f17 = some ⟨oc17, od17, .func (PySem.W.fnOf "check_price" "check_price" (defArgs S_check_price) (defBody S_check_price) (defScope S_check_price) .none kV17 dc17 pm17 an17 cd17 ct17), sl17⟩) (c17 : PySem.W.codeIn K cd17 "check_price" = true) (k17 : PySem.W.keepIn K (.ref f17) = true)
    (a18 : PySem.W.nsIn K mainGlobals "fraction" = some (some (.ref f18))) (l18 : K.lookup f18 = some ⟨oc18, od18, .func (PySem.W.fnOf "fraction" "fraction" (defArgs S_fraction) (defBody S_fraction) (defScope S_fraction) .none kV18 dc18 pm18 an18 cd18 ct18), sl18⟩) (c18 : PySem.W.codeIn K cd18 "fraction" = true) (k18 : PySem.W.keepIn K (.ref f18) = true)
    (a19 : PySem.W.nsIn K mainGlobals "plus" = some (some (.ref f19))) (l19 : K.lookup f19 = some ⟨oc19, od19, .func (PySem.W.fnOf "plus" "plus" (defArgs S_plus) (defBody S_plus) (defScope S_plus) .none kV19 dc19 pm19 an19 cd19 ct19), sl19⟩) (c19 : PySem.W.codeIn K cd19 "plus" = true) (k19 : PySem.W.keepIn K (.ref f19) = true)
    (a20 : PySem.W.nsIn K mainGlobals "times" = some (some (.ref f20))) (l20 : K.lookup f20 = some ⟨oc20, od20, .func (PySem.W.fnOf "times" "times" (defArgs S_times) (defBody S_times) (defScope S_times) .none kV20 dc20 pm20 an20 cd20 ct20), sl20⟩) (c20 : PySem.W.codeIn K cd20 "times" = true) (k20 : PySem.W.keepIn K (.ref f20) = true)
    (a21 : PySem.W.nsIn K mainGlobals "minus" = some (some (.ref f21))) (l21 : K.lookup f21 = some ⟨oc21, od21, .func (PySem.W.fnOf "minus" "minus" (defArgs S_minus) (defBody S_minus) (defScope S_minus) .none kV21 dc21 pm21 an21 cd21 ct21), sl21⟩) (c21 : PySem.W.codeIn K cd21 "minus" = true) (k21 : PySem.W.keepIn K (.ref f21) = true)
    (a22 : PySem.W.nsIn K mainGlobals "sizes_at" = some (some (.ref f22))) (l22 : K.lookup f22 = some ⟨oc22, od22, .func (PySem.W.fnOf "sizes_at" "sizes_at" (defArgs S_sizes_at) (defBody S_sizes_at) (defScope S_sizes_at) .none kV22 dc22 pm22 an22 cd22 ct22), sl22⟩) (c22 : PySem.W.codeIn K cd22 "sizes_at" = true) (k22 : PySem.W.keepIn K (.ref f22) = true)
    (a23 : PySem.W.nsIn K mainGlobals "_law_caught" = some (some (.ref f23))) (l23 : K.lookup f23 = some ⟨oc23, od23, .func (PySem.W.fnOf "_law_caught" "_law_caught" (defArgs S_law_caught_v2) (defBody S_law_caught_v2) (defScope S_law_caught_v2) .none kV23 dc23 pm23 an23 cd23 ct23), sl23⟩) (c23 : PySem.W.codeIn K cd23 "_law_caught" = true) (k23 : PySem.W.keepIn K (.ref f23) = true)
    (a24 : PySem.W.nsIn K mainGlobals "_law_due" = some (some (.ref f24))) (l24 : K.lookup f24 = some ⟨oc24, od24, .func (PySem.W.fnOf "_law_due" "_law_due" (defArgs S_law_due_v1) (defBody S_law_due_v1) (defScope S_law_due_v1) .none kV24 dc24 pm24 an24 cd24 ct24), sl24⟩) (c24 : PySem.W.codeIn K cd24 "_law_due" = true) (k24 : PySem.W.keepIn K (.ref f24) = true)
    (a25 : PySem.W.nsIn K mainGlobals "_law_right" = some (some (.ref f25))) (l25 : K.lookup f25 = some ⟨oc25, od25, .func (PySem.W.fnOf "_law_right" "_law_right" (defArgs S_law_right_v1) (defBody S_law_right_v1) (defScope S_law_right_v1) .none kV25 dc25 pm25 an25 cd25 ct25), sl25⟩) (c25 : PySem.W.codeIn K cd25 "_law_right" = true) (k25 : PySem.W.keepIn K (.ref f25) = true)
    (a26 : PySem.W.nsIn K mainGlobals "_law_price" = some (some (.ref f26))) (l26 : K.lookup f26 = some ⟨oc26, od26, .func (PySem.W.fnOf "_law_price" "_law_price" (defArgs S_law_price) (defBody S_law_price) (defScope S_law_price) .none kV26 dc26 pm26 an26 cd26 ct26), sl26⟩) (c26 : PySem.W.codeIn K cd26 "_law_price" = true) (k26 : PySem.W.keepIn K (.ref f26) = true)
    (a27 : PySem.W.nsIn K mainGlobals "law" = some (some (.ref f27))) (l27 : K.lookup f27 = some ⟨oc27, od27, .func (PySem.W.fnOf "law" "law" (defArgs S_law) (defBody S_law) (defScope S_law) .none kV27 dc27 pm27 an27 cd27 ct27), sl27⟩) (c27 : PySem.W.codeIn K cd27 "law" = true) (k27 : PySem.W.keepIn K (.ref f27) = true)
    (z0 : PySem.W.nsIn K mainGlobals "ValueError" = some none) (z1 : PySem.W.nsIn K mainGlobals "abs" = some none) (z2 : PySem.W.nsIn K mainGlobals "all" = some none) (z3 : PySem.W.nsIn K mainGlobals "bool" = some none) (z4 : PySem.W.nsIn K mainGlobals "int" = some none) (z5 : PySem.W.nsIn K mainGlobals "isinstance" = some none) (z6 : PySem.W.nsIn K mainGlobals "len" = some none) (z7 : PySem.W.nsIn K mainGlobals "list" = some none) (z8 : PySem.W.nsIn K mainGlobals "max" = some none) (z9 : PySem.W.nsIn K mainGlobals "range" = some none) (z10 : PySem.W.nsIn K mainGlobals "sorted" = some none) (z11 : PySem.W.nsIn K mainGlobals "tuple" = some none) {g0 : Addr} {gd0 : Option Addr} {gn0 : Nat} {gs0 : Array (Option Value)} {gt0_0 : Tok} {gt0_1 : Tok} (q0 : PySem.W.nsIn K mainGlobals "NOUGHT" = some (some (.ref g0))) (ql0 : K.lookup g0 = some ⟨.type "tuple", gd0, .seq #[.int 0 gt0_0, .int 1 gt0_1] gn0, gs0⟩)
    {xC0 : Addr} (xa0 : PySem.W.nsIn K mainGlobals "StairError" = some (some (.ref xC0))) (xb0 : PySem.W.subIn K (.ref xC0) (.type "BaseException") = some true) (xi0 : PySem.W.isClsIn K xC0 = true) (xt0 : PySem.W.typeIn K (.ref xC0) = some (.type "type"))
    {xC1 : Addr} (xa1 : PySem.W.nsIn K mainGlobals "NoText" = some (some (.ref xC1))) (xb1 : PySem.W.subIn K (.ref xC1) (.type "BaseException") = some true) (xi1 : PySem.W.isClsIn K xC1 = true) (xt1 : PySem.W.typeIn K (.ref xC1) = some (.type "type"))
    {xC2 : Addr} (xa2 : PySem.W.nsIn K mainGlobals "NoNumber" = some (some (.ref xC2))) (xb2 : PySem.W.subIn K (.ref xC2) (.type "BaseException") = some true) (xi2 : PySem.W.isClsIn K xC2 = true) (xt2 : PySem.W.typeIn K (.ref xC2) = some (.type "type"))
    {xC3 : Addr} (xa3 : PySem.W.nsIn K mainGlobals "NoCut" = some (some (.ref xC3))) (xb3 : PySem.W.subIn K (.ref xC3) (.type "BaseException") = some true) (xi3 : PySem.W.isClsIn K xC3 = true) (xt3 : PySem.W.typeIn K (.ref xC3) = some (.type "type"))
    {xC4 : Addr} (xa4 : PySem.W.nsIn K mainGlobals "NoPrice" = some (some (.ref xC4))) (xb4 : PySem.W.subIn K (.ref xC4) (.type "BaseException") = some true) (xi4 : PySem.W.isClsIn K xC4 = true) (xt4 : PySem.W.typeIn K (.ref xC4) = some (.type "type"))
    {xC5 : Addr} (xa5 : PySem.W.nsIn K mainGlobals "NoStream" = some (some (.ref xC5))) (xb5 : PySem.W.subIn K (.ref xC5) (.type "BaseException") = some true) (xi5 : PySem.W.isClsIn K xC5 = true) (xt5 : PySem.W.typeIn K (.ref xC5) = some (.type "type"))
    {xC6 : Addr} (xa6 : PySem.W.nsIn K mainGlobals "NoName" = some (some (.ref xC6))) (xb6 : PySem.W.subIn K (.ref xC6) (.type "BaseException") = some true) (xi6 : PySem.W.isClsIn K xC6 = true) (xt6 : PySem.W.typeIn K (.ref xC6) = some (.type "type"))
    {xC7 : Addr} (xa7 : PySem.W.nsIn K mainGlobals "NoFall" = some (some (.ref xC7))) (xb7 : PySem.W.subIn K (.ref xC7) (.type "BaseException") = some true) (xi7 : PySem.W.isClsIn K xC7 = true) (xt7 : PySem.W.typeIn K (.ref xC7) = some (.type "type"))
    {xC8 : Addr} (xa8 : PySem.W.nsIn K mainGlobals "NoShare" = some (some (.ref xC8))) (xb8 : PySem.W.subIn K (.ref xC8) (.type "BaseException") = some true) (xi8 : PySem.W.isClsIn K xC8 = true) (xt8 : PySem.W.typeIn K (.ref xC8) = some (.type "type"))
    {xC9 : Addr} (xa9 : PySem.W.nsIn K mainGlobals "NoPart" = some (some (.ref xC9))) (xb9 : PySem.W.subIn K (.ref xC9) (.type "BaseException") = some true) (xi9 : PySem.W.isClsIn K xC9 = true) (xt9 : PySem.W.typeIn K (.ref xC9) = some (.type "type"))
    {xC10 : Addr} (xa10 : PySem.W.nsIn K mainGlobals "NoTop" = some (some (.ref xC10))) (xb10 : PySem.W.subIn K (.ref xC10) (.type "BaseException") = some true) (xi10 : PySem.W.isClsIn K xC10 = true) (xt10 : PySem.W.typeIn K (.ref xC10) = some (.type "type"))
    {xC11 : Addr} (xa11 : PySem.W.nsIn K mainGlobals "NoPlace" = some (some (.ref xC11))) (xb11 : PySem.W.subIn K (.ref xC11) (.type "BaseException") = some true) (xi11 : PySem.W.isClsIn K xC11 = true) (xt11 : PySem.W.typeIn K (.ref xC11) = some (.type "type"))
    {xC12 : Addr} (xa12 : PySem.W.nsIn K mainGlobals "NoTie" = some (some (.ref xC12))) (xb12 : PySem.W.subIn K (.ref xC12) (.type "BaseException") = some true) (xi12 : PySem.W.isClsIn K xC12 = true) (xt12 : PySem.W.typeIn K (.ref xC12) = some (.type "type"))
    {xC13 : Addr} (xa13 : PySem.W.nsIn K mainGlobals "NoUndo" = some (some (.ref xC13))) (xb13 : PySem.W.subIn K (.ref xC13) (.type "BaseException") = some true) (xi13 : PySem.W.isClsIn K xC13 = true) (xt13 : PySem.W.typeIn K (.ref xC13) = some (.type "type"))
    {xC14 : Addr} (xa14 : PySem.W.nsIn K mainGlobals "NoWeb" = some (some (.ref xC14))) (xb14 : PySem.W.subIn K (.ref xC14) (.type "BaseException") = some true) (xi14 : PySem.W.isClsIn K xC14 = true) (xt14 : PySem.W.typeIn K (.ref xC14) = some (.type "type"))
    {xC15 : Addr} (xa15 : PySem.W.nsIn K mainGlobals "NoRow" = some (some (.ref xC15))) (xb15 : PySem.W.subIn K (.ref xC15) (.type "BaseException") = some true) (xi15 : PySem.W.isClsIn K xC15 = true) (xt15 : PySem.W.typeIn K (.ref xC15) = some (.type "type"))
    (yn : PySem.W.specialIn K (.builtin "object.__class__") "__get__" = some (some (.builtin "getset_descriptor.__get__"))) (yt : PySem.W.takesIn K (.builtin "object.__class__") = some true)
    (yx2 : PySem.W.excIn K xC2 veM "ValueError.__new__" = true) (yk2 : PySem.W.keepIn K (.ref xC2) = true) (yg2 : PySem.W.findIn K (.ref xC2) "__getattribute__" = some (some (.builtin "BaseException.__getattribute__"))) (yh2 : PySem.W.findIn K (.ref xC2) "__getattr__" = some none) (yd2 : PySem.W.hasDictIn K xC2 = true) (ya2 : PySem.W.findIn K (.ref xC2) "__class__" = some (some (.builtin "object.__class__"))) (ym2 : PySem.W.mroIn K xC2 (.type "object") = some true) (yv2 : PySem.W.subIn K (.ref xC2) (.type "ValueError") = some true) (ys2 : PySem.W.subIn K (.ref xC2) (.ref xC2) = some true)
    (yp2_0 : PySem.W.subIn K (.ref xC2) (.ref xC0) = some true)
    (yp2_1 : PySem.W.subIn K (.ref xC2) (.ref xC1) = some false)
    (yp2_2 : PySem.W.subIn K (.ref xC2) (.ref xC2) = some true)
    (yp2_3 : PySem.W.subIn K (.ref xC2) (.ref xC3) = some false)
    (yp2_4 : PySem.W.subIn K (.ref xC2) (.ref xC4) = some false)
    (yp2_5 : PySem.W.subIn K (.ref xC2) (.ref xC5) = some false)
    (yp2_6 : PySem.W.subIn K (.ref xC2) (.ref xC6) = some false)
    (yp2_7 : PySem.W.subIn K (.ref xC2) (.ref xC7) = some false)
    (yp2_8 : PySem.W.subIn K (.ref xC2) (.ref xC8) = some false)
    (yp2_9 : PySem.W.subIn K (.ref xC2) (.ref xC9) = some false)
    (yp2_10 : PySem.W.subIn K (.ref xC2) (.ref xC10) = some false)
    (yp2_11 : PySem.W.subIn K (.ref xC2) (.ref xC11) = some false)
    (yp2_12 : PySem.W.subIn K (.ref xC2) (.ref xC12) = some false)
    (yp2_13 : PySem.W.subIn K (.ref xC2) (.ref xC13) = some false)
    (yp2_14 : PySem.W.subIn K (.ref xC2) (.ref xC14) = some false)
    (yp2_15 : PySem.W.subIn K (.ref xC2) (.ref xC15) = some false)
    (yx4 : PySem.W.excIn K xC4 veM "ValueError.__new__" = true) (yk4 : PySem.W.keepIn K (.ref xC4) = true) (yg4 : PySem.W.findIn K (.ref xC4) "__getattribute__" = some (some (.builtin "BaseException.__getattribute__"))) (yh4 : PySem.W.findIn K (.ref xC4) "__getattr__" = some none) (yd4 : PySem.W.hasDictIn K xC4 = true) (ya4 : PySem.W.findIn K (.ref xC4) "__class__" = some (some (.builtin "object.__class__"))) (ym4 : PySem.W.mroIn K xC4 (.type "object") = some true) (yv4 : PySem.W.subIn K (.ref xC4) (.type "ValueError") = some true) (ys4 : PySem.W.subIn K (.ref xC4) (.ref xC4) = some true)
    (yp4_0 : PySem.W.subIn K (.ref xC4) (.ref xC0) = some true)
    (yp4_1 : PySem.W.subIn K (.ref xC4) (.ref xC1) = some false)
    (yp4_2 : PySem.W.subIn K (.ref xC4) (.ref xC2) = some false)
    (yp4_3 : PySem.W.subIn K (.ref xC4) (.ref xC3) = some false)
    (yp4_4 : PySem.W.subIn K (.ref xC4) (.ref xC4) = some true)
    (yp4_5 : PySem.W.subIn K (.ref xC4) (.ref xC5) = some false)
    (yp4_6 : PySem.W.subIn K (.ref xC4) (.ref xC6) = some false)
    (yp4_7 : PySem.W.subIn K (.ref xC4) (.ref xC7) = some false)
    (yp4_8 : PySem.W.subIn K (.ref xC4) (.ref xC8) = some false)
    (yp4_9 : PySem.W.subIn K (.ref xC4) (.ref xC9) = some false)
    (yp4_10 : PySem.W.subIn K (.ref xC4) (.ref xC10) = some false)
    (yp4_11 : PySem.W.subIn K (.ref xC4) (.ref xC11) = some false)
    (yp4_12 : PySem.W.subIn K (.ref xC4) (.ref xC12) = some false)
    (yp4_13 : PySem.W.subIn K (.ref xC4) (.ref xC13) = some false)
    (yp4_14 : PySem.W.subIn K (.ref xC4) (.ref xC14) = some false)
    (yp4_15 : PySem.W.subIn K (.ref xC4) (.ref xC15) = some false)
    (main : ∀ ns : List Int, ns.length ≤ 63 → E_law.F [.scr ns] = .ok (.dat (.bl true))) :
    ∃ fd : FuncData, (∀ (s : Shared) (v : Value), BindsTo s fd ⟨[v], []⟩ [("_law_script", v)]) ∧ ∀ base : Heap, K.In base → base.Ns mainGlobals mg → FnOk l.prog w K mg base (L2.CX l.prog w) 28 fa fd ["_law_script"] (spLaw K) := by
  have e := hfa.symm.trans (PySem.W.mg_of X G a27)
  cases e
  let fl : Nat → Option Addr := fun i => if i < 1000 then [f0, f1, f2, f3, f4, f5, f6, f7, f8, f9, f10, f11, f12, f13, f14, f15, f16, f17, f18, f19, f20, f21, f22, f23, f24, f25, f26][i]? else [xC0, xC1, xC2, xC3, xC4, xC5, xC6, xC7, xC8, xC9, xC10, xC11, xC12, xC13, xC14, xC15][i - 1000]?
  have hbi : ∀ b : Bt, b.bi = bt0.bi → b.cs = bt0.cs → BiOk K fl mg b := by
    intro b h1 h2
    refine ⟨fun x hx => ?_, fun p hp => ?_⟩
    · rw [h1] at hx
      simp only [bt0, List.mem_cons, List.not_mem_nil, or_false] at hx
      rcases hx with rfl | rfl | rfl | rfl | rfl | rfl | rfl | rfl | rfl | rfl | rfl | rfl
      · exact PySem.W.mg_none_of X G z0
      · exact PySem.W.mg_none_of X G z1
      · exact PySem.W.mg_none_of X G z2
      · exact PySem.W.mg_none_of X G z3
      · exact PySem.W.mg_none_of X G z4
      · exact PySem.W.mg_none_of X G z5
      · exact PySem.W.mg_none_of X G z6
      · exact PySem.W.mg_none_of X G z7
      · exact PySem.W.mg_none_of X G z8
      · exact PySem.W.mg_none_of X G z9
      · exact PySem.W.mg_none_of X G z10
      · exact PySem.W.mg_none_of X G z11
    · rw [h2] at hp
      simp only [bt0, List.mem_cons, List.not_mem_nil, or_false] at hp
      rcases hp with rfl
      · exact ⟨.ref g0, .ref g0, PySem.W.mg_of X G q0, rfl, fun F => .ctup (xs := [V.int 0, V.int 1]) (.inr ⟨_, _, _, ql0, rfl, rfl, (by show 2 ≤ sizeLine; decide), .cons ⟨_, rfl⟩ (.cons ⟨_, rfl⟩ (.nil))⟩) (.cons (.int 0) (.cons (.int 1) (.nil)))⟩
  have hex : ∀ b : Bt, b.ex = bt0.ex → b.rs = bt0.rs → ExOk K fl (clsOf fl) mg b := by
    intro b h1 h2
    refine ⟨fun c x h => ?_, fun c h => ?_, fun c h c2 D D2 hl e1 e2 => ?_⟩
    · rw [h1] at h
      match c, h with
      | 0, h => cases h; exact ⟨xC0, PySem.W.mg_of X G xa0, rfl, rfl, xb0, xi0, xt0⟩
      | 1, h => cases h; exact ⟨xC1, PySem.W.mg_of X G xa1, rfl, rfl, xb1, xi1, xt1⟩
      | 2, h => cases h; exact ⟨xC2, PySem.W.mg_of X G xa2, rfl, rfl, xb2, xi2, xt2⟩
      | 3, h => cases h; exact ⟨xC3, PySem.W.mg_of X G xa3, rfl, rfl, xb3, xi3, xt3⟩
      | 4, h => cases h; exact ⟨xC4, PySem.W.mg_of X G xa4, rfl, rfl, xb4, xi4, xt4⟩
      | 5, h => cases h; exact ⟨xC5, PySem.W.mg_of X G xa5, rfl, rfl, xb5, xi5, xt5⟩
      | 6, h => cases h; exact ⟨xC6, PySem.W.mg_of X G xa6, rfl, rfl, xb6, xi6, xt6⟩
      | 7, h => cases h; exact ⟨xC7, PySem.W.mg_of X G xa7, rfl, rfl, xb7, xi7, xt7⟩
      | 8, h => cases h; exact ⟨xC8, PySem.W.mg_of X G xa8, rfl, rfl, xb8, xi8, xt8⟩
      | 9, h => cases h; exact ⟨xC9, PySem.W.mg_of X G xa9, rfl, rfl, xb9, xi9, xt9⟩
      | 10, h => cases h; exact ⟨xC10, PySem.W.mg_of X G xa10, rfl, rfl, xb10, xi10, xt10⟩
      | 11, h => cases h; exact ⟨xC11, PySem.W.mg_of X G xa11, rfl, rfl, xb11, xi11, xt11⟩
      | 12, h => cases h; exact ⟨xC12, PySem.W.mg_of X G xa12, rfl, rfl, xb12, xi12, xt12⟩
      | 13, h => cases h; exact ⟨xC13, PySem.W.mg_of X G xa13, rfl, rfl, xb13, xi13, xt13⟩
      | 14, h => cases h; exact ⟨xC14, PySem.W.mg_of X G xa14, rfl, rfl, xb14, xi14, xt14⟩
      | 15, h => cases h; exact ⟨xC15, PySem.W.mg_of X G xa15, rfl, rfl, xb15, xi15, xt15⟩
      | c + 16, h => cases h
    · rw [h2] at h
      simp only [bt0, List.mem_cons, List.not_mem_nil, or_false] at h
      rcases h with rfl | rfl
      · exact ⟨xC2, rfl, rfl, ⟨yx2, yk2, xb2, xt2, ⟨yg2, yh2, xb2, yd2, ya2, yn, yt, ym2⟩, yv2, ys2⟩⟩
      · exact ⟨xC4, rfl, rfl, ⟨yx4, yk4, xb4, xt4, ⟨yg4, yh4, xb4, yd4, ya4, yn, yt, ym4⟩, yv4, ys4⟩⟩
    · rw [h2] at h
      rw [h1] at hl
      simp only [bt0, List.mem_cons, List.not_mem_nil, or_false] at h
      rcases h with rfl | rfl
      · have e1 : some xC2 = some D := e1
        match c2, hl, e2 with
        | 0, _, e2 => have e2 : some xC0 = some D2 := e2; cases e1; cases e2; exact yp2_0
        | 1, _, e2 => have e2 : some xC1 = some D2 := e2; cases e1; cases e2; exact yp2_1
        | 2, _, e2 => have e2 : some xC2 = some D2 := e2; cases e1; cases e2; exact yp2_2
        | 3, _, e2 => have e2 : some xC3 = some D2 := e2; cases e1; cases e2; exact yp2_3
        | 4, _, e2 => have e2 : some xC4 = some D2 := e2; cases e1; cases e2; exact yp2_4
        | 5, _, e2 => have e2 : some xC5 = some D2 := e2; cases e1; cases e2; exact yp2_5
        | 6, _, e2 => have e2 : some xC6 = some D2 := e2; cases e1; cases e2; exact yp2_6
        | 7, _, e2 => have e2 : some xC7 = some D2 := e2; cases e1; cases e2; exact yp2_7
        | 8, _, e2 => have e2 : some xC8 = some D2 := e2; cases e1; cases e2; exact yp2_8
        | 9, _, e2 => have e2 : some xC9 = some D2 := e2; cases e1; cases e2; exact yp2_9
        | 10, _, e2 => have e2 : some xC10 = some D2 := e2; cases e1; cases e2; exact yp2_10
        | 11, _, e2 => have e2 : some xC11 = some D2 := e2; cases e1; cases e2; exact yp2_11
        | 12, _, e2 => have e2 : some xC12 = some D2 := e2; cases e1; cases e2; exact yp2_12
        | 13, _, e2 => have e2 : some xC13 = some D2 := e2; cases e1; cases e2; exact yp2_13
        | 14, _, e2 => have e2 : some xC14 = some D2 := e2; cases e1; cases e2; exact yp2_14
        | 15, _, e2 => have e2 : some xC15 = some D2 := e2; cases e1; cases e2; exact yp2_15
        | c2 + 16, hl, _ => exact absurd hl (by simp [bt0])
      · have e1 : some xC4 = some D := e1
        match c2, hl, e2 with
        | 0, _, e2 => have e2 : some xC0 = some D2 := e2; cases e1; cases e2; exact yp4_0
        | 1, _, e2 => have e2 : some xC1 = some D2 := e2; cases e1; cases e2; exact yp4_1
        | 2, _, e2 => have e2 : some xC2 = some D2 := e2; cases e1; cases e2; exact yp4_2
        | 3, _, e2 => have e2 : some xC3 = some D2 := e2; cases e1; cases e2; exact yp4_3
        | 4, _, e2 => have e2 : some xC4 = some D2 := e2; cases e1; cases e2; exact yp4_4
        | 5, _, e2 => have e2 : some xC5 = some D2 := e2; cases e1; cases e2; exact yp4_5
        | 6, _, e2 => have e2 : some xC6 = some D2 := e2; cases e1; cases e2; exact yp4_6
        | 7, _, e2 => have e2 : some xC7 = some D2 := e2; cases e1; cases e2; exact yp4_7
        | 8, _, e2 => have e2 : some xC8 = some D2 := e2; cases e1; cases e2; exact yp4_8
        | 9, _, e2 => have e2 : some xC9 = some D2 := e2; cases e1; cases e2; exact yp4_9
        | 10, _, e2 => have e2 : some xC10 = some D2 := e2; cases e1; cases e2; exact yp4_10
        | 11, _, e2 => have e2 : some xC11 = some D2 := e2; cases e1; cases e2; exact yp4_11
        | 12, _, e2 => have e2 : some xC12 = some D2 := e2; cases e1; cases e2; exact yp4_12
        | 13, _, e2 => have e2 : some xC13 = some D2 := e2; cases e1; cases e2; exact yp4_13
        | 14, _, e2 => have e2 : some xC14 = some D2 := e2; cases e1; cases e2; exact yp4_14
        | 15, _, e2 => have e2 : some xC15 = some D2 := e2; cases e1; cases e2; exact yp4_15
        | c2 + 16, hl, _ => exact absurd hl (by simp [bt0])
  refine ⟨PySem.W.fnOf "law" "law" (defArgs S_law) (defBody S_law) (defScope S_law) .none kV27 dc27 pm27 an27 cd27 ct27, fun s v => .of_eq rfl, fun base _ _ => ?_⟩
  have hh0 : HotOk l.prog w K mg base fl (clsOf fl) 0 [] := HotOk.nil
  have W0 : TabW l.prog w K mg base fl (clsOf fl) 0 T0 := TabW.nil
  have F0 := fun_mk (st := S_law_numbers) l0 c0 k0
  have W1 : TabW l.prog w K mg base fl (clsOf fl) 1 T1 := W0.more (en := E_law_numbers) F0 sc_law_numbers (hbi bt rfl rfl) (hex bt rfl rfl) (hh0.mono (by decide)) rfl (fun X g C => ok_law_numbers C) (PySem.W.mg_of X G a0) rfl (F0.binds (ps := ["_law_cell_here", "_law_many"]) fun _ _ _ _ _ _ us hl => match us, hl with | [_, _], _ => rfl)
  have F1 := fun_mk (st := S_law_cell) l1 c1 k1
  have W2 : TabW l.prog w K mg base fl (clsOf fl) 2 T2 := W1.more (en := E_law_cell) F1 sc_law_cell (hbi bt rfl rfl) (hex bt rfl rfl) (hh0.mono (by decide)) rfl (fun X g C => ok_law_cell C) (PySem.W.mg_of X G a1) rfl (F1.binds (ps := ["_law_script", "_law_k"]) fun _ _ _ _ _ _ us hl => match us, hl with | [_, _], _ => rfl)
  have F2 := fun_mk (st := S_law_names) l2 c2 k2
  have W3 : TabW l.prog w K mg base fl (clsOf fl) 3 T3 := W2.more (en := E_law_names) F2 sc_law_names (hbi bt rfl rfl) (hex bt rfl rfl) (hh0.mono (by decide)) rfl (fun X g C => ok_law_names C) (PySem.W.mg_of X G a2) rfl (F2.binds (ps := ["_law_xs", "_law_many"]) fun _ _ _ _ _ _ us hl => match us, hl with | [_, _], _ => rfl)
  have F3 := fun_mk (st := S_law_chain) l3 c3 k3
  have W4 : TabW l.prog w K mg base fl (clsOf fl) 4 T4 := W3.more (en := E_law_chain) F3 sc_law_chain (hbi bt rfl rfl) (hex bt rfl rfl) (hh0.mono (by decide)) rfl (fun X g C => ok_law_chain C) (PySem.W.mg_of X G a3) rfl (F3.binds (ps := ["_law_xs", "_law_many"]) fun _ _ _ _ _ _ us hl => match us, hl with | [_, _], _ => rfl)
  have F4 := fun_mk (st := S_law_place) l4 c4 k4
  have W5 : TabW l.prog w K mg base fl (clsOf fl) 5 T5 := W4.more (en := E_law_place) F4 sc_law_place (hbi bt rfl rfl) (hex bt rfl rfl) (hh0.mono (by decide)) rfl (fun X g C => ok_law_place C) (PySem.W.mg_of X G a4) rfl (F4.binds (ps := ["_law_name", "_law_xs", "_law_top", "_law_wide"]) fun _ _ _ _ _ _ us hl => match us, hl with | [_, _, _, _], _ => rfl)
  have F5 := fun_mk (st := S_law_ties) l5 c5 k5
  have W6 : TabW l.prog w K mg base fl (clsOf fl) 6 T6 := W5.more (en := E_law_ties) F5 sc_law_ties (hbi bt rfl rfl) (hex bt rfl rfl) (hh0.mono (by decide)) rfl (fun X g C => ok_law_ties C) (PySem.W.mg_of X G a5) rfl (F5.binds (ps := ["_law_names_here", "_law_script", "_law_at", "_law_many", "_law_wide"]) fun _ _ _ _ _ _ us hl => match us, hl with | [_, _, _, _, _], _ => rfl)
  have F6 := fun_mk (st := S_law_web) l6 c6 k6
  have W7 : TabW l.prog w K mg base fl (clsOf fl) 7 T7 := W6.more (en := E_law_web) F6 sc_law_web (hbi bt rfl rfl) (hex bt rfl rfl) (hh0.mono (by decide)) rfl (fun X g C => ok_law_web C) (PySem.W.mg_of X G a6) rfl (F6.binds (ps := ["_law_script", "_law_at", "_law_most"]) fun _ _ _ _ _ _ us hl => match us, hl with | [_, _, _], _ => rfl)
  have F7 := fun_mk (st := S_law_drawn_v2) l7 c7 k7
  have W8 : TabW l.prog w K mg base fl (clsOf fl) 8 T8 := W7.more (en := E_law_drawn_v2) F7 sc_law_drawn_v2 (hbi bt rfl rfl) (hex bt rfl rfl) (hh0.mono (by decide)) rfl (fun X g C => ok_law_drawn_v2 C) (PySem.W.mg_of X G a7) rfl (F7.binds (ps := ["_law_script"]) fun _ _ _ _ _ _ us hl => match us, hl with | [_], _ => rfl)
  have F8 := fun_mk (st := S_names_of) l8 c8 k8
  have W9 : TabW l.prog w K mg base fl (clsOf fl) 9 T9 := W8.more (en := E_names_of) F8 sc_names_of (hbi bt rfl rfl) (hex bt rfl rfl) (hh0.mono (by decide)) rfl (fun X g C => ok_names_of C) (PySem.W.mg_of X G a8) rfl (F8.binds (ps := ["web"]) fun _ _ _ _ _ _ us hl => match us, hl with | [_], _ => rfl)
  have F9 := fun_mk (st := S_law_is_whole) l9 c9 k9
  have W10 : TabW l.prog w K mg base fl (clsOf fl) 10 T10 := W9.more (en := E_law_is_whole) F9 sc_law_is_whole (hbi bt rfl rfl) (hex bt rfl rfl) (hh0.mono (by decide)) rfl (fun X g C => ok_law_is_whole C) (PySem.W.mg_of X G a9) rfl (F9.binds (ps := ["_law_thing"]) fun _ _ _ _ _ _ us hl => match us, hl with | [_], _ => rfl)
  have F10 := fun_mk (st := S_law_low) l10 c10 k10
  have W11 : TabW l.prog w K mg base fl (clsOf fl) 11 T11 := W10.more (en := E_law_low) F10 sc_law_low (hbi bt rfl rfl) (hex bt rfl rfl) (hh0.mono (by decide)) rfl (fun X g C => ok_law_low C) (PySem.W.mg_of X G a10) rfl (F10.binds (ps := ["_law_top", "_law_bottom"]) fun _ _ _ _ _ _ us hl => match us, hl with | [_, _], _ => rfl)
  have F11 := fun_mk (st := S_law_is_fraction_v2) l11 c11 k11
  have W12 : TabW l.prog w K mg base fl (clsOf fl) 12 T12 := W11.more (en := E_law_is_fraction_v2) F11 sc_law_is_fraction_v2 (hbi bt rfl rfl) (hex bt rfl rfl) (hh0.mono (by decide)) rfl (fun X g C => ok_law_is_fraction_v2 C) (PySem.W.mg_of X G a11) rfl (F11.binds (ps := ["_law_thing"]) fun _ _ _ _ _ _ us hl => match us, hl with | [_], _ => rfl)
  have F12 := fun_mk (st := S_is_whole) l12 c12 k12
  have W13 : TabW l.prog w K mg base fl (clsOf fl) 13 T13 := W12.more (en := E_is_whole) F12 sc_is_whole (hbi bt rfl rfl) (hex bt rfl rfl) (hh0.mono (by decide)) rfl (fun X g C => ok_is_whole C) (PySem.W.mg_of X G a12) rfl (F12.binds (ps := ["thing"]) fun _ _ _ _ _ _ us hl => match us, hl with | [_], _ => rfl)
  have F13 := fun_mk (st := S_shared_part) l13 c13 k13
  have W14 : TabW l.prog w K mg base fl (clsOf fl) 14 T14 := W13.more (en := E_shared_part) F13 sc_shared_part (hbi bt rfl rfl) (hex bt rfl rfl) (hh0.mono (by decide)) rfl (fun X g C => ok_shared_part C) (PySem.W.mg_of X G a13) rfl (F13.binds (ps := ["one", "other"]) fun _ _ _ _ _ _ us hl => match us, hl with | [_, _], _ => rfl)
  have F14 := fun_mk (st := S_is_fraction) l14 c14 k14
  have W15 : TabW l.prog w K mg base fl (clsOf fl) 15 T15 := W14.more (en := E_is_fraction) F14 sc_is_fraction (hbi bt rfl rfl) (hex bt rfl rfl) (hh0.mono (by decide)) rfl (fun X g C => ok_is_fraction C) (PySem.W.mg_of X G a14) rfl (F14.binds (ps := ["thing"]) fun _ _ _ _ _ _ us hl => match us, hl with | [_], _ => rfl)
  have F15 := fun_mk (st := S_below) l15 c15 k15
  have W16 : TabW l.prog w K mg base fl (clsOf fl) 16 T16 := W15.more (en := E_below) F15 sc_below (hbi bt rfl rfl) (hex bt rfl rfl) (hh0.mono (by decide)) rfl (fun X g C => ok_below C) (PySem.W.mg_of X G a15) rfl (F15.binds (ps := ["a", "b"]) fun _ _ _ _ _ _ us hl => match us, hl with | [_, _], _ => rfl)
  have F16 := fun_mk (st := S_is_price) l16 c16 k16
  have W17 : TabW l.prog w K mg base fl (clsOf fl) 17 T17 := W16.more (en := E_is_price) F16 sc_is_price (hbi bt rfl rfl) (hex bt rfl rfl) (hh0.mono (by decide)) rfl (fun X g C => ok_is_price C) (PySem.W.mg_of X G a16) rfl (F16.binds (ps := ["web", "thing"]) fun _ _ _ _ _ _ us hl => match us, hl with | [_, _], _ => rfl)
  have F17 := fun_mk (st := S_check_price) l17 c17 k17
  have W18 : TabW l.prog w K mg base fl (clsOf fl) 18 T18 := W17.more (en := E_check_price) F17 sc_check_price (hbi bt rfl rfl) (hex bt rfl rfl) (hh0.mono (by decide)) rfl (fun X g C => ok_check_price C) (PySem.W.mg_of X G a17) rfl (F17.binds (ps := ["web", "price"]) fun _ _ _ _ _ _ us hl => match us, hl with | [_, _], _ => rfl)
  have F18 := fun_mk (st := S_fraction) l18 c18 k18
  have W19 : TabW l.prog w K mg base fl (clsOf fl) 19 T19 := W18.more (en := E_fraction) F18 sc_fraction (hbi bt rfl rfl) (hex bt rfl rfl) (hh0.mono (by decide)) rfl (fun X g C => ok_fraction C) (PySem.W.mg_of X G a18) rfl (F18.binds (ps := ["top", "bottom"]) fun _ _ _ _ _ _ us hl => match us, hl with | [_, _], _ => rfl)
  have F19 := fun_mk (st := S_plus) l19 c19 k19
  have W20 : TabW l.prog w K mg base fl (clsOf fl) 20 T20 := W19.more (en := E_plus) F19 sc_plus (hbi bt rfl rfl) (hex bt rfl rfl) (hh0.mono (by decide)) rfl (fun X g C => ok_plus C) (PySem.W.mg_of X G a19) rfl (F19.binds (ps := ["a", "b"]) fun _ _ _ _ _ _ us hl => match us, hl with | [_, _], _ => rfl)
  have F20 := fun_mk (st := S_times) l20 c20 k20
  have W21 : TabW l.prog w K mg base fl (clsOf fl) 21 T21 := W20.more (en := E_times) F20 sc_times (hbi bt rfl rfl) (hex bt rfl rfl) (hh0.mono (by decide)) rfl (fun X g C => ok_times C) (PySem.W.mg_of X G a20) rfl (F20.binds (ps := ["a", "b"]) fun _ _ _ _ _ _ us hl => match us, hl with | [_, _], _ => rfl)
  have F21 := fun_mk (st := S_minus) l21 c21 k21
  have W22 : TabW l.prog w K mg base fl (clsOf fl) 22 T22 := W21.more (en := E_minus) F21 sc_minus (hbi bt rfl rfl) (hex bt rfl rfl) (hh0.mono (by decide)) rfl (fun X g C => ok_minus C) (PySem.W.mg_of X G a21) rfl (F21.binds (ps := ["a", "b"]) fun _ _ _ _ _ _ us hl => match us, hl with | [_, _], _ => rfl)
  have F22 := fun_mk (st := S_sizes_at) l22 c22 k22
  have W23 : TabW l.prog w K mg base fl (clsOf fl) 23 T23 := W22.more (en := E_sizes_at) F22 sc_sizes_at (hbi bt rfl rfl) (hex bt rfl rfl) (hh0.mono (by decide)) rfl (fun X g C => ok_sizes_at C) (PySem.W.mg_of X G a22) rfl (F22.binds (ps := ["web", "price"]) fun _ _ _ _ _ _ us hl => match us, hl with | [_, _], _ => rfl)
  have F23 := fun_mk (st := S_law_caught_v2) l23 c23 k23
  have W24 : TabW l.prog w K mg base fl (clsOf fl) 24 T24 := W23.more (en := E_law_caught_v2) F23 sc_law_caught_v2 (hbi bt rfl rfl) (hex bt rfl rfl) (hh0.mono (by decide)) rfl (fun X g C => ok_law_caught_v2 C) (PySem.W.mg_of X G a23) rfl (F23.binds (ps := ["_law_web_here", "_law_thing"]) fun _ _ _ _ _ _ us hl => match us, hl with | [_, _], _ => rfl)
  have F24 := fun_mk (st := S_law_due_v1) l24 c24 k24
  have W25 : TabW l.prog w K mg base fl (clsOf fl) 25 T25 := W24.more (en := E_law_due_v1) F24 sc_law_due_v1 (hbi bt rfl rfl) (hex bt rfl rfl) (hh0.mono (by decide)) rfl (fun X g C => ok_law_due_v1 C) (PySem.W.mg_of X G a24) rfl (F24.binds (ps := ["_law_web_here", "_law_price_here"]) fun _ _ _ _ _ _ us hl => match us, hl with | [_, _], _ => rfl)
  have F25 := fun_mk (st := S_law_right_v1) l25 c25 k25
  have W26 : TabW l.prog w K mg base fl (clsOf fl) 26 T26 := W25.more (en := E_law_right_v1) F25 sc_law_right_v1 (hbi bt rfl rfl) (hex bt rfl rfl) (hh0.mono (by decide)) rfl (fun X g C => ok_law_right_v1 C) (PySem.W.mg_of X G a25) rfl (F25.binds (ps := ["_law_web_here", "_law_thing"]) fun _ _ _ _ _ _ us hl => match us, hl with | [_, _], _ => rfl)
  have F26 := fun_mk (st := S_law_price) l26 c26 k26
  have W27 : TabW l.prog w K mg base fl (clsOf fl) 27 T27 := W26.more (en := E_law_price) F26 sc_law_price (hbi bt rfl rfl) (hex bt rfl rfl) (hh0.mono (by decide)) rfl (fun X g C => ok_law_price C) (PySem.W.mg_of X G a26) rfl (F26.binds (ps := ["_law_web_here", "_law_x", "_law_y"]) fun _ _ _ _ _ _ us hl => match us, hl with | [_, _, _], _ => rfl)
  have F27 := fun_mk (st := S_law) l27 c27 k27
  exact (def_ok (fa := fl) (cls := clsOf fl) (n := 1) (tab := T27) F27 sc_law rfl (hbi bt rfl rfl) (hex bt rfl rfl) (hh0.mono (by decide)) W27.use (fun X g _ C => ok_law C)).imp (spLaw_of main)
end P
open PySem PySem.W PyProof.Rows
set_option maxRecDepth 100000 in
set_option maxHeartbeats 0 in
theorem PySem.Challenge.cw_cutstairs_k03_prices_and_sizes_holds : PySem.Challenge.rw_cutstairs_k03_prices_and_sizes.Holds := by
  w_on; o_law; k_head; (case hw => w_witness2)
  k_fill
  refine Fn.walk (l := PySem.Challenge.rw_cutstairs_k03_prices_and_sizes) (x := "_law_script") 28 (by exact ⟨rfl, by decide, by decide⟩) rfl rfl (fun w h Y => PySem.W.kIn_of Y) ?F
  case F =>
    intro w mg fa h KX G hmg
    refine' P.all_mk KX G hmg ?a0 ?l0 ?c0 ?k0 ?a1 ?l1 ?c1 ?k1 ?a2 ?l2 ?c2 ?k2 ?a3 ?l3 ?c3 ?k3 ?a4 ?l4 ?c4 ?k4 ?a5 ?l5 ?c5 ?k5 ?a6 ?l6 ?c6 ?k6 ?a7 ?l7 ?c7 ?k7 ?a8 ?l8 ?c8 ?k8 ?a9 ?l9 ?c9 ?k9 ?a10 ?l10 ?c10 ?k10 ?a11 ?l11 ?c11 ?k11 ?a12 ?l12 ?c12 ?k12 ?a13 ?l13 ?c13 ?k13 ?a14 ?l14 ?c14 ?k14 ?a15 ?l15 ?c15 ?k15 ?a16 ?l16 ?c16 ?k16 ?a17 ?l17 ?c17 ?k17 ?a18 ?l18 ?c18 ?k18 ?a19 ?l19 ?c19 ?k19 ?a20 ?l20 ?c20 ?k20 ?a21 ?l21 ?c21 ?k21 ?a22 ?l22 ?c22 ?k22 ?a23 ?l23 ?c23 ?k23 ?a24 ?l24 ?c24 ?k24 ?a25 ?l25 ?c25 ?k25 ?a26 ?l26 ?c26 ?k26 ?a27 ?l27 ?c27 ?k27 ?z0 ?z1 ?z2 ?z3 ?z4 ?z5 ?z6 ?z7 ?z8 ?z9 ?z10 ?z11 ?q0 ?ql0 ?xa0 ?xb0 ?xi0 ?xt0 ?xa1 ?xb1 ?xi1 ?xt1 ?xa2 ?xb2 ?xi2 ?xt2 ?xa3 ?xb3 ?xi3 ?xt3 ?xa4 ?xb4 ?xi4 ?xt4 ?xa5 ?xb5 ?xi5 ?xt5 ?xa6 ?xb6 ?xi6 ?xt6 ?xa7 ?xb7 ?xi7 ?xt7 ?xa8 ?xb8 ?xi8 ?xt8 ?xa9 ?xb9 ?xi9 ?xt9 ?xa10 ?xb10 ?xi10 ?xt10 ?xa11 ?xb11 ?xi11 ?xt11 ?xa12 ?xb12 ?xi12 ?xt12 ?xa13 ?xb13 ?xi13 ?xt13 ?xa14 ?xb14 ?xi14 ?xt14 ?xa15 ?xb15 ?xi15 ?xt15 ?yn ?yt ?yx2 ?yk2 ?yg2 ?yh2 ?yd2 ?ya2 ?ym2 ?yv2 ?ys2 ?yp2_0 ?yp2_1 ?yp2_2 ?yp2_3 ?yp2_4 ?yp2_5 ?yp2_6 ?yp2_7 ?yp2_8 ?yp2_9 ?yp2_10 ?yp2_11 ?yp2_12 ?yp2_13 ?yp2_14 ?yp2_15 ?yx4 ?yk4 ?yg4 ?yh4 ?yd4 ?ya4 ?ym4 ?yv4 ?ys4 ?yp4_0 ?yp4_1 ?yp4_2 ?yp4_3 ?yp4_4 ?yp4_5 ?yp4_6 ?yp4_7 ?yp4_8 ?yp4_9 ?yp4_10 ?yp4_11 ?yp4_12 ?yp4_13 ?yp4_14 ?yp4_15 P.main
    (case a0 => k_is); (case l0 => k_is); (case c0 => k_is); (case k0 => k_is)
    (case a1 => k_is); (case l1 => k_is); (case c1 => k_is); (case k1 => k_is)
    (case a2 => k_is); (case l2 => k_is); (case c2 => k_is); (case k2 => k_is)
    (case a3 => k_is); (case l3 => k_is); (case c3 => k_is); (case k3 => k_is)
    (case a4 => k_is); (case l4 => k_is); (case c4 => k_is); (case k4 => k_is)
    (case a5 => k_is); (case l5 => k_is); (case c5 => k_is); (case k5 => k_is)
    (case a6 => k_is); (case l6 => k_is); (case c6 => k_is); (case k6 => k_is)
    (case a7 => k_is); (case l7 => k_is); (case c7 => k_is); (case k7 => k_is)
    (case a8 => k_is); (case l8 => k_is); (case c8 => k_is); (case k8 => k_is)
    (case a9 => k_is); (case l9 => k_is); (case c9 => k_is); (case k9 => k_is)
    (case a10 => k_is); (case l10 => k_is); (case c10 => k_is); (case k10 => k_is)
    (case a11 => k_is); (case l11 => k_is); (case c11 => k_is); (case k11 => k_is)
    (case a12 => k_is); (case l12 => k_is); (case c12 => k_is); (case k12 => k_is)
    (case a13 => k_is); (case l13 => k_is); (case c13 => k_is); (case k13 => k_is)
    (case a14 => k_is); (case l14 => k_is); (case c14 => k_is); (case k14 => k_is)
    (case a15 => k_is); (case l15 => k_is); (case c15 => k_is); (case k15 => k_is)
    (case a16 => k_is); (case l16 => k_is); (case c16 => k_is); (case k16 => k_is)
    (case a17 => k_is); (case l17 => k_is); (case c17 => k_is); (case k17 => k_is)
    (case a18 => k_is); (case l18 => k_is); (case c18 => k_is); (case k18 => k_is)
    (case a19 => k_is); (case l19 => k_is); (case c19 => k_is); (case k19 => k_is)
    (case a20 => k_is); (case l20 => k_is); (case c20 => k_is); (case k20 => k_is)
    (case a21 => k_is); (case l21 => k_is); (case c21 => k_is); (case k21 => k_is)
    (case a22 => k_is); (case l22 => k_is); (case c22 => k_is); (case k22 => k_is)
    (case a23 => k_is); (case l23 => k_is); (case c23 => k_is); (case k23 => k_is)
    (case a24 => k_is); (case l24 => k_is); (case c24 => k_is); (case k24 => k_is)
    (case a25 => k_is); (case l25 => k_is); (case c25 => k_is); (case k25 => k_is)
    (case a26 => k_is); (case l26 => k_is); (case c26 => k_is); (case k26 => k_is)
    (case a27 => k_is); (case l27 => k_is); (case c27 => k_is); (case k27 => k_is)
    (case z0 => k_is); (case z1 => k_is); (case z2 => k_is); (case z3 => k_is); (case z4 => k_is); (case z5 => k_is); (case z6 => k_is); (case z7 => k_is); (case z8 => k_is); (case z9 => k_is); (case z10 => k_is); (case z11 => k_is)
    (case q0 => k_is); (case ql0 => k_is)
    (case xa0 => k_is)
    (case xb0 => k_is)
    (case xi0 => k_is)
    (case xt0 => k_is)
    (case xa1 => k_is)
    (case xb1 => k_is)
    (case xi1 => k_is)
    (case xt1 => k_is)
    (case xa2 => k_is)
    (case xb2 => k_is)
    (case xi2 => k_is)
    (case xt2 => k_is)
    (case xa3 => k_is)
    (case xb3 => k_is)
    (case xi3 => k_is)
    (case xt3 => k_is)
    (case xa4 => k_is)
    (case xb4 => k_is)
    (case xi4 => k_is)
    (case xt4 => k_is)
    (case xa5 => k_is)
    (case xb5 => k_is)
    (case xi5 => k_is)
    (case xt5 => k_is)
    (case xa6 => k_is)
    (case xb6 => k_is)
    (case xi6 => k_is)
    (case xt6 => k_is)
    (case xa7 => k_is)
    (case xb7 => k_is)
    (case xi7 => k_is)
    (case xt7 => k_is)
    (case xa8 => k_is)
    (case xb8 => k_is)
    (case xi8 => k_is)
    (case xt8 => k_is)
    (case xa9 => k_is)
    (case xb9 => k_is)
    (case xi9 => k_is)
    (case xt9 => k_is)
    (case xa10 => k_is)
    (case xb10 => k_is)
    (case xi10 => k_is)
    (case xt10 => k_is)
    (case xa11 => k_is)
    (case xb11 => k_is)
    (case xi11 => k_is)
    (case xt11 => k_is)
    (case xa12 => k_is)
    (case xb12 => k_is)
    (case xi12 => k_is)
    (case xt12 => k_is)
    (case xa13 => k_is)
    (case xb13 => k_is)
    (case xi13 => k_is)
    (case xt13 => k_is)
    (case xa14 => k_is)
    (case xb14 => k_is)
    (case xi14 => k_is)
    (case xt14 => k_is)
    (case xa15 => k_is)
    (case xb15 => k_is)
    (case xi15 => k_is)
    (case xt15 => k_is)
    (case yn => k_is)
    (case yt => k_is)
    (case yx2 => k_exc)
    (case yk2 => k_is)
    (case yg2 => k_is)
    (case yh2 => k_is)
    (case yd2 => k_is)
    (case ya2 => k_is)
    (case ym2 => k_is)
    (case yv2 => k_is)
    (case ys2 => k_is)
    (case yp2_0 => k_is)
    (case yp2_1 => k_is)
    (case yp2_2 => k_is)
    (case yp2_3 => k_is)
    (case yp2_4 => k_is)
    (case yp2_5 => k_is)
    (case yp2_6 => k_is)
    (case yp2_7 => k_is)
    (case yp2_8 => k_is)
    (case yp2_9 => k_is)
    (case yp2_10 => k_is)
    (case yp2_11 => k_is)
    (case yp2_12 => k_is)
    (case yp2_13 => k_is)
    (case yp2_14 => k_is)
    (case yp2_15 => k_is)
    (case yx4 => k_exc)
    (case yk4 => k_is)
    (case yg4 => k_is)
    (case yh4 => k_is)
    (case yd4 => k_is)
    (case ya4 => k_is)
    (case ym4 => k_is)
    (case yv4 => k_is)
    (case ys4 => k_is)
    (case yp4_0 => k_is)
    (case yp4_1 => k_is)
    (case yp4_2 => k_is)
    (case yp4_3 => k_is)
    (case yp4_4 => k_is)
    (case yp4_5 => k_is)
    (case yp4_6 => k_is)
    (case yp4_7 => k_is)
    (case yp4_8 => k_is)
    (case yp4_9 => k_is)
    (case yp4_10 => k_is)
    (case yp4_11 => k_is)
    (case yp4_12 => k_is)
    (case yp4_13 => k_is)
    (case yp4_14 => k_is)
    (case yp4_15 => k_is)
