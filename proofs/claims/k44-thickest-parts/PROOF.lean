import PyProof.Rows.All
import HandS.Conv
import HandS.Deep
import HandS.ExcIs
import HandS.Flt
import HandS.ForExc
import HandS.ForMost
import HandS.HotCalls
import HandS.IsInst
import HandS.More
import HandS.SetFor
import HandS.SetKeys
import HandS.Strs
import HandS.Style
import HandS.TupAny
import HandS.TupLen
import HandS.TupMul
import HandS.TupSets
import HandS.Wide
import HandS.Zip
import KE.DataMinMax
import KE.GoesEnum
import KE.GoesMore
import KE.GoesZip
import KE.KDictDisplayH
import KE.KDictPairs
import KE.KDictZip
import KE.LtSeq
import KE.OsArith
import KE.SortData
import OpenK.AllK
import PyProof.AutoSeq1
import PyProof.DictMoreH
import PyProof.TupleOfSeq
import PyProof.TupleOfStr
import Wide.All
import Wide.FinOn
import PySem.Challenge.RW_cutstairs_k44_thickest_parts
set_option Elab.async false
set_option linter.all false
set_option maxRecDepth 100000
set_option maxHeartbeats 8000000
namespace Fn
open PySem PySem.Spec PyProof.Rows L2
inductive D where
  | non | bl (b : Bool) | int (i : Int) | str (x : Str) | tup (xs : List D) | ctup (xs : List D) | lst (xs : List D)
  | dk (kvs : List (Key × D)) | dt (kvs : List (List Key × D)) | fn (k : Nat)
  | lk (kvs : List (Key × D)) | lt (kvs : List (List Key × D))
inductive M where
  | l (ds : List D) | k (kvs : List (Key × D)) | t (kvs : List (List Key × D))
inductive Sh where
  | k (ks : List Key) | t | l | kt (ks : List (List Key))
inductive B where
  | dat (d : D) | own (m : M) | vw (m : M) | bor (m : M) | scr (ns : List Int) | err (c : Nat) | nst (sh : Sh) (ls : List (List D))
inductive Res (α : Type) where
  | ok (a : α) | exc (c : Nat) | bad
namespace Res
def bind {α β : Type} (r : Res α) (f : α → Res β) : Res β := match r with
  | .ok a => f a
  | .exc c => .exc c
  | .bad => .bad
def map {α β : Type} (f : α → β) (r : Res α) : Res β := r.bind fun a => .ok (f a)
theorem ok_bind {α β : Type} (a : α) (f : α → Res β) : (Res.ok a).bind f = f a := rfl
theorem exc_bind {α β : Type} (c : Nat) (f : α → Res β) : (Res.exc c : Res α).bind f = .exc c := rfl
end Res
def frzM : M → D
  | .l ds => .lst ds
  | .k kvs => .dk kvs
  | .t kvs => .dt kvs
def rd : B → B
  | .own m => .dat (frzM m)
  | b => b
abbrev Env := List (Option B)
mutual
inductive Rp (K : PySem.W.Frag) (fa : Nat → Option Addr) (F : Hp) : V → D → Prop
  | non : Rp K fa F .non .non
  | bl (b : Bool) : Rp K fa F (.bl b) (.bl b)
  | int (i : Int) : Rp K fa F (.int i) (.int i)
  | str (x : Str) : Rp K fa F (.str x) (.str x)
  | tup {a : Addr} {xs : List V} {ds : List D} : F a = some (.tup xs) → RpAll K fa F xs ds → Rp K fa F (.ref a) (.tup ds)
  | ctup {a : Addr} {xs : List V} {ds : List D} : SqT K (fun _ => none) a xs → RpAll K fa F xs ds → Rp K fa F (.ref a) (.ctup ds)
  | lst {a : Addr} {xs : List V} {ds : List D} : F a = some (.lst xs) → RpAll K fa F xs ds → Rp K fa F (.ref a) (.lst ds)
  | dk {a : Addr} {kvs : List (Key × V)} {kds : List (Key × D)} : F a = some (.dK kvs) → kvs.map (·.1) = kds.map (·.1) → RpAll K fa F (kvs.map (·.2)) (kds.map (·.2)) → Rp K fa F (.ref a) (.dk kds)
  | dt {a : Addr} {kvs : List (List Key × V)} {kds : List (List Key × D)} : F a = some (.dT kvs) → kvs.map (·.1) = kds.map (·.1) → RpAll K fa F (kvs.map (·.2)) (kds.map (·.2)) → Rp K fa F (.ref a) (.dt kds)
  | fn {a : Addr} {k : Nat} : fa k = some a → Rp K fa F (.ref a) (.fn k)
  | lk {a : Addr} {o : Obj} {kvs : List (Key × V)} {kds : List (Key × D)} : F a = some (.frz o (.dK kvs)) → kvs.map (·.1) = kds.map (·.1) → RpAll K fa F (kvs.map (·.2)) (kds.map (·.2)) → Rp K fa F (.ref a) (.lk kds)
  | lt {a : Addr} {o : Obj} {kvs : List (List Key × V)} {kds : List (List Key × D)} : F a = some (.frz o (.dT kvs)) → kvs.map (·.1) = kds.map (·.1) → RpAll K fa F (kvs.map (·.2)) (kds.map (·.2)) → Rp K fa F (.ref a) (.lt kds)
inductive RpAll (K : PySem.W.Frag) (fa : Nat → Option Addr) (F : Hp) : List V → List D → Prop
  | nil : RpAll K fa F [] []
  | cons {v : V} {vs : List V} {d : D} {ds : List D} : Rp K fa F v d → RpAll K fa F vs ds → RpAll K fa F (v :: vs) (d :: ds)
end
inductive RpM (K : PySem.W.Frag) (fa : Nat → Option Addr) (F : Hp) : HO → M → Prop
  | l {xs : List V} {ds : List D} : RpAll K fa F xs ds → RpM K fa F (.lst xs) (.l ds)
  | k {kvs : List (Key × V)} {kds : List (Key × D)} : kvs.map (·.1) = kds.map (·.1) → RpAll K fa F (kvs.map (·.2)) (kds.map (·.2)) → RpM K fa F (.dK kvs) (.k kds)
  | t {kvs : List (List Key × V)} {kds : List (List Key × D)} : kvs.map (·.1) = kds.map (·.1) → RpAll K fa F (kvs.map (·.2)) (kds.map (·.2)) → RpM K fa F (.dT kvs) (.t kds)
section
variable {K : PySem.W.Frag} {fa : Nat → Option Addr} {F F' H H' : Hp}
mutual
theorem Rp.mono (e : Same F F') : ∀ {v : V} {d : D}, Rp K fa F v d → Rp K fa F' v d
  | _, _, .non => .non
  | _, _, .bl b => .bl b
  | _, _, .int i => .int i
  | _, _, .str x => .str x
  | _, _, .tup h r => .tup (e _ _ h) (RpAll.mono e r)
  | _, _, .ctup h r => .ctup h (RpAll.mono e r)
  | _, _, .lst h r => .lst (e _ _ h) (RpAll.mono e r)
  | _, _, .dk h q r => .dk (e _ _ h) q (RpAll.mono e r)
  | _, _, .dt h q r => .dt (e _ _ h) q (RpAll.mono e r)
  | _, _, .fn h => .fn h
  | _, _, .lk h q r => .lk (e _ _ h) q (RpAll.mono e r)
  | _, _, .lt h q r => .lt (e _ _ h) q (RpAll.mono e r)
theorem RpAll.mono (e : Same F F') : ∀ {vs : List V} {ds : List D}, RpAll K fa F vs ds → RpAll K fa F' vs ds
  | _, _, .nil => .nil
  | _, _, .cons h r => .cons (Rp.mono e h) (RpAll.mono e r)
end
theorem RpM.mono (e : Same F F') {o : HO} {m : M} (h : RpM K fa F o m) : RpM K fa F' o m := by
  cases h with
  | l r => exact .l (r.mono e)
  | k q r => exact .k q (r.mono e)
  | t q r => exact .t q (r.mono e)
theorem RpAll.len : ∀ {vs : List V} {ds : List D}, RpAll K fa F vs ds → vs.length = ds.length
  | _, _, .nil => rfl
  | _, _, .cons _ r => congrArg (· + 1) r.len
theorem RpAll.get : ∀ {vs : List V} {ds : List D} {i : Nat} {d : D}, RpAll K fa F vs ds → ds[i]? = some d → ∃ v, vs[i]? = some v ∧ Rp K fa F v d
  | _, _, _, _, .nil, h => by simp at h
  | _, _, 0, _, .cons h _, e => by simp at e; subst e; exact ⟨_, rfl, h⟩
  | _, _, i + 1, d, .cons _ r, e => by
    obtain ⟨v, h1, h2⟩ := RpAll.get (i := i) (d := d) r (by simpa using e)
    exact ⟨v, by simpa using h1, h2⟩
theorem RpAll.app : ∀ {vs ws : List V} {ds es : List D}, RpAll K fa F vs ds → RpAll K fa F ws es → RpAll K fa F (vs ++ ws) (ds ++ es)
  | _, _, _, _, .nil, s => s
  | _, _, _, _, .cons h r, s => .cons h (r.app s)
theorem RpAll.take : ∀ {vs : List V} {ds : List D} (n : Nat), RpAll K fa F vs ds → RpAll K fa F (vs.take n) (ds.take n)
  | _, _, 0, _ => .nil
  | _, _, _ + 1, .nil => .nil
  | _, _, n + 1, .cons h r => .cons h (r.take n)
theorem RpAll.drop : ∀ {vs : List V} {ds : List D} (n : Nat), RpAll K fa F vs ds → RpAll K fa F (vs.drop n) (ds.drop n)
  | _, _, 0, r => r
  | _, _, _ + 1, .nil => .nil
  | _, _, n + 1, .cons _ r => r.drop n
theorem RpAll.rev {vs : List V} {ds : List D} (h : RpAll K fa F vs ds) : RpAll K fa F vs.reverse ds.reverse := by
  induction vs generalizing ds with
  | nil => cases h; exact .nil
  | cons v vs ih =>
    cases h with
    | cons h r =>
      rw [List.reverse_cons, List.reverse_cons]
      exact (ih r).app (.cons h .nil)
theorem RpAll.set : ∀ {vs : List V} {ds : List D} (i : Nat) {v : V} {d : D}, RpAll K fa F vs ds → Rp K fa F v d → RpAll K fa F (vs.set i v) (ds.set i d)
  | _, _, _, _, _, .nil, _ => .nil
  | _, _, 0, _, _, .cons _ r, h => .cons h r
  | _, _, i + 1, _, _, .cons q r, h => .cons q (r.set i h)
theorem RpAll.ints : ∀ {vs : List V} {ns : List Int}, RpAll K fa F vs (ns.map D.int) → vs = ns.map V.int
  | _, [], .nil => rfl
  | _, n :: ns, .cons h r => by cases h; rw [r.ints]; rfl
theorem RpAll.of_ints : ∀ (ns : List Int), RpAll K fa F (ns.map V.int) (ns.map D.int)
  | [] => .nil
  | n :: ns => .cons (.int n) (RpAll.of_ints ns)
theorem RpAll.bls : ∀ {vs : List V} {ns : List Bool}, RpAll K fa F vs (ns.map D.bl) → vs = ns.map V.bl
  | _, [], .nil => rfl
  | _, n :: ns, .cons h r => by cases h; rw [r.bls]; rfl
theorem RpM.frz {o : HO} {m : M} {p : Addr} (h : RpM K fa F o m) (e : F p = some o) : Rp K fa F (.ref p) (frzM m) := by
  cases h with
  | l r => exact .lst e r
  | k q r => exact .dk e q r
  | t q r => exact .dt e q r
structure Grow (F H F' H' : Hp) : Prop where
  fh : Same F F'
  hh : Same H H'
  sub : Same F' H'
  new : ∀ a o, H a = some o → (∀ xs, o ≠ .tup xs) → F a = none → F' a = none
theorem Grow.refl (s : Same F H) : Grow F H F H := ⟨Same.refl F, Same.refl H, s, fun _ _ _ _ e => e⟩
theorem Grow.trans {F1 H1 F2 H2 : Hp} (a : Grow F H F1 H1) (b : Grow F1 H1 F2 H2) : Grow F H F2 H2 :=
  ⟨a.fh.trans b.fh, a.hh.trans b.hh, b.sub, fun c o h n e => b.new c o (a.hh _ _ h) n (a.new c o h n e)⟩
theorem same_upd {p : Addr} {o : HO} (h : H p = none) : Same H (upd H p o) := fun b u q => by rw [upd_ne (ne_of_none q h)]; exact q
theorem Same.none {p : Addr} (s : Same F H) (h : H p = none) : F p = none := s.free h
theorem Grow.newH (s : Same F H) {p : Addr} {o : HO} (h : H p = none) : Grow F H F (upd H p o) :=
  ⟨Same.refl F, same_upd h, s.trans (same_upd h), fun _ _ _ _ e => e⟩
theorem Grow.newF (s : Same F H) {p : Addr} {o : HO} (h : H p = none) : Grow F H (upd F p o) (upd H p o) :=
  ⟨same_upd (s.free h), same_upd h, fun b u q => by
    by_cases hb : b = p
    · subst hb; rw [upd_same] at q ⊢; exact q
    · rw [upd_ne hb] at q ⊢; exact s _ _ q, fun a o ha _ e => by
    have hb : a ≠ p := ne_of_none ha h
    rw [upd_ne hb]; exact e⟩
theorem Grow.lock {F1 H1 : Hp} (g : Grow F H F1 H1) {p : Addr} {o : HO} (h : H p = none) (e : H1 p = some o) (f : F1 p = none) : Grow F H (upd F1 p o) H1 :=
  ⟨g.fh.trans (same_upd f), g.hh, fun b u q => by
    by_cases hb : b = p
    · subst hb; rw [upd_same] at q; rw [e]; exact q
    · rw [upd_ne hb] at q; exact g.sub _ _ q, fun a o ha n ea => by
    have hb : a ≠ p := ne_of_none ha h
    rw [upd_ne hb]; exact g.new a o ha n ea⟩
theorem Grow.tup {F1 H1 : Hp} (g : Grow F H F1 H1) {p : Addr} {xs : List V} (e : H1 p = some (.tup xs)) : Grow F H (upd F1 p (.tup xs)) H1 :=
  ⟨fun b u q => by
    by_cases hb : b = p
    · subst hb
      have := g.sub _ _ (g.fh _ _ q)
      rw [e] at this
      rw [upd_same]
      exact this
    · rw [upd_ne hb]; exact g.fh _ _ q, g.hh, fun b u q => by
    by_cases hb : b = p
    · subst hb; rw [upd_same] at q; rw [e]; exact q
    · rw [upd_ne hb] at q; exact g.sub _ _ q, fun a o ha n ea => by
    have hb : a ≠ p := fun z => by
      subst z
      have := g.hh _ _ ha
      rw [e] at this
      exact n xs (Option.some.inj this).symm
    rw [upd_ne hb]; exact g.new a o ha n ea⟩
end
theorem RpM.notTup {K : PySem.W.Frag} {fa : Nat → Option Addr} {F : Hp} {o : HO} {m : M} (h : RpM K fa F o m) : ∀ xs, o ≠ .tup xs := by
  cases h <;> (intro xs z; cases z)
structure G where
  K : PySem.W.Frag
  fa : Nat → Option Addr
  F0 : Hp
  G0 : Hp
  E : Nat → L2.St → Hp → Prop
  h : Option (Addr × Obj)
def ErrAt (g : G) (v : V) (c : Nat) : Prop := ∃ (a C : Addr) (oe : Obj), g.h = some (a, oe) ∧ v = .ref a ∧ g.fa (1000 + c) = some C ∧ Zc (.ref C) none oe ∧ ∃ vs, oe.data = .fields vs
def topO : Sh → List V → HO
  | .k ks, vs => .dK (ks.zip vs)
  | .t, vs => .tup vs
  | .l, vs => .lst vs
  | .kt ks, vs => .dT (ks.zip vs)
def Sh.fit : Sh → Nat → Prop
  | .k ks, n => ks.length = n
  | .kt ks, n => ks.length = n
  | _, _ => True
structure NstOk (K : PySem.W.Frag) (fa : Nat → Option Addr) (G0 : Hp) (F H : Hp) (p : Addr) (sh : Sh) (qs : List Addr) (ls : List (List D)) : Prop where
  top : H p = some (topO sh (qs.map V.ref))
  pf : F p = none ∨ sh = .t
  pg : G0 p = none
  len : qs.length = ls.length
  fit : sh.fit ls.length
  nd : qs.Nodup
  np : p ∉ qs
  child : ∀ (i : Nat) (q : Addr) (ds : List D), qs[i]? = some q → ls[i]? = some ds → ∃ xs, H q = some (.lst xs) ∧ F q = none ∧ G0 q = none ∧ RpAll K fa F xs ds
def RB (g : G) (F H F' H' : Hp) (v : V) : B → Prop
  | .dat d => Rp g.K g.fa F' v d
  | .own m => ∃ p o, v = .ref p ∧ H p = none ∧ H' p = some o ∧ F' p = none ∧ RpM g.K g.fa F' o m
  | .vw m => ∃ p o, v = .ref p ∧ H' p = some o ∧ RpM g.K g.fa F' o m
  | .bor m => ∃ p o, v = .ref p ∧ g.G0 p = some o ∧ RpM g.K g.fa F' o m
  | .scr ns => ∃ p, v = .ref p ∧ SqL g.K g.G0 p (ns.map V.int)
  | .err c => ErrAt g v c
  | .nst _ _ => False
def RR (g : G) (F H : Hp) (v : V) : B → Prop
  | .dat d => Rp g.K g.fa F v d
  | .own _ => False
  | .vw m => ∃ p o, v = .ref p ∧ H p = some o ∧ RpM g.K g.fa F o m
  | .bor m => ∃ p o, v = .ref p ∧ g.G0 p = some o ∧ RpM g.K g.fa F o m
  | .scr ns => ∃ p, v = .ref p ∧ SqL g.K g.G0 p (ns.map V.int)
  | .err c => ErrAt g v c
  | .nst _ _ => False
def RN (g : G) (F H : Hp) (v : V) : B → Prop
  | .dat d => Rp g.K g.fa F v d
  | .own m => ∃ p o, v = .ref p ∧ H p = some o ∧ F p = none ∧ g.G0 p = none ∧ RpM g.K g.fa F o m
  | .vw _ => False
  | .bor m => ∃ p o, v = .ref p ∧ g.G0 p = some o ∧ RpM g.K g.fa F o m
  | .scr ns => ∃ p, v = .ref p ∧ SqL g.K g.G0 p (ns.map V.int)
  | .err c => ErrAt g v c
  | .nst sh ls => ∃ p qs, v = .ref p ∧ NstOk g.K g.fa g.G0 F H p sh qs ls
def valsO : HO → List V
  | .dK kvs => kvs.map (·.2)
  | .dT kvs => kvs.map (·.2)
  | .tup vs => vs
  | .lst vs => vs
  | _ => []
def Ft (H : Hp) (v : V) : B → Addr → Prop
  | .own _, a => v = .ref a
  | .nst _ _, a => v = .ref a ∨ ∃ p o, v = .ref p ∧ H p = some o ∧ V.ref a ∈ valsO o
  | _, _ => False
structure St (g : G) (F H : Hp) (σ : L2.St) (ρ : Env) : Prop where
  gr : Grow g.F0 g.G0 F H
  len : σ.length = ρ.length
  at_ : ∀ (i : Nat) (b : B), ρ[i]? = some (some b) → ∃ v, σ[i]? = some (some v) ∧ RN g F H v b
  apart : ∀ (i j : Nat) (b b' : B) (v v' : V) (a : Addr), i ≠ j → ρ[i]? = some (some b) → ρ[j]? = some (some b') → σ[i]? = some (some v) → σ[j]? = some (some v') → Ft H v b a → Ft H v' b' a → False
section
variable {g : G} {F H F' H' : Hp} {σ : L2.St} {ρ : Env}
theorem St.sub (s : St g F H σ ρ) : Same F H := s.gr.sub
theorem vals_top {sh : Sh} {vs : List V} (h : sh.fit vs.length) : valsO (topO sh vs) = vs := by
  cases sh with
  | k ks =>
    show (ks.zip vs).map (·.2) = vs
    exact List.map_snd_zip (by show vs.length ≤ ks.length; have : ks.length = vs.length := h; omega)
  | t => rfl
  | l => rfl
  | kt ks =>
    show (ks.zip vs).map (·.2) = vs
    exact List.map_snd_zip (by show vs.length ≤ ks.length; have : ks.length = vs.length := h; omega)
theorem NstOk.vals {p : Addr} {sh : Sh} {qs : List Addr} {ls : List (List D)} (n : NstOk g.K g.fa g.G0 F H p sh qs ls) : valsO (topO sh (qs.map V.ref)) = qs.map V.ref := vals_top (by rw [List.length_map, n.len]; exact n.fit)
theorem NstOk.kid {p : Addr} {sh : Sh} {qs : List Addr} {ls : List (List D)} (n : NstOk g.K g.fa g.G0 F H p sh qs ls) {a : Addr} : V.ref a ∈ valsO (topO sh (qs.map V.ref)) ↔ a ∈ qs := by
  rw [n.vals]
  constructor
  · intro h
    obtain ⟨x, h1, h2⟩ := List.mem_map.mp h
    cases h2
    exact h1
  · exact fun h => List.mem_map_of_mem h
theorem NstOk.at' {p : Addr} {sh : Sh} {qs : List Addr} {ls : List (List D)} (n : NstOk g.K g.fa g.G0 F H p sh qs ls) {a : Addr} (h : a ∈ qs) : ∃ xs ds, H a = some (.lst xs) ∧ F a = none ∧ g.G0 a = none ∧ RpAll g.K g.fa F xs ds := by
  obtain ⟨i, h1, h2⟩ := List.mem_iff_getElem.mp h
  have hl : i < ls.length := by rw [← n.len]; exact h1
  obtain ⟨xs, h3⟩ := n.child i a ls[i] (by rw [List.getElem?_eq_getElem h1, h2]) (List.getElem?_eq_getElem hl)
  exact ⟨xs, _, h3⟩
theorem Ft.at_ {v : V} {b : B} {a : Addr} (r : RN g F H v b) (h : Ft H v b a) : ∃ o, H a = some o ∧ g.G0 a = none ∧ ((∀ xs, o ≠ .tup xs) → F a = none) := by
  cases b with
  | own m =>
    obtain ⟨p, o, rfl, h1, h2, h3, h4⟩ := r
    cases h
    exact ⟨o, h1, h3, fun _ => h2⟩
  | nst sh ls =>
    obtain ⟨p, qs, rfl, n⟩ := r
    have kid : a ∈ qs → ∃ o, H a = some o ∧ g.G0 a = none ∧ ((∀ xs, o ≠ .tup xs) → F a = none) := fun z => by
      obtain ⟨xs, ds, e1, e2, e3, _⟩ := n.at' z
      exact ⟨_, e1, e3, fun _ => e2⟩
    rcases h with h | ⟨p', o, h1, h2, h3⟩
    · cases h
      refine ⟨_, n.top, n.pg, fun z => ?_⟩
      rcases n.pf with e | e
      · exact e
      · subst e
        exact absurd rfl (z _)
    · cases h1
      rw [n.top] at h2
      cases h2
      exact kid (n.kid.mp h3)
  | _ => exact h.elim
theorem RN.keep {v : V} {b : B} (r : RN g F H v b) (k : ∀ a, Ft H v b a → H' a = H a ∧ ((∀ o, H a = some o → ∀ xs, o ≠ .tup xs) → F a = none → F' a = none)) (e : Same F F') : RN g F' H' v b := by
  cases b with
  | dat d => exact Rp.mono e r
  | own m =>
    obtain ⟨p, o, rfl, h, f, n, q⟩ := r
    obtain ⟨k1, k2⟩ := k p rfl
    exact ⟨p, o, rfl, by rw [k1]; exact h, k2 (fun o' ho => by rw [h] at ho; cases ho; exact q.notTup) f, n, q.mono e⟩
  | vw m => exact r
  | bor m =>
    obtain ⟨p, o, rfl, h, q⟩ := r
    exact ⟨p, o, rfl, h, q.mono e⟩
  | scr ns => exact r
  | err c => exact r
  | nst sh ls =>
    obtain ⟨p, qs, rfl, n⟩ := r
    obtain ⟨k1, k2⟩ := k p (.inl rfl)
    refine ⟨p, qs, rfl, ⟨by rw [k1]; exact n.top, ?_, n.pg, n.len, n.fit, n.nd, n.np, fun i q ds h1 h2 => ?_⟩⟩
    · rcases n.pf with f | f
      · by_cases ht : sh = .t
        · exact .inr ht
        · refine .inl (k2 (fun o ho xs z => ?_) f)
          rw [n.top] at ho
          cases ho
          cases sh with
          | k ks => cases z
          | t => exact ht rfl
          | l => cases z
          | kt ks => cases z
      · exact .inr f
    · obtain ⟨xs, e1, e2, e3, e4⟩ := n.child i q ds h1 h2
      obtain ⟨k3, k4⟩ := k q (.inr ⟨p, _, rfl, n.top, n.kid.mpr (List.mem_of_getElem? h1)⟩)
      exact ⟨xs, by rw [k3]; exact e1, k4 (fun o ho => by rw [e1] at ho; cases ho; intro xs z; cases z) e2, e3, e4.mono e⟩
theorem Ft.keep {v : V} {b : B} {a : Addr} (k : ∀ a, Ft H v b a → H' a = H a) (h : Ft H' v b a) : Ft H v b a := by
  cases b with
  | own m => exact h
  | nst sh ls =>
    rcases h with h | ⟨p, o, h1, h2, h3⟩
    · exact .inl h
    · refine .inr ⟨p, o, h1, ?_, h3⟩
      rw [← k p (.inl h1)]
      exact h2
  | _ => exact h
theorem Ft.back {v : V} {b : B} {a : Addr} (r : RN g F H v b) (e : Same H H') (h : Ft H' v b a) : Ft H v b a :=
  h.keep fun a ha => by
    obtain ⟨o, h1, _⟩ := Ft.at_ r ha
    rw [h1]
    exact e _ _ h1
theorem RN.mono {v : V} {b : B} (r : RN g F H v b) (e : Grow F H F' H') : RN g F' H' v b :=
  r.keep (fun a ha => by
    obtain ⟨o, h1, _⟩ := Ft.at_ r ha
    exact ⟨by rw [h1]; exact e.hh _ _ h1, fun z f => e.new a o h1 (z o h1) f⟩) e.fh
theorem RR.mono {v : V} {b : B} (r : RR g F H v b) (e : Grow F H F' H') : RR g F' H' v b := by
  cases b with
  | dat d => exact Rp.mono e.fh r
  | own m => exact r
  | vw m =>
    obtain ⟨p, o, rfl, h, q⟩ := r
    exact ⟨p, o, rfl, e.hh _ _ h, q.mono e.fh⟩
  | bor m =>
    obtain ⟨p, o, rfl, h, q⟩ := r
    exact ⟨p, o, rfl, h, q.mono e.fh⟩
  | scr ns => exact r
  | err c => exact r
  | nst sh ls => exact r
theorem RB.rd {v : V} {b : B} (e : Grow F H F' H') (r : RB g F H F' H' v b) : ∃ F'', Grow F H F'' H' ∧ RR g F'' H' v (rd b) := by
  cases b with
  | dat d => exact ⟨F', e, r⟩
  | own m =>
    obtain ⟨p, o, rfl, h, ho, f, q⟩ := r
    refine ⟨upd F' p o, e.lock h ho f, ?_⟩
    exact (q.mono (same_upd f)).frz upd_same
  | vw m =>
    obtain ⟨p, o, rfl, h, q⟩ := r
    exact ⟨F', e, p, o, rfl, h, q⟩
  | bor m =>
    obtain ⟨p, o, rfl, h, q⟩ := r
    exact ⟨F', e, p, o, rfl, h, q⟩
  | scr ns => exact ⟨F', e, r⟩
  | err c => exact ⟨F', e, r⟩
  | nst sh ls => exact r.elim
theorem RR.rb {v : V} {b : B} {F0 H0 : Hp} (r : RR g F H v b) : RB g F0 H0 F H v b := by
  cases b with
  | dat d => exact r
  | own m => exact r.elim
  | vw m => exact r
  | bor m => exact r
  | scr ns => exact r
  | err c => exact r
  | nst sh ls => exact r
theorem RB.later {v : V} {b : B} {F1 H1 : Hp} (e : Grow F H F1 H1) (r : RB g F1 H1 F' H' v b) : RB g F H F' H' v b := by
  cases b with
  | dat d => exact r
  | own m =>
    obtain ⟨p, o, rfl, h, z⟩ := r
    exact ⟨p, o, rfl, e.hh.free h, z⟩
  | vw m => exact r
  | bor m => exact r
  | scr ns => exact r
  | err c => exact r
  | nst sh ls => exact r
theorem St.grow (s : St g F H σ ρ) (e : Grow F H F' H') : St g F' H' σ ρ :=
  ⟨s.gr.trans e, s.len, fun i b h => let ⟨v, h1, h2⟩ := s.at_ i b h; ⟨v, h1, h2.mono e⟩, fun i j b b' v v' a hij h1 h2 h3 h4 h5 h6 => by
    obtain ⟨w, e1, r1⟩ := s.at_ i b h1
    obtain ⟨w', e2, r2⟩ := s.at_ j b' h2
    rw [h3] at e1
    rw [h4] at e2
    cases e1
    cases e2
    exact s.apart i j b b' v v' a hij h1 h2 h3 h4 (Ft.back r1 e.hh h5) (Ft.back r2 e.hh h6)⟩
theorem St.own_none (s : St g F H σ ρ) {i : Nat} {m : M} (h : ρ[i]? = some (some (.own m))) : ∃ p o, σ[i]? = some (some (.ref p)) ∧ H p = some o ∧ F p = none ∧ g.G0 p = none ∧ RpM g.K g.fa F o m := by
  obtain ⟨v, h1, p, o, rfl, h2⟩ := s.at_ i _ h
  exact ⟨p, o, h1, h2⟩
theorem set_some {α : Type} {l : List (Option α)} {i j : Nat} {x : Option α} {y : α} (h : (l.set i x)[j]? = some (some y)) : (i = j ∧ x = some y ∧ j < l.length) ∨ (i ≠ j ∧ l[j]? = some (some y)) := by
  by_cases hij : i = j
  · subst hij
    by_cases hl : i < l.length
    · rw [List.getElem?_set_self hl] at h
      exact .inl ⟨rfl, Option.some.inj h, hl⟩
    · rw [List.getElem?_eq_none (by simpa using hl)] at h
      cases h
  · rw [List.getElem?_set_ne hij] at h
    exact .inr ⟨hij, h⟩
theorem St.put (s : St g F H σ ρ) {v : V} {b : B} (e : Grow F H F' H') (r : RB g F H F' H' v b) (i : Nat) (hv : ∀ m, b ≠ .vw m) : St g F' H' (σ.set i (some v)) (ρ.set i (some b)) := by
  have s1 := s.grow e
  have fresh : ∀ {j : Nat} {b' : B} {v' : V} {a : Addr}, ρ[j]? = some (some b') → σ[j]? = some (some v') → Ft H' v b a → Ft H' v' b' a → False := fun {j b' v' a} h1 h2 h3 h4 => by
    cases b with
    | own m =>
      obtain ⟨p, o, rfl, h, _⟩ := r
      cases h3
      obtain ⟨w, e1, r1⟩ := s.at_ j b' h1
      rw [h2] at e1
      cases e1
      obtain ⟨o', z, _⟩ := Ft.at_ r1 (Ft.back r1 e.hh h4)
      rw [h] at z
      cases z
    | nst sh ls => exact r.elim
    | _ => exact h3.elim
  refine ⟨s1.gr, by simp [s1.len], fun j b' h => ?_, fun j k b1 b2 v1 v2 a hjk h1 h2 h3 h4 h5 h6 => ?_⟩
  · rcases set_some h with ⟨rfl, h1, h2⟩ | ⟨h1, h2⟩
    · cases h1
      refine ⟨v, by rw [List.getElem?_set_self (by rw [s1.len]; exact h2)], ?_⟩
      cases b with
      | dat d => exact r
      | own m =>
        obtain ⟨p, o, rfl, h, z, f, q⟩ := r
        exact ⟨p, o, rfl, z, f, s.gr.hh.free h, q⟩
      | vw m => exact absurd rfl (hv m)
      | bor m => exact r
      | scr ns => exact r
      | err c => exact r
      | nst sh ls => exact r.elim
    · obtain ⟨w, h3, h4⟩ := s1.at_ j b' h2
      exact ⟨w, by rw [List.getElem?_set_ne h1]; exact h3, h4⟩
  · rcases set_some h1 with ⟨rfl, e1, l1⟩ | ⟨n1, e1⟩ <;> rcases set_some h2 with ⟨rfl, e2, l2⟩ | ⟨n2, e2⟩
    · exact absurd rfl hjk
    · cases e1
      rw [List.getElem?_set_self (by rw [s.len]; exact l1)] at h3
      rw [List.getElem?_set_ne n2] at h4
      cases h3
      exact fresh e2 h4 h5 h6
    · cases e2
      rw [List.getElem?_set_self (by rw [s.len]; exact l2)] at h4
      rw [List.getElem?_set_ne n1] at h3
      cases h4
      exact fresh e1 h3 h6 h5
    · rw [List.getElem?_set_ne n1] at h3
      rw [List.getElem?_set_ne n2] at h4
      exact s1.apart j k b1 b2 v1 v2 a hjk e1 e2 h3 h4 h5 h6
theorem St.drop (s : St g F H σ ρ) (i : Nat) : St g F H (σ.set i none) (ρ.set i none) := by
  refine ⟨s.gr, by simp [s.len], fun j b h => ?_, fun j k b1 b2 v1 v2 a hjk h1 h2 h3 h4 h5 h6 => ?_⟩
  · rcases set_some h with ⟨rfl, h1, h2⟩ | ⟨h1, h2⟩
    · cases h1
    · obtain ⟨w, h3, h4⟩ := s.at_ j b h2
      exact ⟨w, by rw [List.getElem?_set_ne h1]; exact h3, h4⟩
  · rcases set_some h1 with ⟨rfl, e1, l1⟩ | ⟨n1, e1⟩
    · cases e1
    rcases set_some h2 with ⟨rfl, e2, l2⟩ | ⟨n2, e2⟩
    · cases e2
    rw [List.getElem?_set_ne n1] at h3
    rw [List.getElem?_set_ne n2] at h4
    exact s.apart j k b1 b2 v1 v2 a hjk e1 e2 h3 h4 h5 h6
theorem St.turn (s : St g F H σ ρ) {i : Nat} {b b' : B} {v : V} (h : ρ[i]? = some (some b)) (hv : σ[i]? = some (some v)) (hf : Same F F') (gr : Grow g.F0 g.G0 F' H')
    (k : ∀ a, (∃ o, H a = some o) → ¬ Ft H v b a → H' a = H a ∧ ((∀ o, H a = some o → ∀ xs, o ≠ .tup xs) → F a = none → F' a = none)) (r : RN g F' H' v b') (ft : ∀ a, Ft H' v b' a → Ft H v b a ∨ H a = none) : St g F' H' σ (ρ.set i (some b')) := by
  have il : i < ρ.length := (List.getElem?_eq_some_iff.mp h).1
  have oth : ∀ {j : Nat} {c : B} {w : V}, i ≠ j → ρ[j]? = some (some c) → σ[j]? = some (some w) → RN g F H w c ∧ (∀ a, Ft H w c a → H' a = H a ∧ ((∀ o, H a = some o → ∀ xs, o ≠ .tup xs) → F a = none → F' a = none)) := fun {j c w} hij h1 h2 => by
    obtain ⟨w', e1, r1⟩ := s.at_ j c h1
    rw [h2] at e1
    cases e1
    refine ⟨r1, fun a ha => k a ?_ fun z => s.apart i j b c v w a hij h h1 hv h2 z ha⟩
    obtain ⟨o, ho, _⟩ := Ft.at_ r1 ha
    exact ⟨o, ho⟩
  refine ⟨gr, by simp [s.len], fun j c hj => ?_, fun j l b1 b2 v1 v2 a hjl h1 h2 h3 h4 h5 h6 => ?_⟩
  · rcases set_some hj with ⟨rfl, e1, l1⟩ | ⟨n1, e1⟩
    · cases e1
      exact ⟨v, hv, r⟩
    · obtain ⟨w, h6, h7⟩ := s.at_ j c e1
      obtain ⟨r1, k1⟩ := oth n1 e1 h6
      exact ⟨w, h6, r1.keep k1 hf⟩
  · have mix : ∀ {j : Nat} {c : B} {w : V}, i ≠ j → ρ[j]? = some (some c) → σ[j]? = some (some w) → Ft H' v b' a → Ft H' w c a → False := fun {j c w} hij q1 q2 q3 q4 => by
      obtain ⟨r1, k1⟩ := oth hij q1 q2
      have z := q4.keep fun a ha => (k1 a ha).1
      rcases ft a q3 with y | y
      · exact s.apart i j b c v w a hij h q1 hv q2 y z
      · obtain ⟨o, ho, _⟩ := Ft.at_ r1 z
        rw [y] at ho
        cases ho
    rcases set_some h1 with ⟨rfl, e1, l1⟩ | ⟨n1, e1⟩ <;> rcases set_some h2 with ⟨rfl, e2, l2⟩ | ⟨n2, e2⟩
    · exact absurd rfl hjl
    · cases e1
      rw [hv] at h3
      cases h3
      exact mix n2 e2 h4 h5 h6
    · cases e2
      rw [hv] at h4
      cases h4
      exact mix n1 e1 h3 h6 h5
    · obtain ⟨_, k1⟩ := oth n1 e1 h3
      obtain ⟨_, k2⟩ := oth n2 e2 h4
      exact s.apart j l b1 b2 v1 v2 a hjl e1 e2 h3 h4 (h5.keep fun a ha => (k1 a ha).1) (h6.keep fun a ha => (k2 a ha).1)
theorem St.change (s : St g F H σ ρ) {i : Nat} {m m' : M} {p : Addr} {o' : HO} (h : ρ[i]? = some (some (.own m))) (hp : σ[i]? = some (some (.ref p))) (q : RpM g.K g.fa F o' m') : St g F (upd H p o') σ (ρ.set i (some (.own m'))) := by
  obtain ⟨p', o, h1, h2, h3, h4, h5⟩ := s.own_none h
  rw [hp] at h1
  cases h1
  refine s.turn h hp (Same.refl F) ⟨s.gr.fh, fun b u z => ?_, fun b u z => ?_, s.gr.new⟩ (fun a _ ha => ⟨upd_ne fun z => ha (by rw [z]; exact rfl), fun _ f => f⟩) ⟨p, o', rfl, upd_same, h3, h4, q⟩ fun a ha => .inl ha
  · rw [upd_ne (ne_of_none z h4)]; exact s.gr.hh _ _ z
  · rw [upd_ne (ne_of_none z h3)]; exact s.sub _ _ z
theorem St.lock (s : St g F H σ ρ) {i : Nat} {m : M} (h : ρ[i]? = some (some (.own m))) : ∃ F', Grow g.F0 g.G0 F' H ∧ Same F F' ∧ St g F' H σ (ρ.set i (some (.dat (frzM m)))) := by
  obtain ⟨p, o, h1, h2, h3, h4, h5⟩ := s.own_none h
  have gr : Grow g.F0 g.G0 (upd F p o) H := s.gr.lock h4 h2 h3
  refine ⟨upd F p o, gr, same_upd h3, s.turn h h1 (same_upd h3) gr (fun a _ ha => ⟨rfl, fun _ f => ?_⟩) ((h5.mono (same_upd h3)).frz upd_same) fun a ha => ha.elim⟩
  rw [upd_ne fun z => ha (by rw [z]; exact rfl)]
  exact f
end
def Post (g : G) (σ : L2.St) (F H : Hp) (r : Res B) (Q : VK) : Prop := match r with
  | .ok b => ∀ v F' H', Grow F H F' H' → RB g F H F' H' v b → Q v H'
  | .exc c => ∀ F' H', Grow F H F' H' → g.E c σ H'
  | .bad => False
def tF (g : G) (f : Env → Res B) : TE := fun σ H Q => ∃ F ρ, St g F H σ ρ ∧ Post g σ F H (f ρ) Q
def PostA (g : G) (σ : L2.St) (F H : Hp) (r : Res (List B)) (Q : List V → Hp → Prop) : Prop := match r with
  | .ok bs => ∀ vs F' H', Grow F H F' H' → Paired (RR g F' H') vs bs → Q vs H'
  | .exc c => ∀ F' H', Grow F H F' H' → g.E c σ H'
  | .bad => False
def tFA (g : G) (f : Env → Res (List B)) : TA := fun σ H Q => ∃ F ρ, St g F H σ ρ ∧ PostA g σ F H (f ρ) Q
def PostT (g : G) (σ : L2.St) (F H : Hp) (r : Res Bool) (Q : Bool → Hp → Prop) : Prop := match r with
  | .ok b => ∀ F' H', Grow F H F' H' → Q b H'
  | .exc c => ∀ F' H', Grow F H F' H' → g.E c σ H'
  | .bad => False
def tFT (g : G) (f : Env → Res Bool) : TT := fun σ H Q => ∃ F ρ, St g F H σ ρ ∧ PostT g σ F H (f ρ) Q
section
variable {g : G} {F H F' H' : Hp} {σ : L2.St} {ρ : Env}
theorem Post.later {r : Res B} {Q : VK} (h : Post g σ F H r Q) (e : Grow F H F' H') : Post g σ F' H' r Q := by
  cases r with
  | ok b => exact fun v F2 H2 e2 rb => h v F2 H2 (e.trans e2) (rb.later e)
  | exc c => exact fun F2 H2 e2 => h F2 H2 (e.trans e2)
  | bad => exact h
theorem PostA.later {r : Res (List B)} {Q : List V → Hp → Prop} (h : PostA g σ F H r Q) (e : Grow F H F' H') : PostA g σ F' H' r Q := by
  cases r with
  | ok b => exact fun v F2 H2 e2 rb => h v F2 H2 (e.trans e2) rb
  | exc c => exact fun F2 H2 e2 => h F2 H2 (e.trans e2)
  | bad => exact h
theorem PostT.later {r : Res Bool} {Q : Bool → Hp → Prop} (h : PostT g σ F H r Q) (e : Grow F H F' H') : PostT g σ F' H' r Q := by
  cases r with
  | ok b => exact fun F2 H2 e2 => h F2 H2 (e.trans e2)
  | exc c => exact fun F2 H2 e2 => h F2 H2 (e.trans e2)
  | bad => exact h
theorem run1 {f : Env → Res B} {Q : VK} (s : St g F H σ ρ) (hok : ∀ b v F1 H1, f ρ = .ok b → Grow F H F1 H1 → RR g F1 H1 v (rd b) → Q v H1) (hexc : ∀ c, f ρ = .exc c → ∀ F' H', Grow F H F' H' → g.E c σ H') (hbad : f ρ ≠ .bad) : tF g f σ H Q := by
  refine ⟨F, ρ, s, ?_⟩
  cases e : f ρ with
  | ok b => exact fun v F1 H1 e1 rb => let ⟨F2, e2, r2⟩ := rb.rd e1; hok b v F2 H1 e e2 r2
  | exc c => exact hexc c e
  | bad => exact hbad e
end
end Fn
namespace Fn
open PySem PySem.Spec PyProof.Rows L2
mutual
def toPy : D → PyData
  | .non => .none
  | .bl b => .bool b
  | .int i => .int i
  | .str x => .str x
  | .tup xs => .tuple (toPys xs)
  | .ctup xs => .tuple (toPys xs)
  | .lst xs => .list (toPys xs)
  | .dk _ => .dict []
  | .dt _ => .dict []
  | .lk _ => .dict []
  | .lt _ => .dict []
  | .fn _ => .dict []
def toPys : List D → List PyData
  | [] => []
  | x :: xs => toPy x :: toPys xs
end
theorem toPys_map (xs : List D) : toPys xs = xs.map toPy := by
  induction xs with
  | nil => rfl
  | cons x xs ih => rw [toPys, ih]; rfl
structure Sm (g : G) (F H : Hp) : Prop where
  fh : Same F H
  gh : Same g.G0 H
theorem St.sm {g : G} {F H : Hp} {σ : L2.St} {ρ : Env} (s : St g F H σ ρ) : Sm g F H := ⟨s.gr.sub, s.gr.hh⟩
theorem Sm.grow {g : G} {F H F' H' : Hp} (s : Sm g F H) (e : Grow F H F' H') : Sm g F' H' := ⟨e.sub, s.gh.trans e.hh⟩
section
variable {g : G} {σ : L2.St} {F H F' H' : Hp}
theorem sqT_none {K : PySem.W.Frag} {a : Addr} {xs : List V} (h : SqT K (fun _ => none) a xs) : SqT K H a xs := by
  rcases h with (h | ⟨o, h⟩) | h
  · cases h
  · cases h
  · exact .inr h
mutual
theorem Rp.dp {K : PySem.W.Frag} {fa : Nat → Option Addr} (e : Same F H) : ∀ {v : V} {d : D}, Rp K fa F v d → (toPy d).canLay0 = true → Dp K H v (toPy d)
  | _, _, .non, _ => .non
  | _, _, .bl b, _ => .bl b
  | _, _, .int i, _ => .int i
  | _, _, .str x, _ => .str x
  | _, _, .tup h r, c => by
    simp only [toPy, PyData.canLay0] at c ⊢
    exact .tup (SqT.of (e _ _ h)) (RpAll.dp e r c)
  | _, _, .ctup h r, c => by
    simp only [toPy, PyData.canLay0] at c ⊢
    exact .tup (sqT_none h) (RpAll.dp e r c)
  | _, _, .lst h r, c => by
    simp only [toPy, PyData.canLay0] at c ⊢
    exact .lst (SqL.of (e _ _ h)) (RpAll.dp e r c)
  | _, _, .dk _ _ _, c => by simp [toPy, PyData.canLay0] at c
  | _, _, .dt _ _ _, c => by simp [toPy, PyData.canLay0] at c
  | _, _, .lk _ _ _, c => by simp [toPy, PyData.canLay0] at c
  | _, _, .lt _ _ _, c => by simp [toPy, PyData.canLay0] at c
  | _, _, .fn _, c => by simp [toPy, PyData.canLay0] at c
theorem RpAll.dp {K : PySem.W.Frag} {fa : Nat → Option Addr} (e : Same F H) : ∀ {vs : List V} {ds : List D}, RpAll K fa F vs ds → PyData.canLayAll0 (toPys ds) = true → DpAll K H vs (toPys ds)
  | _, _, .nil, _ => .nil
  | _, _, .cons h r, c => by
    simp only [toPys, PyData.canLayAll0, Bool.and_eq_true] at c ⊢
    exact .cons (Rp.dp e h c.1) (RpAll.dp e r c.2)
end
theorem Post.dat {d : D} {Q : VK} {v : V} (h : Post g σ F H (.ok (.dat d)) Q) (s : Sm g F H) (r : Rp g.K g.fa F v d) : Q v H := h v F H (Grow.refl s.fh) r
theorem Post.int {i : Int} {Q : VK} (h : Post g σ F H (.ok (.dat (.int i))) Q) (s : Sm g F H) : Q (.int i) H := h.dat s (.int i)
theorem Post.bl {i : Bool} {Q : VK} (h : Post g σ F H (.ok (.dat (.bl i))) Q) (s : Sm g F H) : Q (.bl i) H := h.dat s (.bl i)
theorem Post.str {i : Str} {Q : VK} (h : Post g σ F H (.ok (.dat (.str i))) Q) (s : Sm g F H) : Q (.str i) H := h.dat s (.str i)
theorem Post.newM {m : M} {o : HO} {Q : VK} (h : Post g σ F H (.ok (.own m)) Q) (s : Sm g F H) (r : RpM g.K g.fa F o m) (p : Addr) (hp : H p = none) : Q (.ref p) (upd H p o) :=
  h (.ref p) F (upd H p o) (Grow.newH s.fh hp) ⟨p, o, rfl, hp, upd_same, s.fh.free hp, r⟩
theorem Post.newL {ds : List D} {xs : List V} {Q : VK} (h : Post g σ F H (.ok (.own (.l ds))) Q) (s : Sm g F H) (r : RpAll g.K g.fa F xs ds) (p : Addr) (hp : H p = none) : Q (.ref p) (upd H p (.lst xs)) :=
  h.newM s (.l r) p hp
theorem Post.newT {ds : List D} {xs : List V} {Q : VK} (h : Post g σ F H (.ok (.dat (.tup ds))) Q) (s : Sm g F H) (r : RpAll g.K g.fa F xs ds) (p : Addr) (hp : H p = none) : Q (.ref p) (upd H p (.tup xs)) :=
  h (.ref p) (upd F p (.tup xs)) (upd H p (.tup xs)) (Grow.newF s.fh hp) (.tup upd_same (r.mono (same_upd (s.fh.free hp))))
def seqI : B → Option (List D)
  | .dat (.tup xs) => some xs
  | .dat (.ctup xs) => some xs
  | .dat (.lst xs) => some xs
  | .vw (.l xs) => some xs
  | .bor (.l xs) => some xs
  | .scr ns => some (ns.map .int)
  | _ => none
def seqL : B → Option (List D)
  | .dat (.lst xs) => some xs
  | .vw (.l xs) => some xs
  | .bor (.l xs) => some xs
  | _ => none
theorem seqL_ok {v : V} {b : B} {ds : List D} (s : Sm g F H) (r : RR g F H v b) (h : seqL b = some ds) : ∃ a xs, v = .ref a ∧ H a = some (.lst xs) ∧ RpAll g.K g.fa F xs ds := by
  unfold seqL at h
  split at h
  · cases h
    cases r with
    | lst h1 h2 => exact ⟨_, _, rfl, s.fh _ _ h1, h2⟩
  · cases h
    obtain ⟨p, o, rfl, h1, h2⟩ := r
    cases h2 with
    | l h2 => exact ⟨_, _, rfl, h1, h2⟩
  · cases h
    obtain ⟨p, o, rfl, h1, h2⟩ := r
    cases h2 with
    | l h2 => exact ⟨_, _, rfl, s.gh _ _ h1, h2⟩
  · cases h
theorem seqI_ok {v : V} {b : B} {ds : List D} (s : Sm g F H) (r : RR g F H v b) (h : seqI b = some ds) : ∃ a xs, v = .ref a ∧ (SqL g.K H a xs ∨ SqT g.K H a xs) ∧ RpAll g.K g.fa F xs ds := by
  unfold seqI at h
  split at h
  · cases h
    cases r with
    | tup h1 h2 => exact ⟨_, _, rfl, .inr (SqT.of (s.fh _ _ h1)), h2⟩
  · cases h
    cases r with
    | ctup h1 h2 => exact ⟨_, _, rfl, .inr (sqT_none h1), h2⟩
  · cases h
    cases r with
    | lst h1 h2 => exact ⟨_, _, rfl, .inl (SqL.of (s.fh _ _ h1)), h2⟩
  · cases h
    obtain ⟨p, o, rfl, h1, h2⟩ := r
    cases h2 with
    | l h2 => exact ⟨_, _, rfl, .inl (SqL.of h1), h2⟩
  · cases h
    obtain ⟨p, o, rfl, h1, h2⟩ := r
    cases h2 with
    | l h2 => exact ⟨_, _, rfl, .inl (SqL.of (s.gh _ _ h1)), h2⟩
  · cases h
    obtain ⟨p, rfl, h1⟩ := r
    exact ⟨_, _, rfl, .inl (s.gh.seq h1), RpAll.of_ints _⟩
  · cases h
end
def OpG (g : G) (r : R2) (f : B → B → Res B) : Prop := ∀ (σ : L2.St) (F H : Hp) (x y : V) (a b : B) (Q : VK), Sm g F H → RR g F H x a → RR g F H y b → Post g σ F H (f a b) Q → r x y H Q
def bin2 (f : B → B → Res B) (fa fb : Env → Res B) : Env → Res B := fun ρ => (fa ρ).bind fun x => (fb ρ).bind fun y => f (rd x) (rd y)
section
variable {X : Cx} {g : G} {a b : Expr} {fa fb : Env → Res B} {pos : Pos}
theorem PE.imp {e : Expr} {t t' : TE} (h : PE X e t) (i : ∀ σ H Q, t' σ H Q → t σ H Q) : PE X e t' := ⟨fun pins s σ H Q I w => h.run pins s σ H Q I (i σ H Q w)⟩
theorem PT.imp {e : Expr} {t t' : TT} (h : PT X e t) (i : ∀ σ H Q, t' σ H Q → t σ H Q) : PT X e t' := ⟨fun pins s σ H Q I w => h.run pins s σ H Q I (i σ H Q w)⟩
theorem PA.imp {e : List Expr} {t t' : TA} (h : PA X e t) (i : ∀ σ H Q, t' σ H Q → t σ H Q) : PA X e t' := ⟨fun p pins s σ H Q I w => h.run p pins s σ H Q I (i σ H Q w)⟩
theorem run2 {r : R2} {f : B → B → Res B} (hg : OpG g r f) {σ : L2.St} {H : Hp} {Q : VK} (h : tF g (bin2 f fa fb) σ H Q) : tOp r (tF g fa) (tF g fb) σ H Q := by
  obtain ⟨F, ρ, s, p⟩ := h
  unfold bin2 at p
  refine run1 s (fun bx v F1 H1 e1 g1 r1 => ?_) (fun c e => ?_) (fun e => ?_)
  · rw [e1, Res.ok_bind] at p
    have s1 := s.grow g1
    refine run1 s1 (fun by_ w F2 H2 e2 g2 r2 => ?_) (fun c e => ?_) (fun e => ?_)
    · rw [e2, Res.ok_bind] at p
      exact hg _ F2 H2 v w _ _ Q (s1.sm.grow g2) (r1.mono g2) r2 (p.later (g1.trans g2))
    · rw [e, Res.exc_bind] at p
      exact fun F' H' gr => p F' H' (g1.trans gr)
    · rw [e] at p
      exact p
  · rw [e] at p
    exact p
  · rw [e] at p
    exact p
theorem fe_bin {op : Operator} {r : R2} {f : B → B → Res B} (ho : OpR X (binaryOp op) r) (hg : OpG g r f) (ha : PE X a (tF g fa)) (hb : PE X b (tF g fb)) : PE X (.BinOp a op b pos) (tF g (bin2 f fa fb)) :=
  PE.imp (pe_op ho ha hb) fun _ _ _ h => run2 hg h
theorem fe_cmp {op : CmpOp} {r : R2} {f : B → B → Res B} (ho : OpR X (compareOp op) r) (hg : OpG g r f) (ha : PE X a (tF g fa)) (hb : PE X b (tF g fb)) (hm : behindInMarks op b = false) : PE X (.Compare a [op] [b] pos) (tF g (bin2 f fa fb)) :=
  PE.imp (pe_cmpR ho ha hb hm) fun _ _ _ h => run2 hg h
end
def catL (xs : List D) (b : B) : Res B := match seqL b with
  | some ys => if xs.length + ys.length ≤ sizeLine then .ok (.own (.l (xs ++ ys))) else .bad
  | none => .bad
def catT (xs : List D) (b : B) : Res B := match b with
  | .dat (.tup ys) => if xs.length + ys.length ≤ sizeLine then .ok (.dat (.tup (xs ++ ys))) else .bad
  | _ => .bad
def addB (a b : B) : Res B := match a with
  | .dat (.int i) => (match b with | .dat (.int j) => .ok (.dat (.int (i + j))) | _ => .bad)
  | .dat (.str i) => (match b with | .dat (.str j) => if i.length + j.length ≤ sizeLine then .ok (.dat (.str (i ++ j))) else .bad | _ => .bad)
  | .dat (.tup xs) => catT xs b
  | .dat (.lst xs) => catL xs b
  | .vw (.l xs) => catL xs b
  | .bor (.l xs) => catL xs b
  | _ => .bad
def rAdd (K : PySem.W.Frag) : R2 := fun x y H Q => rI0 (fun i j => .int (i + j)) x y H Q ∨ (∃ i j, x = .str i ∧ y = .str j ∧ i.length + j.length ≤ sizeLine ∧ Q (.str (i ++ j)) H) ∨ rCatA K x y H Q ∨ rCat x y H Q
theorem op_addF {X : Cx} : OpR X (binaryOp .Add) (rAdd X.K) := OpR.or op_add (OpR.or op_add_str (OpR.or op_catA op_cat))
theorem g_add {g : G} {K : PySem.W.Frag} (hK : g.K = K) : OpG g (rAdd K) addB := by
  subst hK
  intro σ F H x y a b Q s ra rb p
  have cat : ∀ {xs : List D}, seqL a = some xs → Post g σ F H (catL xs b) Q → rAdd g.K x y H Q := fun {xs} ha p => by
    unfold catL at p
    split at p
    · rename_i ys hb
      split at p
      · rename_i hz
        obtain ⟨p1, xs', rfl, h1, r1⟩ := seqL_ok s ra ha
        obtain ⟨p2, ys', rfl, h2, r2⟩ := seqL_ok s rb hb
        exact .inr (.inr (.inr ⟨p1, p2, xs', ys', rfl, rfl, h1, h2, by rw [r1.len, r2.len]; exact hz, p.newL s (r1.app r2)⟩))
      · exact p.elim
    · exact p.elim
  unfold addB at p
  split at p
  · split at p
    · cases ra
      cases rb
      exact .inl ⟨_, _, rfl, rfl, p.int s⟩
    · exact p.elim
  · split at p
    · split at p
      · rename_i hz
        cases ra
        cases rb
        exact .inr (.inl ⟨_, _, rfl, rfl, hz, p.str s⟩)
      · exact p.elim
    · exact p.elim
  · unfold catT at p
    split at p
    · split at p
      · rename_i xs ys hz
        cases ra with
        | tup h1 r1 =>
          cases rb with
          | tup h2 r2 =>
            refine .inr (.inr (.inl ⟨_, _, _, _, rfl, rfl, SqT.of (s.fh _ _ h1), SqT.of (s.fh _ _ h2), by rw [r1.len, r2.len]; exact hz, fun e => ?_, fun e e2 => ?_, fun _ _ => ?_⟩))
            · subst e
              cases r1
              exact p.dat s (.tup h2 r2)
            · subst e2
              cases r2
              rw [List.append_nil] at p
              exact p.dat s (.tup h1 r1)
            · exact p.newT s (r1.app r2)
      · exact p.elim
    · exact p.elim
  · exact cat rfl p
  · exact cat rfl p
  · exact cat rfl p
  · exact p.elim
def int2 (C : Int → Int → Bool) (f : Int → Int → Int) (a b : B) : Res B := match a with
  | .dat (.int i) => (match b with | .dat (.int j) => if C i j then .ok (.dat (.int (f i j))) else .bad | _ => .bad)
  | _ => .bad
theorem g_int2 {g : G} {C : Int → Int → Bool} {C' : Int → Int → Prop} {f : Int → Int → Int} (hC : ∀ i j, C i j = true → C' i j) : OpG g (rI C' fun i j => .int (f i j)) (int2 C f) := by
  intro σ F H x y a b Q s ra rb p
  unfold int2 at p
  split at p
  · split at p
    · split at p
      · rename_i hc
        cases ra
        cases rb
        exact ⟨_, _, rfl, rfl, hC _ _ hc, p.int s⟩
      · exact p.elim
    · exact p.elim
  · exact p.elim
def CDivG (i j : Int) : Prop := j ≠ 0 ∧ j.natAbs.log2 < 9000
theorem op_fdivG {X : Cx} : OpR X (binaryOp .FloorDiv) (rI CDivG fun i j => .int (i.fdiv j)) := opI fun _ _ _ _ _ _ _ hc q => floordiv_int hc.1 q (.inl (PyProof.noPylong_of_log2 hc.2))
theorem op_modG {X : Cx} : OpR X (binaryOp .Mod) (rI (fun _ j => j ≠ 0) fun i j => .int (i.fmod j)) := opI fun _ _ _ _ _ _ _ hc q => mod_int' hc q
def subB : B → B → Res B := int2 (fun _ _ => true) (fun i j => i - j)
def divB : B → B → Res B := int2 (fun _ j => decide (j ≠ 0) && decide (j.natAbs.log2 < 9000)) Int.fdiv
def modB : B → B → Res B := int2 (fun _ j => decide (j ≠ 0)) Int.fmod
def shlB : B → B → Res B := int2 (fun i j => decide (0 ≤ j) && decide (j ≤ 1000000) && decide (i.natAbs < 2 ^ 64)) fun i j => i * 2 ^ j.toNat
def powB : B → B → Res B := int2 (fun i j => decide (0 ≤ j) && decide (j ≤ 1000000) && decide (i.natAbs < 2 ^ 64)) fun i j => i ^ j.toNat
def shrB : B → B → Res B := int2 (fun _ j => decide (0 ≤ j)) fun i j => i / 2 ^ j.toNat
def andB : B → B → Res B := int2 (fun _ _ => true) Builtin.bitAnd
def repS (x : Str) (n : Int) : Str := ⟨(List.replicate n.toNat x.cps.toList).flatten.toArray⟩
def mulB (a b : B) : Res B := match a with
  | .dat (.int i) => (match b with | .dat (.int j) => if i.natAbs.log2 + j.natAbs.log2 < 1000000 then .ok (.dat (.int (i * j))) else .bad | _ => .bad)
  | .dat (.str x) => (match b with | .dat (.int j) => if -1000 ≤ j ∧ j ≤ 1000 ∧ x.length ≤ 1000 then .ok (.dat (.str (repS x j))) else .bad | _ => .bad)
  | _ => .bad
theorem fold_rep (x : Str) : ∀ (k : Nat) (acc : List Nat), (List.replicate k x.cps).foldl (· ++ ·) acc.toArray = (acc ++ (List.replicate k x.cps.toList).flatten).toArray
  | 0, acc => by simp
  | k + 1, acc => by
    rw [List.replicate_succ, List.foldl_cons, List.replicate_succ, List.flatten_cons, ← List.append_assoc]
    have e : acc.toArray ++ x.cps = (acc ++ x.cps.toList).toArray := by simp
    rw [e]
    exact fold_rep x k _
theorem rep_eq (x : Str) (k : Nat) : (⟨(List.replicate k x.cps).foldl (· ++ ·) #[]⟩ : Str) = ⟨(List.replicate k x.cps.toList).flatten.toArray⟩ := by
  have e := fold_rep x k []
  rw [List.nil_append] at e
  exact congrArg Str.mk e
def rRepS : R2 := fun x y H Q => ∃ z j, x = .str z ∧ y = .int j ∧ -1000 ≤ j ∧ j ≤ 1000 ∧ z.length ≤ 1000 ∧ Q (.str (repS z j)) H
theorem op_repS {X : Cx} : OpR X (binaryOp .Mult) rRepS := by
  intro pins s σ H x y v u Q I rx ry h
  obtain ⟨z, j, rfl, rfl, h1, h2, h3, q⟩ := h
  obtain ⟨t, rfl⟩ := rx
  obtain ⟨t', rfl⟩ := ry
  have hr : (decide (j < -(2 ^ 63 : Int)) || decide (j ≥ 2 ^ 63)) = false := by
    have a1 : ¬ j < -(2 ^ 63 : Int) := by omega
    have a2 : ¬ j ≥ 2 ^ 63 := by omega
    rw [decide_eq_false a1, decide_eq_false a2]
    rfl
  have line : sizeLine = 16777216 := sizeLine_eq
  refine PySem.P.mul_str hr (fun hj _ => ?_) (fun hj _ => ?_) ?_
  · have z1 : (1000 : Int) ≤ (2 ^ 63 - 1) / j := by
      rw [Int.le_ediv_iff_mul_le (by omega)]
      omega
    omega
  · have hk : j.toNat ≤ 1000 := by omega
    have hm : z.length * j.toNat ≤ 1000 * 1000 := Nat.mul_le_mul h3 hk
    unfold Builtin.Str.tooLong
    rw [decide_eq_false]
    omega
  · have e0 : ∀ w : Str, w = repS z j → EP X pins σ Q (.str w s.toks) { s with toks := s.toks + 1 } := fun w e => ⟨.str w, H, I.tok _, ⟨_, rfl⟩, by rw [e]; exact q⟩
    by_cases c1 : j < 1
    · rw [if_pos c1]
      refine ⟨by decide, e0 _ ?_⟩
      have : j.toNat = 0 := by omega
      unfold repS
      rw [this]
      rfl
    · rw [if_neg c1]
      by_cases c2 : (j == 1 || z.length == 0) = true
      · rw [if_pos c2]
        refine ⟨.str z, H, I, ⟨_, rfl⟩, ?_⟩
        have e : z = repS z j := by
          unfold repS
          rw [Bool.or_eq_true] at c2
          rcases c2 with c2 | c2
          · have : j = 1 := by simpa using c2
            subst this
            simp
          · have hz : z.length = 0 := by simpa using c2
            have hl : z.cps.toList = [] := by
              have : z.cps.toList.length = 0 := by rw [Array.length_toList]; exact hz
              exact List.length_eq_zero_iff.mp this
            have hc : z.cps = #[] := by
              have := congrArg List.toArray hl
              simpa using this
            rw [hl]
            have : (List.replicate j.toNat ([] : List Nat)).flatten = [] := by simp
            rw [this]
            cases z
            simp only at hc
            rw [hc]
        rw [← e] at q
        exact q
      · rw [if_neg c2, rep_eq]
        refine ⟨?_, e0 _ rfl⟩
        have hk : j.toNat ≤ 1000 := by omega
        have hm : j.toNat * z.length ≤ 1000 * 1000 := Nat.mul_le_mul hk h3
        have e : (⟨(List.replicate j.toNat z.cps.toList).flatten.toArray⟩ : Str).length = j.toNat * z.length := by
          simp [Str.length]
        rw [e]
        omega
def rMul : R2 := fun x y H Q => rI CMulW (fun i j => .int (i * j)) x y H Q ∨ rRepS x y H Q
theorem op_mulF {X : Cx} : OpR X (binaryOp .Mult) rMul := OpR.or op_mulW op_repS
theorem g_mul {g : G} : OpG g rMul mulB := by
  intro σ F H x y a b Q s ra rb p
  unfold mulB at p
  split at p
  · split at p
    · split at p
      · rename_i hc
        cases ra
        cases rb
        exact .inl ⟨_, _, rfl, rfl, hc, p.int s⟩
      · exact p.elim
    · exact p.elim
  · split at p
    · split at p
      · rename_i hc
        cases ra
        cases rb
        exact .inr ⟨_, _, rfl, rfl, hc.1, hc.2.1, hc.2.2, p.str s⟩
      · exact p.elim
    · exact p.elim
  · exact p.elim
theorem g_sub {g : G} : OpG g (rI0 fun i j => .int (i - j)) subB := fun σ F H x y a b Q s ra rb p => by
  obtain ⟨i, j, h1, h2, _, q⟩ := g_int2 (C' := fun _ _ => True) (fun _ _ _ => trivial) σ F H x y a b Q s ra rb p
  exact ⟨i, j, h1, h2, q⟩
theorem g_and {g : G} : OpG g (rI0 fun i j => .int (Builtin.bitAnd i j)) andB := fun σ F H x y a b Q s ra rb p => by
  obtain ⟨i, j, h1, h2, _, q⟩ := g_int2 (C' := fun _ _ => True) (fun _ _ _ => trivial) σ F H x y a b Q s ra rb p
  exact ⟨i, j, h1, h2, q⟩
theorem g_div {g : G} : OpG g (rI CDivG fun i j => .int (i.fdiv j)) divB := g_int2 fun i j h => by
  rw [Bool.and_eq_true] at h
  exact ⟨of_decide_eq_true h.1, of_decide_eq_true h.2⟩
theorem g_mod {g : G} : OpG g (rI (fun _ j => j ≠ 0) fun i j => .int (i.fmod j)) modB := g_int2 fun i j h => of_decide_eq_true h
theorem pow_c {i j : Int} (h : (decide (0 ≤ j) && decide (j ≤ 1000000) && decide (i.natAbs < 2 ^ 64)) = true) : CPow i j := by
  rw [Bool.and_eq_true, Bool.and_eq_true] at h
  exact ⟨of_decide_eq_true h.1.1, of_decide_eq_true h.1.2, of_decide_eq_true h.2⟩
theorem g_shl {g : G} : OpG g (rI CPow fun i j => .int (i * 2 ^ j.toNat)) shlB := g_int2 fun i j h => pow_c h
theorem g_pow {g : G} : OpG g (rI CPow fun i j => .int (i ^ j.toNat)) powB := g_int2 fun i j h => pow_c h
theorem g_shr {g : G} : OpG g (rI (fun _ j => 0 ≤ j) fun i j => .int (i / 2 ^ j.toNat)) shrB := g_int2 fun i j h => of_decide_eq_true h
end Fn
namespace Fn
open PySem PySem.Spec PyProof.Rows L2
def datOf : B → D
  | .dat d => d
  | .own m => frzM m
  | .vw m => frzM m
  | .bor m => frzM m
  | .scr ns => .lst (ns.map .int)
  | .err c => .fn (1000 + c)
  | .nst _ _ => .fn 999
def eqD (d e : D) : Res Bool := if (SeqAt.shaped (toPy d) && SeqAt.shaped (toPy e)) = true then .ok (PyData.eqv (toPy d) (toPy e)) else .bad
def eqB (a b : B) : Res B := (eqD (datOf a) (datOf b)).bind fun k => .ok (.dat (.bl k))
def neB (a b : B) : Res B := (eqD (datOf a) (datOf b)).bind fun k => .ok (.dat (.bl !k))
section
variable {g : G} {F H : Hp} {v : V}
theorem frz_dp {p : Addr} {o : HO} {m : M} (s : Sm g F H) (h : H p = some o) (r : RpM g.K g.fa F o m) (c : (toPy (frzM m)).canLay0 = true) : Dp g.K H (.ref p) (toPy (frzM m)) := by
  cases r with
  | l r =>
    simp only [frzM, toPy, PyData.canLay0] at c ⊢
    exact .lst (SqL.of h) (RpAll.dp s.fh r c)
  | k _ _ => simp [frzM, toPy, PyData.canLay0] at c
  | t _ _ => simp [frzM, toPy, PyData.canLay0] at c
theorem RR.dp {b : B} (s : Sm g F H) (r : RR g F H v b) (c : (toPy (datOf b)).canLay0 = true) : Dp g.K H v (toPy (datOf b)) := by
  cases b with
  | dat d => exact Rp.dp s.fh r c
  | own m => exact r.elim
  | vw m =>
    obtain ⟨p, o, rfl, h, q⟩ := r
    exact frz_dp s h q c
  | bor m =>
    obtain ⟨p, o, rfl, h, q⟩ := r
    exact frz_dp s (s.gh _ _ h) q c
  | scr ns =>
    obtain ⟨p, rfl, h⟩ := r
    simp only [datOf, toPy, PyData.canLay0] at c ⊢
    exact .lst (s.gh.seq h) (RpAll.dp s.fh (K := g.K) (fa := g.fa) (RpAll.of_ints ns) c)
  | err k => simp [datOf, toPy, PyData.canLay0] at c
  | nst sh ls => exact r.elim
end
theorem g_eq {g : G} {K : PySem.W.Frag} (hK : g.K = K) : OpG g (rEqD K) eqB := by
  subst hK
  intro σ F H x y a b Q s ra rb p
  unfold eqB eqD at p
  split at p
  · rename_i h
    rw [Bool.and_eq_true] at h
    exact ⟨_, _, ra.dp s (SeqAt.canLay_of_shaped h.1), rb.dp s (SeqAt.canLay_of_shaped h.2), h.1, h.2, p.bl s⟩
  · exact p.elim
theorem g_ne {g : G} {K : PySem.W.Frag} (hK : g.K = K) : OpG g (rNeD K) neB := by
  subst hK
  intro σ F H x y a b Q s ra rb p
  unfold neB eqD at p
  split at p
  · rename_i h
    rw [Bool.and_eq_true] at h
    exact ⟨_, _, ra.dp s (SeqAt.canLay_of_shaped h.1), rb.dp s (SeqAt.canLay_of_shaped h.2), h.1, h.2, p.bl s⟩
  · exact p.elim
def notNone : PyData → Bool
  | .none => false
  | _ => true
def ltPy (x y : PyData) : Res Bool := if (SeqAt.shaped x && (SeqAt.shaped y && (PySem.W.alike x y && notNone x))) = true then .ok (PySem.W.dataLt x y) else .bad
def ltD (d e : D) : Res Bool := match d with
  | .int i => (match e with | .int j => .ok (decide (i < j)) | _ => .bad)
  | .str x => (match e with | .str y => .ok (decide (x.cps.toList < y.cps.toList)) | _ => .bad)
  | d => ltPy (toPy d) (toPy e)
def ltB (a b : B) : Res B := (ltD (datOf a) (datOf b)).bind fun k => .ok (.dat (.bl k))
def cmpI (f : Int → Int → Bool) (a b : B) : Res B := match a with
  | .dat (.int i) => (match b with | .dat (.int j) => .ok (.dat (.bl (f i j))) | _ => .bad)
  | _ => .bad
def rLtD (K : PySem.W.Frag) : R2 := fun x y H Q => ∃ d e, Dp K H x d ∧ Dp K H y e ∧ PySem.W.alike d e = true ∧ d ≠ .none ∧ d.depth ≤ 64 ∧ Q (.bl (PySem.W.dataLt d e)) H
theorem op_ltD {X : Cx} (hu : X.A.units + 64 < cLine) : OpR X (compareOp .Lt) (rLtD X.K) := by
  intro pins s σ H x y v u Q I rx ry h
  obtain ⟨d, e, hd, he, ha, hn, hs, q⟩ := h
  obtain ⟨as, r1⟩ := Dp.reads I d x v hd rx
  obtain ⟨bs, r2⟩ := Dp.reads I e y u he ry
  exact PySem.W.rcLt_alike d e X.A s v u as bs r1 r2 ha hn (by have := Nat.min_le_left d.depth e.depth; omega) X.prog X.w X.xe _ ⟨.bl _, H, I, rfl, q⟩
def rLt (K : PySem.W.Frag) : R2 := fun x y H Q => rI0 (fun i j => .bl (decide (i < j))) x y H Q ∨ (∃ i j, x = .str i ∧ y = .str j ∧ Q (.bl (decide (i.cps.toList < j.cps.toList))) H) ∨ rLtD K x y H Q
theorem op_ltF {X : Cx} (hu : X.A.units + 64 < cLine) : OpR X (compareOp .Lt) (rLt X.K) := OpR.or op_lt (OpR.or op_lt_str (op_ltD hu))
theorem rr_int {g : G} {F H : Hp} {v : V} {b : B} {i : Int} (r : RR g F H v b) (h : datOf b = .int i) : v = .int i := by
  cases b with
  | dat d => cases h; cases r; rfl
  | own m => exact r.elim
  | vw m => cases m <;> cases h
  | bor m => cases m <;> cases h
  | scr ns => cases h
  | err k => cases h
  | nst sh ls => exact r.elim
theorem rr_str {g : G} {F H : Hp} {v : V} {b : B} {i : Str} (r : RR g F H v b) (h : datOf b = .str i) : v = .str i := by
  cases b with
  | dat d => cases h; cases r; rfl
  | own m => exact r.elim
  | vw m => cases m <;> cases h
  | bor m => cases m <;> cases h
  | scr ns => cases h
  | err k => cases h
  | nst sh ls => exact r.elim
theorem g_lt {g : G} {K : PySem.W.Frag} (hK : g.K = K) : OpG g (rLt K) ltB := by
  subst hK
  intro σ F H x y a b Q s ra rb p
  unfold ltB ltD at p
  split at p
  · rename_i i ha
    split at p
    · rename_i j hb
      exact .inl ⟨i, j, rr_int ra ha, rr_int rb hb, p.bl s⟩
    · exact p.elim
  · rename_i i ha
    split at p
    · rename_i j hb
      exact .inr (.inl ⟨i, j, rr_str ra ha, rr_str rb hb, p.bl s⟩)
    · exact p.elim
  · by_cases h : (SeqAt.shaped (toPy (datOf a)) && (SeqAt.shaped (toPy (datOf b)) && (PySem.W.alike (toPy (datOf a)) (toPy (datOf b)) && notNone (toPy (datOf a))))) = true
    · unfold ltPy at p
      rw [if_pos h] at p
      simp only [Bool.and_eq_true] at h
      obtain ⟨h1, h2, h3, h4⟩ := h
      exact .inr (.inr ⟨_, _, ra.dp s (SeqAt.canLay_of_shaped h1), rb.dp s (SeqAt.canLay_of_shaped h2), h3, fun e => by rw [e] at h4; exact Bool.false_ne_true h4, SeqAt.depth_of_shaped h1, p.bl s⟩)
    · unfold ltPy at p
      rw [if_neg h] at p
      exact p.elim
theorem g_cmpI {g : G} {f : Int → Int → Bool} : OpG g (rI0 fun i j => .bl (f i j)) (cmpI f) := by
  intro σ F H x y a b Q s ra rb p
  unfold cmpI at p
  split at p
  · split at p
    · cases ra
      cases rb
      exact ⟨_, _, rfl, rfl, p.bl s⟩
    · exact p.elim
  · exact p.elim
def isNone : D → Bool
  | .non => true
  | _ => false
def isB (neg : Bool) (a b : B) : Res B := match b with
  | .dat .non => (match a with | .own _ => .bad | a => .ok (.dat (.bl (isNone (datOf a) != neg))))
  | .dat (.bl y) => (match a with | .dat (.bl x) => .ok (.dat (.bl (decide (x = y) != neg))) | _ => .bad)
  | _ => .bad
def rIs : R2 := fun x y H Q => (y = .non ∧ Q (.bl (decide (x = .non))) H) ∨ rIsB x y H Q
def rIsNot : R2 := fun x y H Q => (y = .non ∧ Q (.bl (!decide (x = .non))) H) ∨ rNotB x y H Q
theorem op_isF {X : Cx} : OpR X (compareOp .Is) rIs := OpR.or op_isN op_isBl
theorem op_isNotF {X : Cx} : OpR X (compareOp .IsNot) rIsNot := OpR.or op_notN op_notBl
theorem rr_none {g : G} {F H : Hp} {v : V} {b : B} (r : RR g F H v b) : decide (v = .non) = isNone (datOf b) := by
  cases b with
  | dat d => cases r <;> simp [datOf, isNone]
  | own m => exact r.elim
  | vw m =>
    obtain ⟨p, o, rfl, _⟩ := r
    cases m <;> simp [datOf, frzM, isNone]
  | bor m =>
    obtain ⟨p, o, rfl, _⟩ := r
    cases m <;> simp [datOf, frzM, isNone]
  | scr ns =>
    obtain ⟨p, rfl, _⟩ := r
    simp [datOf, isNone]
  | err k =>
    obtain ⟨p, _, _, _, rfl, _⟩ := r
    simp [datOf, isNone]
  | nst sh ls => exact r.elim
theorem g_is {g : G} : OpG g rIs (isB false) := by
  intro σ F H x y a b Q s ra rb p
  unfold isB at p
  split at p
  · cases rb
    split at p
    · exact p.elim
    · have q := p.bl s
      refine .inl ⟨rfl, ?_⟩
      rw [rr_none ra]
      simpa using q
  · split at p
    · cases ra
      cases rb
      have q := p.bl s
      exact .inr ⟨_, _, rfl, rfl, by simpa using q⟩
    · exact p.elim
  · exact p.elim
theorem g_isNot {g : G} : OpG g rIsNot (isB true) := by
  intro σ F H x y a b Q s ra rb p
  unfold isB at p
  split at p
  · cases rb
    split at p
    · exact p.elim
    · have q := p.bl s
      refine .inl ⟨rfl, ?_⟩
      rw [rr_none ra]
      simpa using q
  · split at p
    · cases ra
      cases rb
      have q := p.bl s
      exact .inr ⟨_, _, rfl, rfl, by simpa using q⟩
    · exact p.elim
  · exact p.elim
def keyD : D → Option Key
  | .int i => some (.inl i)
  | .str x => some (.inr x)
  | _ => none
def strIn (x y : Str) : Bool := !(Builtin.Str.occurrences y x 0 y.length 1).isEmpty
end Fn
namespace Fn
open PySem PySem.Spec PyProof.Rows L2
def leD : D → D → Bool := PySem.W.dataLe false toPy
def isTup1 : PyData → Bool
  | .tuple (_ :: _) => true
  | _ => false
def isPlain : PyData → Bool
  | .none => false
  | .tuple _ => false
  | _ => true
def sortOk (ds : List D) : Bool := (toPys ds).all SeqAt.shaped && ((toPys ds).all (fun a => (toPys ds).all fun b => PySem.W.alike a b) && ((toPys ds).all isTup1 || (toPys ds).all isPlain))
theorem sortOk_iff {ds : List D} (h : sortOk ds = true) : (∀ d ∈ ds, SeqAt.shaped (toPy d) = true) ∧ PySem.W.AllAlike (ds.map toPy) ∧ PySem.W.Sortable (ds.map toPy) := by
  unfold sortOk at h
  rw [toPys_map] at h
  simp only [Bool.and_eq_true, Bool.or_eq_true, List.all_eq_true] at h
  obtain ⟨h1, h2, h3⟩ := h
  refine ⟨fun d hd => h1 _ (List.mem_map.mpr ⟨d, hd, rfl⟩), fun d hd d' hd' => h2 d hd d' hd', ?_⟩
  rcases h3 with h3 | h3
  · refine .inl fun d hd => ?_
    have q := h3 d hd
    cases d with
    | tuple xs =>
      cases xs with
      | nil => cases q
      | cons x r => exact ⟨x, r, rfl⟩
    | _ => cases q
  · refine .inr fun d hd => ?_
    have q := h3 d hd
    constructor
    · rintro rfl
      cases q
    · rintro xs rfl
      cases q
mutual
theorem reads_lt {h : Heap} : ∀ (d : PyData) (v : Value) (as : List Addr), d.canLay0 = true → Reads h v d as → ∀ a ∈ as, a < h.objs.size
  | .none, _, _, _, r => by cases r; intro a ha; cases ha
  | .bool _, _, _, _, r => by cases r; intro a ha; cases ha
  | .int _, _, _, _, r => by cases r; intro a ha; cases ha
  | .str _, _, _, _, r => by cases r; intro a ha; cases ha
  | .list xs, _, _, c, r => by
    simp only [PyData.canLay0] at c
    cases r with
    | list h1 h2 h3 h4 =>
      intro a ha
      rcases List.mem_cons.mp ha with e | ha
      · rw [e]; exact Heap.lt_size h1
      · exact readsAll_lt xs _ _ c h4 a ha
  | .tuple xs, _, _, c, r => by
    simp only [PyData.canLay0] at c
    cases r with
    | tuple h1 h2 h3 h4 =>
      intro a ha
      exact readsAll_lt xs _ _ c h4 a ha
  | .dict _, _, _, c, r => by simp [PyData.canLay0] at c
theorem readsAll_lt {h : Heap} : ∀ (ds : List PyData) (vs : List Value) (as : List Addr), PyData.canLayAll0 ds = true → ReadsAll h vs ds as → ∀ a ∈ as, a < h.objs.size
  | [], _, _, _, r => by cases r; intro a ha; cases ha
  | d :: ds, _, _, c, r => by
    simp only [PyData.canLayAll0, Bool.and_eq_true] at c
    cases r with
    | cons h1 h2 =>
      intro a ha
      rcases List.mem_append.mp ha with hm | hm
      · exact reads_lt d _ _ c.1 h1 a hm
      · exact readsAll_lt ds _ _ c.2 h2 a hm
end
section
variable {X : Cx} {pins : List (Addr × Obj)} {σ : L2.St} {H : Hp} {s : Shared}
theorem each_of (I : Inv X pins σ H s) : ∀ {xs : List V} {us : List Value} {ds : List D}, Vals xs us → DpAll X.K H xs (toPys ds) →
    PySem.W.EachIs (fun v (b : V × D) => RelV b.1 v) us (xs.zip ds) ∧ PySem.W.EachIs (fun v (b : V × D) => ∃ as, Reads s.heap v (toPy b.2) as) us (xs.zip ds)
  | [], _, [], .nil, _ => ⟨.nil, .nil⟩
  | [], _, _ :: _, .nil, h => by
    simp only [toPys] at h
    cases h
  | _ :: _, _, [], .cons _ _, h => by
    simp only [toPys] at h
    cases h
  | x :: xs, u :: us, d :: ds, .cons r t, h => by
    simp only [toPys] at h
    cases h with
    | cons h1 h2 =>
      obtain ⟨e1, e2⟩ := each_of I t h2
      exact ⟨.cons r e1, .cons (Dp.reads I _ _ _ h1 r) e2⟩
theorem each_vals : ∀ {us : List Value} {bs : List (V × D)}, PySem.W.EachIs (fun v (b : V × D) => RelV b.1 v) us bs → Vals (bs.map (·.1)) us
  | _, _, .nil => .nil
  | _, _, .cons r t => .cons r (each_vals t)
def sortZ (xs : List V) (ds : List D) : List (V × D) := (xs.zip ds).mergeSort (PySem.W.dataLe false fun b => toPy b.2)
theorem zip_snd : ∀ {xs : List V} {ds : List D}, xs.length = ds.length → (xs.zip ds).map (·.2) = ds
  | [], [], _ => rfl
  | _ :: _, _ :: _, h => by
    rw [List.zip_cons_cons, List.map_cons, zip_snd (by simpa using h)]
  | [], _ :: _, h => by simp at h
  | _ :: _, [], h => by simp at h
theorem sortZ_snd {xs : List V} {ds : List D} (h : xs.length = ds.length) : (sortZ xs ds).map (·.2) = ds.mergeSort leD := by
  unfold sortZ leD
  have e := List.map_mergeSort (r := PySem.W.dataLe false fun b : V × D => toPy b.2) (s := PySem.W.dataLe false toPy) (f := fun b : V × D => b.2) (l := xs.zip ds) (fun a _ b _ => rfl)
  rw [zip_snd h] at e
  exact e
theorem rp_zip {K : PySem.W.Frag} {fa : Nat → Option Addr} {F : Hp} : ∀ {xs : List V} {ds : List D}, RpAll K fa F xs ds → ∀ b ∈ xs.zip ds, Rp K fa F b.1 b.2
  | _, _, .nil, b, hb => by simp at hb
  | _, _, .cons h r, b, hb => by
    rw [List.zip_cons_cons] at hb
    rcases List.mem_cons.mp hb with rfl | hb
    · exact h
    · exact rp_zip r b hb
theorem rp_unzip {K : PySem.W.Frag} {fa : Nat → Option Addr} {F : Hp} : ∀ {bs : List (V × D)}, (∀ b ∈ bs, Rp K fa F b.1 b.2) → RpAll K fa F (bs.map (·.1)) (bs.map (·.2))
  | [], _ => .nil
  | b :: bs, h => .cons (h b List.mem_cons_self) (rp_unzip fun c hc => h c (List.mem_cons_of_mem _ hc))
theorem sortZ_rp {K : PySem.W.Frag} {fa : Nat → Option Addr} {F : Hp} {xs : List V} {ds : List D} (r : RpAll K fa F xs ds) : RpAll K fa F ((sortZ xs ds).map (·.1)) (ds.mergeSort leD) := by
  rw [← sortZ_snd r.len]
  exact rp_unzip fun b hb => rp_zip r b ((List.mergeSort_perm _ _).mem_iff.mp hb)
theorem map_toPy_zip {xs : List V} {ds : List D} (h : xs.length = ds.length) : (xs.zip ds).map (fun b => toPy b.2) = ds.map toPy := by
  have e : (xs.zip ds).map (fun b => toPy b.2) = ((xs.zip ds).map (·.2)).map toPy := by rw [List.map_map]; rfl
  rw [e, zip_snd h]
def rSortF (K : PySem.W.Frag) : List V → Hp → VK → Prop := fun vs H Q => ∃ (a : Addr) (xs : List V) (ds : List D), vs = [.ref a] ∧ SqL K H a xs ∧ DpAll K H xs (toPys ds) ∧ xs.length = ds.length ∧ sortOk ds = true ∧
  ∀ p, H p = none → Q (.ref p) (upd H p (.lst ((sortZ xs ds).map (·.1))))
theorem cr_sortF (hu : X.A.units + 100 < cLine) : CallR X (.builtin "sorted") (rSortF X.K) := by
  intro pins s σ H vs us Q I r h
  obtain ⟨a, xs, ds, rfl, hs, hd, hl, ho, q⟩ := h
  obtain ⟨its, rv, pl, hz⟩ := I.list hs
  rw [Vals.ref1 r]
  obtain ⟨o1, o2, o3⟩ := sortOk_iff ho
  obtain ⟨e1, e2⟩ := each_of I rv hd
  have hlz : (xs.zip ds).length = xs.length := by rw [List.length_zip, ← hl]; exact Nat.min_self _
  refine PySem.W.sorted_data (bs := xs.zip ds) (enc := fun b => toPy b.2) pl.isList e1 e2 (by rw [map_toPy_zip hl]; exact o2) (by rw [map_toPy_zip hl]; exact o3) (by rw [hlz]; exact hz) (fun b hb => ?_) fun out ho1 ho2 => ?_
  · have := SeqAt.depth_of_shaped (o1 b.2 (List.of_mem_zip hb).2)
    omega
  · obtain ⟨ep, he'⟩ := PyProof.Rows.sortedAll_at s.heap its out.toArray
    have hv : Vals ((sortZ xs ds).map (·.1)) out := each_vals ho2
    have hlen : ((sortZ xs ds).map (·.1)).length ≤ sizeLine := by rw [hv.length, ho1, hlz]; exact hz
    exact ⟨.ref _, upd H (s.heap.objs.size + 1) (.lst ((sortZ xs ds).map (·.1))), I.laid (t' := s.toks) (fun _ _ => PyProof.Rows.sortedAll_old) (Nat.le_succ _) ⟨hlen, out, ep, hv, he'⟩, rfl, q _ (I.hok.fresh (Nat.le_succ _))⟩
theorem sort_new {A : Around} {E : Value → Shared → Prop} {xs : List V} {us : List Value} {ds : List D} {Q : VK} {tk : Nat} {h' : Heap} (hu : A.units + 100 < cLine) (I : Inv X pins σ H { s with heap := h', toks := tk }) (rv : Vals xs us) (hd : DpAll X.K H xs (toPys ds)) (hl : xs.length = ds.length)
    (ho : sortOk ds = true) (hz : xs.length ≤ sizeLine) (q : ∀ p, H p = none → Q (.ref p) (upd H p (.lst ((sortZ xs ds).map (·.1))))) :
    wpAny (model X.prog X.w) A (call (.builtin "list.sort") [.ref h'.objs.size]) (fun _ s' => EP X pins σ Q (.ref h'.objs.size) s') E { s with heap := h'.push (seqObj "list" us.toArray 0), toks := tk } := by
  obtain ⟨o1, o2, o3⟩ := sortOk_iff ho
  obtain ⟨e1, e2⟩ := each_of I rv hd
  have hlz : (xs.zip ds).length = xs.length := by rw [List.length_zip, ← hl]; exact Nat.min_self _
  have hoL : (h'.push (seqObj "list" us.toArray 0)).get? h'.objs.size = some (seqObj "list" us.toArray 0) := Heap.get?_push_size _ rfl
  have e3 : PySem.W.EachIs (fun v (b : V × D) => ∃ as, Reads (h'.push (seqObj "list" us.toArray 0)) v (toPy b.2) as ∧ h'.objs.size ∉ as) us (xs.zip ds) := by
    have go : ∀ {vs : List Value} {bs : List (V × D)}, (∀ b ∈ bs, SeqAt.shaped (toPy b.2) = true) → PySem.W.EachIs (fun v (b : V × D) => ∃ as, Reads h' v (toPy b.2) as) vs bs → PySem.W.EachIs (fun v (b : V × D) => ∃ as, Reads (h'.push (seqObj "list" us.toArray 0)) v (toPy b.2) as ∧ h'.objs.size ∉ as) vs bs := by
      intro vs bs hs e
      induction e with
      | nil => exact .nil
      | cons r t ih =>
        obtain ⟨as, rr⟩ := r
        refine .cons ⟨as, PyProof.Rows.Reads.keeps (fun b o e => Heap.get?_push_of_some _ e) rr, fun hm => Nat.lt_irrefl _ (reads_lt _ _ _ (SeqAt.canLay_of_shaped (hs _ List.mem_cons_self)) rr _ hm)⟩ (ih fun b hb => hs b (List.mem_cons_of_mem _ hb))
    exact go (fun b hb => o1 b.2 (List.of_mem_zip hb).2) e2
  refine PySem.W.list_sort_data (bs := xs.zip ds) (enc := fun b => toPy b.2) (s := { s with heap := h'.push (seqObj "list" us.toArray 0), toks := tk }) hoL e1 e3
    (by rw [map_toPy_zip hl]; exact o2) (by rw [map_toPy_zip hl]; exact o3) (by rw [hlz]; exact hz) (fun b hb => ?_) fun out ho1 ho2 => ?_
  · have := SeqAt.depth_of_shaped (o1 b.2 (List.of_mem_zip hb).2)
    omega
  · have hv : Vals ((sortZ xs ds).map (·.1)) out := each_vals ho2
    have hlen : ((sortZ xs ds).map (·.1)).length ≤ sizeLine := by rw [hv.length, ho1, hlz]; exact hz
    obtain ⟨e', he'⟩ := PyProof.Rows.sortedHeap_at (vs := us) (out := out.toArray) hoL
    refine ⟨.ref h'.objs.size, upd H h'.objs.size (.lst ((sortZ xs ds).map (·.1))), I.laid (t' := tk) (fun b u e => ?_) (Nat.le_refl _) (show ObjOk X.prog X.w _ _ _ (.lst ((sortZ xs ds).map (·.1))) from ⟨hlen, out, e', hv, he'⟩), rfl, q _ (I.hok.fresh (Nat.le_refl _))⟩
    have hb : b < h'.objs.size := Heap.lt_size e
    rw [PyProof.Rows.sortedHeap_old (Nat.ne_of_lt hb) (by rw [size_push']; exact Nat.lt_succ_of_lt hb)]
    exact Heap.get?_push_of_some _ e
end
section
variable {X : Cx}
def rSortDk (K : PySem.W.Frag) : List V → Hp → VK → Prop := fun vs H Q => ∃ (a : Addr) (kvs : List (Key × V)) (ds : List D), vs = [.ref a] ∧ Rd H a (.dK kvs) ∧ DpAll K H (kvs.map fun kv => kV kv.1) (toPys ds) ∧ kvs.length = ds.length ∧ sortOk ds = true ∧
  ∀ p, H p = none → Q (.ref p) (upd H p (.lst ((sortZ (kvs.map fun kv => kV kv.1) ds).map (·.1))))
theorem cr_sortDk (hc : X.calm = true) (hu : X.A.units + 200 < cLine) : CallR X (.builtin "sorted") (rSortDk X.K) := by
  intro pins s σ H xs us Q I r q
  obtain ⟨a, kvs, ds, ex, hd, hdp, hl, ho, q⟩ := q
  subst ex
  obtain ⟨u, eu, rx⟩ := vals1 r
  subst eu
  cases rx
  obtain ⟨z, lo, vs, rel, dd⟩ := dk_rd I.hok hd
  obtain ⟨ep, hat⟩ := dd.dictAt
  have hl2 : kvs.length = vs.length := Paired.length rel
  have h16 : vs.length ≤ sizeLine := by rw [← hl2]; exact z
  refine Calls.call_function_entry PyProof.Rows.kind_sorted PyProof.Rows.plain_sorted PyProof.Rows.entry_sorted (PyProof.Rows.args_sorted1 _) ?_
  unfold Builtin.«sorted»
  refine wpAny_bind (m := checkCount "sorted" 1 1 _) (wpAny_pure ?_)
  refine wpAny_bind (PySem.W.kdu_collect (A := X.A.in1) (PySem.W.kdl_dict (knd := mixKind X.prog X.w) (kvs := vs) (ep := ep) lo) (I.ok.hd hc) hat h16 fun h' tk acc hk hacc => ?_)
  have I1 : Inv X pins σ H { s with heap := h', toks := tk } := I.kept hk
  have rv : Vals (kvs.map fun kv => kV kv.1) acc.toList := by
    refine vals_of_at (by rw [List.length_map, hl2, ← hacc.1]; exact Array.length_toList.symm) fun j x w h1 h2 => ?_
    obtain ⟨k, y, hky, hi⟩ := hacc.2 j w (by rw [← Array.getElem?_toList]; exact h2)
    have e1 : (kvs.map (·.1))[j]? = some k := by
      rw [KV.keys rel, List.getElem?_map, hky] <;> rfl
    have e2 : (kvs.map fun kv => kV kv.1)[j]? = some (kV k) := by
      have e3 : (kvs.map fun kv => kV kv.1) = (kvs.map (·.1)).map kV := by rw [List.map_map] <;> rfl
      rw [e3, List.getElem?_map, e1] <;> rfl
    rw [e2] at h1
    cases h1
    exact keyIs_rel hi
  refine wpAny_bind (wpAny_newList ?_ (by have e : acc.toList.length = acc.size := by {simp}; rw [e, hacc.1]; exact h16))
  refine wpAny_bind (wpAny_holding (wpAny_mono (sort_new (A := X.A.in1) (E := X.xe) (s := s) (Q := Q) (by show X.A.units + 1 + 100 < cLine; omega) I1 rv hdp (by rw [List.length_map]; exact hl) ho (by rw [List.length_map]; exact z) q) (fun _ s' x => ?_) fun _ _ e => e))
  exact wpAny_pure ⟨_, rfl, x⟩
end
end Fn
namespace Fn
open PySem PySem.Spec PyProof.Rows L2
def keyB : Key → D
  | .inl i => .int i
  | .inr x => .str x
def kD (k : List Key) : D := .tup (k.map keyB)
section
variable {X : Cx}
def rSortDt (K : PySem.W.Frag) : List V → Hp → VK → Prop := fun vs H Q => ∃ (a : Addr) (kvs : List (List Key × V)), vs = [.ref a] ∧ Rd H a (.dT kvs) ∧ sortOk (kvs.map fun kv => kD kv.1) = true ∧
  ∀ p bs, H p = none → IsKeys H kvs bs → Q (.ref p) (upd H p (.lst ((sortZ (bs.map V.ref) (kvs.map fun kv => kD kv.1)).map (·.1))))
theorem kV_dp {K : PySem.W.Frag} {H : Hp} : ∀ (k : List Key), DpAll K H (k.map kV) (toPys (k.map keyB))
  | [] => .nil
  | .inl i :: r => .cons (.int i) (kV_dp r)
  | .inr x :: r => .cons (.str x) (kV_dp r)
theorem keys_dp {K : PySem.W.Frag} {H : Hp} : ∀ {kvs : List (List Key × V)} {bs : List Addr}, IsKeys H kvs bs → DpAll K H (bs.map V.ref) (toPys (kvs.map fun kv => kD kv.1))
  | _, _, .nil => .nil
  | _, _, .cons h r => .cons (.tup (SqT.of h) (kV_dp _)) (keys_dp r)
theorem cr_sortDt (hc : X.calm = true) (hu : X.A.units + 200 < cLine) : CallR X (.builtin "sorted") (rSortDt X.K) := by
  intro pins s σ H xs us Q I r h
  obtain ⟨d, kvs, rfl, hd, ho1, q⟩ := h
  obtain ⟨u, rfl, rx⟩ := r.one
  cases rx
  obtain ⟨z, hs, ks, pr, o, es, ep, ho, hx, hdt, he, hn⟩ := (show ObjOk X.prog X.w H s.heap d (.dT kvs) from hd.ok I.hok)
  have l1 : es.size = ks.length := size_of_entries he
  have l2 : kvs.length = ks.length := Paired.length pr
  refine Calls.call_function_entry PyProof.Rows.kind_sorted PyProof.Rows.plain_sorted PyProof.Rows.entry_sorted (PyProof.Rows.args_sorted1 _) ?_
  unfold Builtin.«sorted»
  refine wpAny_bind (m := checkCount "sorted" 1 1 _) (wpAny_pure ?_)
  refine wpAny_bind (PySem.W.kdu_collect (A := X.A.in1) (kdl_raw hs hx hdt) (I.ok.hd hc) ho (by omega) fun h' tk acc' hk it => ?_)
  have ea : acc'.toList = ks.map fun x => Value.ref x.2.1 := by
    have hl : acc'.toList.length = ks.length := by rw [Array.length_toList, it.1]; exact l1
    apply List.ext_getElem?
    intro j
    rw [List.getElem?_map]
    cases hj : acc'.toList[j]? with
    | none =>
      have h1 := List.getElem?_eq_none_iff.mp hj
      rw [List.getElem?_eq_none (by omega)]
      all_goals rfl
    | some v =>
      obtain ⟨en, hen, hv⟩ := it.2 j v (by rw [← Array.getElem?_toList]; exact hj)
      have qe := entry_at he j
      rw [hen] at qe
      cases hb : ks[j]? with
      | none =>
        rw [hb] at qe
        exact nomatch (show some en = none from qe)
      | some b =>
        rw [hb] at qe
        have e2 : en = entryOfKey (tupleKind (mixKind X.prog X.w)) b := Option.some.inj qe
        rw [hv, e2]
        all_goals rfl
  have eb : acc'.toList = (ks.map fun x => x.2.1).map Value.ref := by rw [ea, List.map_map]; all_goals rfl
  have rv : Vals ((ks.map fun x => x.2.1).map V.ref) acc'.toList := by rw [eb]; exact vals_refs _
  have hz : ((ks.map fun x => x.2.1).map V.ref).length ≤ sizeLine := by rw [List.length_map, List.length_map]; omega
  have I1 : Inv X pins σ H { s with heap := h', toks := tk } := I.kept hk
  have hK : IsKeys H kvs (ks.map fun x => x.2.1) := isKeys_of pr
  refine wpAny_bind (wpAny_newList ?_ (by rw [← rv.length]; exact hz))
  refine wpAny_bind (wpAny_holding (wpAny_mono (sort_new (A := X.A.in1) (E := X.xe) (s := s) (Q := Q) (by show X.A.units + 1 + 100 < cLine; omega) I1 rv (keys_dp hK) (by rw [List.length_map, List.length_map, List.length_map]; exact l2.symm) ho1 hz (fun p hp => q p _ hp hK)) (fun _ s' x => ?_) fun _ _ e => e))
  exact wpAny_pure ⟨_, rfl, x⟩
end
end Fn
namespace Fn
open PySem PySem.Spec PyProof.Rows L2
def getK {κ : Type} [DecidableEq κ] (kvs : List (κ × D)) (k : κ) : Option D := (kvs.find? fun kv => decide (kv.1 = k)).map (·.2)
def putD {κ : Type} [DecidableEq κ] (kvs : List (κ × D)) (k : κ) (v : D) : List (κ × D) :=
  if (kvs.any fun kv => decide (kv.1 = k)) = true then kvs.map (fun kv => if kv.1 = k then (kv.1, v) else kv) else kvs ++ [(k, v)]
section
variable {κ : Type} [DecidableEq κ] {K : PySem.W.Frag} {fa : Nat → Option Addr} {F : Hp}
theorem get_rel : ∀ {kvs : List (κ × V)} {kds : List (κ × D)}, kvs.map (·.1) = kds.map (·.1) → RpAll K fa F (kvs.map (·.2)) (kds.map (·.2)) → ∀ k,
    (valV kvs k = none ∧ getK kds k = none) ∨ ∃ v d, valV kvs k = some v ∧ getK kds k = some d ∧ Rp K fa F v d
  | [], [], _, _, _ => .inl ⟨rfl, rfl⟩
  | [], _ :: _, h, _, _ => by simp at h
  | _ :: _, [], h, _, _ => by simp at h
  | (a, v) :: kvs, (b, d) :: kds, h, r, k => by
    simp only [List.map_cons, List.cons.injEq] at h r
    obtain ⟨e, h⟩ := h
    subst e
    cases r with
    | cons r1 r2 =>
      by_cases c : a = k
      · refine .inr ⟨v, d, ?_, ?_, r1⟩
        · simp [valV, List.find?_cons, c]
        · simp [getK, List.find?_cons, c]
      · rcases get_rel h r2 k with ⟨h1, h2⟩ | ⟨v', d', h1, h2, h3⟩
        · refine .inl ⟨?_, ?_⟩
          · simpa [valV, List.find?_cons, c] using h1
          · simpa [getK, List.find?_cons, c] using h2
        · refine .inr ⟨v', d', ?_, ?_, h3⟩
          · simpa [valV, List.find?_cons, c] using h1
          · simpa [getK, List.find?_cons, c] using h2
theorem any_rel : ∀ {kvs : List (κ × V)} {kds : List (κ × D)}, kvs.map (·.1) = kds.map (·.1) → ∀ k, (kvs.any fun kv => decide (kv.1 = k)) = (kds.any fun kv => decide (kv.1 = k))
  | [], [], _, _ => rfl
  | [], _ :: _, h, _ => by simp at h
  | _ :: _, [], h, _ => by simp at h
  | (a, v) :: kvs, (b, d) :: kds, h, k => by
    simp only [List.map_cons, List.cons.injEq] at h
    obtain ⟨e, h⟩ := h
    subst e
    simp only [List.any_cons]
    rw [any_rel h k]
theorem put_keys : ∀ {kvs : List (κ × V)} {kds : List (κ × D)}, kvs.map (·.1) = kds.map (·.1) → ∀ k v d, (putK kvs k v).map (·.1) = (putD kds k d).map (·.1) := by
  intro kvs kds h k v d
  unfold putK putD
  rw [any_rel h k]
  split
  · rw [List.map_map, List.map_map]
    have e1 : ((fun x : κ × V => x.1) ∘ fun kv : κ × V => if kv.1 = k then (kv.1, v) else kv) = fun x => x.1 := by
      funext x
      show (if x.1 = k then (x.1, v) else x).1 = x.1
      split <;> rfl
    have e2 : ((fun x : κ × D => x.1) ∘ fun kv : κ × D => if kv.1 = k then (kv.1, d) else kv) = fun x => x.1 := by
      funext x
      show (if x.1 = k then (x.1, d) else x).1 = x.1
      split <;> rfl
    rw [e1, e2, h]
  · rw [List.map_append, List.map_append, h]
    rfl
theorem put_map {v : V} {d : D} {k : κ} (hv : Rp K fa F v d) : ∀ {kvs : List (κ × V)} {kds : List (κ × D)}, kvs.map (·.1) = kds.map (·.1) → RpAll K fa F (kvs.map (·.2)) (kds.map (·.2)) →
    RpAll K fa F ((kvs.map fun kv => if kv.1 = k then (kv.1, v) else kv).map (·.2)) ((kds.map fun kv => if kv.1 = k then (kv.1, d) else kv).map (·.2))
  | [], [], _, _ => .nil
  | [], _ :: _, h, _ => by simp at h
  | _ :: _, [], h, _ => by simp at h
  | (a, x) :: kvs, (b, y) :: kds, h, r => by
    simp only [List.map_cons, List.cons.injEq] at h r ⊢
    obtain ⟨e, h⟩ := h
    subst e
    cases r with
    | cons r1 r2 =>
      by_cases c : a = k
      · rw [if_pos c, if_pos c]
        exact .cons hv (put_map hv h r2)
      · rw [if_neg c, if_neg c]
        exact .cons r1 (put_map hv h r2)
theorem put_rel {kvs : List (κ × V)} {kds : List (κ × D)} (h : kvs.map (·.1) = kds.map (·.1)) (r : RpAll K fa F (kvs.map (·.2)) (kds.map (·.2))) {k : κ} {v : V} {d : D} (hv : Rp K fa F v d) :
    RpAll K fa F ((putK kvs k v).map (·.2)) ((putD kds k d).map (·.2)) := by
  unfold putK putD
  rw [any_rel h k]
  split
  · exact put_map hv h r
  · rw [List.map_append, List.map_append]
    exact r.app (.cons hv .nil)
end
def dkOf : B → Option (List (Key × D))
  | .dat (.dk kvs) => some kvs
  | .vw (.k kvs) => some kvs
  | .bor (.k kvs) => some kvs
  | _ => none
def dtOf : B → Option (List (List Key × D))
  | .dat (.dt kvs) => some kvs
  | .vw (.t kvs) => some kvs
  | .bor (.t kvs) => some kvs
  | _ => none
def tkeyL : List D → Option (List Key)
  | [] => some []
  | d :: ds => match keyD d, tkeyL ds with
    | some k, some ks => some (k :: ks)
    | _, _ => none
def tkey : B → Option (List Key)
  | .dat (.tup xs) => tkeyL xs
  | _ => none
section
variable {g : G} {F H : Hp} {v : V} {b : B}
theorem dkOf_ok {kds : List (Key × D)} (s : Sm g F H) (r : RR g F H v b) (h : dkOf b = some kds) : ∃ a kvs, v = .ref a ∧ H a = some (.dK kvs) ∧ kvs.map (·.1) = kds.map (·.1) ∧ RpAll g.K g.fa F (kvs.map (·.2)) (kds.map (·.2)) := by
  unfold dkOf at h
  split at h
  · cases h
    cases r with
    | dk h1 h2 h3 => exact ⟨_, _, rfl, s.fh _ _ h1, h2, h3⟩
  · cases h
    obtain ⟨p, o, rfl, h1, h2⟩ := r
    cases h2 with
    | k h2 h3 => exact ⟨_, _, rfl, h1, h2, h3⟩
  · cases h
    obtain ⟨p, o, rfl, h1, h2⟩ := r
    cases h2 with
    | k h2 h3 => exact ⟨_, _, rfl, s.gh _ _ h1, h2, h3⟩
  · cases h
theorem dtOf_ok {kds : List (List Key × D)} (s : Sm g F H) (r : RR g F H v b) (h : dtOf b = some kds) : ∃ a kvs, v = .ref a ∧ H a = some (.dT kvs) ∧ kvs.map (·.1) = kds.map (·.1) ∧ RpAll g.K g.fa F (kvs.map (·.2)) (kds.map (·.2)) := by
  unfold dtOf at h
  split at h
  · cases h
    cases r with
    | dt h1 h2 h3 => exact ⟨_, _, rfl, s.fh _ _ h1, h2, h3⟩
  · cases h
    obtain ⟨p, o, rfl, h1, h2⟩ := r
    cases h2 with
    | t h2 h3 => exact ⟨_, _, rfl, h1, h2, h3⟩
  · cases h
    obtain ⟨p, o, rfl, h1, h2⟩ := r
    cases h2 with
    | t h2 h3 => exact ⟨_, _, rfl, s.gh _ _ h1, h2, h3⟩
  · cases h
theorem keyD_ok {k : Key} {d : D} (h : keyD d = some k) (r : Rp g.K g.fa F v d) : v = kV k := by
  unfold keyD at h
  split at h
  · cases h; cases r; rfl
  · cases h; cases r; rfl
  · cases h
theorem tkeyL_ok : ∀ {ds : List D} {vs : List V} {ks : List Key}, tkeyL ds = some ks → RpAll g.K g.fa F vs ds → vs = ks.map kV
  | [], _, _, h, r => by cases h; cases r; rfl
  | d :: ds, _, ks, h, r => by
    unfold tkeyL at h
    split at h
    · rename_i k ks' h1 h2
      cases h
      cases r with
      | cons r1 r2 => rw [keyD_ok h1 r1, tkeyL_ok h2 r2]; rfl
    · cases h
theorem tkey_ok {ks : List Key} (s : Sm g F H) (r : RR g F H v b) (h : tkey b = some ks) : ∃ a, v = .ref a ∧ H a = some (.tup (ks.map kV)) := by
  unfold tkey at h
  split at h
  · cases r with
    | tup h1 h2 => exact ⟨_, rfl, by rw [← tkeyL_ok h h2]; exact s.fh _ _ h1⟩
  · cases h
theorem rr_key {k : Key} (r : RR g F H v b) (h : keyD (datOf b) = some k) : v = kV k := by
  cases b with
  | dat d => exact keyD_ok h r
  | own m => exact r.elim
  | vw m => cases m <;> cases h
  | bor m => cases m <;> cases h
  | scr ns => cases h
  | err k => cases h
  | nst sh ls => exact r.elim
end
def lkOf : B → Option (List (Key × D))
  | .dat (.lk kvs) => some kvs
  | _ => none
def ltOf : B → Option (List (List Key × D))
  | .dat (.lt kvs) => some kvs
  | _ => none
theorem lkOf_ok {g : G} {F H : Hp} {v : V} {b : B} {kds : List (Key × D)} (s : Sm g F H) (r : RR g F H v b) (h : lkOf b = some kds) : ∃ a o kvs, v = .ref a ∧ F a = some (.frz o (.dK kvs)) ∧ kvs.map (·.1) = kds.map (·.1) ∧ RpAll g.K g.fa F (kvs.map (·.2)) (kds.map (·.2)) := by
  unfold lkOf at h
  split at h
  · cases h
    cases r with
    | lk h1 h2 h3 => exact ⟨_, _, _, rfl, h1, h2, h3⟩
  · cases h
theorem ltOf_ok {g : G} {F H : Hp} {v : V} {b : B} {kds : List (List Key × D)} (s : Sm g F H) (r : RR g F H v b) (h : ltOf b = some kds) : ∃ a o kvs, v = .ref a ∧ F a = some (.frz o (.dT kvs)) ∧ kvs.map (·.1) = kds.map (·.1) ∧ RpAll g.K g.fa F (kvs.map (·.2)) (kds.map (·.2)) := by
  unfold ltOf at h
  split at h
  · cases h
    cases r with
    | lt h1 h2 h3 => exact ⟨_, _, _, rfl, h1, h2, h3⟩
  · cases h
def dgetB (a k : B) : Option (Option D) := match dkOf a with
  | some kvs => (match keyD (datOf k) with | some q => some (getK kvs q) | none => none)
  | none => (match dtOf a with
    | some kvs => (match tkey k with | some q => some (getK kvs q) | none => none)
    | none => (match lkOf a with
      | some kvs => (match keyD (datOf k) with | some q => some (getK kvs q) | none => none)
      | none => (match ltOf a with
        | some kvs => (match tkey k with | some q => some (getK kvs q) | none => none)
        | none => none)))
theorem dgetB_ok {g : G} {F H : Hp} {x y : V} {a k : B} {o : Option D} (s : Sm g F H) (ra : RR g F H x a) (rk : RR g F H y k) (h : dgetB a k = some o) :
    ∃ p ov, x = .ref p ∧ DGet H p y ov ∧ ((ov = none ∧ o = none) ∨ ∃ v d, ov = some v ∧ o = some d ∧ Rp g.K g.fa F v d) := by
  unfold dgetB at h
  split at h
  · rename_i kvs hk
    obtain ⟨p, kv, rfl, h1, h2, h3⟩ := dkOf_ok s ra hk
    split at h
    · rename_i q hq
      cases h
      have e := rr_key rk hq
      subst e
      exact ⟨p, _, rfl, DGet.k h1, get_rel h2 h3 q⟩
    · cases h
  · split at h
    · rename_i kvs hk
      obtain ⟨p, kv, rfl, h1, h2, h3⟩ := dtOf_ok s ra hk
      split at h
      · rename_i q hq
        cases h
        obtain ⟨b, rfl, hb⟩ := tkey_ok s rk hq
        exact ⟨p, _, rfl, DGet.t h1 hb, get_rel h2 h3 q⟩
      · cases h
    · split at h
      · rename_i kvs hk
        obtain ⟨p, o', kv, rfl, h1, h2, h3⟩ := lkOf_ok s ra hk
        split at h
        · rename_i q hq
          cases h
          have e := rr_key rk hq
          subst e
          exact ⟨p, _, rfl, .inl ⟨kv, q, .inr ⟨o', s.fh _ _ h1⟩, rfl, rfl⟩, get_rel h2 h3 q⟩
        · cases h
      · split at h
        · rename_i kvs hk
          obtain ⟨p, o', kv, rfl, h1, h2, h3⟩ := ltOf_ok s ra hk
          split at h
          · rename_i q hq
            cases h
            obtain ⟨b, rfl, hb⟩ := tkey_ok s rk hq
            exact ⟨p, _, rfl, .inr ⟨kv, q, b, .inr ⟨o', s.fh _ _ h1⟩, rfl, hb, rfl⟩, get_rel h2 h3 q⟩
          · cases h
        · cases h
def inSeq (d : D) (ds : List D) (lst : Bool) : Res Bool :=
  if (SeqAt.shaped (toPy d) && SeqAt.shaped (.list (toPys ds))) = true then .ok (ds.any fun e => PyData.eqv (toPy e) (toPy d)) else .bad
def inB (neg : Bool) (a b : B) : Res B := match b with
  | .dat (.str y) => (match a with | .dat (.str x) => .ok (.dat (.bl (strIn x y != neg))) | _ => .bad)
  | b => match dgetB b a with
    | some o => .ok (.dat (.bl (o.isSome != neg)))
    | none => match seqI b with
      | some ds => (inSeq (datOf a) ds true).bind fun k => .ok (.dat (.bl (k != neg)))
      | none => .bad
def rInS (K : PySem.W.Frag) (neg : Bool) : R2 := fun x y H Q => ∃ d ds, Dp K H x d ∧ (Dp K H y (.list ds) ∨ Dp K H y (.tuple ds)) ∧ SeqAt.shaped d = true ∧ SeqAt.shaped (.list ds) = true ∧ Q (.bl ((ds.any fun z => PyData.eqv z d) != neg)) H
theorem room_seq {A : Around} {d : PyData} {ds : List PyData} (hd : SeqAt.shaped d = true) (hu : A.units + 100 < cLine) : A.units + 1 + min (PyData.depthAll ds) d.depth < cLine := by
  have := SeqAt.depth_of_shaped hd
  have h2 : min (PyData.depthAll ds) d.depth ≤ d.depth := Nat.min_le_right _ _
  omega
theorem op_inS {X : Cx} (hu : X.A.units + 100 < cLine) : OpR X (compareOp .In) (rInS X.K false) := by
  intro pins s σ H x y v u Q I rx ry h
  obtain ⟨d, ds, hd, he, sd, se, q⟩ := h
  obtain ⟨as, r1⟩ := Dp.reads I d x v hd rx
  have q' : Q (.bl (ds.any fun z => PyData.eqv z d)) H := by simpa using q
  rcases he with he | he
  · obtain ⟨bs, r2⟩ := Dp.reads I (.list ds) y u he ry
    exact SeqAt.in_list_reads r2 r1 (SeqAt.canLay_of_shaped se) (SeqAt.canLay_of_shaped sd) (room_seq sd hu) ⟨.bl _, H, I, rfl, q'⟩
  · obtain ⟨bs, r2⟩ := Dp.reads I (.tuple ds) y u he ry
    exact SeqAt.in_tuple_reads r2 r1 (SeqAt.canLay_of_shaped se) (SeqAt.canLay_of_shaped sd) (room_seq sd hu) ⟨.bl _, H, I, rfl, q'⟩
theorem op_notInS {X : Cx} (hu : X.A.units + 100 < cLine) : OpR X (compareOp .NotIn) (rInS X.K true) := by
  intro pins s σ H x y v u Q I rx ry h
  obtain ⟨d, ds, hd, he, sd, se, q⟩ := h
  obtain ⟨as, r1⟩ := Dp.reads I d x v hd rx
  have q' : Q (.bl (!ds.any fun z => PyData.eqv z d)) H := by simpa using q
  rcases he with he | he
  · obtain ⟨bs, r2⟩ := Dp.reads I (.list ds) y u he ry
    exact SeqAt.notIn_list_reads r2 r1 (SeqAt.canLay_of_shaped se) (SeqAt.canLay_of_shaped sd) (room_seq sd hu) ⟨.bl _, H, I, rfl, q'⟩
  · obtain ⟨bs, r2⟩ := Dp.reads I (.tuple ds) y u he ry
    exact SeqAt.notIn_tuple_reads r2 r1 (SeqAt.canLay_of_shaped se) (SeqAt.canLay_of_shaped sd) (room_seq sd hu) ⟨.bl _, H, I, rfl, q'⟩
def rInDk (neg : Bool) : R2 := fun y x H Q => ∃ a o, x = .ref a ∧ DGet H a y o ∧ Q (.bl (o.isSome != neg)) H
theorem op_inDk {X : Cx} (hu : X.A.units + 100 < cLine) : OpR X (compareOp .In) (rInDk false) := by
  intro pins s σ H y x v u Q I ry rx h
  obtain ⟨a, o, rfl, gd, q⟩ := h
  cases rx
  exact d_in (by omega) I gd ry fun s' I' => ⟨.bl _, H, I', rfl, by simpa using q⟩
theorem op_notInDk {X : Cx} (hu : X.A.units + 100 < cLine) : OpR X (compareOp .NotIn) (rInDk true) := by
  intro pins s σ H y x v u Q I ry rx h
  obtain ⟨a, o, rfl, gd, q⟩ := h
  cases rx
  exact d_notIn (by omega) I gd ry fun s' I' => ⟨.bl _, H, I', rfl, by simpa using q⟩
def rInT (neg : Bool) : R2 := fun x y H Q => ∃ i j, x = .str i ∧ y = .str j ∧ Q (.bl (strIn i j != neg)) H
theorem op_inT {X : Cx} : OpR X (compareOp .In) (rInT false) := by
  intro pins s σ H x y v u Q I rx ry h
  obtain ⟨i, j, rfl, rfl, q⟩ := h
  exact op_in_str pins s σ H _ _ v u Q I rx ry ⟨i, j, rfl, rfl, by simpa [strIn] using q⟩
theorem op_notInT {X : Cx} : OpR X (compareOp .NotIn) (rInT true) := by
  intro pins s σ H x y v u Q I rx ry h
  obtain ⟨i, j, rfl, rfl, q⟩ := h
  exact L2.op_notIn_str pins s σ H _ _ v u Q I rx ry ⟨i, j, rfl, rfl, by simpa [strIn] using q⟩
def rInF (K : PySem.W.Frag) (neg : Bool) : R2 := fun x y H Q => rInT neg x y H Q ∨ rInDk neg x y H Q ∨ rInS K neg x y H Q
theorem op_inF {X : Cx} (hu : X.A.units + 100 < cLine) : OpR X (compareOp .In) (rInF X.K false) := OpR.or op_inT (OpR.or (op_inDk hu) (op_inS hu))
theorem op_notInF {X : Cx} (hu : X.A.units + 100 < cLine) : OpR X (compareOp .NotIn) (rInF X.K true) := OpR.or op_notInT (OpR.or (op_notInDk hu) (op_notInS hu))
theorem seq_dp {g : G} {F H : Hp} {v : V} {b : B} {ds : List D} (s : Sm g F H) (r : RR g F H v b) (h : seqI b = some ds) (c : PyData.canLayAll0 (toPys ds) = true) : Dp g.K H v (.list (toPys ds)) ∨ Dp g.K H v (.tuple (toPys ds)) := by
  obtain ⟨a, xs, rfl, h1, h2⟩ := seqI_ok s r h
  rcases h1 with h1 | h1
  · exact .inl (.lst h1 (RpAll.dp s.fh h2 c))
  · exact .inr (.tup h1 (RpAll.dp s.fh h2 c))
theorem g_in {g : G} {K : PySem.W.Frag} {neg : Bool} (hK : g.K = K) : OpG g (rInF K neg) (inB neg) := by
  subst hK
  intro σ F H x y a b Q s ra rb p
  unfold inB at p
  split at p
  · split at p
    · cases ra
      cases rb
      exact .inl ⟨_, _, rfl, rfl, p.bl s⟩
    · exact p.elim
  · split at p
    · rename_i o ho
      obtain ⟨q, ov, rfl, gd, hr⟩ := dgetB_ok s rb ra ho
      refine .inr (.inl ⟨q, ov, rfl, gd, ?_⟩)
      have e : ov.isSome = o.isSome := by
        rcases hr with ⟨e1, e2⟩ | ⟨v, d, e1, e2, _⟩ <;> rw [e1, e2] <;> rfl
      rw [e]
      exact p.bl s
    · split at p
      · rename_i ds hs
        unfold inSeq at p
        split at p
        · rename_i h
          rw [Bool.and_eq_true] at h
          have c : PyData.canLayAll0 (toPys ds) = true := by
            have := SeqAt.canLay_of_shaped h.2
            simpa only [PyData.canLay0] using this
          refine .inr (.inr ⟨_, _, ra.dp s (SeqAt.canLay_of_shaped h.1), seq_dp s rb hs c, h.1, h.2, ?_⟩)
          have e : ((toPys ds).any fun z => PyData.eqv z (toPy (datOf a))) = ds.any fun e => PyData.eqv (toPy e) (toPy (datOf a)) := by
            rw [toPys_map, List.any_map]
            rfl
          rw [e]
          exact p.bl s
        · exact p.elim
      · exact p.elim
def idxB (a i : B) : Res B := match dgetB a i with
  | some (some d) => .ok (.dat d)
  | some none => .bad
  | none => match i with
    | .dat (.int k) => (match a with
      | .dat (.str x) => (match atI x.cps.toList k with | some c => if x.length ≤ sizeLine then .ok (.dat (.str ⟨#[c]⟩)) else .bad | none => .bad)
      | a => (match seqI a with
        | some ds => (match atI ds k with | some d => .ok (.dat d) | none => .bad)
        | none => .bad))
    | _ => .bad
def rIxD : R2 := fun x y H Q => ∃ a v, x = .ref a ∧ DGet H a y (some v) ∧ Q v H
theorem ix_dict {X : Cx} (hu : X.A.units + 100 < cLine) : IxR X rIxD := by
  intro value slice pins s σ H x y v u Q I rx ry h hs
  obtain ⟨a, z, rfl, gd, q⟩ := h
  cases rx
  exact tail_any (dict_typeIs I gd) PySem.F.slot_dict_getitem.lookup (d_getItem (by omega) I gd ry fun w' s' I' rw' => ⟨z, H, I', rw', q⟩) hs
def rIxF (K : PySem.W.Frag) : R2 := fun x y H Q => rIxD x y H Q ∨ rIx K x y H Q
theorem ix_F {X : Cx} (hu : X.A.units + 100 < cLine) : IxR X (rIxF X.K) := IxR.or (ix_dict hu) ix_seq
theorem atI_rp {K : PySem.W.Frag} {fa : Nat → Option Addr} {F : Hp} {xs : List V} {ds : List D} {k : Int} {d : D} (r : RpAll K fa F xs ds) (h : atI ds k = some d) : ∃ v, atI xs k = some v ∧ Rp K fa F v d := by
  unfold atI at h ⊢
  rw [r.len]
  cases e : ixN ds.length k with
  | none => rw [e] at h; cases h
  | some j =>
    rw [e] at h
    exact r.get h
theorem g_idx {g : G} {K : PySem.W.Frag} (hK : g.K = K) : OpG g (rIxF K) idxB := by
  subst hK
  intro σ F H x y a b Q s ra rb p
  unfold idxB at p
  split at p
  · rename_i d hd
    obtain ⟨q, ov, rfl, gd, hr⟩ := dgetB_ok s ra rb hd
    rcases hr with ⟨_, e2⟩ | ⟨v, d', rfl, e2, r⟩
    · cases e2
    · cases e2
      exact .inl ⟨q, v, rfl, gd, p.dat s r⟩
  · exact p.elim
  · split at p
    · split at p
      · split at p
        · rename_i c hc
          split at p
          · rename_i hz
            cases ra
            cases rb
            exact .inr (.inr (.inr ⟨_, _, c, rfl, rfl, hz, hc, p.str s⟩))
          · exact p.elim
        · exact p.elim
      · split at p
        · rename_i ds hs
          split at p
          · rename_i d hd
            cases rb
            obtain ⟨q, xs, rfl, h1, h2⟩ := seqI_ok s ra hs
            obtain ⟨v, hv, rv⟩ := atI_rp h2 hd
            rcases h1 with h1 | h1
            · exact .inr (.inl ⟨q, xs, _, v, rfl, rfl, h1, hv, p.dat s rv⟩)
            · exact .inr (.inr (.inl ⟨q, xs, _, v, rfl, rfl, h1, hv, p.dat s rv⟩))
          · exact p.elim
        · exact p.elim
    · exact p.elim
theorem fe_idx {X : Cx} {g : G} {a b : Expr} {fa fb : Env → Res B} {pos : Pos} (hu : X.A.units + 100 < cLine) (hK : g.K = X.K) (hp : PlainIx b) (ha : PE X a (tF g fa)) (hb : PE X b (tF g fb)) : PE X (.Subscript a b pos) (tF g (bin2 idxB fa fb)) :=
  PE.imp (pe_ix (ix_F hu) ha hb hp) fun _ _ _ h => run2 (g_idx hK) h
end Fn
namespace Fn
open PySem PySem.Spec PyProof.Rows L2
def nst : Expr → Bool
  | .Starred .. => false
  | _ => true
def nsl : Expr → Bool
  | .Slice .. => false
  | _ => true
def nset : Expr → Bool
  | .Set .. => false
  | _ => true
def plainT : Expr → Bool
  | .UnaryOp .. => false
  | .BoolOp .. => false
  | .IfExp .. => false
  | .Compare .. => false
  | _ => true
theorem star_cons {e : Expr} {es : List Expr} {env : PySem.Env} (h : nst e = true) : starEach (e :: es) env = (false, eval e env) :: starEach es env := by
  cases e <;> first | rfl | cases h
theorem star_none {env : PySem.Env} {pos : Pos} : ∀ {es : List Expr}, es.all nst = true → (backTo pos (starEach es env)).any (·.1) = false
  | [], _ => rfl
  | e :: es, h => by
    rw [List.all_cons, Bool.and_eq_true] at h
    rw [star_cons h.1]
    exact star_none h.2
theorem nsl_ix {b : Expr} (h : nsl b = true) : PlainIx b := by
  intro o i
  cases b <;> first | rfl | cases h
theorem nset_mark {op : CmpOp} {b : Expr} (h : nset b = true) : behindInMarks op b = false := by
  cases b <;> first | rfl | cases h
theorem plainT_eq {e : Expr} {env : PySem.Env} (h : plainT e = true) : ∀ whole, isTrue e env whole = (do let v ← whole; standAt e.pos; holding [v] (truthy v)) := by
  intro whole
  cases e <;> first | rfl | cases h
section
variable {X : Cx} {g : G} {a b c : Expr} {pos : Pos} {fa fb fc : Env → Res B}
def varB (i : Nat) (ρ : Env) : Res B := match ρ[i]? with
  | some (some (.dat d)) => .ok (.dat d)
  | some (some (.own m)) => .ok (.vw m)
  | some (some (.bor m)) => .ok (.bor m)
  | some (some (.scr ns)) => .ok (.scr ns)
  | some (some (.err c)) => .ok (.err c)
  | _ => .bad
theorem var_run {i : Nat} {σ : L2.St} {H : Hp} {Q : VK} (h : tF g (varB i) σ H Q) : tVar i σ H Q := by
  obtain ⟨F, ρ, s, p⟩ := h
  unfold varB at p
  split at p
  · rename_i d e
    obtain ⟨v, h1, h2⟩ := s.at_ i _ e
    exact ⟨v, h1, p v F H (Grow.refl s.sub) h2⟩
  · rename_i m e
    obtain ⟨v, h1, q, o, rfl, h2, h3, h4, h5⟩ := s.at_ i _ e
    exact ⟨_, h1, p _ F H (Grow.refl s.sub) ⟨q, o, rfl, h2, h5⟩⟩
  · rename_i m e
    obtain ⟨v, h1, h2⟩ := s.at_ i _ e
    exact ⟨v, h1, p v F H (Grow.refl s.sub) h2⟩
  · rename_i ns e
    obtain ⟨v, h1, h2⟩ := s.at_ i _ e
    exact ⟨v, h1, p v F H (Grow.refl s.sub) h2⟩
  · rename_i ns e
    obtain ⟨v, h1, h2⟩ := s.at_ i _ e
    exact ⟨v, h1, p v F H (Grow.refl s.sub) h2⟩
  · exact p.elim
theorem con_run {v : V} {d : D} {σ : L2.St} {H : Hp} {Q : VK} (hv : ∀ F, Rp g.K g.fa F v d) (h : tF g (fun _ => .ok (.dat d)) σ H Q) : tC v σ H Q := by
  obtain ⟨F, ρ, s, p⟩ := h
  exact p v F H (Grow.refl s.sub) (hv F)
def consA (fa : Env → Res B) (fs : Env → Res (List B)) : Env → Res (List B) := fun ρ => (fa ρ).bind fun x => (fs ρ).bind fun xs => .ok (rd x :: xs)
theorem fa_nil : PA X [] (tFA g fun _ => .ok []) := PA.imp pa_nil fun _ _ _ ⟨F, _, s, p⟩ => p [] F _ (Grow.refl s.sub) .nil
theorem fa_cons {e : Expr} {es : List Expr} {fs : Env → Res (List B)} (hn : nst e = true) (ha : PE X e (tF g fa)) (hr : PA X es (tFA g fs)) : PA X (e :: es) (tFA g (consA fa fs)) := by
  refine PA.imp (pa_cons ha hr (star_cons hn)) fun σ H Q ⟨F, ρ, s, p⟩ => ?_
  unfold consA at p
  show tF g fa σ H _
  refine run1 s (fun bx v F1 H1 e1 g1 r1 => ?_) (fun c e => ?_) (fun e => ?_)
  · rw [e1, Res.ok_bind] at p
    have s1 := s.grow g1
    refine ⟨F1, ρ, s1, ?_⟩
    cases e2 : fs ρ with
    | ok bs =>
      rw [e2, Res.ok_bind] at p
      exact fun vs F2 H2 g2 r2 => p (v :: vs) F2 H2 (g1.trans g2) (.cons (r1.mono g2) r2)
    | exc c =>
      rw [e2, Res.exc_bind] at p
      exact fun F' H' gr => p F' H' (g1.trans gr)
    | bad =>
      rw [e2] at p
      exact p
  · rw [e] at p
    exact p
  · rw [e] at p
    exact p
theorem runA {fs : Env → Res (List B)} {f : List B → Res B} {r : List V → Hp → VK → Prop} {σ : L2.St} {H : Hp} {Q : VK}
    (hg : ∀ (F H : Hp) (vs : List V) (bs : List B) (Q : VK), Sm g F H → Paired (RR g F H) vs bs → Post g σ F H (f bs) Q → r vs H Q)
    (h : tF g (fun ρ => (fs ρ).bind f) σ H Q) : tFA g fs σ H fun vs H1 => r vs H1 Q := by
  obtain ⟨F, ρ, s, p⟩ := h
  refine ⟨F, ρ, s, ?_⟩
  dsimp only at p
  cases e : fs ρ with
  | ok bs =>
    rw [e, Res.ok_bind] at p
    exact fun vs F1 H1 g1 r1 => hg F1 H1 vs bs Q (s.sm.grow g1) r1 (p.later g1)
  | exc c =>
    rw [e, Res.exc_bind] at p
    exact p
  | bad =>
    rw [e] at p
    exact p
def CallG (g : G) (r : List V → Hp → VK → Prop) (f : List B → Res B) : Prop := ∀ (σ : L2.St) (F H : Hp) (vs : List V) (bs : List B) (Q : VK), Sm g F H → Paired (RR g F H) vs bs → Post g σ F H (f bs) Q → r vs H Q
theorem fe_callB {x : Str} {p : Pos} {e : Expr} {es : List Expr} {id : String} {r : List V → Hp → VK → Prop} {fs : Env → Res (List B)} {f : List B → Res B} (hc : CallR X (.builtin id) r) (hg : Gl X x) (hm : X.mg x = none) (hv : bootBuiltins x = some (.builtin id)) (hcg : CallG g r f)
    (ha : PA X (e :: es) (tFA g fs)) (hn : x ≠ "__name__") (hdb : (x == ("__debug__" : Str)) = false) (hst : (e :: es).all nst = true) : PE X (.Call (.Name x p) (e :: es) [] pos) (tF g fun ρ => (fs ρ).bind f) := by
  rw [List.all_cons, Bool.and_eq_true] at hst
  exact PE.imp (pe_callB hc hg hm hv ha hn hdb (star_cons hst.1) (star_none hst.2)) fun σ _ _ h => runA (hcg σ) h
theorem fe_callTy {x : Str} {p : Pos} {e : Expr} {es : List Expr} {T : String} {r : List V → Hp → VK → Prop} {fs : Env → Res (List B)} {f : List B → Res B} (hc : CallR X (.type T) r) (hg : Gl X x) (hm : X.mg x = none) (hv : bootBuiltins x = some (.type T)) (hcg : CallG g r f)
    (ha : PA X (e :: es) (tFA g fs)) (hn : x ≠ "__name__") (hdb : (x == ("__debug__" : Str)) = false) (hst : (e :: es).all nst = true) : PE X (.Call (.Name x p) (e :: es) [] pos) (tF g fun ρ => (fs ρ).bind f) := by
  rw [List.all_cons, Bool.and_eq_true] at hst
  exact PE.imp (pe_callTy hc hg hm hv ha hn hdb (star_cons hst.1) (star_none hst.2)) fun σ _ _ h => runA (hcg σ) h
def dats : List B → Option (List D)
  | [] => some []
  | .dat d :: bs => (match dats bs with | some ds => some (d :: ds) | none => none)
  | _ => none
theorem dats_ok {F H : Hp} : ∀ {bs : List B} {vs : List V} {ds : List D}, dats bs = some ds → Paired (RR g F H) vs bs → RpAll g.K g.fa F vs ds
  | [], _, _, h, .nil => by cases h; exact .nil
  | .dat d :: bs, _, _, h, .cons r rs => by
    unfold dats at h
    split at h
    · rename_i ds' h'
      cases h
      exact .cons r (dats_ok h' rs)
    · cases h
  | .own _ :: _, _, _, h, _ => by cases h
  | .vw _ :: _, _, _, h, _ => by cases h
  | .bor _ :: _, _, _, h, _ => by cases h
  | .scr _ :: _, _, _, h, _ => by cases h
def tupB (bs : List B) : Res B := match dats bs with
  | some ds => if ds.length ≤ sizeLine then .ok (.dat (.tup ds)) else .bad
  | none => .bad
def lstB (bs : List B) : Res B := match dats bs with
  | some ds => if ds.length ≤ sizeLine then .ok (.own (.l ds)) else .bad
  | none => .bad
theorem g_tup : CallG g (fun xs H1 Q => xs.length ≤ sizeLine ∧ ∀ p, H1 p = none → Q (.ref p) (upd H1 p (.tup xs))) tupB := by
  intro σ F H vs bs Q s r p
  unfold tupB at p
  split at p
  · rename_i ds hd
    split at p
    · rename_i hz
      have rr := dats_ok hd r
      exact ⟨by rw [rr.len]; exact hz, p.newT s rr⟩
    · exact p.elim
  · exact p.elim
theorem g_lst : CallG g (fun xs H1 Q => xs.length ≤ sizeLine ∧ ∀ p, H1 p = none → Q (.ref p) (upd H1 p (.lst xs))) lstB := by
  intro σ F H vs bs Q s r p
  unfold lstB at p
  split at p
  · rename_i ds hd
    split at p
    · rename_i hz
      have rr := dats_ok hd r
      exact ⟨by rw [rr.len]; exact hz, p.newL s rr⟩
    · exact p.elim
  · exact p.elim
theorem fe_tup {es : List Expr} {k : Nat} {fs : Env → Res (List B)} (ha : PA X es (tFA g fs)) : PE X (.Tuple es k pos) (tF g fun ρ => (fs ρ).bind tupB) := PE.imp (pe_tup ha) fun _ _ _ h => runA (g_tup _) h
theorem fe_lst {es : List Expr} {fs : Env → Res (List B)} (ha : PA X es (tFA g fs)) : PE X (.List es pos) (tF g fun ρ => (fs ρ).bind lstB) := PE.imp (pe_lst ha) fun _ _ _ h => runA (g_lst _) h
theorem fe_dicK : PE X (.Dict [] [] pos) (tF g fun _ => .ok (.own (.k []))) := PE.imp pe_dnewK fun σ H Q ⟨F, ρ, s, p⟩ => fun d hd => p.newM s.sm (.k (kvs := []) rfl .nil) d hd
theorem fe_dicT : PE X (.Dict [] [] pos) (tF g fun _ => .ok (.own (.t []))) := PE.imp pe_dnewT fun σ H Q ⟨F, ρ, s, p⟩ => fun d hd => p.newM s.sm (.t (kvs := []) rfl .nil) d hd
def one1 (f : B → Res B) (fa : Env → Res B) : Env → Res B := fun ρ => (fa ρ).bind fun x => f (rd x)
theorem runU {f : B → Res B} {R : V → Hp → VK → Prop} {σ : L2.St} {H : Hp} {Q : VK} (hg : ∀ (F H : Hp) (v : V) (b : B) (Q : VK), Sm g F H → RR g F H v b → Post g σ F H (f b) Q → R v H Q) (h : tF g (one1 f fa) σ H Q) : tF g fa σ H fun v H1 => R v H1 Q := by
  obtain ⟨F, ρ, s, p⟩ := h
  unfold one1 at p
  refine run1 s (fun bx v F1 H1 e1 g1 r1 => ?_) (fun c e => ?_) (fun e => ?_)
  · rw [e1, Res.ok_bind] at p
    exact hg F1 H1 v _ Q (s.sm.grow g1) r1 (p.later g1)
  · rw [e] at p
    exact p
  · rw [e] at p
    exact p
def negB (b : B) : Res B := match b with
  | .dat (.int i) => .ok (.dat (.int (-i)))
  | _ => .bad
def notB (b : B) : Res B := match b with
  | .dat (.bl k) => .ok (.dat (.bl !k))
  | _ => .bad
theorem fe_not (ha : PE X a (tF g fa)) : PE X (.UnaryOp .Not a pos) (tF g (one1 notB fa)) := by
  refine PE.imp (pe_not ha) fun σ H Q h => runU (f := notB) (R := fun x H1 Q => ∃ c, x = .bl c ∧ Q (.bl (!c)) H1) (fun F H v b Q s r p => ?_) h
  unfold notB at p
  split at p
  · cases r
    exact ⟨_, rfl, p.bl s⟩
  · exact p.elim
def andV (fa fb : Env → Res B) : Env → Res B := fun ρ => (fa ρ).bind fun x => match x with
  | .dat (.bl true) => fb ρ
  | .dat (.bl false) => .ok (.dat (.bl false))
  | _ => .bad
def orV (fa fb : Env → Res B) : Env → Res B := fun ρ => (fa ρ).bind fun x => match x with
  | .dat (.bl false) => fb ρ
  | .dat (.bl true) => .ok (.dat (.bl true))
  | _ => .bad
theorem fe_and {rest : List Expr} (ha : PE X a (tF g fa)) (hb : PE X (.BoolOp .And (b :: rest) pos) (tF g fb)) : PE X (.BoolOp .And (a :: b :: rest) pos) (tF g (andV fa fb)) := by
  refine PE.imp (pe_and ha hb) fun σ H Q ⟨F, ρ, s, p⟩ => ?_
  unfold andV at p
  show tF g fa σ H _
  refine run1 s (fun bx v F1 H1 e1 g1 r1 => ?_) (fun c e => ?_) (fun e => ?_)
  · rw [e1, Res.ok_bind] at p
    split at p
    · cases r1
      refine ⟨true, rfl, ?_⟩
      rw [if_pos rfl]
      exact ⟨F1, ρ, s.grow g1, p.later g1⟩
    · cases r1
      refine ⟨false, rfl, ?_⟩
      rw [if_neg Bool.false_ne_true]
      exact (p.later g1).bl (s.sm.grow g1)
    · exact p.elim
  · rw [e] at p
    exact p
  · rw [e] at p
    exact p
theorem fe_or {rest : List Expr} (ha : PE X a (tF g fa)) (hb : PE X (.BoolOp .Or (b :: rest) pos) (tF g fb)) : PE X (.BoolOp .Or (a :: b :: rest) pos) (tF g (orV fa fb)) := by
  refine PE.imp (pe_or ha hb) fun σ H Q ⟨F, ρ, s, p⟩ => ?_
  unfold orV at p
  show tF g fa σ H _
  refine run1 s (fun bx v F1 H1 e1 g1 r1 => ?_) (fun c e => ?_) (fun e => ?_)
  · rw [e1, Res.ok_bind] at p
    split at p
    · cases r1
      refine ⟨false, rfl, ?_⟩
      rw [if_neg Bool.false_ne_true]
      exact ⟨F1, ρ, s.grow g1, p.later g1⟩
    · cases r1
      refine ⟨true, rfl, ?_⟩
      rw [if_pos rfl]
      exact (p.later g1).bl (s.sm.grow g1)
    · exact p.elim
  · rw [e] at p
    exact p
  · rw [e] at p
    exact p
def truB (b : B) : Res Bool := match b with
  | .dat .non => .ok false
  | .dat (.bl k) => .ok k
  | .dat (.int i) => .ok (i != 0)
  | .dat (.str x) => if x.length ≤ sizeLine then .ok ((x.length : Int) != 0) else .bad
  | b => match dkOf b with
    | some kvs => .ok (!kvs.isEmpty)
    | none => match seqI b with
      | some ds => .ok (!ds.isEmpty)
      | none => .bad
def testV (fa : Env → Res B) : Env → Res Bool := fun ρ => (fa ρ).bind fun x => truB (rd x)
theorem truB_ok {F H : Hp} {v : V} {b : B} {k : Bool} (s : Sm g F H) (r : RR g F H v b) (h : truB b = .ok k) : TruV g.K v H k := by
  unfold truB at h
  split at h
  · cases h; cases r; rfl
  · cases h; cases r; rfl
  · cases h; cases r; rfl
  · split at h
    · cases h; cases r; exact ⟨by assumption, rfl⟩
    · cases h
  · split at h
    · rename_i kvs hk
      cases h
      obtain ⟨p, xs, rfl, h1, h2, h3⟩ := dkOf_ok s r hk
      refine .inr (.inr ⟨xs, h1, ?_⟩)
      cases xs with
      | nil => cases kvs with
        | nil => rfl
        | cons _ _ => simp at h2
      | cons _ _ => cases kvs with
        | nil => simp at h2
        | cons _ _ => rfl
    · split at h
      · rename_i ds hs
        cases h
        obtain ⟨p, xs, rfl, h1, h2⟩ := seqI_ok s r hs
        have e : (!ds.isEmpty) = !xs.isEmpty := by cases h2 <;> rfl
        rw [e]
        rcases h1 with h1 | h1
        · exact .inl ⟨xs, h1, rfl⟩
        · exact .inr (.inl ⟨xs, h1, rfl⟩)
      · cases h
theorem ft_val (hK : g.K = X.K) (hp : plainT a = true) (ha : PE X a (tF g fa)) : PT X a (tFT g (testV fa)) := by
  refine PT.imp (pt_truth ha (plainT_eq hp)) fun σ H Q ⟨F, ρ, s, p⟩ => ?_
  unfold testV at p
  show tF g fa σ H _
  rw [← hK]
  refine run1 s (fun bx v F1 H1 e1 g1 r1 => ?_) (fun c e => ?_) (fun e => ?_)
  · rw [e1, Res.ok_bind] at p
    cases e2 : truB (rd bx) with
    | ok k =>
      rw [e2] at p
      exact ⟨k, truB_ok (s.sm.grow g1) r1 e2, p F1 H1 g1⟩
    | exc c =>
      exfalso
      unfold truB at e2
      repeat (split at e2 <;> try cases e2)
    | bad =>
      rw [e2] at p
      exact p.elim
  · rw [e] at p
    exact p
  · rw [e] at p
    exact p
end
end Fn
namespace Fn
open PySem PySem.Spec PyProof.Rows L2
section
variable {X : Cx} {g : G}
theorem paired1 {α β : Type} {R : α → β → Prop} {xs : List α} {b : β} (h : Paired R xs [b]) : ∃ x, xs = [x] ∧ R x b := by
  cases h with
  | cons r t => cases t; exact ⟨_, rfl, r⟩
theorem paired2 {α β : Type} {R : α → β → Prop} {xs : List α} {b c : β} (h : Paired R xs [b, c]) : ∃ x y, xs = [x, y] ∧ R x b ∧ R y c := by
  cases h with
  | cons r t =>
    obtain ⟨y, rfl, r'⟩ := paired1 t
    exact ⟨_, _, rfl, r, r'⟩
def intsD : List D → Option (List Int)
  | [] => some []
  | .int i :: ds => (match intsD ds with | some ns => some (i :: ns) | none => none)
  | _ => none
def blsD : List D → Option (List Bool)
  | [] => some []
  | .bl i :: ds => (match blsD ds with | some ns => some (i :: ns) | none => none)
  | _ => none
theorem intsD_ok : ∀ {ds : List D} {ns : List Int}, intsD ds = some ns → ds = ns.map D.int
  | [], _, h => by cases h; rfl
  | .int i :: ds, _, h => by
    unfold intsD at h
    split at h
    · rename_i ns e
      cases h
      rw [intsD_ok e]; rfl
    · cases h
  | .non :: _, _, h => by cases h
  | .bl _ :: _, _, h => by cases h
  | .str _ :: _, _, h => by cases h
  | .tup _ :: _, _, h => by cases h
  | .ctup _ :: _, _, h => by cases h
  | .lst _ :: _, _, h => by cases h
  | .dk _ :: _, _, h => by cases h
  | .dt _ :: _, _, h => by cases h
  | .lk _ :: _, _, h => by cases h
  | .lt _ :: _, _, h => by cases h
  | .fn _ :: _, _, h => by cases h
theorem blsD_ok : ∀ {ds : List D} {ns : List Bool}, blsD ds = some ns → ds = ns.map D.bl
  | [], _, h => by cases h; rfl
  | .bl i :: ds, _, h => by
    unfold blsD at h
    split at h
    · rename_i ns e
      cases h
      rw [blsD_ok e]; rfl
    · cases h
  | .non :: _, _, h => by cases h
  | .int _ :: _, _, h => by cases h
  | .str _ :: _, _, h => by cases h
  | .tup _ :: _, _, h => by cases h
  | .ctup _ :: _, _, h => by cases h
  | .lst _ :: _, _, h => by cases h
  | .dk _ :: _, _, h => by cases h
  | .dt _ :: _, _, h => by cases h
  | .lk _ :: _, _, h => by cases h
  | .lt _ :: _, _, h => by cases h
  | .fn _ :: _, _, h => by cases h
def lenB (bs : List B) : Res B := match bs with
  | [.dat (.str x)] => if x.length ≤ sizeLine then .ok (.dat (.int x.length)) else .bad
  | [b] => (match dkOf b with
    | some kvs => .ok (.dat (.int kvs.length))
    | none => match seqI b with
      | some ds => .ok (.dat (.int ds.length))
      | none => match dtOf b with
        | some kvs => .ok (.dat (.int kvs.length))
        | none => .bad)
  | _ => .bad
def rLenF (K : PySem.W.Frag) : List V → Hp → VK → Prop := fun xs H Q => (∃ p ys, xs = [.ref p] ∧ (SqL K H p ys ∨ SqT K H p ys) ∧ Q (.int ys.length) H) ∨ (∃ z, xs = [.str z] ∧ z.length ≤ sizeLine ∧ Q (.int z.length) H) ∨ (∃ a kvs, xs = [V.ref a] ∧ H a = some (.dK kvs) ∧ Q (.int kvs.length) H) ∨ rLenT xs H Q
theorem c_len : CallR X (.builtin "len") (rLenF X.K) := CallR.or call_len_seq (CallR.or call_len_str (CallR.or call_lenD call_len_dT))
theorem g_len {K : PySem.W.Frag} (hK : g.K = K) : CallG g (rLenF K) lenB := by
  subst hK
  intro σ F H vs bs Q s r p
  unfold lenB at p
  split at p
  · split at p
    · obtain ⟨v, rfl, rv⟩ := paired1 r
      cases rv
      exact .inr (.inl ⟨_, rfl, by assumption, p.int s⟩)
    · exact p.elim
  · obtain ⟨v, rfl, rv⟩ := paired1 r
    split at p
    · rename_i kvs hk
      obtain ⟨q, xs, rfl, h1, h2, h3⟩ := dkOf_ok s rv hk
      have e : xs.length = kvs.length := by simpa using congrArg List.length h2
      exact .inr (.inr (.inl ⟨q, xs, rfl, h1, by rw [e]; exact p.int s⟩))
    · split at p
      · rename_i ds hs
        obtain ⟨q, xs, rfl, h1, h2⟩ := seqI_ok s rv hs
        exact .inl ⟨q, xs, rfl, h1, by rw [h2.len]; exact p.int s⟩
      · split at p
        · rename_i kvs hk
          obtain ⟨q, xs, rfl, h1, h2, h3⟩ := dtOf_ok s rv hk
          have e : xs.length = kvs.length := by simpa using congrArg List.length h2
          exact .inr (.inr (.inr ⟨q, xs, rfl, h1, by rw [e]; exact p.int s⟩))
        · exact p.elim
  · exact p.elim
def absF (bs : List B) : Res B := match bs with
  | [.dat (.int i)] => .ok (.dat (.int (if i < 0 then -i else i)))
  | _ => .bad
theorem g_abs : CallG g (fun xs H Q => ∃ i, xs = [.int i] ∧ Q (.int (if i < 0 then -i else i)) H) absF := by
  intro σ F H vs bs Q s r p
  unfold absF at p
  split at p
  · obtain ⟨v, rfl, rv⟩ := paired1 r
    cases rv
    exact ⟨_, rfl, p.int s⟩
  · exact p.elim
def minI : List Int → Int
  | [] => 0
  | n :: ns => ns.foldl min n
def maxI : List Int → Int
  | [] => 0
  | n :: ns => ns.foldl max n
theorem foldl_min : ∀ (ns : List Int) (n : Int), (ns.foldl min n = n ∨ ns.foldl min n ∈ ns) ∧ ns.foldl min n ≤ n ∧ ∀ y ∈ ns, ns.foldl min n ≤ y
  | [], n => ⟨.inl rfl, Int.le_refl _, fun y h => by cases h⟩
  | m :: ns, n => by
    obtain ⟨h1, h2, h3⟩ := foldl_min ns (min n m)
    rw [List.foldl_cons]
    refine ⟨?_, by omega, fun y hy => ?_⟩
    · rcases h1 with h1 | h1
      · rw [h1]
        by_cases c : n ≤ m
        · exact .inl (by omega)
        · exact .inr (by rw [show min n m = m by omega]; exact List.mem_cons_self)
      · exact .inr (List.mem_cons_of_mem _ h1)
    · rcases List.mem_cons.mp hy with rfl | hy
      · omega
      · exact h3 y hy
theorem foldl_max : ∀ (ns : List Int) (n : Int), (ns.foldl max n = n ∨ ns.foldl max n ∈ ns) ∧ n ≤ ns.foldl max n ∧ ∀ y ∈ ns, y ≤ ns.foldl max n
  | [], n => ⟨.inl rfl, Int.le_refl _, fun y h => by cases h⟩
  | m :: ns, n => by
    obtain ⟨h1, h2, h3⟩ := foldl_max ns (max n m)
    rw [List.foldl_cons]
    refine ⟨?_, by omega, fun y hy => ?_⟩
    · rcases h1 with h1 | h1
      · rw [h1]
        by_cases c : m ≤ n
        · exact .inl (by omega)
        · exact .inr (by rw [show max n m = m by omega]; exact List.mem_cons_self)
      · exact .inr (List.mem_cons_of_mem _ h1)
    · rcases List.mem_cons.mp hy with rfl | hy
      · omega
      · exact h3 y hy
theorem minI_ok {ns : List Int} (h : 0 < ns.length) : minI ns ∈ ns ∧ ∀ y ∈ ns, minI ns ≤ y := by
  cases ns with
  | nil => simp at h
  | cons n ns =>
    obtain ⟨h1, h2, h3⟩ := foldl_min ns n
    refine ⟨?_, fun y hy => ?_⟩
    · rcases h1 with h1 | h1
      · show ns.foldl min n ∈ n :: ns
        rw [h1]; exact List.mem_cons_self
      · exact List.mem_cons_of_mem _ h1
    · rcases List.mem_cons.mp hy with rfl | hy
      · exact h2
      · exact h3 y hy
theorem maxI_ok {ns : List Int} (h : 0 < ns.length) : maxI ns ∈ ns ∧ ∀ y ∈ ns, y ≤ maxI ns := by
  cases ns with
  | nil => simp at h
  | cons n ns =>
    obtain ⟨h1, h2, h3⟩ := foldl_max ns n
    refine ⟨?_, fun y hy => ?_⟩
    · rcases h1 with h1 | h1
      · show ns.foldl max n ∈ n :: ns
        rw [h1]; exact List.mem_cons_self
      · exact List.mem_cons_of_mem _ h1
    · rcases List.mem_cons.mp hy with rfl | hy
      · exact h2
      · exact h3 y hy
def mnxB (two : Int → Int → Int) (many : List Int → Int) (bs : List B) : Res B := match bs with
  | [.dat (.int i), .dat (.int j)] => .ok (.dat (.int (two i j)))
  | [b] => (match seqL b with
    | some ds => (match intsD ds with
      | some ns => if 0 < ns.length then .ok (.dat (.int (many ns))) else .bad
      | none => .bad)
    | none => .bad)
  | _ => .bad
def minF : List B → Res B := mnxB (fun i j => if j < i then j else i) minI
def maxF : List B → Res B := mnxB (fun i j => if j > i then j else i) maxI
def rMinF (K : PySem.W.Frag) : List V → Hp → VK → Prop := fun xs H Q => (∃ i j, xs = [.int i, .int j] ∧ Q (.int (if j < i then j else i)) H) ∨ rMin K xs H Q
def rMaxF (K : PySem.W.Frag) : List V → Hp → VK → Prop := fun xs H Q => (∃ i j, xs = [.int i, .int j] ∧ Q (.int (if j > i then j else i)) H) ∨ rMax K xs H Q
theorem c_min (hc : X.calm = true) : CallR X (.builtin "min") (rMinF X.K) := CallR.or (call_min2 hc) (cr_min hc)
theorem c_max (hc : X.calm = true) : CallR X (.builtin "max") (rMaxF X.K) := CallR.or (call_max2 hc) (cr_max hc)
theorem ints_at {F H : Hp} {v : V} {b : B} {ds : List D} {ns : List Int} (s : Sm g F H) (r : RR g F H v b) (h : seqL b = some ds) (e : intsD ds = some ns) : ∃ a, v = .ref a ∧ SqL g.K H a (ns.map V.int) := by
  obtain ⟨a, xs, rfl, h1, h2⟩ := seqL_ok s r h
  have ed := intsD_ok e
  subst ed
  have ex := h2.ints
  subst ex
  exact ⟨a, rfl, SqL.of h1⟩
theorem g_min {K : PySem.W.Frag} (hK : g.K = K) : CallG g (rMinF K) minF := by
  subst hK
  intro σ F H vs bs Q s r p
  unfold minF mnxB at p
  split at p
  · obtain ⟨v, w, rfl, rv, rw'⟩ := paired2 r
    cases rv
    cases rw'
    exact .inl ⟨_, _, rfl, p.int s⟩
  · obtain ⟨v, rfl, rv⟩ := paired1 r
    split at p
    · rename_i ds hd
      split at p
      · rename_i ns hn
        split at p
        · rename_i hl
          obtain ⟨a, rfl, h1⟩ := ints_at s rv hd hn
          obtain ⟨m1, m2⟩ := minI_ok hl
          refine .inr ⟨a, ns, rfl, h1, hl, fun m h2 h3 => ?_⟩
          have e : m = minI ns := by
            have a1 := h3 _ m1
            have a2 := m2 _ h2
            omega
          subst e
          exact p.int s
        · exact p.elim
      · exact p.elim
    · exact p.elim
  · exact p.elim
theorem g_max {K : PySem.W.Frag} (hK : g.K = K) : CallG g (rMaxF K) maxF := by
  subst hK
  intro σ F H vs bs Q s r p
  unfold maxF mnxB at p
  split at p
  · obtain ⟨v, w, rfl, rv, rw'⟩ := paired2 r
    cases rv
    cases rw'
    exact .inl ⟨_, _, rfl, p.int s⟩
  · obtain ⟨v, rfl, rv⟩ := paired1 r
    split at p
    · rename_i ds hd
      split at p
      · rename_i ns hn
        split at p
        · rename_i hl
          obtain ⟨a, rfl, h1⟩ := ints_at s rv hd hn
          obtain ⟨m1, m2⟩ := maxI_ok hl
          refine .inr ⟨a, ns, rfl, h1, hl, fun m h2 h3 => ?_⟩
          have e : m = maxI ns := by
            have a1 := h3 _ m1
            have a2 := m2 _ h2
            omega
          subst e
          exact p.int s
        · exact p.elim
      · exact p.elim
    · exact p.elim
  · exact p.elim
def sumF (bs : List B) : Res B := match bs with
  | [b] => (match seqL b with
    | some ds => (match intsD ds with
      | some ns => .ok (.dat (.int ns.sum))
      | none => .bad)
    | none => .bad)
  | _ => .bad
theorem g_sum {K : PySem.W.Frag} (hK : g.K = K) : CallG g (rSum K) sumF := by
  subst hK
  intro σ F H vs bs Q s r p
  unfold sumF at p
  split at p
  · obtain ⟨v, rfl, rv⟩ := paired1 r
    split at p
    · rename_i ds hd
      split at p
      · rename_i ns hn
        obtain ⟨a, rfl, h1⟩ := ints_at s rv hd hn
        exact ⟨a, ns, rfl, h1, p.int s⟩
      · exact p.elim
    · exact p.elim
  · exact p.elim
def anyAllF (f : List Bool → Bool) (bs : List B) : Res B := match bs with
  | [b] => (match seqL b with
    | some ds => (match blsD ds with
      | some ns => .ok (.dat (.bl (f ns)))
      | none => .bad)
    | none => .bad)
  | _ => .bad
def anyF : List B → Res B := anyAllF fun ns => ns.any id
def allF : List B → Res B := anyAllF fun ns => ns.all id
theorem bls_at {F H : Hp} {v : V} {b : B} {ds : List D} {ns : List Bool} (s : Sm g F H) (r : RR g F H v b) (h : seqL b = some ds) (e : blsD ds = some ns) : ∃ a, v = .ref a ∧ SqL g.K H a (ns.map V.bl) := by
  obtain ⟨a, xs, rfl, h1, h2⟩ := seqL_ok s r h
  have ed := blsD_ok e
  subst ed
  have ex := h2.bls
  subst ex
  exact ⟨a, rfl, SqL.of h1⟩
theorem g_any {K : PySem.W.Frag} (hK : g.K = K) : CallG g (rAny K) anyF := by
  subst hK
  intro σ F H vs bs Q s r p
  unfold anyF anyAllF at p
  split at p
  · obtain ⟨v, rfl, rv⟩ := paired1 r
    split at p
    · rename_i ds hd
      split at p
      · rename_i ns hn
        obtain ⟨a, rfl, h1⟩ := bls_at s rv hd hn
        exact ⟨a, ns, rfl, h1, p.bl s⟩
      · exact p.elim
    · exact p.elim
  · exact p.elim
theorem g_all {K : PySem.W.Frag} (hK : g.K = K) : CallG g (rAll K) allF := by
  subst hK
  intro σ F H vs bs Q s r p
  unfold allF anyAllF at p
  split at p
  · obtain ⟨v, rfl, rv⟩ := paired1 r
    split at p
    · rename_i ds hd
      split at p
      · rename_i ns hn
        obtain ⟨a, rfl, h1⟩ := bls_at s rv hd hn
        exact ⟨a, ns, rfl, h1, p.bl s⟩
      · exact p.elim
    · exact p.elim
  · exact p.elim
def intF (bs : List B) : Res B := match bs with
  | [.dat (.int i)] => .ok (.dat (.int i))
  | [.dat (.bl k)] => .ok (.dat (.int (if k then 1 else 0)))
  | _ => .bad
theorem g_int : CallG g (fun xs H Q => (∃ i, xs = [.int i] ∧ Q (.int i) H) ∨ ∃ k, xs = [.bl k] ∧ Q (.int (if k then 1 else 0)) H) intF := by
  intro σ F H vs bs Q s r p
  unfold intF at p
  split at p
  · obtain ⟨v, rfl, rv⟩ := paired1 r
    cases rv
    exact .inl ⟨_, rfl, p.int s⟩
  · obtain ⟨v, rfl, rv⟩ := paired1 r
    cases rv
    exact .inr ⟨_, rfl, p.int s⟩
  · exact p.elim
def strF (bs : List B) : Res B := match bs with
  | [.dat (.int i)] => if i.natAbs.log2 < 1920 then .ok (.dat (.str (toString i))) else .bad
  | _ => .bad
theorem g_str : CallG g (fun xs H Q => ∃ i, xs = [.int i] ∧ i.natAbs.log2 < 1920 ∧ Q (.str (toString i)) H) strF := by
  intro σ F H vs bs Q s r p
  unfold strF at p
  split at p
  · split at p
    · obtain ⟨v, rfl, rv⟩ := paired1 r
      cases rv
      exact ⟨_, rfl, by assumption, p.str s⟩
    · exact p.elim
  · exact p.elim
def tupF (bs : List B) : Res B := match bs with
  | [.dat (.tup xs)] => .ok (.dat (.tup xs))
  | [.dat (.ctup xs)] => .ok (.dat (.ctup xs))
  | [b] => (match seqI b with
    | some ds => .ok (.dat (.tup ds))
    | none => .bad)
  | _ => .bad
theorem seqI_list {F H : Hp} {v : V} {b : B} {ds : List D} (s : Sm g F H) (r : RR g F H v b) (h : seqI b = some ds) (n1 : ∀ xs, b ≠ .dat (.tup xs)) (n2 : ∀ xs, b ≠ .dat (.ctup xs)) : ∃ a xs, v = .ref a ∧ SqL g.K H a xs ∧ RpAll g.K g.fa F xs ds := by
  unfold seqI at h
  split at h
  · exact absurd rfl (n1 _)
  · exact absurd rfl (n2 _)
  · cases h
    cases r with
    | lst h1 h2 => exact ⟨_, _, rfl, SqL.of (s.fh _ _ h1), h2⟩
  · cases h
    obtain ⟨p, o, rfl, h1, h2⟩ := r
    cases h2 with
    | l h2 => exact ⟨_, _, rfl, SqL.of h1, h2⟩
  · cases h
    obtain ⟨p, o, rfl, h1, h2⟩ := r
    cases h2 with
    | l h2 => exact ⟨_, _, rfl, SqL.of (s.gh _ _ h1), h2⟩
  · cases h
    obtain ⟨p, rfl, h1⟩ := r
    exact ⟨_, _, rfl, s.gh.seq h1, RpAll.of_ints _⟩
  · cases h
def rTupF (K : PySem.W.Frag) : List V → Hp → VK → Prop := fun xs H Q => ∃ p ys, xs = [.ref p] ∧ ((SqL K H p ys ∧ ∀ l, H l = none → Q (.ref l) (upd H l (.tup ys))) ∨ (SqT K H p ys ∧ Q (.ref p) H))
theorem g_tupF {K : PySem.W.Frag} (hK : g.K = K) : CallG g (rTupF K) tupF := by
  subst hK
  intro σ F H vs bs Q s r p
  unfold tupF at p
  split at p
  · obtain ⟨v, rfl, rv⟩ := paired1 r
    cases rv with
    | tup h1 h2 => exact ⟨_, _, rfl, .inr ⟨SqT.of (s.fh _ _ h1), p.dat s (.tup h1 h2)⟩⟩
  · obtain ⟨v, rfl, rv⟩ := paired1 r
    cases rv with
    | ctup h1 h2 => exact ⟨_, _, rfl, .inr ⟨sqT_none h1, p.dat s (.ctup h1 h2)⟩⟩
  · rename_i b n1 n2
    obtain ⟨v, rfl, rv⟩ := paired1 r
    split at p
    · rename_i ds hs
      obtain ⟨a, xs, rfl, h1, h2⟩ := seqI_list s rv hs (fun xs e => n1 xs (by rw [e])) (fun xs e => n2 xs (by rw [e]))
      exact ⟨a, xs, rfl, .inl ⟨h1, p.newT s h2⟩⟩
    · exact p.elim
  · exact p.elim
def lstF (bs : List B) : Res B := match bs with
  | [b] => (match seqI b with
    | some ds => .ok (.own (.l ds))
    | none => .bad)
  | _ => .bad
def rLstF (K : PySem.W.Frag) : List V → Hp → VK → Prop := fun xs H Q => ∃ p ys, xs = [.ref p] ∧ (SqL K H p ys ∨ SqT K H p ys) ∧ ∀ l, H l = none → Q (.ref l) (upd H l (.lst ys))
theorem g_lstF {K : PySem.W.Frag} (hK : g.K = K) : CallG g (rLstF K) lstF := by
  subst hK
  intro σ F H vs bs Q s r p
  unfold lstF at p
  split at p
  · obtain ⟨v, rfl, rv⟩ := paired1 r
    split at p
    · rename_i ds hs
      obtain ⟨a, xs, rfl, h1, h2⟩ := seqI_ok s rv hs
      exact ⟨a, xs, rfl, h1, p.newL s h2⟩
    · exact p.elim
  · exact p.elim
def sortF (bs : List B) : Res B := match bs with
  | [b] => (match dkOf b with
    | some kvs => if sortOk (kvs.map fun kv => keyB kv.1) = true then .ok (.own (.l ((kvs.map fun kv => keyB kv.1).mergeSort leD))) else .bad
    | none => match dtOf b with
      | some kvs => if sortOk (kvs.map fun kv => kD kv.1) = true then .ok (.own (.l ((kvs.map fun kv => kD kv.1).mergeSort leD))) else .bad
      | none => match seqL b with
        | some ds => if sortOk ds = true then .ok (.own (.l (ds.mergeSort leD))) else .bad
        | none => .bad)
  | _ => .bad
def rSortAll (K : PySem.W.Frag) : List V → Hp → VK → Prop := fun xs H Q => rSortDk K xs H Q ∨ rSortDt K xs H Q ∨ rSortF K xs H Q
theorem c_sort (hc : X.calm = true) (hu : X.A.units + 200 < cLine) : CallR X (.builtin "sorted") (rSortAll X.K) := CallR.or (cr_sortDk hc hu) (CallR.or (cr_sortDt hc hu) (cr_sortF (by omega)))
theorem keyB_rp {F : Hp} : ∀ (k : Key), Rp g.K g.fa F (kV k) (keyB k)
  | .inl i => .int i
  | .inr x => .str x
theorem keysB_rp {F : Hp} : ∀ (ks : List Key), RpAll g.K g.fa F (ks.map kV) (ks.map keyB)
  | [] => .nil
  | k :: ks => .cons (keyB_rp k) (keysB_rp ks)
theorem lay_of {ds : List D} (h : sortOk ds = true) : PyData.canLayAll0 (toPys ds) = true := by
  obtain ⟨h1, _, _⟩ := sortOk_iff h
  have go : ∀ ds : List D, (∀ d ∈ ds, SeqAt.shaped (toPy d) = true) → PyData.canLayAll0 (toPys ds) = true := by
    intro ds
    induction ds with
    | nil => intro _; simp [toPys, PyData.canLayAll0]
    | cons d ds ih =>
      intro h
      rw [toPys, PyData.canLayAll0, SeqAt.canLay_of_shaped (h d List.mem_cons_self), ih fun e he => h e (List.mem_cons_of_mem _ he)]
      rfl
  exact go ds h1
theorem lock_keys {F H : Hp} (s : Same F H) : ∀ {kvs : List (List Key × V)} {bs : List Addr}, IsKeys H kvs bs → ∀ {F1 : Hp}, Grow F H F1 H → ∃ F', Grow F H F' H ∧ Same F1 F' ∧ RpAll g.K g.fa F' (bs.map V.ref) (kvs.map fun kv => kD kv.1)
  | _, _, .nil, F1, g1 => ⟨F1, g1, Same.refl _, .nil⟩
  | kv :: kvs, b :: bs, .cons h r, F1, g1 => by
    have g2 : Grow F H (upd F1 b (.tup (kv.1.map kV))) H := g1.tup h
    obtain ⟨F', g3, s3, r3⟩ := lock_keys s r g2
    refine ⟨F', g3, fun c o e => s3 _ _ ?_, .cons (.tup (s3 _ _ upd_same) (keysB_rp _)) r3⟩
    by_cases hb : c = b
    · subst hb
      have := g1.sub _ _ e
      rw [h] at this
      rw [upd_same]
      exact this
    · rw [upd_ne hb]
      exact e
theorem g_sort {K : PySem.W.Frag} (hK : g.K = K) : CallG g (rSortAll K) sortF := by
  subst hK
  intro σ F H vs bs Q s r p
  unfold sortF at p
  split at p
  · obtain ⟨v, rfl, rv⟩ := paired1 r
    split at p
    · rename_i kvs hk
      split at p
      · rename_i ho
        obtain ⟨a, xs, rfl, h1, h2, h3⟩ := dkOf_ok s rv hk
        have ek : xs.map (fun kv => kV kv.1) = (kvs.map (·.1)).map kV := by rw [← h2, List.map_map]; rfl
        have eb : kvs.map (fun kv => keyB kv.1) = (kvs.map (·.1)).map keyB := by rw [List.map_map]; rfl
        have rr : RpAll g.K g.fa F (xs.map fun kv => kV kv.1) (kvs.map fun kv => keyB kv.1) := by
          rw [ek, eb]
          exact keysB_rp _
        refine .inl ⟨a, xs, _, rfl, .inl h1, RpAll.dp s.fh rr (lay_of ho), by have e := congrArg List.length h2; simpa using e, ho, p.newL s (sortZ_rp rr)⟩
      · exact p.elim
    · split at p
      · rename_i kvs hk
        split at p
        · rename_i ho
          obtain ⟨a, xs, rfl, h1, h2, h3⟩ := dtOf_ok s rv hk
          have ek : xs.map (fun kv => kD kv.1) = kvs.map fun kv => kD kv.1 := by
            have e := congrArg (List.map kD) h2
            rw [List.map_map, List.map_map] at e
            exact e
          refine .inr (.inl ⟨a, xs, rfl, .inl h1, by rw [ek]; exact ho, fun q bs hq hb => ?_⟩)
          obtain ⟨F', g1, _, r1⟩ := lock_keys (g := g) s.fh hb (Grow.refl s.fh)
          have p' := p.later g1
          rw [← ek] at p'
          exact p'.newL (s.grow g1) (sortZ_rp r1) q hq
        · exact p.elim
      · split at p
        · rename_i ds hs
          split at p
          · rename_i ho
            obtain ⟨a, xs, rfl, h1, h2⟩ := seqL_ok s rv hs
            exact .inr (.inr ⟨a, xs, ds, rfl, SqL.of h1, RpAll.dp s.fh h2 (lay_of ho), h2.len, ho, p.newL s (sortZ_rp h2)⟩)
          · exact p.elim
        · exact p.elim
  · exact p.elim
end
end Fn
namespace Fn
open PySem PySem.Spec PyProof.Rows L2
section
variable {X : Cx} {g : G} {a b c : Expr} {pos : Pos} {fa fb fc : Env → Res B}
def tstB (b : B) : Res Bool := match b with
  | .dat (.bl k) => .ok k
  | _ => .bad
theorem tst_run {f : Env → Res B} {σ : L2.St} {H : Hp} {Q : Bool → Hp → Prop} (h : tFT g (fun ρ => (f ρ).bind tstB) σ H Q) : tF g f σ H fun x H' => ∃ k, x = .bl k ∧ Q k H' := by
  obtain ⟨F, ρ, s, p⟩ := h
  refine ⟨F, ρ, s, ?_⟩
  dsimp only at p
  cases e : f ρ with
  | ok b =>
    rw [e, Res.ok_bind] at p
    intro v F' H' g1 r1
    unfold tstB at p
    split at p
    · cases r1
      exact ⟨_, rfl, p F' H' g1⟩
    · exact p.elim
  | exc c =>
    rw [e, Res.exc_bind] at p
    exact p
  | bad =>
    rw [e] at p
    exact p
theorem ft_cmp {op : CmpOp} {r : R2} {f : B → B → Res B} (ho : OpR X (compareOp op) r) (hg : OpG g r f) (ha : PE X a (tF g fa)) (hb : PE X b (tF g fb)) (hm : behindInMarks op b = false) : PT X (.Compare a [op] [b] pos) (tFT g fun ρ => (bin2 f fa fb ρ).bind tstB) :=
  PT.imp (pt_cmpR ho ha hb hm) fun _ _ _ h => run2 hg (tst_run h)
def chn (f f' : B → B → Res B) (fa fb fc : Env → Res B) : Env → Res B := fun ρ => (fa ρ).bind fun x => (fb ρ).bind fun y => (f (rd x) (rd y)).bind fun z => match z with
  | .dat (.bl true) => (fc ρ).bind fun w => f' (rd y) (rd w)
  | .dat (.bl false) => .ok (.dat (.bl false))
  | _ => .bad
theorem runT {t : Env → Res Bool} {σ : L2.St} {F H : Hp} {ρ : Env} {Q : Bool → Hp → Prop} (s : St g F H σ ρ) (hok : ∀ k F1 H1, t ρ = .ok k → Grow F H F1 H1 → Q k H1) (hexc : ∀ c, t ρ = .exc c → ∀ F' H', Grow F H F' H' → g.E c σ H') (hbad : t ρ ≠ .bad) : tFT g t σ H Q := by
  refine ⟨F, ρ, s, ?_⟩
  cases e : t ρ with
  | ok k => exact fun F1 H1 g1 => hok k F1 H1 e g1
  | exc c => exact hexc c e
  | bad => exact hbad e
def notT (t : Env → Res Bool) : Env → Res Bool := fun ρ => (t ρ).bind fun k => .ok !k
def andT (t u : Env → Res Bool) : Env → Res Bool := fun ρ => (t ρ).bind fun k => if k = true then u ρ else .ok false
def orT (t u : Env → Res Bool) : Env → Res Bool := fun ρ => (t ρ).bind fun k => if k = true then .ok true else u ρ
theorem ft_not {t : Env → Res Bool} (ha : PT X a (tFT g t)) : PT X (.UnaryOp .Not a pos) (tFT g (notT t)) := by
  refine PT.imp (pt_not ha) fun σ H Q ⟨F, ρ, s, p⟩ => ?_
  unfold notT at p
  refine runT s (fun k F1 H1 e g1 => ?_) (fun c e => ?_) (fun e => ?_)
  · rw [e, Res.ok_bind] at p
    exact p F1 H1 g1
  · rw [e] at p
    exact p
  · rw [e] at p
    exact p
theorem ft_and {t u : Env → Res Bool} {rest : List Expr} (ha : PT X a (tFT g t)) (hb : PW X (.BoolOp .And (b :: rest) pos) (tFT g u)) : PW X (.BoolOp .And (a :: b :: rest) pos) (tFT g (andT t u)) := by
  have h := pw_and ha hb
  refine ⟨fun wh pins s σ H Q I hw => h.run wh pins s σ H Q I ?_⟩
  obtain ⟨F, ρ, st, p⟩ := hw
  unfold andT at p
  refine runT st (fun k F1 H1 e g1 => ?_) (fun c e => ?_) (fun e => ?_)
  · rw [e, Res.ok_bind] at p
    cases k with
    | true =>
      rw [if_pos rfl] at p ⊢
      exact ⟨F1, ρ, st.grow g1, p.later g1⟩
    | false =>
      rw [if_neg Bool.false_ne_true] at p ⊢
      exact p F1 H1 g1
  · rw [e] at p
    exact p
  · rw [e] at p
    exact p
theorem ft_or {t u : Env → Res Bool} {rest : List Expr} (ha : PT X a (tFT g t)) (hb : PW X (.BoolOp .Or (b :: rest) pos) (tFT g u)) : PW X (.BoolOp .Or (a :: b :: rest) pos) (tFT g (orT t u)) := by
  have h := pw_or ha hb
  refine ⟨fun wh pins s σ H Q I hw => h.run wh pins s σ H Q I ?_⟩
  obtain ⟨F, ρ, st, p⟩ := hw
  unfold orT at p
  refine runT st (fun k F1 H1 e g1 => ?_) (fun c e => ?_) (fun e => ?_)
  · rw [e, Res.ok_bind] at p
    cases k with
    | true =>
      rw [if_pos rfl] at p ⊢
      exact p F1 H1 g1
    | false =>
      rw [if_neg Bool.false_ne_true] at p ⊢
      exact ⟨F1, ρ, st.grow g1, p.later g1⟩
  · rw [e] at p
    exact p
  · rw [e] at p
    exact p
def iteV (t : Env → Res Bool) (fa fb : Env → Res B) : Env → Res B := fun ρ => (t ρ).bind fun k => if k = true then fa ρ else fb ρ
theorem fe_ite {t : Env → Res Bool} (hc : PT X c (tFT g t)) (ha : PE X a (tF g fa)) (hb : PE X b (tF g fb)) : PE X (.IfExp c a b pos) (tF g (iteV t fa fb)) := by
  refine PE.imp (pe_ifExp hc ha hb) fun σ H Q ⟨F, ρ, s, p⟩ => ?_
  unfold iteV at p
  refine runT s (fun k F1 H1 e g1 => ?_) (fun c e => ?_) (fun e => ?_)
  · rw [e, Res.ok_bind] at p
    cases k with
    | true =>
      rw [if_pos rfl] at p ⊢
      exact ⟨F1, ρ, s.grow g1, p.later g1⟩
    | false =>
      rw [if_neg Bool.false_ne_true] at p ⊢
      exact ⟨F1, ρ, s.grow g1, p.later g1⟩
  · rw [e] at p
    exact p
  · rw [e] at p
    exact p
inductive Ty where
  | int | bool | str | tuple | list | dict
  deriving DecidableEq
def Ty.nm : Ty → String
  | .int => "int"
  | .bool => "bool"
  | .str => "str"
  | .tuple => "tuple"
  | .list => "list"
  | .dict => "dict"
def tyD : D → Option Ty
  | .non => none
  | .bl _ => some .bool
  | .int _ => some .int
  | .str _ => some .str
  | .tup _ => some .tuple
  | .ctup _ => some .tuple
  | .lst _ => some .list
  | .dk _ => some .dict
  | .dt _ => some .dict
  | .lk _ => none
  | .lt _ => none
  | .fn _ => none
def isTy (t : Ty) (d : D) : Bool := match tyD d with
  | some u => decide (u = t) || (decide (u = .bool) && decide (t = .int))
  | none => false
def isFn : D → Bool
  | .fn _ => true
  | .lk _ => true
  | .lt _ => true
  | _ => false
def isiB (t : Ty) (b : B) : Res B := if isFn (datOf b) = true then .bad else .ok (.dat (.bl (isTy t (datOf b))))
def tyN (o : Option Ty) : String := match o with
  | none => "NoneType"
  | some t => t.nm
theorem kit_all : ∀ (u : Option Ty) (t : Ty), kitB (tyN u) t.nm = some (match u with | some u => decide (u = t) || (decide (u = .bool) && decide (t = .int)) | none => false) := by
  intro u t
  cases u with
  | none => cases t <;> decide +kernel
  | some u => cases u <;> cases t <;> decide +kernel
theorem m_ty {K : PySem.W.Frag} {fa : Nat → Option Addr} {F H : Hp} {p : Addr} {o : HO} {m : M} (h : H p = some o) (r : RpM K fa F o m) : TyX K H (.ref p) (.type (tyN (tyD (frzM m)))) := by
  cases r with
  | l r => exact .base (.lst h)
  | k _ _ => exact .base (.dK h)
  | t _ _ => exact .base (.dT h)
theorem sqL_ty {K : PySem.W.Frag} {H : Hp} {p : Addr} {xs : List V} (h : SqL K H p xs) : TyX K H (.ref p) (.type "list") := by
  rcases h with (h | ⟨o, h⟩) | ⟨o, its, n, hk, hc, _⟩
  · exact .base (.lst h)
  · exact .base (.frz h)
  · exact .kList hk hc
theorem rr_ty {F H : Hp} {v : V} {b : B} (s : Sm g F H) (r : RR g F H v b) (hf : isFn (datOf b) = false) : TyX g.K H v (.type (tyN (tyD (datOf b)))) := by
  cases b with
  | dat d =>
    cases r with
    | non => exact .base .non
    | bl b => exact .base (.bl b)
    | int i => exact .base (.int i)
    | str x => exact .base (.str x)
    | tup h _ => exact .base (.tup (s.fh _ _ h))
    | ctup h _ =>
      rcases h with (h | ⟨o, h⟩) | ⟨o, its, n, hk, hc, _⟩
      · cases h
      · cases h
      · exact .kTuple hk hc
    | lst h _ => exact .base (.lst (s.fh _ _ h))
    | dk h _ _ => exact .base (.dK (s.fh _ _ h))
    | dt h _ _ => exact .base (.dT (s.fh _ _ h))
    | fn _ => cases hf
    | lk _ _ _ => cases hf
    | lt _ _ _ => cases hf
  | own m => exact r.elim
  | vw m =>
    obtain ⟨p, o, rfl, h, q⟩ := r
    exact m_ty h q
  | bor m =>
    obtain ⟨p, o, rfl, h, q⟩ := r
    exact m_ty (s.gh _ _ h) q
  | scr ns =>
    obtain ⟨p, rfl, h⟩ := r
    exact sqL_ty (s.gh.seq h)
  | err c => cases hf
  | nst sh ls => exact r.elim
theorem fe_isi {t : Ty} {x : Str} {p p2 : Pos} (hK : g.K = X.K) (hg : Gl X "isinstance") (hm : X.mg "isinstance" = none) (hx : x = Str.ofString t.nm) (hg2 : Gl X x) (hm2 : X.mg x = none) (hb : bootBuiltins x = some (.type t.nm)) (hn : nst a = true) (ha : PE X a (tF g fa)) :
    PE X (.Call (.Name "isinstance" p) [a, .Name x p2] [] pos) (tF g (one1 (isiB t) fa)) := by
  have h2 : PA X [a, .Name x p2] (tCons (tF g fa) (tCons (tC (.ty t.nm)) tNil)) := pa_cons ha (pa_cons (pe_bltn (v := .ty t.nm) hg2 hm2 hb rfl (by rw [hx]; cases t <;> decide) (by rw [hx]; cases t <;> decide)) pa_nil) (star_cons hn)
  refine PE.imp (pe_callB call_isi hg hm PyProof.Rows.boot_isinstance h2 (by decide) (by decide) (star_cons hn) (by rfl)) fun σ H Q ⟨F, ρ, s, q⟩ => ?_
  unfold one1 at q
  show tF g fa σ H _
  refine run1 s (fun bx v F1 H1 e1 g1 r1 => ?_) (fun c e => ?_) (fun e => ?_)
  · rw [e1, Res.ok_bind] at q
    unfold isiB at q
    by_cases hf : isFn (datOf (rd bx)) = true
    · rw [if_pos hf] at q
      exact q.elim
    · rw [if_neg hf] at q
      have s1 := (s.grow g1).sm
      refine ⟨v, _, _, _, _, rfl, ClsV.ty _, ?_, kit_ty (kit_all (tyD (datOf (rd bx))) t), ?_⟩
      · rw [← hK]
        exact rr_ty s1 r1 (by simpa using hf)
      · exact (q.later g1).bl s1
  · rw [e] at q
    exact q
  · rw [e] at q
    exact q
def PostO (g : G) (σ : L2.St) (F H : Hp) (r : Res (Option Int)) (Q : Option Int → Hp → Prop) : Prop := match r with
  | .ok b => ∀ F' H', Grow F H F' H' → Q b H'
  | .exc c => ∀ F' H', Grow F H F' H' → g.E c σ H'
  | .bad => False
def tFO (g : G) (f : Env → Res (Option Int)) : TO := fun σ H Q => ∃ F ρ, St g F H σ ρ ∧ PostO g σ F H (f ρ) Q
theorem PO.imp {e : Option Expr} {t t' : TO} (h : PO X e t) (i : ∀ σ H Q, t' σ H Q → t σ H Q) : PO X e t' := ⟨fun pins s σ H Q I w => h.run pins s σ H Q I (i σ H Q w)⟩
def partB (b : B) : Res (Option Int) := match b with
  | .dat (.int i) => .ok (some i)
  | _ => .bad
theorem fo_none : PO X none (tFO g fun _ => .ok none) := PO.imp po_none fun _ _ _ ⟨F, _, s, p⟩ => p F _ (Grow.refl s.sub)
theorem fo_some (ha : PE X a (tF g fa)) : PO X (some a) (tFO g fun ρ => (fa ρ).bind fun x => partB x) := by
  refine PO.imp (po_some ha) fun σ H Q ⟨F, ρ, s, p⟩ => ?_
  refine ⟨F, ρ, s, ?_⟩
  dsimp only at p
  cases e : fa ρ with
  | ok b =>
    rw [e, Res.ok_bind] at p
    intro v F' H' g1 r1
    unfold partB at p
    split at p
    · cases r1
      exact ⟨_, rfl, p F' H' g1⟩
    · exact p.elim
  | exc c =>
    rw [e] at p
    exact p
  | bad =>
    rw [e] at p
    exact p
def cutL {α : Type} (xs : List α) (lo hi : Option Int) : List α := (xs.drop (HT.sIx xs.length 0 lo)).take (HT.sIx xs.length xs.length hi - HT.sIx xs.length 0 lo)
def sliceB (b : B) (lo hi : Option Int) : Res B := match b with
  | .dat (.str x) => if x.length ≤ sizeLine then .ok (.dat (.str (cutS x lo hi))) else .bad
  | .dat (.tup xs) => .ok (.dat (.tup (cutL xs lo hi)))
  | .dat (.ctup xs) => if HT.sIx xs.length 0 lo = 0 ∧ HT.sIx xs.length xs.length hi = xs.length then .ok (.dat (.ctup xs)) else .ok (.dat (.tup (cutL xs lo hi)))
  | b => match seqI b with
    | some ds => .ok (.own (.l (cutL ds lo hi)))
    | none => .bad
theorem cut_rp {K : PySem.W.Frag} {fa : Nat → Option Addr} {F : Hp} {xs : List V} {ds : List D} (r : RpAll K fa F xs ds) (lo hi : Option Int) : RpAll K fa F (cutV xs lo hi) (cutL ds lo hi) := by
  unfold cutV cutL
  rw [r.len]
  exact (r.drop _).take _
def rSlF (K : PySem.W.Frag) : V → Option Int → Option Int → Hp → VK → Prop := fun x lo hi H Q => rSlS x lo hi H Q ∨ rSlA K x lo hi H Q ∨ rSlL K x lo hi H Q
theorem sl_F : SlR X (rSlF X.K) := SlR.or sl_str (SlR.or sl_tupA sl_list)
theorem cut_whole {α : Type} {xs : List α} {lo hi : Option Int} (h : HT.sIx xs.length 0 lo = 0 ∧ HT.sIx xs.length xs.length hi = xs.length) : cutL xs lo hi = xs := by
  unfold cutL
  rw [h.1, h.2, List.drop_zero, Nat.sub_zero, List.take_length]
theorem g_slice {F H : Hp} {v : V} {b : B} {lo hi : Option Int} {Q : VK} (s : Sm g F H) (r : RR g F H v b) (p : Post g σ F H (sliceB b lo hi) Q) : rSlF g.K v lo hi H Q := by
  unfold sliceB at p
  split at p
  · split at p
    · cases r
      exact .inl ⟨_, rfl, by assumption, p.str s⟩
    · exact p.elim
  · cases r with
    | tup h1 h2 =>
      refine .inr (.inl ⟨_, _, rfl, SqT.of (s.fh _ _ h1), fun hw => ?_, fun _ => p.newT s (cut_rp h2 lo hi)⟩)
      rw [h2.len] at hw
      rw [cut_whole hw] at p
      exact p.dat s (.tup h1 h2)
  · cases r with
    | ctup h1 h2 =>
      refine .inr (.inl ⟨_, _, rfl, sqT_none h1, fun hw => ?_, fun hw => ?_⟩)
      · rw [h2.len] at hw
        rw [if_pos hw] at p
        exact p.dat s (.ctup h1 h2)
      · rw [h2.len] at hw
        rw [if_neg hw] at p
        exact p.newT s (cut_rp h2 lo hi)
  · rename_i n1 n2 n3
    split at p
    · rename_i ds hs
      obtain ⟨a, xs, rfl, h1, h2⟩ := seqI_list s r hs n2 n3
      exact .inr (.inr ⟨a, xs, rfl, h1, p.newL s (cut_rp h2 lo hi)⟩)
    · exact p.elim
def slcV (fa : Env → Res B) (fl fh : Env → Res (Option Int)) : Env → Res B := fun ρ => (fa ρ).bind fun x => (fl ρ).bind fun l => (fh ρ).bind fun h => sliceB (rd x) l h
theorem fe_slice {lo hi : Option Expr} {fl fh : Env → Res (Option Int)} {p2 : Pos} (hK : g.K = X.K) (ha : PE X a (tF g fa)) (hl : PO X lo (tFO g fl)) (hh : PO X hi (tFO g fh)) : PE X (.Subscript a (.Slice lo hi none p2) pos) (tF g (slcV fa fl fh)) := by
  refine PE.imp (pe_slice sl_F ha hl hh) fun σ H Q ⟨F, ρ, s, p⟩ => ?_
  unfold slcV at p
  show tF g fa σ H _
  refine run1 s (fun bx v F1 H1 e1 g1 r1 => ?_) (fun c e => ?_) (fun e => ?_)
  · rw [e1, Res.ok_bind] at p
    have s1 := s.grow g1
    refine ⟨F1, ρ, s1, ?_⟩
    cases e2 : fl ρ with
    | ok l =>
      rw [e2, Res.ok_bind] at p
      intro F2 H2 g2
      refine ⟨F2, ρ, s1.grow g2, ?_⟩
      cases e3 : fh ρ with
      | ok h =>
        rw [e3, Res.ok_bind] at p
        intro F3 H3 g3
        rw [← hK]
        exact g_slice (((s1.grow g2).grow g3).sm) ((r1.mono g2).mono g3) (p.later ((g1.trans g2).trans g3))
      | exc c =>
        rw [e3, Res.exc_bind] at p
        exact fun F' H' gr => p F' H' ((g1.trans g2).trans gr)
      | bad =>
        rw [e3] at p
        exact p
    | exc c =>
      rw [e2, Res.exc_bind] at p
      exact fun F' H' gr => p F' H' (g1.trans gr)
    | bad =>
      rw [e2] at p
      exact p
  · rw [e] at p
    exact p
  · rw [e] at p
    exact p
structure En where
  name : Str
  n : Nat
  F : List B → Res B
def toArg : B → B
  | .vw m => .bor m
  | b => b
def gOf (K : PySem.W.Frag) (fa : Nat → Option Addr) (cls : Nat → Value) (F H : Hp) (E : XK) (p : Option (Addr × Obj)) : G := ⟨K, fa, F, H, fun c _ H' => E (cls c) none H', p⟩
def clsOf (fa : Nat → Option Addr) (c : Nat) : Value := match fa (1000 + c) with
  | some C => .ref C
  | none => .none
def spP (K : PySem.W.Frag) (fa : Nat → Option Addr) (cls : Nat → Value) (n : Nat) (Fk : List B → Res B) (p : Option (Addr × Obj)) : Sp := fun vs H Q E =>
  vs.length = n ∧ ∃ F bs, Same F H ∧ Paired (RR (gOf K fa cls F H E p) F H) vs bs ∧ Post (gOf K fa cls F H E p) [] F H (Fk bs) Q
abbrev spF (K : PySem.W.Frag) (fa : Nat → Option Addr) (cls : Nat → Value) (n : Nat) (Fk : List B → Res B) : Sp := spP K fa cls n Fk none
structure TabOk (X : Cx) (fa : Nat → Option Addr) (cls : Nat → Value) (lv : Nat) (tab : List En) : Prop where
  at_ : ∀ (k : Nat) (en : En), tab[k]? = some en → ∃ f fd ps, X.mg en.name = some (.ref f) ∧ fa k = some f ∧ PySem.W.keepIn X.K (.ref f) = true ∧ Binds X.K fd ps [] ∧ FnOk X.prog X.w X.K X.mg X.base (L2.CX X.prog X.w) lv f fd ps (spF X.K fa cls en.n en.F)
def Pz (X : Cx) (g : G) (cls : Nat → Value) : Prop := ∃ E' : L2.St → XK, (∀ σ, PassesAt (L2.CX X.prog X.w) X σ (E' σ)) ∧ ∀ c σ H', g.E c σ H' → E' σ (cls c) none H'
theorem arg_ok {cls : Nat → Value} {F H : Hp} {E : XK} (s : Sm g F H) : ∀ {vs : List V} {bs : List B}, Paired (RR g F H) vs bs → Paired (RR (gOf g.K g.fa cls F H E g.h) F H) vs (bs.map toArg)
  | _, _, .nil => .nil
  | v :: vs, b :: bs, .cons r rs => by
    refine .cons ?_ (arg_ok s rs)
    cases b with
    | dat d => exact r
    | own m => exact r.elim
    | vw m => exact r
    | bor m =>
      obtain ⟨p, o, e, h, q⟩ := r
      exact ⟨p, o, e, s.gh _ _ h, q⟩
    | scr ns =>
      obtain ⟨p, e, h⟩ := r
      exact ⟨p, e, s.gh.seq h⟩
    | err k => exact r
    | nst sh ls => exact r
theorem back_post {σ σ' : L2.St} {cls : Nat → Value} {F H : Hp} {E : XK} {r : Res B} {Q : VK} (hE : ∀ c H', g.E c σ H' → E (cls c) none H') (hb : ∀ b, r = .ok b → (∀ m, b ≠ .bor m) ∧ ∀ ns, b ≠ .scr ns) (h : Post g σ F H r Q) : Post (gOf g.K g.fa cls F H E g.h) σ' F H r Q := by
  cases r with
  | ok b =>
    intro v F' H' g1 r1
    refine h v F' H' g1 ?_
    cases b with
    | dat d => exact r1
    | own m => exact r1
    | vw m => exact r1
    | bor m => exact absurd rfl ((hb _ rfl).1 m)
    | scr ns => exact absurd rfl ((hb _ rfl).2 ns)
    | err k => exact r1
    | nst sh ls => exact r1
  | exc c => exact fun F' H' g1 => hE c H' (h F' H' g1)
  | bad => exact h
def retB (b : B) : Res B := match b with
  | .bor _ => .bad
  | .scr _ => .bad
  | .vw _ => .bad
  | .nst _ _ => .bad
  | b => .ok b
def callV (en : En) (bs : List B) : Res B := (en.F (bs.map toArg)).bind retB
theorem call_run {σ : L2.St} {X : Cx} {cls : Nat → Value} {en : En} {E : XK} (hK : g.K = X.K) (hE : ∀ c H', g.E c σ H' → E (cls c) none H') (F H : Hp) (vs : List V) (bs : List B) (Q : VK) (hn : bs.length = en.n) (s : Sm g F H) (r : Paired (RR g F H) vs bs) (p : Post g σ F H (callV en bs) Q) : spP X.K g.fa cls en.n en.F g.h vs H Q E := by
  refine ⟨by rw [Paired.length r]; exact hn, F, bs.map toArg, s.fh, by rw [← hK]; exact arg_ok s r, ?_⟩
  rw [← hK]
  unfold callV at p
  cases e : en.F (bs.map toArg) with
  | ok b =>
    rw [e, Res.ok_bind] at p
    refine back_post hE (fun b' e' => ?_) ?_
    · cases e'
      constructor
      · rintro m rfl
        exact p.elim
      · rintro ns rfl
        exact p.elim
    · cases b with
      | dat d => exact p
      | own m => exact p
      | vw m => exact p.elim
      | bor m => exact p.elim
      | scr ns => exact p.elim
      | err k => exact p
      | nst sh ls => exact p.elim
  | exc c =>
    rw [e, Res.exc_bind] at p
    exact fun F' H' g1 => hE c H' (p F' H' g1)
  | bad =>
    rw [e] at p
    exact p
def lenA (n : Nat) (bs : List B) : Res (List B) := if bs.length = n then .ok bs else .bad
theorem fe_call (hgh : g.h = none) {lv : Nat} {tab : List En} {cls : Nat → Value} {k : Nat} {en : En} {x : Str} {p : Pos} {e : Expr} {es : List Expr} {fs : Env → Res (List B)} (T : TabOk X g.fa cls lv tab) (hr : Room lv X.A) (hp : Pz X g cls) (hk : tab[k]? = some en) (hx : x = en.name) (hK : g.K = X.K) (hg : Gl X x)
    (ha : PA X (e :: es) (tFA g fs)) (hdb : (x == ("__debug__" : Str)) = false) (hst : (e :: es).all nst = true) : PE X (.Call (.Name x p) (e :: es) [] pos) (tF g fun ρ => (fs ρ).bind fun bs => (lenA en.n bs).bind (callV en)) := by
  obtain ⟨f, fd, ps, hm, _, hkp, hb, F⟩ := T.at_ k en hk
  obtain ⟨E', hpass, hE⟩ := hp
  rw [List.all_cons, Bool.and_eq_true] at hst
  subst hx
  refine PE.imp (pe_callS F hr hg hm hkp hb hpass ha hdb (star_cons hst.1) (star_none hst.2)) fun σ H Q h => ?_
  refine runA (r := fun vs H1 Q => spF X.K g.fa cls en.n en.F vs H1 Q (E' σ)) (fun F H vs bs Q s r p => ?_) h
  unfold lenA at p
  split at p
  · rename_i hn
    have := call_run hK (fun c H' => hE c σ H') F H vs bs Q hn s r p
    rw [hgh] at this
    exact this
  · exact p.elim
end
end Fn
namespace Fn
open PySem PySem.Spec PyProof.Rows L2
structure ItOk (g : G) (P : Hp → Hp → Prop) (J : It) (ds : List D) : Prop where
  go : ∀ i F H, P F H → i < ds.length → J.go i H
  stop : ∀ i F H, P F H → ds.length ≤ i → J.stop i H
  yld : ∀ i F H x H' d, P F H → ds[i]? = some d → J.yld i H x H' → ∃ F', Grow F H F' H' ∧ Rp g.K g.fa F' x d
def PP (g : G) (lk : Bool) (F1 H1 F H : Hp) : Prop := Same F1 F ∧ Same F H ∧ Same g.G0 H ∧ (lk = true → Same H1 H)
def PostI (g : G) (lk : Bool) (σ : L2.St) (F H : Hp) (r : Res (List D)) (R : It → Hp → Prop) : Prop := match r with
  | .ok ds => ∀ F1 H1 J, Grow F H F1 H1 → ItOk g (PP g lk F1 H1) J ds → R J H1
  | .exc c => ∀ F' H', Grow F H F' H' → g.E c σ H'
  | .bad => False
def tFI (g : G) (lk : Bool) (f : Env → Res (List D)) : TI := fun σ H R => ∃ F ρ, St g F H σ ρ ∧ PostI g lk σ F H (f ρ) R
theorem PI.imp {X : Cx} {tg e : Expr} {t t' : TI} (h : PI X tg e t) (i : ∀ σ H R, t' σ H R → t σ H R) : PI X tg e t' := ⟨fun pins s σ H R I w => h.run pins s σ H R I (i σ H R w)⟩
theorem PI.or {X : Cx} {tg e : Expr} {t u : TI} (h : PI X tg e t) (h' : PI X tg e u) : PI X tg e (fun σ H R => t σ H R ∨ u σ H R) :=
  ⟨fun pins s σ H R I w => w.elim (h.run pins s σ H R I) (h'.run pins s σ H R I)⟩
theorem PG.or {X : Cx} {tg : Expr} {t u : TG} (h : PG X tg t) (h' : PG X tg u) : PG X tg (fun v σ H Q => t v σ H Q ∨ u v σ H Q) :=
  ⟨fun pins s σ H v w Q I r q => q.elim (h.run pins s σ H v w Q I r) (h'.run pins s σ H v w Q I r)⟩
def itemsB (lk : Bool) (b : B) : Res (List D) := match b with
  | .dat (.str x) => .ok (x.cps.toList.map fun c => .str ⟨#[c]⟩)
  | .vw (.l ds) => if lk = true then .ok ds else .bad
  | b => match seqI b with
    | some ds => .ok ds
    | none => .bad
section
variable {X : Cx} {g : G} {a b : Expr} {pos : Pos} {fa fb : Env → Res B} {lk : Bool}
theorem list_it {F1 H1 : Hp} {p : Addr} {xs : List V} {ds : List D} (h : ∀ F H, PP g lk F1 H1 F H → SqL g.K H p xs) (r : RpAll g.K g.fa F1 xs ds) : ItOk g (PP g lk F1 H1) (Itl g.K p) ds where
  go := fun i F H q hi => ⟨xs, xs[i]'(by rw [r.len]; exact hi), h F H q, by simp⟩
  stop := fun i F H q hi => ⟨xs, h F H q, by rw [r.len]; exact hi⟩
  yld := fun i F H x H' d q hd hy => by
    obtain ⟨e, hy⟩ := hy
    subst e
    obtain ⟨v, h1, h2⟩ := r.get hd
    have e2 := hy xs (h F H' q)
    rw [h1] at e2
    cases e2
    exact ⟨F, Grow.refl q.2.1, h2.mono q.1⟩
theorem tup_it {F1 H1 : Hp} {p : Addr} {xs : List V} {ds : List D} (h : ∀ F H, PP g lk F1 H1 F H → SqT g.K H p xs) (r : RpAll g.K g.fa F1 xs ds) : ItOk g (PP g lk F1 H1) (Itt g.K p) ds where
  go := fun i F H q hi => ⟨xs, xs[i]'(by rw [r.len]; exact hi), h F H q, by simp⟩
  stop := fun i F H q hi => ⟨xs, h F H q, by rw [r.len]; exact hi⟩
  yld := fun i F H x H' d q hd hy => by
    obtain ⟨e, hy⟩ := hy
    subst e
    obtain ⟨v, h1, h2⟩ := r.get hd
    have e2 := hy xs (h F H' q)
    rw [h1] at e2
    cases e2
    exact ⟨F, Grow.refl q.2.1, h2.mono q.1⟩
theorem str_it {F1 H1 : Hp} {z : Str} : ItOk g (PP g lk F1 H1) (Its z) (z.cps.toList.map fun c => .str ⟨#[c]⟩) where
  go := fun i F H q hi => by
    rw [List.length_map, Array.length_toList] at hi
    exact hi
  stop := fun i F H q hi => by
    rw [List.length_map, Array.length_toList] at hi
    exact hi
  yld := fun i F H x H' d q hd hy => by
    obtain ⟨e, c, hc, hx⟩ := hy
    subst e hx
    rw [List.getElem?_map, Array.getElem?_toList, hc] at hd
    cases hd
    exact ⟨F, Grow.refl q.2.1, .str _⟩
theorem range_it {F1 H1 : Hp} {lo : Int} {n : Nat} : ItOk g (PP g lk F1 H1) (Itr lo n) ((List.range n).map fun (i : Nat) => D.int (lo + (i : Int))) where
  go := fun i F H q hi => by
    rw [List.length_map, List.length_range] at hi
    exact hi
  stop := fun i F H q hi => by
    rw [List.length_map, List.length_range] at hi
    exact hi
  yld := fun i F H x H' d q hd hy => by
    obtain ⟨e, hx⟩ := hy
    subst e hx
    rw [List.getElem?_map] at hd
    by_cases hi : i < n
    · rw [List.getElem?_range hi] at hd
      cases hd
      exact ⟨F, Grow.refl q.2.1, .int _⟩
    · rw [List.getElem?_eq_none (by simpa using hi)] at hd
      cases hd
theorem items_ok {F H F1 H1 : Hp} {v : V} {b : B} {ds : List D} {R : It → Hp → Prop} (s : Sm g F1 H1) (g1 : Grow F H F1 H1) (r : RR g F1 H1 v b) (h : itemsB lk b = .ok ds) (k : ∀ J, ItOk g (PP g lk F1 H1) J ds → R J H1) :
    (∃ a, v = .ref a ∧ (∃ xs, SqL g.K H1 a xs) ∧ R (Itl g.K a) H1) ∨ (∃ a, v = .ref a ∧ (∃ xs, SqT g.K H1 a xs) ∧ R (Itt g.K a) H1) ∨ ∃ z, v = .str z ∧ R (Its z) H1 := by
  have L : ∀ {p : Addr} {xs : List V}, (∀ F H, PP g lk F1 H1 F H → SqL g.K H p xs) → SqL g.K H1 p xs → RpAll g.K g.fa F1 xs ds → v = .ref p → (∃ a, v = .ref a ∧ (∃ xs, SqL g.K H1 a xs) ∧ R (Itl g.K a) H1) ∨ (∃ a, v = .ref a ∧ (∃ xs, SqT g.K H1 a xs) ∧ R (Itt g.K a) H1) ∨ ∃ z, v = .str z ∧ R (Its z) H1 :=
    fun {p xs} h1 h2 h3 e => .inl ⟨p, e, ⟨xs, h2⟩, k _ (list_it h1 h3)⟩
  have T : ∀ {p : Addr} {xs : List V}, (∀ F H, PP g lk F1 H1 F H → SqT g.K H p xs) → SqT g.K H1 p xs → RpAll g.K g.fa F1 xs ds → v = .ref p → (∃ a, v = .ref a ∧ (∃ xs, SqL g.K H1 a xs) ∧ R (Itl g.K a) H1) ∨ (∃ a, v = .ref a ∧ (∃ xs, SqT g.K H1 a xs) ∧ R (Itt g.K a) H1) ∨ ∃ z, v = .str z ∧ R (Its z) H1 :=
    fun {p xs} h1 h2 h3 e => .inr (.inl ⟨p, e, ⟨xs, h2⟩, k _ (tup_it h1 h3)⟩)
  unfold itemsB at h
  split at h
  · cases h
    cases r
    exact .inr (.inr ⟨_, rfl, k _ str_it⟩)
  · split at h
    · rename_i hl
      cases h
      obtain ⟨p, o, rfl, h1, h2⟩ := r
      cases h2 with
      | l h2 => exact L (fun F H q => SqL.of (q.2.2.2 hl _ _ h1)) (SqL.of h1) h2 rfl
    · cases h
  · rename_i n1 n2
    split at h
    · rename_i ds' hs
      cases h
      unfold seqI at hs
      split at hs
      · cases hs
        cases r with
        | tup h1 h2 => exact T (fun F H q => SqT.of (q.2.1 _ _ (q.1 _ _ h1))) (SqT.of (s.fh _ _ h1)) h2 rfl
      · cases hs
        cases r with
        | ctup h1 h2 => exact T (fun F H q => sqT_none h1) (sqT_none h1) h2 rfl
      · cases hs
        cases r with
        | lst h1 h2 => exact L (fun F H q => SqL.of (q.2.1 _ _ (q.1 _ _ h1))) (SqL.of (s.fh _ _ h1)) h2 rfl
      · rename_i xs
        exact absurd rfl (n2 xs)
      · cases hs
        obtain ⟨p, o, rfl, h1, h2⟩ := r
        cases h2 with
        | l h2 => exact L (fun F H q => SqL.of (q.2.2.1 _ _ h1)) (SqL.of (s.gh _ _ h1)) h2 rfl
      · cases hs
        obtain ⟨p, rfl, h1⟩ := r
        exact L (fun F H q => q.2.2.1.seq h1) (s.gh.seq h1) (RpAll.of_ints _) rfl
      · cases hs
    · cases h
theorem pi_any {tg : Expr} {tl : TE} (hl : PE X a tl) : PI X tg a fun σ H R => tl σ H fun x H1 => (∃ a, x = .ref a ∧ (∃ xs, SqL X.K H1 a xs) ∧ R (Itl X.K a) H1) ∨ (∃ a, x = .ref a ∧ (∃ xs, SqT X.K H1 a xs) ∧ R (Itt X.K a) H1) ∨ ∃ z, x = .str z ∧ R (Its z) H1 := by
  refine ⟨fun pins s σ H R I h => ?_⟩
  refine thn (hl.run pins s σ H _ I h) fun v s1 ⟨x, H1, I1, r1, q1⟩ => ?_
  rcases q1 with ⟨a, e, ⟨xs, hq⟩, q⟩ | ⟨a, e, ⟨xs, hq⟩, q⟩ | ⟨z, e, q⟩
  · subst e
    cases r1
    obtain ⟨its, rv, p, hz⟩ := I1.list hq
    refine wpAny_pyIter_list p.isList ?_
    refine ⟨s1.heap.objs.size, [s1.heap.objs.size], _, _, H1, rfl, I1.kept (t' := s1.toks) fun b o e => Heap.get?_push_of_some _ e, turn_list a _, ⟨_, Heap.get?_push_size _ rfl, rfl, rfl⟩, fun b hb => ?_, q⟩
    have e : b = s1.heap.objs.size := by simpa using hb
    subst e
    exact I1.fpOk (Nat.le_refl _) (I1.hok.fresh (Nat.le_refl _))
  · subst e
    cases r1
    obtain ⟨its, rv, p, hz⟩ := I1.tuple hq
    refine wpAny_pyIter_tuple (show s1.heap.IsTuple a its.toArray from p) ?_
    refine ⟨s1.heap.objs.size, [s1.heap.objs.size], _, _, H1, rfl, I1.kept (t' := s1.toks) fun b o e => Heap.get?_push_of_some _ e, turn_tuple a _, ⟨_, Heap.get?_push_size _ rfl, rfl, rfl⟩, fun b hb => ?_, q⟩
    have e : b = s1.heap.objs.size := by simpa using hb
    subst e
    exact I1.fpOk (Nat.le_refl _) (I1.hok.fresh (Nat.le_refl _))
  · subst e
    obtain ⟨t, rfl⟩ := r1
    cases ha : z.cps.all (· < 128)
    · exact wpAny_pyIter_wide ha (pi_one (tk := s1.toks) I1 _ (turn_str _ z t "str_iterator" (.inr rfl)) ⟨_, Heap.get?_push_size _ rfl, rfl, rfl⟩ q)
    · exact wpAny_pyIter_ascii ha (pi_one (tk := s1.toks) I1 _ (turn_str _ z t "str_ascii_iterator" (.inl rfl)) ⟨_, Heap.get?_push_size _ rfl, rfl, rfl⟩ q)
theorem fi_seq {tg : Expr} (hK : g.K = X.K) (ha : PE X a (tF g fa)) : PI X tg a (tFI g lk fun ρ => (fa ρ).bind fun x => itemsB lk (rd x)) := by
  refine PI.imp (pi_any ha) fun σ H R ⟨F, ρ, s, p⟩ => ?_
  dsimp only at p
  rw [← hK]
  refine run1 s (fun bx v F1 H1 e1 g1 r1 => ?_) (fun c e => ?_) (fun e => ?_)
  · rw [e1, Res.ok_bind] at p
    have s1 := s.grow g1
    cases e2 : itemsB lk (rd bx) with
    | ok ds =>
      rw [e2] at p
      exact items_ok s1.sm g1 r1 e2 fun J hJ => p F1 H1 J g1 hJ
    | exc c =>
      exfalso
      unfold itemsB at e2
      repeat (split at e2 <;> try cases e2)
    | bad =>
      rw [e2] at p
      exact p.elim
  · rw [e] at p
    exact p
  · rw [e] at p
    exact p
def rng (lo hi : Int) : List D := (List.range (hi - lo).toNat).map fun (i : Nat) => D.int (lo + (i : Int))
def rngA (bs : List B) : Res (List D) := match bs with
  | [.dat (.int j)] => if -(2 ^ 62) ≤ j ∧ j < 2 ^ 62 then .ok (rng 0 j) else .bad
  | [.dat (.int i), .dat (.int j)] => if -(2 ^ 62) ≤ i ∧ i < 2 ^ 62 ∧ -(2 ^ 62) ≤ j ∧ j < 2 ^ 62 then .ok (rng i j) else .bad
  | _ => .bad
theorem fi_range1 {tg : Expr} {p pos : Pos} {fs : Env → Res (List B)} (hg : Gl X "range") (hm : X.mg "range" = none) (hn : nst a = true) (ha : PA X [a] (tFA g fs)) (h1 : ∀ ρ bs, fs ρ = .ok bs → bs.length = 1) : PI X tg (.Call (.Name "range" p) [a] [] pos) (tFI g lk fun ρ => (fs ρ).bind rngA) := by
  refine PI.imp (pi_range1 hg hm ha (star_cons hn)) fun σ H R ⟨F, ρ, s, q⟩ => ?_
  refine ⟨F, ρ, s, ?_⟩
  dsimp only at q
  cases e : fs ρ with
  | ok bs =>
    rw [e, Res.ok_bind] at q
    intro vs F1 H1 g1 r1
    have hl := h1 ρ bs e
    match bs, hl, r1, q with
    | [b], _, r1, q =>
      obtain ⟨v, rfl, rv⟩ := paired1 r1
      unfold rngA at q
      split at q
      · rename_i j eb
        cases eb
        split at q
        · rename_i hj
          cases rv
          refine ⟨j, rfl, hj.1, hj.2, q F1 H1 _ g1 ?_⟩
          have z := range_it (g := g) (lk := lk) (F1 := F1) (H1 := H1) (lo := 0) (n := j.toNat)
          unfold rng
          rw [Int.sub_zero]
          exact z
        · exact q.elim
      · rename_i eb
        cases eb
      · exact q.elim
  | exc c =>
    rw [e, Res.exc_bind] at q
    exact q
  | bad =>
    rw [e] at q
    exact q
theorem fi_range2 {tg : Expr} {p pos : Pos} {fs : Env → Res (List B)} (hg : Gl X "range") (hm : X.mg "range" = none) (hn : nst a = true) (hn2 : nst b = true) (ha : PA X [a, b] (tFA g fs)) (h1 : ∀ ρ bs, fs ρ = .ok bs → bs.length = 2) : PI X tg (.Call (.Name "range" p) [a, b] [] pos) (tFI g lk fun ρ => (fs ρ).bind rngA) := by
  refine PI.imp (pi_range2 hg hm ha (by rw [star_cons hn, star_cons hn2]; rfl) (star_cons hn2)) fun σ H R ⟨F, ρ, s, q⟩ => ?_
  refine ⟨F, ρ, s, ?_⟩
  dsimp only at q
  cases e : fs ρ with
  | ok bs =>
    rw [e, Res.ok_bind] at q
    intro vs F1 H1 g1 r1
    have hl := h1 ρ bs e
    match bs, hl, r1, q with
    | [b, b'], _, r1, q =>
      obtain ⟨v, w, rfl, rv, rw'⟩ := paired2 r1
      unfold rngA at q
      split at q
      · rename_i eb
        cases eb
      · rename_i i j eb
        cases eb
        split at q
        · rename_i hj
          cases rv
          cases rw'
          exact ⟨i, j, rfl, hj, q F1 H1 _ g1 range_it⟩
        · exact q.elim
      · exact q.elim
  | exc c =>
    rw [e, Res.exc_bind] at q
    exact q
  | bad =>
    rw [e] at q
    exact q
inductive Tg where
  | one (i : Nat)
  | many (is : List Nat)
  | pr (i : Nat) (is : List Nat)
def Tg.slots : Tg → List Nat
  | .one i => [i]
  | .many is => is
  | .pr i is => i :: is
def putMany : List Nat → List D → Env → Env
  | i :: is, d :: ds, ρ => putMany is ds (ρ.set i (some (.dat d)))
  | _, _, ρ => ρ
def bindT (t : Tg) (d : D) (ρ : Env) : Option Env := match t with
  | .one i => some (ρ.set i (some (.dat d)))
  | .many is => match d with
    | .tup ds => if ds.length = is.length then some (putMany is ds ρ) else none
    | .ctup ds => if ds.length = is.length then some (putMany is ds ρ) else none
    | .lst ds => if ds.length = is.length then some (putMany is ds ρ) else none
    | _ => none
  | .pr i is => match d with
    | .tup [a, .tup ds] => if ds.length = is.length then some (putMany is ds (ρ.set i (some (.dat a)))) else none
    | _ => none
def tFG (g : G) (t : Tg) : TG := fun v σ H Q => ∃ F ρ d ρ', St g F H σ ρ ∧ Rp g.K g.fa F v d ∧ bindT t d ρ = some ρ' ∧ ∀ σ', St g F H σ' ρ' → (∀ i, i ∉ t.slots → σ'[i]? = σ[i]?) → Q σ' H
theorem PG.imp {tg : Expr} {t t' : TG} (h : PG X tg t) (i : ∀ v σ H Q, t' v σ H Q → t v σ H Q) : PG X tg t' := ⟨fun pins s σ H v u Q I r w => h.run pins s σ H v u Q I r (i v σ H Q w)⟩
theorem fg_one {i : Nat} {x : Str} (hN : X.N.Nodup) (hi : X.N[i]? = some x) (hx : Loc X.env.scope x) (hf : X.fn x = true ∨ X.env.scope.names.lookup x = some .local) : PG X (.Name x pos) (tFG g (.one i)) :=
  PG.imp (pg_name hN hi hx hf) fun v σ H Q ⟨F, ρ, d, ρ', s, r, hb, q⟩ => by
    unfold bindT at hb
    cases hb
    exact q _ (s.put (b := .dat d) (Grow.refl s.sub) r i (by intro m z; cases z)) fun j hj => List.getElem?_set_ne (fun z => hj (by rw [z]; exact List.mem_singleton.mpr rfl))
def gPut : List Nat → TGs
  | [] => gNil
  | i :: is => gCons (gName i) (gPut is)
theorem put_run {F H : Hp} {Q : L2.St → Hp → Prop} : ∀ {is : List Nat} {ds : List D} {vs : List V} {σ : L2.St} {ρ : Env}, ds.length = is.length → RpAll g.K g.fa F vs ds → St g F H σ ρ → (∀ σ', St g F H σ' (putMany is ds ρ) → (∀ i, i ∉ is → σ'[i]? = σ[i]?) → Q σ' H) → gPut is vs σ H Q
  | [], [], _, σ, ρ, _, .nil, s, q => ⟨rfl, q σ s fun _ _ => rfl⟩
  | i :: is, d :: ds, _, σ, ρ, h, .cons r rs, s, q => by
    refine ⟨_, _, rfl, put_run (by simpa using h) rs (s.put (b := .dat d) (Grow.refl s.sub) r i (by intro m z; cases z)) fun σ' s' k => q σ' s' fun j hj => ?_⟩
    rw [List.mem_cons, not_or] at hj
    rw [k j hj.2, List.getElem?_set_ne (fun z => hj.1 z.symm)]
  | [], _ :: _, _, _, _, h, _, _, _ => by simp at h
  | _ :: _, [], _, _, _, h, _, _, _ => by simp at h
theorem fg_many {is : List Nat} {es : List Expr} {k : Nat} (hc : X.calm = true) (hK : g.K = X.K) (h : PGs X es (gPut is)) (hn : (assignEach es X.env).length = is.length) (hst : (assignEach es X.env).findIdx? (·.1) = none) : PG X (.Tuple es k pos) (tFG g (.many is)) := by
  refine PG.imp (PG.or (pg_tup hc h hn hst) (pg_lst hc h hn hst)) fun v σ H Q ⟨F, ρ, d, ρ', s, r, hb, q⟩ => ?_
  rw [← hK]
  unfold bindT at hb
  dsimp only at hb
  split at hb
  · split at hb
    · rename_i hl
      cases hb
      cases r with
      | tup h1 h2 => exact .inl ⟨_, _, rfl, SqT.of (s.sub _ _ h1), by rw [h2.len]; exact hl, put_run hl h2 s fun σ' s' k => q σ' s' k⟩
    · cases hb
  · split at hb
    · rename_i hl
      cases hb
      cases r with
      | ctup h1 h2 => exact .inl ⟨_, _, rfl, sqT_none h1, by rw [h2.len]; exact hl, put_run hl h2 s fun σ' s' k => q σ' s' k⟩
    · cases hb
  · split at hb
    · rename_i hl
      cases hb
      cases r with
      | lst h1 h2 => exact .inr ⟨_, _, rfl, SqL.of (s.sub _ _ h1), by rw [h2.len]; exact hl, put_run hl h2 s fun σ' s' k => q σ' s' k⟩
    · cases hb
  · cases hb
theorem fg_pr {i : Nat} {is : List Nat} {e1 e2 : Expr} {k : Nat} (hc : X.calm = true) (hK : g.K = X.K) (h : PGs X [e1, e2] (gCons (gName i) (gCons (tFG g (.many is)) gNil))) (hn : (assignEach [e1, e2] X.env).length = 2) (hst : (assignEach [e1, e2] X.env).findIdx? (·.1) = none) : PG X (.Tuple [e1, e2] k pos) (tFG g (.pr i is)) := by
  refine PG.imp (pg_tup hc h hn hst) fun v σ H Q ⟨F, ρ, d, ρ', s, r, hb, q⟩ => ?_
  rw [← hK]
  unfold bindT at hb
  dsimp only at hb
  split at hb
  · rename_i a ds
    split at hb
    · rename_i hl
      cases hb
      cases r with
      | tup h1 h2 =>
        cases h2 with
        | cons ra rr =>
          cases rr with
          | cons rb rn =>
            cases rn
            refine ⟨_, _, rfl, SqT.of (s.sub _ _ h1), rfl, _, _, rfl, _, _, rfl, F, ρ.set i (some (.dat a)), .tup ds, _, s.put (b := .dat a) (Grow.refl s.sub) ra i (by intro m z; cases z), rb, if_pos hl, fun σ' s' k => ⟨rfl, q σ' s' fun j hj => ?_⟩⟩
            have hj : j ∉ i :: is := hj
            rw [List.mem_cons, not_or] at hj
            rw [k j hj.2, List.getElem?_set_ne (fun z => hj.1 z.symm)]
    · cases hb
  · cases hb
end
end Fn
namespace Fn
open PySem PySem.Spec PyProof.Rows L2
def wipeE (ρ : Env) : List Nat → Env
  | [] => ρ
  | v :: vs => (wipeE ρ vs).set v none
def datOnly (b : B) : Res (Option D) := match b with
  | .dat d => .ok (some d)
  | _ => .bad
def stepC (t : Tg) (c : Env → Res Bool) (fe : Env → Res B) (ρ : Env) (d : D) : Res (Option D) := match bindT t d ρ with
  | none => .bad
  | some ρ1 => match c ρ1 with
    | .ok true => (match fe ρ1 with
      | .ok b => datOnly (rd b)
      | _ => .bad)
    | .ok false => .ok none
    | _ => .bad
def mapC (f : D → Res (Option D)) : List D → Res (List D)
  | [] => .ok []
  | d :: ds => (f d).bind fun o => (mapC f ds).bind fun xs => .ok (o.toList ++ xs)
def compV (t : Tg) (it : Env → Res (List D)) (c : Env → Res Bool) (fe : Env → Res B) (vs : List Nat) : Env → Res B := fun ρ => (it ρ).bind fun ds =>
  if ds.length ≤ sizeLine then (mapC (stepC t c fe (wipeE ρ vs)) ds).bind fun out => .ok (.own (.l out)) else .bad
section
variable {X : Cx} {g : G}
theorem St.wipe {F H : Hp} {σ : L2.St} {ρ : Env} (s : St g F H σ ρ) : ∀ vs : List Nat, St g F H (L2.wipe σ vs) (wipeE ρ vs)
  | [] => s
  | v :: vs => (St.wipe s vs).drop v
def G.mute (g : G) : G := { g with E := fun _ _ _ => False }
theorem St.mute {F H : Hp} {σ : L2.St} {ρ : Env} (s : St g F H σ ρ) : St g.mute F H σ ρ := ⟨s.gr, s.len, fun i b h => let ⟨v, h1, h2⟩ := s.at_ i b h; ⟨v, h1, by cases b <;> exact h2⟩, s.apart⟩
theorem wipe_in {σ : L2.St} {i : Nat} : ∀ {vs : List Nat}, i ∈ vs → (L2.wipe σ vs)[i]? = if i < σ.length then some none else none
  | v :: vs, h => by
    unfold L2.wipe
    by_cases e : v = i
    · subst e
      by_cases hl : v < σ.length
      · rw [if_pos hl, List.getElem?_set_self (by rw [L2.wipe_length]; exact hl)]
      · rw [if_neg hl, List.getElem?_eq_none (by rw [List.length_set, L2.wipe_length]; omega)]
    · rw [List.getElem?_set_ne e]
      exact wipe_in ((List.mem_cons.mp h).resolve_left fun z => e z.symm)
theorem wipe_again {σ σ2 : L2.St} {vs : List Nat} (hl : σ2.length = σ.length) (h : ∀ i, i ∉ vs → σ2[i]? = (L2.wipe σ vs)[i]?) : L2.wipe σ2 vs = L2.wipe σ vs := by
  apply List.ext_getElem?
  intro i
  by_cases hi : i ∈ vs
  · rw [wipe_in hi, wipe_in hi, hl]
  · rw [L2.wipe_out hi, h i hi]
theorem putMany_len : ∀ (is : List Nat) (es : List D) (ρ : Env), (putMany is es ρ).length = ρ.length
  | [], _, _ => rfl
  | _ :: _, [], _ => rfl
  | a :: is, b :: es, ρ => by
    show (putMany is es (ρ.set a (some (.dat b)))).length = _
    rw [putMany_len is es, List.length_set]
theorem bindT_len {t : Tg} {d : D} {ρ ρ1 : Env} (hb : bindT t d ρ = some ρ1) : ρ1.length = ρ.length := by
  unfold bindT at hb
  split at hb
  · cases hb
    rw [List.length_set]
  · split at hb <;> first | (split at hb <;> first | (cases hb; exact putMany_len _ _ _) | cases hb) | cases hb
  · split at hb
    · split at hb
      · cases hb
        rw [putMany_len, List.length_set]
      · cases hb
    · cases hb
theorem fe_comp {t : Tg} {it : Env → Res (List D)} {c : Env → Res Bool} {fe : Env → Res B} {elt tg iter : Expr} {ifs : List Expr} {scope : Scope} {own : List (Str × Nat)} {pos : Pos} (hc : X.calm = true) (hN : X.N.Nodup) (hi : PI X tg iter (tFI g true it)) (ok : BlkOk X.N X.env.scope scope own)
    (hsl : ∀ i ∈ t.slots, i ∈ own.map (·.2))
    (hg : ∀ (s : Shared) (H : Hp) (C : Addr) (cl : List (Str × Addr)) (fp : List Addr), PG (X.blk s H scope (compEnvC scope cl C X.env) fp) tg (tFG g.mute t)) (ht : ∀ (s : Shared) (H : Hp) (C : Addr) (cl : List (Str × Addr)) (fp : List Addr), PTs (X.blk s H scope (compEnvC scope cl C X.env) fp) ifs (tFT g.mute c))
    (he : ∀ (s : Shared) (H : Hp) (C : Addr) (cl : List (Str × Addr)) (fp : List Addr), PE (X.blk s H scope (compEnvC scope cl C X.env) fp) elt (tF g.mute fe)) (hs : ∀ x, foldedSetIterable iter X.env x = pure x)
    {σ : L2.St} {H : Hp} {Q : VK} (h : tF g (compV t it c fe (own.map (·.2))) σ H Q) : tLc (tFI g true it) (tFG g.mute t) (tFT g.mute c) (tF g.mute fe) (own.map (·.2)) σ H Q := by
  obtain ⟨F, ρ, s, p⟩ := h
  unfold compV at p
  refine ⟨F, ρ, s, ?_⟩
  cases e : it ρ with
  | exc k =>
    rw [e, Res.exc_bind] at p
    exact p
  | bad =>
    rw [e] at p
    exact p
  | ok ds =>
    rw [e, Res.ok_bind] at p
    split at p
    · rename_i hz
      cases em : mapC (stepC t c fe (wipeE ρ (own.map (·.2)))) ds with
      | exc k =>
        exfalso
        have no : ∀ (ds : List D) (k : Nat), mapC (stepC t c fe (wipeE ρ (own.map (·.2)))) ds ≠ .exc k := by
          intro ds
          induction ds with
          | nil => intro k z; cases z
          | cons d ds ih =>
            intro k z
            unfold mapC at z
            cases e1 : stepC t c fe (wipeE ρ (own.map (·.2))) d with
            | ok o =>
              rw [e1, Res.ok_bind] at z
              cases e2 : mapC (stepC t c fe (wipeE ρ (own.map (·.2)))) ds with
              | ok xs => rw [e2] at z; cases z
              | exc k' => exact ih k' e2
              | bad => rw [e2] at z; cases z
            | exc k' =>
              unfold stepC at e1
              split at e1
              · cases e1
              · split at e1
                · split at e1
                  · unfold datOnly at e1
                    split at e1 <;> cases e1
                  · cases e1
                · cases e1
                · cases e1
            | bad => rw [e1] at z; cases z
        exact no ds k em
      | bad =>
        rw [em] at p
        exact p.elim
      | ok out =>
        rw [em, Res.ok_bind] at p
        intro F1 H1 J g1 hJ D hD
        have s1 : St g.mute F1 H1 (L2.wipe σ (own.map (·.2))) (wipeE ρ (own.map (·.2))) := ((s.grow g1).wipe _).mute
        have s1' := s.grow g1
        refine ⟨fun i m H => m = ds.length - i ∧ i ≤ ds.length ∧ ∃ F xs acc rest, Grow F1 H1 F H ∧ H D = some (.lst xs) ∧ F D = none ∧ RpAll g.K g.fa F xs acc ∧ acc.length ≤ i ∧ mapC (stepC t c fe (wipeE ρ (own.map (·.2)))) (ds.drop i) = .ok rest ∧ out = acc ++ rest,
          ⟨ds.length, by simp, Nat.zero_le _, F1, [], [], out, Grow.newH s1'.sub hD, upd_same, s1'.sub.free hD, .nil, Nat.le_refl _, by simpa using em, rfl⟩, ?_⟩
        rintro i m H2 ⟨rfl, hi2, F2, xs, acc, rest, g2, hx, hfx, hr, hal, hm, ho⟩
        have pp : PP g true F1 H1 F2 H2 := ⟨g2.fh, g2.sub, s1'.gr.hh.trans g2.hh, fun _ => g2.hh⟩
        by_cases hlt : i < ds.length
        · refine .inr ⟨hJ.go i F2 H2 pp hlt, fun H' => ∃ F xs acc rest, Grow F1 H1 F H' ∧ H' D = some (.lst xs) ∧ F D = none ∧ RpAll g.K g.fa F xs acc ∧ acc.length ≤ i + 1 ∧ mapC (stepC t c fe (wipeE ρ (own.map (·.2)))) (ds.drop (i + 1)) = .ok rest ∧ out = acc ++ rest,
            fun H' hn => ⟨ds.length - (i + 1), by omega, rfl, hlt, hn⟩, fun x H' hy => ?_⟩
          have hd : ds[i]? = some ds[i] := List.getElem?_eq_getElem hlt
          obtain ⟨F3, g3, r3⟩ := hJ.yld i F2 H2 x H' ds[i] pp hd hy
          have edrop : ds.drop i = ds[i] :: ds.drop (i + 1) := List.drop_eq_getElem_cons hlt
          rw [edrop] at hm
          unfold mapC at hm
          cases e1 : stepC t c fe (wipeE ρ (own.map (·.2))) ds[i] with
          | exc k => rw [e1] at hm; cases hm
          | bad => rw [e1] at hm; cases hm
          | ok o =>
            rw [e1, Res.ok_bind] at hm
            cases e2 : mapC (stepC t c fe (wipeE ρ (own.map (·.2)))) (ds.drop (i + 1)) with
            | exc k => rw [e2] at hm; cases hm
            | bad => rw [e2] at hm; cases hm
            | ok rest' =>
              rw [e2, Res.ok_bind] at hm
              have erest : rest = o.toList ++ rest' := by cases hm; rfl
              subst erest
              have g13 : Grow F1 H1 F3 H' := g2.trans g3
              have s3 := s1.grow g13
              have hx3 : H' D = some (.lst xs) := g3.hh _ _ hx
              have hf3 : F3 D = none := g3.new D _ hx (by intro _ z; cases z) hfx
              unfold stepC at e1
              split at e1
              · cases e1
              · rename_i ρ1 hb
                refine ⟨F3, wipeE ρ (own.map (·.2)), ds[i], ρ1, s3, r3, hb, fun σ2 s4 kp => ?_⟩
                refine ⟨wipe_again (by
                  have l1 := s4.len
                  have l2 := s3.len
                  have l3 : ρ1.length = (wipeE ρ (own.map (·.2))).length := by
                    exact bindT_len hb
                  rw [l1, l3, ← l2, L2.wipe_length]) fun j hj => kp j fun z => hj (hsl j z), ?_⟩
                refine ⟨F3, ρ1, s4, ?_⟩
                split at e1
                · rename_i hc1
                  rw [hc1]
                  intro F5 H5 g5
                  rw [if_pos rfl]
                  have s5 := s4.grow g5
                  split at e1
                  · rename_i b hfe
                    refine run1 s5 (fun bx v F6 H6 e6 g6 r6 => ?_) (fun c' e6 => by rw [hfe] at e6; cases e6) (by rw [hfe]; intro z; cases z)
                    rw [hfe] at e6
                    cases e6
                    unfold datOnly at e1
                    split at e1
                    · rename_i d' hd'
                      cases e1
                      rw [hd'] at r6
                      have g36 : Grow F3 H' F6 H6 := g5.trans g6
                      have hx6 : H6 D = some (.lst xs) := g36.hh _ _ hx3
                      have hf6 : F6 D = none := g36.new D _ hx3 (by intro _ z; cases z) hf3
                      refine ⟨xs, hx6, by rw [hr.len]; omega, F6, xs ++ [v], acc ++ [d'], rest', ⟨(g13.trans g36).fh, fun b u q => ?_, fun b u q => ?_, (g13.trans g36).new⟩, upd_same, hf6, (hr.mono (g3.fh.trans g36.fh)).app (.cons r6 .nil), by rw [List.length_append]; simpa using hal, rfl, by rw [ho, List.append_assoc]; rfl⟩
                      · rw [upd_ne (ne_of_none q hD)]
                        exact (g13.trans g36).hh _ _ q
                      · rw [upd_ne (ne_of_none q hf6)]
                        exact (g13.trans g36).sub _ _ q
                    · cases e1
                  · cases e1
                · rename_i hc1
                  rw [hc1]
                  intro F5 H5 g5
                  rw [if_neg Bool.false_ne_true]
                  cases e1
                  have hx5 : H5 D = some (.lst xs) := g5.hh _ _ hx3
                  have hf5 : F5 D = none := g5.new D _ hx3 (by intro _ z; cases z) hf3
                  exact ⟨F5, xs, acc, rest', g13.trans g5, hx5, hf5, hr.mono (g3.fh.trans g5.fh), by omega, rfl, ho⟩
                · cases e1
        · have e : i = ds.length := by omega
          subst e
          refine .inl ⟨hJ.stop _ F2 H2 pp (Nat.le_refl _), ?_⟩
          rw [List.drop_length] at hm
          cases hm
          rw [List.append_nil] at ho
          subst ho
          exact p _ F2 H2 (g1.trans g2) ⟨D, .lst xs, rfl, g1.hh.free hD, hx, hfx, .l hr⟩
    · exact p.elim
theorem fe_lc {t : Tg} {it : Env → Res (List D)} {c : Env → Res Bool} {fe : Env → Res B} {elt tg iter : Expr} {ifs : List Expr} {scope : Scope} {own : List (Str × Nat)} {pos : Pos} (hc : X.calm = true) (hN : X.N.Nodup) (hi : PI X tg iter (tFI g true it)) (ok : BlkOk X.N X.env.scope scope own)
    (hsl : ∀ i ∈ t.slots, i ∈ own.map (·.2))
    (hg : ∀ (s : Shared) (H : Hp) (C : Addr) (cl : List (Str × Addr)) (fp : List Addr), PG (X.blk s H scope (compEnvC scope cl C X.env) fp) tg (tFG g.mute t)) (ht : ∀ (s : Shared) (H : Hp) (C : Addr) (cl : List (Str × Addr)) (fp : List Addr), PTs (X.blk s H scope (compEnvC scope cl C X.env) fp) ifs (tFT g.mute c))
    (he : ∀ (s : Shared) (H : Hp) (C : Addr) (cl : List (Str × Addr)) (fp : List Addr), PE (X.blk s H scope (compEnvC scope cl C X.env) fp) elt (tF g.mute fe)) (hs : ∀ x, foldedSetIterable iter X.env x = pure x) : PE X (.ListComp elt [⟨tg, iter, ifs, 0⟩] scope pos) (tF g (compV t it c fe (own.map (·.2)))) :=
  PE.imp (pe_lc hc hN hi ok hg ht he hs) fun _ _ _ h => fe_comp (pos := pos) hc hN hi ok hsl hg ht he hs h
end
end Fn
namespace Fn
open PySem PySem.Spec PyProof.Rows L2
inductive Out where
  | nx (ρ : Env) | rt (b : B) | bk (ρ : Env) | ct (ρ : Env) | exc (c : Nat) (ρ : Env) | bad
def PostS (g : G) (E : Ends) (r : Out) : Prop := match r with
  | .nx ρ' => ∀ σ' F' H', St g F' H' σ' ρ' → E.nx σ' H'
  | .bk ρ' => ∀ σ' F' H', St g F' H' σ' ρ' → E.bk σ' H'
  | .ct ρ' => ∀ σ' F' H', St g F' H' σ' ρ' → E.ct σ' H'
  | .rt b => ∀ v F' H', Grow g.F0 g.G0 F' H' → RB g g.F0 g.G0 F' H' v b → E.rt v H'
  | .exc c ρ' => ∀ σ' F' H', St g F' H' σ' ρ' → g.E c σ' H'
  | .bad => False
def tFS (g : G) (f : Env → Out) : TS := fun E σ H => ∃ F ρ, St g F H σ ρ ∧ PostS g E (f ρ)
theorem PS.imp {X : Cx} {st : Stmt} {t t' : TS} (h : PS X st t) (i : ∀ E σ H, t' E σ H → t E σ H) : PS X st t' := ⟨fun pins s σ H E I w => h.run pins s σ H E I (i E σ H w)⟩
theorem PSs.imp {X : Cx} {st : List Stmt} {t t' : TS} (h : PSs X st t) (i : ∀ E σ H, t' E σ H → t E σ H) : PSs X st t' := ⟨fun pins s σ H E I w => h.run pins s σ H E I (i E σ H w)⟩
def seqS (f h : Env → Out) : Env → Out := fun ρ => match f ρ with
  | .nx ρ' => h ρ'
  | o => o
section
variable {X : Cx} {g : G} {a b c : Expr} {pos : Pos} {fa fb fc : Env → Res B} {st : Stmt} {rest : List Stmt} {f h : Env → Out}
theorem fs_nil : PSs X [] (tFS g fun ρ => .nx ρ) := PSs.imp pss_nil fun E σ H ⟨F, ρ, s, p⟩ => p σ F H s
theorem fs_cons (h1 : PS X st (tFS g f)) (h2 : PSs X rest (tFS g h)) : PSs X (st :: rest) (tFS g (seqS f h)) := by
  refine PSs.imp (pss_cons h1 h2) fun E σ H ⟨F, ρ, s, p⟩ => ⟨F, ρ, s, ?_⟩
  unfold seqS at p
  cases e : f ρ with
  | nx ρ' =>
    rw [e] at p
    exact fun σ' F' H' s' => ⟨F', ρ', s', p⟩
  | rt b => rw [e] at p; exact p
  | bk ρ' => rw [e] at p; exact p
  | ct ρ' => rw [e] at p; exact p
  | exc k ρ' => rw [e] at p; exact p
  | bad => rw [e] at p; exact p
theorem fs_one (h1 : PS X st (tFS g f)) : PSs X [st] (tFS g f) := PSs.imp (pss_one h1) fun _ _ _ h => h
def thenS (fa : Env → Res B) (k : B → Env → Out) : Env → Out := fun ρ => match fa ρ with
  | .ok b => k b ρ
  | .exc c => .exc c ρ
  | .bad => .bad
theorem then_run {k : B → Env → Out} {E : Ends} {σ : L2.St} {H : Hp} {Q : VK} (h : tFS g (thenS fa k) E σ H)
    (hk : ∀ F ρ b v F1 H1, St g F H σ ρ → Grow F H F1 H1 → RB g F H F1 H1 v b → PostS g E (k b ρ) → Q v H1) : tF g fa σ H Q := by
  obtain ⟨F, ρ, s, p⟩ := h
  refine ⟨F, ρ, s, ?_⟩
  unfold thenS at p
  cases e : fa ρ with
  | ok b =>
    rw [e] at p
    exact fun v F1 H1 g1 r1 => hk F ρ b v F1 H1 s g1 r1 p
  | exc c =>
    rw [e] at p
    exact fun F' H' g1 => p σ F' H' (s.grow g1)
  | bad =>
    rw [e] at p
    exact p
def okV : B → Bool
  | .vw _ => false
  | _ => true
theorem okV_ne {b : B} (h : okV b = true) : ∀ m, b ≠ .vw m := by
  rintro m rfl
  cases h
def setV (i : Nat) (b : B) (ρ : Env) : Out := if okV b = true then .nx (ρ.set i (some b)) else .bad
theorem fs_asg {i : Nat} {x : Str} {e : Expr} {pos' : Pos} (hN : X.N.Nodup) (hi : X.N[i]? = some x) (hx : Loc X.env.scope x) (he : PE X e (tF g fa)) (hs : swapsWith e (some (.Name x pos')) pos.line X.env = pure false) (hf : X.fn x = true ∨ X.env.scope.names.lookup x = some .local) :
    PS X (.Assign [.Name x pos'] e pos) (tFS g (thenS fa (setV i))) := by
  refine PS.imp (ps_set hN hi hx he hs hf) fun E σ H h => ?_
  refine then_run (k := setV i) (E := E) (Q := fun v H1 => E.nx (σ.set i (some v)) H1) h fun F ρ b v F1 H1 s g1 r1 p => ?_
  unfold setV at p
  split at p
  · rename_i nb
    exact p _ F1 H1 (s.put g1 r1 i (okV_ne nb))
  · exact p.elim
theorem fs_asgLc {t : Tg} {it : Env → Res (List D)} {cnd : Env → Res Bool} {fe : Env → Res B} {i : Nat} {y : Str} {py : Pos} {elt tg iter : Expr} {ifs : List Expr} {scope : Scope} {own : List (Str × Nat)} {pos spos : Pos} (hc : X.calm = true) (hN : X.N.Nodup) (hy : X.N[i]? = some y) (hyl : X.env.scope.names.lookup y = some .local)
    (hsw : swapsWith (.ListComp elt [⟨tg, iter, ifs, 0⟩] scope pos) (some (.Name y py)) spos.line X.env = pure true) (hi : PI X tg iter (tFI g true it)) (ok : BlkOk X.N X.env.scope scope own)
    (hsl : ∀ i ∈ t.slots, i ∈ own.map (·.2))
    (hg : ∀ (s : Shared) (H : Hp) (C : Addr) (cl : List (Str × Addr)) (fp : List Addr), PG (X.blk s H scope (compEnvC scope cl C X.env) fp) tg (tFG g.mute t)) (ht : ∀ (s : Shared) (H : Hp) (C : Addr) (cl : List (Str × Addr)) (fp : List Addr), PTs (X.blk s H scope (compEnvC scope cl C X.env) fp) ifs (tFT g.mute cnd))
    (he : ∀ (s : Shared) (H : Hp) (C : Addr) (cl : List (Str × Addr)) (fp : List Addr), PE (X.blk s H scope (compEnvC scope cl C X.env) fp) elt (tF g.mute fe)) (hs : ∀ x, foldedSetIterable iter X.env x = pure x) :
    PS X (.Assign [.Name y py] (.ListComp elt [⟨tg, iter, ifs, 0⟩] scope pos) spos) (tFS g (thenS (compV t it cnd fe (own.map (·.2))) (setV i))) := by
  refine PS.imp (ps_setLc hc hN hy hyl hsw hi ok hg ht he hs) fun E σ H h => ?_
  refine fe_comp (pos := pos) (Q := fun v H1 => E.nx (σ.set i (some v)) H1) hc hN hi ok hsl hg ht he hs ?_
  refine then_run (k := setV i) (E := E) (Q := fun v H1 => E.nx (σ.set i (some v)) H1) h fun F ρ b v F1 H1 s g1 r1 p => ?_
  unfold setV at p
  split at p
  · rename_i nb
    exact p _ F1 H1 (s.put g1 r1 i (okV_ne nb))
  · exact p.elim
def bindV (t : Tg) (b : B) (ρ : Env) : Out := match rd b with
  | .dat d => (match bindT t d ρ with | some ρ' => .nx ρ' | none => .bad)
  | _ => .bad
theorem fs_asgT {t : Tg} {tg e : Expr} (he : PE X e (tF g fa)) (hg : PG X tg (tFG g t)) (hs : swapsWithSole [tg] e pos.line X.env = pure false) (hw : swappedStores [tg] e X.env = pure none) (h1 : (assignEach [tg] X.env).map (·.2) = [assign tg X.env]) :
    PS X (.Assign [tg] e pos) (tFS g (thenS fa (bindV t))) := by
  refine PS.imp (ps_asg he hg hs hw h1) fun E σ H h => ?_
  refine then_run (k := bindV t) (E := E) (Q := fun v H1 => tFG g t v σ H1 E.nx) h fun F ρ b v F1 H1 s g1 r1 p => ?_
  unfold bindV at p
  obtain ⟨F2, g2, r2⟩ := r1.rd g1
  split at p
  · rename_i d hd
    split at p
    · rename_i ρ' hb
      rw [hd] at r2
      exact ⟨F2, ρ, d, ρ', s.grow g2, r2, hb, fun σ' s' _ => p σ' F2 H1 s'⟩
    · exact p.elim
  · exact p.elim
def par2 (i j : Nat) (fa fb : Env → Res B) : Env → Out := fun ρ => match fa ρ with
  | .ok x => (match fb ρ with
    | .ok y => if (okV x && okV y) = true then .nx ((ρ.set i (some x)).set j (some y)) else .bad
    | .exc c => .exc c ρ
    | .bad => .bad)
  | .exc c => .exc c ρ
  | .bad => .bad
theorem fs_par2 {i j : Nat} {x y : Str} {px py pt : Pos} {kt k2 pt2} (hc : X.calm = true) (hN : X.N.Nodup) (hi : X.N[i]? = some x) (hj : X.N[j]? = some y) (hij : i ≠ j)
    (hx : X.env.scope.names.lookup x = some .local) (hy : X.env.scope.names.lookup y = some .local) (hna : nst a = true) (hnb : nst b = true) (ha : PE X a (tF g fa)) (hb : PE X b (tF g fb))
    (hw : swappedStores [.Tuple [.Name x px, .Name y py] kt pt] (.Tuple [a, b] k2 pt2) X.env = pure (some [x, y])) (hs : swapsWithSole [.Tuple [.Name x px, .Name y py] kt pt] (.Tuple [a, b] k2 pt2) pos.line X.env = pure false) :
    PS X (.Assign [.Tuple [.Name x px, .Name y py] kt pt] (.Tuple [a, b] k2 pt2) pos) (tFS g (par2 i j fa fb)) := by
  refine PS.imp (ps_par hc hN hi hj hij hx hy (pa_cons ha (pa_cons hb pa_nil (star_cons hnb)) (star_cons hna)) hw hs) fun E σ H ⟨F, ρ, s, p⟩ => ?_
  unfold par2 at p
  show tF g fa σ H _
  refine ⟨F, ρ, s, ?_⟩
  cases e1 : fa ρ with
  | exc c => rw [e1] at p; exact fun F' H' g1 => p σ F' H' (s.grow g1)
  | bad => rw [e1] at p; exact p
  | ok x =>
    rw [e1] at p
    intro v F1 H1 g1 r1
    have s1 := s.grow g1
    refine ⟨F1, ρ, s1, ?_⟩
    dsimp only at p
    cases e2 : fb ρ with
    | exc c => rw [e2] at p; exact fun F' H' g2 => p σ F' H' (s1.grow g2)
    | bad => rw [e2] at p; exact p
    | ok y =>
      rw [e2] at p
      intro w F2 H2 g2 r2
      refine ⟨v, w, rfl, ?_⟩
      dsimp only at p
      split at p
      · rename_i ok
        rw [Bool.and_eq_true] at ok
        exact p _ F2 H2 ((s.put g1 r1 i (okV_ne ok.1)).put g2 r2 j (okV_ne ok.2))
      · exact p.elim
def ownAt (ρ : Env) (i : Nat) : Option M := match ρ[i]? with
  | some (some (.own m)) => some m
  | _ => none
theorem ownAt_ok {ρ : Env} {i : Nat} {m : M} (h : ownAt ρ i = some m) : ρ[i]? = some (some (.own m)) := by
  unfold ownAt at h
  split at h
  · cases h
    assumption
  · cases h
def appV (i : Nat) (fa : Env → Res B) : Env → Out := fun ρ => match ownAt ρ i with
  | some (.l ds) => (match fa ρ with
    | .ok b => (match rd b with
      | .dat d => if ds.length < sizeLine then .nx (ρ.set i (some (.own (.l (ds ++ [d]))))) else .bad
      | _ => .bad)
    | .exc c => .exc c ρ
    | .bad => .bad)
  | _ => .bad
theorem fs_append {i : Nat} {x : Str} {e : Expr} {p1 p2 p3 p4 : Pos} (hi : X.N[i]? = some x) (hv : Vis X.env.scope x) (hd : (x == ("__debug__" : Str)) = false) (hcd : (x == ("__classdict__" : Str)) = false) (hn : nst e = true) (hl : (p2.endLine == p3.line) = true) (he : PE X e (tF g fa)) :
    PS X (.Expr (.Call (.Attribute (.Name x p1) "append" p2) [e] [] p3) p4) (tFS g (appV i fa)) := by
  refine PS.imp (ps_expr (pe_bm PySem.F.plainAttrs_list PySem.F.slot_list_append PySem.F.type_list_append mt_append (pe_var hi hv hd hcd) (pa_cons he pa_nil (star_cons hn)) (by rfl) (by cases e <;> first | rfl | cases hn) hl (star_cons hn) (by rfl))) fun E σ H h => ?_
  show tVar i σ H fun v H1 => tyV X.K "list" v H1 ∧ tF g fa σ H1 fun w H2 => rAppend v [w] H2 fun _ H1 => E.nx σ H1
  obtain ⟨F, ρ, s, p⟩ := h
  unfold appV at p
  split at p
  · rename_i ds ho
    obtain ⟨q, o, a1, a2, a3, a4, a5⟩ := s.own_none (ownAt_ok ho)
    cases a5 with
    | l rl =>
      refine ⟨_, a1, Or.inl ⟨rfl, _, SqL.of a2⟩, ?_⟩
      refine run1 s (fun b v F1 H1 e2 g1 r1 => ?_) (fun c e => ?_) (fun e => ?_)
      · rw [e2] at p
        dsimp only at p
        split at p
        · rename_i d hd
          rw [hd] at r1
          split at p
          · rename_i hz
            refine ⟨q, _, v, rfl, rfl, g1.hh _ _ a2, by rw [rl.len]; exact hz, ?_⟩
            exact p σ F1 _ ((s.grow g1).change (ownAt_ok ho) a1 (.l ((rl.mono g1.fh).app (.cons r1 .nil))))
          · exact p.elim
        · exact p.elim
      · rw [e] at p
        exact fun F' H' g1 => p σ F' H' (s.grow g1)
      · rw [e] at p
        exact p
  · exact p.elim
theorem PS.or {t u : TS} (h : PS X st t) (h' : PS X st u) : PS X st (fun E σ H => t E σ H ∨ u E σ H) := ⟨fun pins s σ H E I w => w.elim (h.run pins s σ H E I) (h'.run pins s σ H E I)⟩
def storeM (m : M) (k : B) (d : D) : Option M := match m with
  | .k kvs => (match keyD (datOf k) with
    | some q => if kvs.length < sizeLine then some (.k (putD kvs q d)) else none
    | none => none)
  | .t kvs => (match tkey k with
    | some q => if kvs.length < sizeLine then some (.t (putD kvs q d)) else none
    | none => none)
  | .l xs => (match k with
    | .dat (.int j) => (match ixN xs.length j with
      | some n => some (.l (xs.set n d))
      | none => none)
    | _ => none)
def putS (i : Nat) (fk fv : Env → Res B) : Env → Out := fun ρ => match fv ρ with
  | .ok b => (match rd b, ownAt ρ i, fk ρ with
    | .dat d, some m, .ok k => (match storeM m (rd k) d with
      | some m' => .nx (ρ.set i (some (.own m')))
      | none => .bad)
    | .dat _, some _, .exc c => .exc c ρ
    | _, _, _ => .bad)
  | .exc c => .exc c ρ
  | .bad => .bad
theorem fs_store {i : Nat} {x : Str} {k v : Expr} {fk fv : Env → Res B} {p1 p2 : Pos} (hu : X.A.units + 1 < cLine) (hi : X.N[i]? = some x) (hv : Vis X.env.scope x) (hd : (x == ("__debug__" : Str)) = false) (hcd : (x == ("__classdict__" : Str)) = false) (hns : nsl k = true)
    (hk : PE X k (tF g fk)) (hval : PE X v (tF g fv)) (hs : swapsWith v (some (.Subscript (.Name x p1) k p2)) pos.line X.env = pure false) :
    PS X (.Assign [.Subscript (.Name x p1) k p2] v pos) (tFS g (putS i fk fv)) := by
  refine PS.imp (PS.or (ps_dput hu (pe_var hi hv hd hcd) hk hval hs) (ps_asg hval (pg_sub (pos := p2) (pe_var hi hv hd hcd) hk set_list (by intro v; cases k <;> first | rfl | cases hns)) (by cases v <;> first | rfl | exact hs) (by cases v <;> rfl) (by rfl))) fun E σ H h => ?_
  show (tF g fv σ H fun v H1 => tVar i σ H1 fun x H2 => tF g fk σ H2 fun y H3 => ∃ a H4, x = .ref a ∧ DPut H3 a y v H4 ∧ E.nx σ H4) ∨
    tF g fv σ H fun v H1 => tVar i σ H1 fun o H2 => tF g fk σ H2 fun j H3 => rSetL o j v H3 fun H4 => E.nx σ H4
  obtain ⟨F, ρ, s, p⟩ := h
  unfold putS at p
  have run : ∀ {R : V → V → V → Hp → Prop}, (∀ b m, fv ρ = .ok b → ownAt ρ i = some m → ∀ (F3 H3 : Hp) (q : Addr) (o : HO) (w y : V) (k : B) (d : D) (m' : M), rd b = .dat d → fk ρ = .ok k → storeM m (rd k) d = some m' → St g F3 H3 σ ρ → Rp g.K g.fa F3 w d → RR g F3 H3 y (rd k) → σ[i]? = some (some (.ref q)) → H3 q = some o → RpM g.K g.fa F3 o m → PostS g E (.nx (ρ.set i (some (.own m')))) → R (.ref q) y w H3) →
      tF g fv σ H fun v H1 => tVar i σ H1 fun o H2 => tF g fk σ H2 fun j H3 => R o j v H3 := by
    intro R hR
    refine run1 s (fun b v F1 H1 e1 g1 r1 => ?_) (fun c e => ?_) (fun e => ?_)
    · rw [e1] at p
      dsimp only at p
      have s1 := s.grow g1
      cases hd : rd b with
      | dat d =>
        rw [hd] at p r1
        cases ho : ownAt ρ i with
        | none => rw [ho] at p; exact p.elim
        | some m =>
          rw [ho] at p
          obtain ⟨q, o, a1, a2, a3, a4, a5⟩ := s1.own_none (ownAt_ok ho)
          refine ⟨_, a1, ?_⟩
          refine run1 s1 (fun k y F2 H2 e2 g2 r2 => ?_) (fun c e => ?_) (fun e => ?_)
          · rw [e2] at p
            dsimp only at p
            split at p
            · rename_i m' hm
              exact hR b m e1 ho F2 H2 q o v y k d m' hd e2 hm (s1.grow g2) (Rp.mono g2.fh r1) r2 a1 (g2.hh _ _ a2) (a5.mono g2.fh) p
            · exact p.elim
          · rw [e] at p
            exact fun F' H' g2 => p σ F' H' (s1.grow g2)
          · rw [e] at p
            exact p
      | own _ => rw [hd] at p; exact p.elim
      | vw _ => rw [hd] at p; exact p.elim
      | bor _ => rw [hd] at p; exact p.elim
      | scr _ => rw [hd] at p; exact p.elim
      | err _ => rw [hd] at p; exact p.elim
      | nst _ _ => rw [hd] at p; exact p.elim
    · rw [e] at p
      exact fun F' H' g1 => p σ F' H' (s.grow g1)
    · rw [e] at p
      exact p
  cases ho : ownAt ρ i with
  | none =>
    refine .inl (run (R := fun o y w H3 => ∃ a H4, o = .ref a ∧ DPut H3 a y w H4 ∧ E.nx σ H4) fun b m e1 e2 => ?_)
    rw [ho] at e2
    cases e2
  | some m0 =>
    cases m0 with
    | k kvs =>
      refine .inl (run (R := fun o y w H3 => ∃ a H4, o = .ref a ∧ DPut H3 a y w H4 ∧ E.nx σ H4) fun b m e1 e2 F3 H3 q o w y k d m' hd ek hm s3 rw_ ry hq hH ro post => ?_)
      rw [ho] at e2
      cases e2
      unfold storeM at hm
      dsimp only at hm
      split at hm
      · rename_i kk hkk
        split at hm
        · rename_i hz
          cases hm
          cases ro with
          | k q1 q2 =>
            have hy := rr_key ry hkk
            subst hy
            refine ⟨q, _, rfl, DPut.k hH ?_, post σ F3 _ (s3.change (ownAt_ok ho) hq (.k (put_keys q1 kk w d) (put_rel q1 q2 rw_)))⟩
            have := congrArg List.length q1
            rw [List.length_map, List.length_map] at this
            omega
        · cases hm
      · cases hm
    | t kvs =>
      refine .inl (run (R := fun o y w H3 => ∃ a H4, o = .ref a ∧ DPut H3 a y w H4 ∧ E.nx σ H4) fun b m e1 e2 F3 H3 q o w y k d m' hd ek hm s3 rw_ ry hq hH ro post => ?_)
      rw [ho] at e2
      cases e2
      unfold storeM at hm
      dsimp only at hm
      split at hm
      · rename_i kk hkk
        split at hm
        · rename_i hz
          cases hm
          cases ro with
          | t q1 q2 =>
            obtain ⟨b2, rfl, hb2⟩ := tkey_ok s3.sm ry hkk
            refine ⟨q, _, rfl, DPut.t hH hb2 ?_, post σ F3 _ (s3.change (ownAt_ok ho) hq (.t (put_keys q1 kk w d) (put_rel q1 q2 rw_)))⟩
            have := congrArg List.length q1
            rw [List.length_map, List.length_map] at this
            omega
        · cases hm
      · cases hm
    | l xs =>
      refine .inr (run (R := fun o y w H3 => rSetL o y w H3 fun H4 => E.nx σ H4) fun b m e1 e2 F3 H3 q o w y k d m' hd ek hm s3 rw_ ry hq hH ro post => ?_)
      rw [ho] at e2
      cases e2
      unfold storeM at hm
      dsimp only at hm
      split at hm
      · rename_i j hj
        rw [hj] at ry
        split at hm
        · rename_i n hn
          cases hm
          cases ro with
          | l q1 =>
            cases ry
            exact ⟨q, _, _, n, rfl, rfl, hH, by rw [q1.len]; exact hn, post σ F3 _ (s3.change (ownAt_ok ho) hq (.l (q1.set n rw_)))⟩
        · cases hm
      · cases hm
def iteS (t : Env → Res Bool) (f h : Env → Out) : Env → Out := fun ρ => match t ρ with
  | .ok k => if k = true then f ρ else h ρ
  | .exc c => .exc c ρ
  | .bad => .bad
theorem fs_if {t : Env → Res Bool} {p q : List Stmt} (hc : PT X c (tFT g t)) (ha : PSs X p (tFS g f)) (hb : PSs X q (tFS g h)) : PS X (.If c p q pos) (tFS g (iteS t f h)) := by
  refine PS.imp (ps_if hc ha hb) fun E σ H ⟨F, ρ, s, w⟩ => ?_
  unfold iteS at w
  refine runT s (fun k F1 H1 e1 g1 => ?_) (fun c e => ?_) (fun e => ?_)
  · rw [e1] at w
    dsimp only at w
    split
    · rename_i hk
      rw [if_pos hk] at w
      exact ⟨F1, ρ, s.grow g1, w⟩
    · rename_i hk
      rw [if_neg hk] at w
      exact ⟨F1, ρ, s.grow g1, w⟩
  · rw [e] at w
    exact fun F' H' g1 => w σ F' H' (s.grow g1)
  · rw [e] at w
    exact w
def okRet : B → Bool
  | .dat _ => true
  | .own _ => true
  | _ => false
def retV (b : B) (_ : Env) : Out := if okRet b = true then .rt b else .bad
theorem fs_ret {e : Expr} (he : PE X e (tF g fa)) : PS X (.Return (some e) pos) (tFS g (thenS fa retV)) := by
  refine PS.imp (ps_ret he) fun E σ H h => then_run (k := retV) h fun F ρ b v F1 H1 s g1 r1 p => ?_
  unfold retV at p
  split at p
  · exact p v F1 H1 (s.gr.trans g1) (r1.later s.gr)
  · exact p.elim
def retN (i : Nat) (ρ : Env) : Out := match ρ[i]? with
  | some (some (.dat d)) => .rt (.dat d)
  | some (some (.own m)) => .rt (.own m)
  | _ => .bad
theorem fs_retN {i : Nat} {x : Str} {p1 : Pos} (hi : X.N[i]? = some x) (hv : Vis X.env.scope x) (hd : (x == ("__debug__" : Str)) = false) (hcd : (x == ("__classdict__" : Str)) = false) : PS X (.Return (some (.Name x p1)) pos) (tFS g (retN i)) := by
  refine PS.imp (ps_ret (pe_var hi hv hd hcd)) fun E σ H ⟨F, ρ, s, p⟩ => ?_
  unfold retN at p
  split at p
  · rename_i d e
    obtain ⟨v, h1, h2⟩ := s.at_ i _ e
    exact ⟨v, h1, p v F H s.gr h2⟩
  · rename_i m e
    obtain ⟨q, o, a1, a2, a3, a4, a5⟩ := s.own_none e
    exact ⟨_, a1, p _ F H s.gr ⟨q, o, rfl, a4, a2, a3, a5⟩⟩
  · exact p.elim
def lockE (i : Nat) (ρ : Env) : Env := match ownAt ρ i with
  | some m => ρ.set i (some (.dat (frzM m)))
  | none => ρ
theorem fs_lock {sts : List Stmt} (i : Nat) (h1 : PSs X sts (tFS g f)) : PSs X sts (tFS g fun ρ => f (lockE i ρ)) := by
  refine PSs.imp h1 fun E σ H ⟨F, ρ, s, p⟩ => ?_
  dsimp only at p
  unfold lockE at p
  split at p
  · rename_i m e
    obtain ⟨F', _, _, s'⟩ := s.lock (ownAt_ok e)
    exact ⟨F', _, s', p⟩
  · exact ⟨F, ρ, s, p⟩
def whileN (t : Env → Res Bool) (body : Env → Out) : Nat → Env → Out
  | 0, _ => .bad
  | n + 1, ρ => match t ρ with
    | .ok false => .nx ρ
    | .ok true => (match body ρ with
      | .nx ρ2 => whileN t body n ρ2
      | .ct ρ2 => whileN t body n ρ2
      | .bk ρ2 => .nx ρ2
      | .rt b => .rt b
      | .exc c ρ2 => .exc c ρ2
      | .bad => .bad)
    | .exc c => .exc c ρ
    | .bad => .bad
def whileS (m : Env → Nat) (t : Env → Res Bool) (body : Env → Out) : Env → Out := fun ρ => whileN t body (m ρ) ρ
theorem fs_while {t : Env → Res Bool} {body : List Stmt} (m : Env → Nat) (hp : PassesOwn (model X.prog X.w) X.A X.env X.xe) (hc : PT X c (tFT g t)) (hb : PSs X body (tFS g f)) : PS X (.While c body [] pos) (tFS g (whileS m t f)) := by
  refine PS.imp (ps_while hp hc hb) fun E σ H ⟨F, ρ, s, p⟩ => ?_
  refine ⟨fun n σ H => ∃ F ρ, St g F H σ ρ ∧ PostS g E (whileN t f n ρ), ⟨m ρ, F, ρ, s, p⟩, ?_⟩
  rintro n σ H ⟨F, ρ, s, p⟩
  cases n with
  | zero => exact p.elim
  | succ n =>
    unfold whileN at p
    refine runT s (fun k F1 H1 e1 g1 => ?_) (fun c e => ?_) (fun e => ?_)
    · rw [e1] at p
      cases k with
      | false => exact p σ F1 H1 (s.grow g1)
      | true =>
        dsimp only at p
        refine ⟨fun σ2 H2 => ∃ F2 ρ2, St g F2 H2 σ2 ρ2 ∧ PostS g E (whileN t f n ρ2), fun σ2 H2 h => ⟨n, Nat.lt_succ_self n, h⟩, F1, ρ, s.grow g1, ?_⟩
        cases eb : f ρ with
        | nx ρ2 => rw [eb] at p; exact fun σ4 F4 H4 s4 => ⟨F4, ρ2, s4, p⟩
        | ct ρ2 => rw [eb] at p; exact fun σ4 F4 H4 s4 => ⟨F4, ρ2, s4, p⟩
        | bk ρ2 => rw [eb] at p; exact p
        | rt b => rw [eb] at p; exact p
        | exc c ρ2 => rw [eb] at p; exact p
        | bad => rw [eb] at p; exact p
    · rw [e] at p
      exact fun F' H' g1 => p σ F' H' (s.grow g1)
    · rw [e] at p
      exact p
def loopF (t : Tg) (body : Env → Out) : List D → Env → Out
  | [], ρ => .nx ρ
  | d :: ds, ρ => match bindT t d ρ with
    | none => .bad
    | some ρ1 => match body ρ1 with
      | .nx ρ2 => loopF t body ds ρ2
      | .ct ρ2 => loopF t body ds ρ2
      | .bk ρ2 => .nx ρ2
      | .rt b => .rt b
      | .exc c ρ2 => .exc c ρ2
      | .bad => .bad
def forV (t : Tg) (it : Env → Res (List D)) (body : Env → Out) : Env → Out := fun ρ => match it ρ with
  | .ok ds => loopF t body ds ρ
  | .exc c => .exc c ρ
  | .bad => .bad
abbrev G.fl (g : G) (F0 : Hp) : G := { g with F0 := F0 }
theorem Grow.up {F H F1 H1 F2 H2 : Hp} (a : Grow F H F1 H1) (b : Grow F1 H F2 H2) : Grow F H F2 H2 := ⟨a.fh.trans b.fh, b.hh, b.sub, fun c o h n e => b.new c o h n (a.new c o h n e)⟩
theorem Grow.down {F H F1 F2 H2 : Hp} (a : Grow F H F2 H2) (e : Same F F1) (e' : Same F1 F2) : Grow F1 H F2 H2 := ⟨e', a.hh, a.sub, fun c o h n z => a.new c o h n (e.free z)⟩
theorem St.up {F1 H1 F H : Hp} {σ : L2.St} {ρ : Env} (a : Grow g.F0 g.G0 F1 H1) (s : St (g.fl F1) F H σ ρ) : St g F H σ ρ := ⟨a.up s.gr, s.len, fun i b h => let ⟨v, h1, h2⟩ := s.at_ i b h; ⟨v, h1, by cases b <;> exact h2⟩, s.apart⟩
theorem St.down {F1 F H : Hp} {σ : L2.St} {ρ : Env} (s : St g F H σ ρ) (e : Same g.F0 F1) (e' : Same F1 F) : St (g.fl F1) F H σ ρ := ⟨s.gr.down e e', s.len, fun i b h => let ⟨v, h1, h2⟩ := s.at_ i b h; ⟨v, h1, by cases b <;> exact h2⟩, s.apart⟩
theorem fs_for {t : Tg} {tg iter : Expr} {it : Env → Res (List D)} {body : List Stmt} (hp : PassesOwn (model X.prog X.w) X.A X.env X.xe) (hc : X.calm = true) (hi : PI X tg iter (tFI g false it)) (hg : PG X tg (tFG g t)) (hb : ∀ F0, PSs X body (tFS (g.fl F0) f))
    (hs : ∀ x, foldedSetIterable iter X.env x = pure x) : PS X (.For tg iter body [] pos) (tFS g (forV t it f)) := by
  have hb' : PSs X body (fun E σ H => ∃ F0, tFS (g.fl F0) f E σ H) := ⟨fun pins s σ H E I ⟨F0, w⟩ => (hb F0).run pins s σ H E I w⟩
  refine PS.imp (ps_for hp hc hi hg hb' hs) fun E σ H ⟨F, ρ, s, p⟩ => ⟨F, ρ, s, ?_⟩
  unfold forV at p
  cases e : it ρ with
  | exc c =>
    rw [e] at p
    exact fun F' H' g1 => p σ F' H' (s.grow g1)
  | bad =>
    rw [e] at p
    exact p
  | ok ds =>
    rw [e] at p
    intro F1 H1 J g1 ok
    refine ⟨fun i m σ' H' => m = ds.length - i ∧ i ≤ ds.length ∧ ∃ F' ρ', St g F' H' σ' ρ' ∧ PP g false F1 H1 F' H' ∧ PostS g E (loopF t f (ds.drop i) ρ'), ⟨_, rfl, Nat.zero_le _, F1, ρ, s.grow g1, ⟨Same.refl _, g1.sub, (s.gr.trans g1).hh, (fun z => by cases z)⟩, p⟩, ?_⟩
    rintro i m σ' H' ⟨rfl, hle, F', ρ', s', pp, q⟩
    by_cases hlt : i < ds.length
    · refine .inr ⟨ok.go i F' H' pp hlt, fun σ2 H2 => ∃ F2 ρ2, St g F2 H2 σ2 ρ2 ∧ PP g false F1 H1 F2 H2 ∧ PostS g E (loopF t f (ds.drop (i + 1)) ρ2), fun σ2 H2 ⟨F2, ρ2, s2, p2, q2⟩ => ⟨_, ?_, rfl, hlt, F2, ρ2, s2, p2, q2⟩, fun x H2 hy => ?_⟩
      · omega
      · have hd : ds[i]? = some ds[i] := List.getElem?_eq_getElem hlt
        obtain ⟨F2, g2, r2⟩ := ok.yld i F' H' x H2 _ pp hd hy
        have s2 := s'.grow g2
        rw [List.drop_eq_getElem_cons hlt] at q
        unfold loopF at q
        split at q
        · exact q.elim
        · rename_i ρ1 hb1
          have e01 : Same g.F0 F1 := s.gr.fh.trans g1.fh
          have a1 : Grow g.F0 g.G0 F1 H1 := s.gr.trans g1
          refine ⟨F2, ρ', _, ρ1, s2, r2, hb1, fun σ3 s3 _ => ⟨F1, F2, ρ1, s3.down e01 (pp.1.trans g2.fh), ?_⟩⟩
          cases eb : f ρ1 with
          | nx ρ2 =>
            rw [eb] at q
            exact fun σ4 F4 H4 s4 => ⟨F4, ρ2, s4.up a1, ⟨s4.gr.fh, s4.sub, s4.gr.hh, fun z => by cases z⟩, q⟩
          | ct ρ2 =>
            rw [eb] at q
            exact fun σ4 F4 H4 s4 => ⟨F4, ρ2, s4.up a1, ⟨s4.gr.fh, s4.sub, s4.gr.hh, fun z => by cases z⟩, q⟩
          | bk ρ2 =>
            rw [eb] at q
            exact fun σ4 F4 H4 s4 => q σ4 F4 H4 (s4.up a1)
          | rt b =>
            rw [eb] at q
            exact fun v F4 H4 g4 r4 => q v F4 H4 (a1.up g4) (by cases b <;> exact r4)
          | exc c ρ2 =>
            rw [eb] at q
            exact fun σ4 F4 H4 s4 => q σ4 F4 H4 (s4.up a1)
          | bad =>
            rw [eb] at q
            exact q
    · have he : i = ds.length := by omega
      subst he
      rw [List.drop_length] at q
      exact .inl ⟨ok.stop _ F' H' pp (Nat.le_refl _), q _ _ _ s'⟩
end
end Fn
namespace Fn
open PySem PySem.Spec PyProof.Rows L2
open L2H (RoomH PinOk cxH inv_startH)
structure FnP (P : Program) (w : World) (K : PySem.W.Frag) (mg : Str → Option Value) (base : Heap) (k : Nat) (f : Addr) (fd : FuncData) (ps : List Str) (sp : Option (Addr × Obj) → Sp) : Prop where
  len : ∀ p vs H Q E, sp p vs H Q E → vs.length = ps.length
  run : ∀ (p : Addr × Obj) (A : Around) (outer : List PySem.Env) (s : Shared) (H : Hp) (args : Args) (us : List Value) (vs : List V) (Q : VK) (E : XK), RoomH k A → PinOk outer H s p → Env0 P w K mg base A outer s H → BindsTo s fd args (ps.zip us) → Vals vs us → sp (some p) vs H Q E →
    codeAny (model P w) A (.call (.ref f) args) (CR (L2.CX P w) outer P w H s Q E) s
theorem FnP.mono {P : Program} {w : World} {K : PySem.W.Frag} {mg : Str → Option Value} {base : Heap} {j k : Nat} {f : Addr} {fd : FuncData} {ps : List Str} {sp : Option (Addr × Obj) → Sp} (F : FnP P w K mg base j f fd ps sp) (h : j ≤ k) : FnP P w K mg base k f fd ps sp :=
  ⟨F.len, fun p A outer s H args us vs Q E hr => F.run p A outer s H args us vs Q E (hr.mono h)⟩
section
variable {X : Cx} {k : Nat} {f : Addr} {fd : FuncData} {ps : List Str} {sp : Option (Addr × Obj) → Sp} {E : L2.St → XK} {x : Str} {q pos : Pos} {e : Expr} {es : List Expr} {t : TA}
theorem isE_run {p : Addr × Obj} {D : Addr} (hp : p ∈ X.pn) (C : ExcC X.K D) (hz : Zc (.ref D) none p.2) (hf : ∃ vs, p.2.data = .fields vs) {pins : List (Addr × Obj)} {s : Shared} {σ : L2.St} {H : Hp} (I : Inv X pins σ H s) : PySem.W.InstAt s.heap p.1 p.2 D none := by
  obtain ⟨a, oc, od, oda, osl⟩ := p
  obtain ⟨vs, hv⟩ := hf
  obtain ⟨h1, h2⟩ := hz
  dsimp only at h1 h2 hv
  subst h1 h2 hv
  exact ⟨(I.pin _ (List.mem_append_left _ hp)).1, rfl, rfl, trivial⟩
def rIsP (K : PySem.W.Frag) (D a : Addr) : List V → Hp → VK → Prop := fun xs H Q => ∃ (c : V) (cv : Value) (b : Bool), xs = [.ref a, c] ∧ ClsV c cv ∧ PySem.W.kitOne K (.ref D) cv = some b ∧ Q (.bl b) H
theorem call_isP {p : Addr × Obj} {D : Addr} (hp : p ∈ X.pn) (C : ExcC X.K D) (hz : Zc (.ref D) none p.2) (hf : ∃ vs, p.2.data = .fields vs) : CallR X (.builtin "isinstance") (rIsP X.K D p.1) := by
  intro pins s σ H xs us Q I r h
  obtain ⟨c, cv, b, rfl, hcv, e, q⟩ := h
  obtain ⟨u1, u2, rfl, r1, r2⟩ := vals2 r
  have e2 := hcv.eq r2
  subst e2
  obtain rfl : u1 = Value.ref p.1 := r1
  exact PySem.W.kia_one (PySem.W.handS_kitx_exc C.hg C.hk C.hs C.hd C.ha C.hn C.ht C.hm) I.kIn (isE_run hp C hz hf I) e (fun z => nomatch z) fun tk => ⟨.bl b, H, I.tok tk, rfl, q⟩
def rIsPT (K : PySem.W.Frag) (D a : Addr) : List V → Hp → VK → Prop := fun xs H Q => ∃ (tp : Addr) (cs : List V) (us : List Value) (b : Bool), xs = [.ref a, .ref tp] ∧ H tp = some (.tup cs) ∧ Paired ClsV cs us ∧ PySem.W.kitAny K (.ref D) us = some b ∧ Q (.bl b) H
theorem call_isPT {p : Addr × Obj} {D : Addr} (hp : p ∈ X.pn) (C : ExcC X.K D) (hz : Zc (.ref D) none p.2) (hf : ∃ vs, p.2.data = .fields vs) : CallR X (.builtin "isinstance") (rIsPT X.K D p.1) := by
  intro pins s σ H xs us Q I r h
  obtain ⟨tp, cs, ws, b, rfl, hT, k, e, q⟩ := h
  obtain ⟨u1, u2, rfl, r1, r2⟩ := vals2 r
  obtain rfl : u1 = Value.ref p.1 := r1
  cases (show u2 = Value.ref tp from r2)
  obtain ⟨_, its, rv, o, h1, h2, n, h3⟩ := (show ObjOk X.prog X.w H s.heap tp (.tup cs) from I.hok tp _ hT)
  have e3 := ClsV.all k rv
  subst e3
  obtain ⟨oc, od, dt, sl⟩ := o
  simp only at h2 h3
  subst h2 h3
  exact PySem.W.kia_tup (PySem.W.handS_kitx_exc C.hg C.hk C.hs C.hd C.ha C.hn C.ht C.hm) I.kIn (isE_run hp C hz hf I) h1 e (fun z => nomatch z) fun tk => ⟨.bl b, H, I.tok tk, rfl, q⟩
end
end Fn
namespace Fn
open PySem PySem.Spec PyProof.Rows L2
structure Bt where
  bi : List Str
  cs : List (Str × D)
  hot : Bool := false
  ex : List Str := []
  rs : List Nat := []
  hs : List En := []
structure BiOk (K : PySem.W.Frag) (fa : Nat → Option Addr) (mg : Str → Option Value) (bt : Bt) : Prop where
  bi : ∀ x ∈ bt.bi, mg x = none
  cs : ∀ p ∈ bt.cs, ∃ v u, mg p.1 = some u ∧ RelV v u ∧ ∀ F, Rp K fa F v p.2
def subE (c c' : Nat) : Bool := c == c' || c' == 0
abbrev veM : List Value := [.type "ValueError", .type "Exception", .type "BaseException", .type "object"]
structure ErrOk (K : PySem.W.Frag) (C : Addr) : Prop where
  xk : PySem.W.excIn K C veM "ValueError.__new__" = true
  kp : PySem.W.keepIn K (.ref C) = true
  sb : PySem.W.subIn K (.ref C) (.type "BaseException") = some true
  ty : PySem.W.typeIn K (.ref C) = some (.type "type")
  ec : ExcC K C
  ve : PySem.W.subIn K (.ref C) (.type "ValueError") = some true
  sf : PySem.W.subIn K (.ref C) (.ref C) = some true
structure ExOk (K : PySem.W.Frag) (fa : Nat → Option Addr) (cls : Nat → Value) (mg : Str → Option Value) (bt : Bt) : Prop where
  at_ : ∀ c x, bt.ex[c]? = some x → ∃ C, mg x = some (.ref C) ∧ fa (1000 + c) = some C ∧ cls c = .ref C ∧ PySem.W.subIn K (.ref C) (.type "BaseException") = some true ∧ PySem.W.isClsIn K C = true ∧ PySem.W.typeIn K (.ref C) = some (.type "type")
  rs : ∀ c ∈ bt.rs, ∃ C, fa (1000 + c) = some C ∧ cls c = .ref C ∧ ErrOk K C
  sub : ∀ c ∈ bt.rs, ∀ c' C C', c' < bt.ex.length → fa (1000 + c) = some C → fa (1000 + c') = some C' → PySem.W.subIn K (.ref C) (.ref C') = some (subE c c')
structure HotOk (P : Program) (w : World) (K : PySem.W.Frag) (mg : Str → Option Value) (base : Heap) (fa : Nat → Option Addr) (cls : Nat → Value) (lv : Nat) (hs : List En) : Prop where
  at_ : ∀ (k : Nat) (en : En), hs[k]? = some en → ∃ f fd ps, mg en.name = some (.ref f) ∧ PySem.W.keepIn K (.ref f) = true ∧ Binds K fd ps [] ∧ FnP P w K mg base lv f fd ps (spP K fa cls en.n en.F)
theorem HotOk.mono {P : Program} {w : World} {K : PySem.W.Frag} {mg : Str → Option Value} {base : Heap} {fa : Nat → Option Addr} {cls : Nat → Value} {lv lv' : Nat} {hs : List En} (h : HotOk P w K mg base fa cls lv hs) (e : lv ≤ lv') : HotOk P w K mg base fa cls lv' hs :=
  ⟨fun k en q => let ⟨f, fd, ps, a, b, c, d⟩ := h.at_ k en q; ⟨f, fd, ps, a, b, c, d.mono e⟩⟩
theorem HotOk.nil {P : Program} {w : World} {K : PySem.W.Frag} {mg : Str → Option Value} {base : Heap} {fa : Nat → Option Addr} {cls : Nat → Value} {lv : Nat} : HotOk P w K mg base fa cls lv [] := ⟨fun k en q => by cases q⟩
theorem HotOk.snoc {P : Program} {w : World} {K : PySem.W.Frag} {mg : Str → Option Value} {base : Heap} {fa : Nat → Option Addr} {cls : Nat → Value} {lv : Nat} {hs : List En} (h : HotOk P w K mg base fa cls lv hs) {en : En} {f : Addr} {fd : FuncData} {ps : List Str} (hm : mg en.name = some (.ref f)) (hk : PySem.W.keepIn K (.ref f) = true) (hb : Binds K fd ps [])
    (F : FnP P w K mg base lv f fd ps (spP K fa cls en.n en.F)) : HotOk P w K mg base fa cls lv (hs ++ [en]) := ⟨fun k en' q => by
  by_cases hl : k < hs.length
  · rw [List.getElem?_append_left hl] at q
    exact h.at_ k en' q
  · rw [List.getElem?_append_right (Nat.le_of_not_lt hl)] at q
    cases z : k - hs.length with
    | zero => rw [z] at q; cases q; exact ⟨f, fd, ps, hm, hk, hb, F⟩
    | succ m => rw [z] at q; cases q⟩
structure CT (X : Cx) (g : G) (cls : Nat → Value) (k : Nat) (tab : List En) (N : List Str) (sc : Scope) (bt : Bt) : Prop where
  hK : g.K = X.K
  calm : bt.hot = false → X.calm = true
  hN : X.N = N
  nd : N.Nodup
  hS : X.env.scope = sc
  room : L2H.RoomH k X.A
  tab : TabOk X g.fa cls k tab
  pz : Pz X g cls
  bi : BiOk X.K g.fa X.mg bt
  hd : bt.hot = false → X.A.handled = none
  nh : bt.hot = false → g.h = none
  ph : ∀ p, g.h = some p → p ∈ X.pn
  eh : bt.hot = true → ∃ q, g.h = some q
  ex : ExOk X.K g.fa cls X.mg bt
  hs : HotOk X.prog X.w X.K X.mg X.base g.fa cls k bt.hs
def nmOk (x : Str) : Bool := !(x == ("__debug__" : Str)) && !(x == ("__classdict__" : Str)) && !(x == ("__name__" : Str))
def visC (sc : Scope) (x : Str) : Bool := match sc.names.lookup x with
  | some .local => true
  | some .cell => true
  | some .free => true
  | _ => false
def vOk (N : List Str) (sc : Scope) (i : Nat) (x : Str) : Bool := decide (N[i]? = some x) && visC sc x && nmOk x
def lOk (N : List Str) (sc : Scope) (i : Nat) (x : Str) : Bool := decide (N[i]? = some x) && decide (sc.names.lookup x = some .local)
def gOk (sc : Scope) (bt : Bt) (x : Str) : Bool := decide (sc.names.lookup x = some .globalImplicit) && decide (x ∈ bt.bi)
def dOk (sc : Scope) (x : Str) : Bool := decide (sc.names.lookup x = some .globalImplicit) && nmOk x
theorem nmOk_ok {x : Str} (h : nmOk x = true) : (x == ("__debug__" : Str)) = false ∧ (x == ("__classdict__" : Str)) = false ∧ (x == ("__name__" : Str)) = false := by
  unfold nmOk at h
  simp only [Bool.and_eq_true, Bool.not_eq_true'] at h
  exact ⟨h.1.1, h.1.2, h.2⟩
theorem visC_ok {sc : Scope} {x : Str} (h : visC sc x = true) : Vis sc x := by
  unfold visC at h
  split at h
  · rename_i e; exact .inl e
  · rename_i e; exact .inr (.inl e)
  · rename_i e; exact .inr (.inr e)
  · cases h
section
variable {X : Cx} {g : G} {cls : Nat → Value} {k : Nat} {tab : List En} {N : List Str} {sc : Scope} {bt : Bt} {a b c : Expr} {pos : Pos} {fa fb fc : Env → Res B}
theorem CT.fl (C : CT X g cls k tab N sc bt) (F0 : Hp) : CT X (g.fl F0) cls k tab N sc bt := ⟨C.hK, C.calm, C.hN, C.nd, C.hS, C.room, C.tab, C.pz, C.bi, C.hd, C.nh, C.ph, C.eh, C.ex, C.hs⟩
theorem CT.hu (C : CT X g cls k tab N sc bt) : X.A.units + 200 < cLine := by have := C.room.un; omega
theorem CT.gl (C : CT X g cls k tab N sc bt) {x : Str} (h : sc.names.lookup x = some .globalImplicit) : Gl X x := by
  show X.env.scope.names.lookup x = _
  rw [C.hS]
  exact h
theorem CT.bl (C : CT X g cls k tab N sc bt) {x : Str} (h : gOk sc bt x = true) : Gl X x ∧ X.mg x = none := by
  unfold gOk at h
  rw [Bool.and_eq_true, decide_eq_true_eq, decide_eq_true_eq] at h
  exact ⟨C.gl h.1, C.bi.bi x h.2⟩
theorem CT.vo (C : CT X g cls k tab N sc bt) {i : Nat} {x : Str} (h : vOk N sc i x = true) : X.N[i]? = some x ∧ Vis X.env.scope x ∧ (x == ("__debug__" : Str)) = false ∧ (x == ("__classdict__" : Str)) = false := by
  unfold vOk at h
  simp only [Bool.and_eq_true, decide_eq_true_eq] at h
  obtain ⟨⟨h1, h2⟩, h3⟩ := h
  exact ⟨by rw [C.hN]; exact h1, by rw [C.hS]; exact visC_ok h2, (nmOk_ok h3).1, (nmOk_ok h3).2.1⟩
theorem CT.lo (C : CT X g cls k tab N sc bt) {i : Nat} {x : Str} (h : lOk N sc i x = true) : X.N[i]? = some x ∧ X.env.scope.names.lookup x = some .local := by
  unfold lOk at h
  simp only [Bool.and_eq_true, decide_eq_true_eq] at h
  exact ⟨by rw [C.hN]; exact h.1, by rw [C.hS]; exact h.2⟩
theorem CT.nd' (C : CT X g cls k tab N sc bt) : X.N.Nodup := by rw [C.hN]; exact C.nd
theorem CT.var (C : CT X g cls k tab N sc bt) (i : Nat) {x : Str} (h : vOk N sc i x = true) : PE X (.Name x pos) (tF g (varB i)) := by
  obtain ⟨h1, h2, h3, h4⟩ := C.vo h
  exact PE.imp (pe_var h1 h2 h3 h4) fun _ _ _ q => var_run q
theorem fe_int {i : Int} {j} : PE X (.Constant (.int i) j pos) (tF g fun _ => .ok (.dat (.int i))) := PE.imp pe_int fun _ _ _ q => con_run (fun _ => .int i) q
theorem fe_bl {i : Bool} {j} : PE X (.Constant (.bool i) j pos) (tF g fun _ => .ok (.dat (.bl i))) := PE.imp pe_bl fun _ _ _ q => con_run (fun _ => .bl i) q
theorem fe_str {i : Str} {j} : PE X (.Constant (.str i) j pos) (tF g fun _ => .ok (.dat (.str i))) := PE.imp pe_str fun _ _ _ q => con_run (fun _ => .str i) q
theorem fe_non {j} : PE X (.Constant .none j pos) (tF g fun _ => .ok (.dat .non)) := PE.imp pe_non fun _ _ _ q => con_run (fun _ => .non) q
theorem CT.con (C : CT X g cls k tab N sc bt) (j : Nat) {x : Str} {d : D} (h : bt.cs[j]? = some (x, d)) (hg : dOk sc x = true) : PE X (.Name x pos) (tF g fun _ => .ok (.dat d)) := by
  unfold dOk at hg
  rw [Bool.and_eq_true, decide_eq_true_eq] at hg
  obtain ⟨v, u, h1, h2, h3⟩ := C.bi.cs (x, d) (List.mem_of_getElem? h)
  exact PE.imp (pe_glob (v := v) (C.gl hg.1) h1 h2 (nmOk_ok hg.2).1) fun _ _ _ q => con_run (fun F => by rw [C.hK]; exact h3 F) q
theorem CT.add (C : CT X g cls k tab N sc bt) (ha : PE X a (tF g fa)) (hb : PE X b (tF g fb)) : PE X (.BinOp a .Add b pos) (tF g (bin2 addB fa fb)) := fe_bin op_addF (g_add C.hK) ha hb
theorem CT.sub (C : CT X g cls k tab N sc bt) (ha : PE X a (tF g fa)) (hb : PE X b (tF g fb)) : PE X (.BinOp a .Sub b pos) (tF g (bin2 subB fa fb)) := fe_bin op_sub g_sub ha hb
theorem CT.mul (C : CT X g cls k tab N sc bt) (ha : PE X a (tF g fa)) (hb : PE X b (tF g fb)) : PE X (.BinOp a .Mult b pos) (tF g (bin2 mulB fa fb)) := fe_bin op_mulF g_mul ha hb
theorem CT.div (C : CT X g cls k tab N sc bt) (ha : PE X a (tF g fa)) (hb : PE X b (tF g fb)) : PE X (.BinOp a .FloorDiv b pos) (tF g (bin2 divB fa fb)) := fe_bin op_fdivG g_div ha hb
theorem CT.mod (C : CT X g cls k tab N sc bt) (ha : PE X a (tF g fa)) (hb : PE X b (tF g fb)) : PE X (.BinOp a .Mod b pos) (tF g (bin2 modB fa fb)) := fe_bin op_modG g_mod ha hb
theorem CT.shl (C : CT X g cls k tab N sc bt) (ha : PE X a (tF g fa)) (hb : PE X b (tF g fb)) : PE X (.BinOp a .LShift b pos) (tF g (bin2 shlB fa fb)) := fe_bin op_shl g_shl ha hb
theorem CT.shr (C : CT X g cls k tab N sc bt) (ha : PE X a (tF g fa)) (hb : PE X b (tF g fb)) : PE X (.BinOp a .RShift b pos) (tF g (bin2 shrB fa fb)) := fe_bin op_shr g_shr ha hb
theorem CT.band (C : CT X g cls k tab N sc bt) (ha : PE X a (tF g fa)) (hb : PE X b (tF g fb)) : PE X (.BinOp a .BitAnd b pos) (tF g (bin2 andB fa fb)) := fe_bin op_and g_and ha hb
theorem CT.pow (C : CT X g cls k tab N sc bt) (ha : PE X a (tF g fa)) (hb : PE X b (tF g fb)) : PE X (.BinOp a .Pow b pos) (tF g (bin2 powB fa fb)) := fe_bin op_pow g_pow ha hb
structure CmpW (X : Cx) (g : G) (op : CmpOp) (f : B → B → Res B) : Prop where
  ex : ∃ r, OpR X (compareOp op) r ∧ OpG g r f
theorem CT.hu64 (C : CT X g cls k tab N sc bt) : X.A.units + 64 < cLine := by have := C.hu; omega
theorem CT.hu100 (C : CT X g cls k tab N sc bt) : X.A.units + 100 < cLine := by have := C.hu; omega
theorem CT.hu1 (C : CT X g cls k tab N sc bt) : X.A.units + 1 < cLine := by have := C.hu; omega
def leF : B → B → Res B := cmpI fun i j => decide (i ≤ j)
def gtF : B → B → Res B := cmpI fun i j => decide (j < i)
def geF : B → B → Res B := cmpI fun i j => decide (j ≤ i)
theorem CT.eq (C : CT X g cls k tab N sc bt) : CmpW X g .Eq eqB := ⟨_, op_eqD C.hu64, g_eq C.hK⟩
theorem CT.ne (C : CT X g cls k tab N sc bt) : CmpW X g .NotEq neB := ⟨_, op_neD C.hu64, g_ne C.hK⟩
theorem CT.lt (C : CT X g cls k tab N sc bt) : CmpW X g .Lt ltB := ⟨_, op_ltF C.hu64, g_lt C.hK⟩
theorem CT.le (C : CT X g cls k tab N sc bt) : CmpW X g .LtE leF := ⟨_, op_le, g_cmpI⟩
theorem CT.gt (C : CT X g cls k tab N sc bt) : CmpW X g .Gt gtF := ⟨_, op_gt, g_cmpI⟩
theorem CT.ge (C : CT X g cls k tab N sc bt) : CmpW X g .GtE geF := ⟨_, op_ge, g_cmpI⟩
theorem CT.is (C : CT X g cls k tab N sc bt) : CmpW X g .Is (isB false) := ⟨_, op_isF, g_is⟩
theorem CT.isn (C : CT X g cls k tab N sc bt) : CmpW X g .IsNot (isB true) := ⟨_, op_isNotF, g_isNot⟩
theorem CT.inn (C : CT X g cls k tab N sc bt) : CmpW X g .In (inB false) := ⟨_, op_inF C.hu100, g_in C.hK⟩
theorem CT.nin (C : CT X g cls k tab N sc bt) : CmpW X g .NotIn (inB true) := ⟨_, op_notInF C.hu100, g_in C.hK⟩
theorem cmpE {op : CmpOp} {f : B → B → Res B} (w : CmpW X g op f) (ha : PE X a (tF g fa)) (hb : PE X b (tF g fb)) (hm : nset b = true) : PE X (.Compare a [op] [b] pos) (tF g (bin2 f fa fb)) := by
  obtain ⟨r, h1, h2⟩ := w.ex
  exact fe_cmp h1 h2 ha hb (nset_mark hm)
theorem cmpT {op : CmpOp} {f : B → B → Res B} (w : CmpW X g op f) (ha : PE X a (tF g fa)) (hb : PE X b (tF g fb)) (hm : nset b = true) : PT X (.Compare a [op] [b] pos) (tFT g fun ρ => (bin2 f fa fb ρ).bind tstB) := by
  obtain ⟨r, h1, h2⟩ := w.ex
  exact ft_cmp h1 h2 ha hb (nset_mark hm)
theorem CT.val (C : CT X g cls k tab N sc bt) (ha : PE X a (tF g fa)) (hp : plainT a = true) : PT X a (tFT g (testV fa)) := ft_val C.hK hp ha
theorem CT.idx (C : CT X g cls k tab N sc bt) (ha : PE X a (tF g fa)) (hb : PE X b (tF g fb)) (hp : nsl b = true) : PE X (.Subscript a b pos) (tF g (bin2 idxB fa fb)) := fe_idx C.hu100 C.hK (nsl_ix hp) ha hb
theorem CT.slc (C : CT X g cls k tab N sc bt) {lo hi : Option Expr} {fl fh : Env → Res (Option Int)} {p2 : Pos} (ha : PE X a (tF g fa)) (hl : PO X lo (tFO g fl)) (hh : PO X hi (tFO g fh)) : PE X (.Subscript a (.Slice lo hi none p2) pos) (tF g (slcV fa fl fh)) := fe_slice C.hK ha hl hh
variable {x : Str} {p : Pos} {e : Expr} {es : List Expr} {fs : Env → Res (List B)}
structure BiW (X : Cx) (g : G) (x : Str) (f : List B → Res B) : Prop where
  ex : (∃ id r, CallR X (.builtin id) r ∧ bootBuiltins x = some (.builtin id) ∧ CallG g r f) ∨ ∃ T r, CallR X (.type T) r ∧ bootBuiltins x = some (.type T) ∧ CallG g r f
theorem CT.len (C : CT X g cls k tab N sc bt) : BiW X g "len" lenB := ⟨.inl ⟨_, _, c_len, PySem.boot_len, g_len C.hK⟩⟩
theorem CT.call (C : CT X g cls k tab N sc bt) {f : List B → Res B} (w : BiW X g x f) (ha : PA X (e :: es) (tFA g fs)) (hg : gOk sc bt x = true) (hn : nmOk x = true) (hst : (e :: es).all nst = true) : PE X (.Call (.Name x p) (e :: es) [] pos) (tF g fun ρ => (fs ρ).bind f) := by
  obtain ⟨h1, h2⟩ := C.bl hg
  obtain ⟨n1, _, n2⟩ := nmOk_ok hn
  have n3 : x ≠ "__name__" := fun z => by rw [z] at n2; revert n2; decide
  rcases w.ex with ⟨id, r, c1, c2, c3⟩ | ⟨T, r, c1, c2, c3⟩
  · exact fe_callB c1 h1 h2 c2 c3 ha n3 n1 hst
  · exact fe_callTy c1 h1 h2 c2 c3 ha n3 n1 hst
theorem CT.own (C : CT X g cls k tab N sc bt) (j : Nat) {en : En} (ha : PA X (e :: es) (tFA g fs)) (hk : tab[j]? = some en) (hx : x = en.name) (hg : dOk sc x = true) (hst : (e :: es).all nst = true) (hh : bt.hot = false := by rfl) : PE X (.Call (.Name x p) (e :: es) [] pos) (tF g fun ρ => (fs ρ).bind fun bs => (lenA en.n bs).bind (callV en)) := by
  unfold dOk at hg
  rw [Bool.and_eq_true, decide_eq_true_eq] at hg
  exact fe_call (C.nh hh) C.tab ⟨C.hd hh, C.room.dp, C.room.un⟩ C.pz hk hx C.hK (C.gl hg.1) ha (nmOk_ok hg.2).1 hst
theorem CT.isi (C : CT X g cls k tab N sc bt) (t : Ty) {p2 : Pos} (ha : PE X a (tF g fa)) (hx : x = Str.ofString t.nm) (h1 : gOk sc bt "isinstance" = true) (h2 : gOk sc bt x = true) (hb : bootBuiltins x = some (.type t.nm)) (hn : nst a = true) :
    PE X (.Call (.Name "isinstance" p) [a, .Name x p2] [] pos) (tF g (one1 (isiB t) fa)) := fe_isi C.hK (C.bl h1).1 (C.bl h1).2 hx (C.bl h2).1 (C.bl h2).2 hb hn ha
theorem iter_plain {iter : Expr} (h : nset iter = true) (env : PySem.Env) : ∀ x, foldedSetIterable iter env x = pure x := by
  intro x
  cases iter <;> first | rfl | cases h
theorem pass0L {X : Cx} : Passes (L2.CX X.prog X.w) X (fun _ _ _ => False) := L2.passL
theorem CT.blk (C : CT X g cls k tab N sc bt) (hh : bt.hot = false) {scope : Scope} (s : Shared) (H : Hp) (A : Addr) (cl : List (Str × Addr)) (fp : List Addr) : CT (X.blk s H scope (compEnvC scope cl A X.env) fp) g.mute cls k tab N (relS scope sc) bt :=
  ⟨C.hK, C.calm, C.hN, C.nd, by rw [← C.hS]; rfl, C.room, ⟨fun j en h => C.tab.at_ j en h⟩, ⟨fun _ _ _ _ => False, fun σ pins H s e s' I c => pass0L pins σ H s e s' I c, fun _ _ _ h => h⟩, C.bi, C.hd, C.nh, (fun p h => by rw [show g.mute.h = g.h from rfl, C.nh hh] at h; cases h), C.eh, C.ex, ⟨fun j en h => C.hs.at_ j en h⟩⟩
structure CB (X : Cx) (g : G) (cls : Nat → Value) (k : Nat) (tab : List En) (N : List Str) (sc : Scope) (bt : Bt) (scope : Scope) : Prop extends CT X g cls k tab N sc bt where
  fnb : ∀ x, scope.names.lookup x = some .cell → X.fn x = true
theorem CT.blkB (C : CT X g cls k tab N sc bt) (hh : bt.hot = false) {scope : Scope} (s : Shared) (H : Hp) (A : Addr) (cl : List (Str × Addr)) (fp : List Addr) : CB (X.blk s H scope (compEnvC scope cl A X.env) fp) g.mute cls k tab N (relS scope sc) bt scope :=
  ⟨C.blk hh s H A cl fp, fun x h => by show (scope.names.lookup x == some .cell) = true; rw [h]; rfl⟩
structure Inn (X : Cx) (g : G) (tg : Expr) (ifs : List Expr) (elt : Expr) (t : Tg) (c : Env → Res Bool) (fe : Env → Res B) : Prop where
  tg : PG X tg (tFG g t)
  ifs : PTs X ifs (tFT g c)
  elt : PE X elt (tF g fe)
def lcOk (N : List Str) (sc scope : Scope) (own : List (Str × Nat)) (t : Tg) (iter : Expr) : Bool := blkC N sc scope own && (t.slots.all fun i => decide (i ∈ own.map (·.2))) && nset iter
theorem CT.lc (C : CT X g cls k tab N sc bt) {t : Tg} {it : Env → Res (List D)} {c : Env → Res Bool} {fe : Env → Res B} {elt tg iter : Expr} {ifs : List Expr} {scope : Scope} (own : List (Str × Nat)) (hi : PI X tg iter (tFI g true it))
    (inn : ∀ {X' : Cx} {g' : G}, CB X' g' cls k tab N (relS scope sc) bt scope → Inn X' g' tg ifs elt t c fe) (ok : lcOk N sc scope own t iter = true) (hh : bt.hot = false := by rfl) : PE X (.ListComp elt [⟨tg, iter, ifs, 0⟩] scope pos) (tF g (compV t it c fe (own.map (·.2)))) := by
  unfold lcOk at ok
  simp only [Bool.and_eq_true, List.all_eq_true, decide_eq_true_eq] at ok
  obtain ⟨⟨h1, h2⟩, h3⟩ := ok
  exact fe_lc (C.calm hh) C.nd' hi (by rw [C.hN, C.hS]; exact blkOk_by h1) h2 (fun s H A cl fp => (inn (C.blkB hh s H A cl fp)).tg) (fun s H A cl fp => (inn (C.blkB hh s H A cl fp)).ifs) (fun s H A cl fp => (inn (C.blkB hh s H A cl fp)).elt) (iter_plain h3 _)
theorem ifs0 : PTs X [] (tFT g fun _ => .ok true) := ⟨fun pins s σ H Q I ⟨F, ρ, st, q⟩ => pts_nil.run pins s σ H Q I (q F H (Grow.refl st.sub))⟩
theorem ifs1 {t : Env → Res Bool} (h : PT X a (tFT g t)) : PTs X [a] (tFT g t) := pts_one h
theorem CT.g1 (C : CT X g cls k tab N sc bt) (i : Nat) (h : lOk N sc i x = true) : PG X (.Name x pos) (tFG g (.one i)) := fg_one C.nd' (C.lo h).1 (.inl (C.lo h).2) (.inr (C.lo h).2)
def namesOf : List Expr → Option (List Str)
  | [] => some []
  | .Name x _ :: r => (namesOf r).map (x :: ·)
  | _ => none
theorem CT.gs (C : CT X g cls k tab N sc bt) : ∀ (is : List Nat) (es : List Expr) (xs : List Str), namesOf es = some xs → xs.length = is.length → ((is.zip xs).all fun p => lOk N sc p.1 p.2) = true →
    PGs X es (gPut is) ∧ (assignEach es X.env).length = is.length ∧ (assignEach es X.env).findIdx? (·.1) = none
  | [], [], [], _, _, _ => ⟨pgs_nil, rfl, rfl⟩
  | i :: is, .Name x p :: es, xs, h, hl, ha => by
    unfold namesOf at h
    cases e : namesOf es with
    | none => rw [e] at h; cases h
    | some ys =>
      rw [e] at h
      cases h
      simp only [List.zip_cons_cons, List.all_cons, Bool.and_eq_true] at ha
      obtain ⟨q1, q2, q3⟩ := C.gs is es ys e (by simpa using hl) ha.2
      refine ⟨pgs_cons (pg_name C.nd' (C.lo ha.1).1 (.inl (C.lo ha.1).2) (.inr (C.lo ha.1).2)) q1, ?_, ?_⟩
      · show (_ :: assignEach es X.env).length = _
        rw [List.length_cons, q2, List.length_cons]
      · show List.findIdx? _ ((false, _) :: assignEach es X.env) = none
        rw [List.findIdx?_cons, q3]
        rfl
  | [], .Name _ _ :: _, xs, h, hl, _ => by
    unfold namesOf at h
    cases e : namesOf _ with
    | none => rw [e] at h; cases h
    | some ys => rw [e] at h; cases h; cases hl
  | _ :: _, [], xs, h, hl, _ => by cases h; cases hl
def gsOk (N : List Str) (sc : Scope) (is : List Nat) (es : List Expr) : Bool := match namesOf es with
  | some xs => decide (xs.length = is.length) && (is.zip xs).all fun p => lOk N sc p.1 p.2
  | none => false
theorem CT.gm (C : CT X g cls k tab N sc bt) (is : List Nat) {n : Nat} (h : gsOk N sc is es = true) (hh : bt.hot = false := by rfl) : PG X (.Tuple es n pos) (tFG g (.many is)) := by
  unfold gsOk at h
  split at h
  · rename_i xs e
    rw [Bool.and_eq_true, decide_eq_true_eq] at h
    obtain ⟨h1, h2, h3⟩ := C.gs is es xs e h.1 h.2
    exact fg_many (C.calm hh) C.hK h1 h2 h3
  · cases h
theorem CT.it (C : CT X g cls k tab N sc bt) {lk : Bool} {tg : Expr} (ha : PE X a (tF g fa)) : PI X tg a (tFI g lk fun ρ => (fa ρ).bind fun x => itemsB lk (rd x)) := fi_seq C.hK ha
theorem CT.rg1 (C : CT X g cls k tab N sc bt) {lk : Bool} {tg : Expr} (ha : PE X a (tF g fa)) (hg : gOk sc bt "range" = true) (hn : nst a = true) : PI X tg (.Call (.Name "range" p) [a] [] pos) (tFI g lk fun ρ => (consA fa (fun _ => .ok []) ρ).bind rngA) := by
  refine fi_range1 (C.bl hg).1 (C.bl hg).2 hn (fa_cons hn ha fa_nil) fun ρ bs h => ?_
  unfold consA at h
  cases e : fa ρ with
  | ok b => rw [e] at h; cases h; rfl
  | exc c => rw [e] at h; cases h
  | bad => rw [e] at h; cases h
theorem CT.rg2 (C : CT X g cls k tab N sc bt) {lk : Bool} {tg : Expr} (ha : PE X a (tF g fa)) (hb : PE X b (tF g fb)) (hg : gOk sc bt "range" = true) (hn : nst a = true) (hn2 : nst b = true) : PI X tg (.Call (.Name "range" p) [a, b] [] pos) (tFI g lk fun ρ => (consA fa (consA fb fun _ => .ok []) ρ).bind rngA) := by
  refine fi_range2 (C.bl hg).1 (C.bl hg).2 hn hn2 (fa_cons hn ha (fa_cons hn2 hb fa_nil)) fun ρ bs h => ?_
  unfold consA at h
  cases e : fa ρ with
  | ok b =>
    rw [e] at h
    cases e2 : fb ρ with
    | ok b2 => rw [Res.ok_bind, e2] at h; cases h; rfl
    | exc c => rw [Res.ok_bind, e2] at h; cases h
    | bad => rw [Res.ok_bind, e2] at h; cases h
  | exc c => rw [e] at h; cases h
  | bad => rw [e] at h; cases h
end
end Fn
namespace Fn
open PySem PySem.Spec PyProof.Rows L2
theorem boot_abs : bootBuiltins "abs" = some (.builtin "abs") := by decide +kernel
theorem boot_any : bootBuiltins "any" = some (.builtin "any") := by decide +kernel
theorem boot_all : bootBuiltins "all" = some (.builtin "all") := by decide +kernel
theorem boot_min : bootBuiltins "min" = some (.builtin "min") := by decide +kernel
theorem boot_max : bootBuiltins "max" = some (.builtin "max") := by decide +kernel
theorem boot_sum : bootBuiltins "sum" = some (.builtin "sum") := by decide +kernel
theorem boot_sorted : bootBuiltins "sorted" = some (.builtin "sorted") := by decide +kernel
theorem boot_int : bootBuiltins "int" = some (.type "int") := by decide +kernel
theorem boot_str : bootBuiltins "str" = some (.type "str") := by decide +kernel
theorem boot_tuple : bootBuiltins "tuple" = some (.type "tuple") := by decide +kernel
theorem boot_list : bootBuiltins "list" = some (.type "list") := by decide +kernel
theorem boot_dict : bootBuiltins "dict" = some (.type "dict") := by decide +kernel
theorem boot_bool : bootBuiltins "bool" = some (.type "bool") := by decide +kernel
section
variable {X : Cx} {g : G} {cls : Nat → Value} {k : Nat} {tab : List En} {N : List Str} {sc : Scope} {bt : Bt} {a b c : Expr} {pos : Pos} {fa fb fc : Env → Res B} {f h : Env → Out} {x : Str} {e : Expr} {st : Stmt} {rest body : List Stmt}
theorem CT.abs (C : CT X g cls k tab N sc bt) : BiW X g "abs" absF := ⟨.inl ⟨_, _, call_abs, boot_abs, g_abs⟩⟩
theorem CT.min (C : CT X g cls k tab N sc bt) (hh : bt.hot = false := by rfl) : BiW X g "min" minF := ⟨.inl ⟨_, _, c_min (C.calm hh), boot_min, g_min C.hK⟩⟩
theorem CT.max (C : CT X g cls k tab N sc bt) (hh : bt.hot = false := by rfl) : BiW X g "max" maxF := ⟨.inl ⟨_, _, c_max (C.calm hh), boot_max, g_max C.hK⟩⟩
theorem CT.sum (C : CT X g cls k tab N sc bt) (hh : bt.hot = false := by rfl) : BiW X g "sum" sumF := ⟨.inl ⟨_, _, cr_sum (C.calm hh), boot_sum, g_sum C.hK⟩⟩
theorem CT.any (C : CT X g cls k tab N sc bt) (hh : bt.hot = false := by rfl) : BiW X g "any" anyF := ⟨.inl ⟨_, _, cr_any (C.calm hh), boot_any, g_any C.hK⟩⟩
theorem CT.all (C : CT X g cls k tab N sc bt) (hh : bt.hot = false := by rfl) : BiW X g "all" allF := ⟨.inl ⟨_, _, cr_all (C.calm hh), boot_all, g_all C.hK⟩⟩
theorem CT.int (C : CT X g cls k tab N sc bt) : BiW X g "int" intF := ⟨.inr ⟨_, _, call_int1, boot_int, g_int⟩⟩
theorem CT.str (C : CT X g cls k tab N sc bt) : BiW X g "str" strF := ⟨.inr ⟨_, _, call_str_int, boot_str, g_str⟩⟩
theorem CT.tup (C : CT X g cls k tab N sc bt) : BiW X g "tuple" tupF := ⟨.inr ⟨_, _, call_tuple_of, boot_tuple, g_tupF C.hK⟩⟩
theorem CT.lst (C : CT X g cls k tab N sc bt) : BiW X g "list" lstF := ⟨.inr ⟨_, _, call_list_of, boot_list, g_lstF C.hK⟩⟩
theorem CT.sort (C : CT X g cls k tab N sc bt) (hh : bt.hot = false := by rfl) : BiW X g "sorted" sortF := ⟨.inl ⟨_, _, c_sort (C.calm hh) C.hu, boot_sorted, g_sort C.hK⟩⟩
end
def dropS (_ : B) (ρ : Env) : Out := .nx ρ
theorem fs_expr {X : Cx} {g : G} {e : Expr} {fa : Env → Res B} {pos : Pos} (he : PE X e (tF g fa)) (hs : swapsWith e none pos.line X.env = pure false) : PS X (.Expr e pos) (tFS g (thenS fa dropS)) := by
  refine PS.imp (ps_expr he hs) fun E σ H h => ?_
  exact then_run (k := dropS) (E := E) (Q := fun _ H1 => E.nx σ H1) h fun F ρ b v F1 H1 s g1 r1 p => p σ F1 H1 (s.grow g1)
structure CS (X : Cx) (g : G) (cls : Nat → Value) (k : Nat) (tab : List En) (N : List Str) (sc : Scope) (bt : Bt) : Prop where
  ct : CT X g cls k tab N sc bt
  po : PassesOwn (model X.prog X.w) X.A X.env X.xe
  fn : ∀ x, X.fn x = true
  tk : ∃ W : WX, Takes X W ∧ ∀ c σ H, g.E c σ H → W (cls c) none σ H
  stk : X.stack = X.env :: X.outer
  frm : X.env.frame = some X.env.locals
def nlc : Expr → Bool
  | .ListComp .. => false
  | .SetComp .. => false
  | .DictComp .. => false
  | _ => true
theorem sw_no {e : Expr} {t : Option Expr} {l : Nat} {env : PySem.Env} (h : nlc e = true) : swapsWith e t l env = pure false := by
  cases e <;> first | rfl | cases h
theorem sw_sub {e : Expr} {o i : Expr} {p : Pos} {l : Nat} {env : PySem.Env} : swapsWith e (some (.Subscript o i p)) l env = pure false := by
  cases e <;> rfl
def swC (sc scope : Scope) (t : Str) (l1 l2 : Nat) : Bool :=
  ((if sc.kind.isAnnotationScope then ScopeKind.function else sc.kind) == .function && sc.names.lookup t == some .local && l1 == l2) && !(scope.names.any fun (n, k) => n == t && (k == .local || k == .cell))
theorem sw_lc {elt : Expr} {gs : List Comprehension} {scope : Scope} {pos : Pos} {t : Str} {p : Pos} {l : Nat} {env : PySem.Env} {sc : Scope} (h : env.scope = sc) : swapsWith (.ListComp elt gs scope pos) (some (.Name t p)) l env = pure (swC sc scope t p.line pos.line) := by
  subst h
  rfl
def aOk (N : List Str) (sc : Scope) (i : Nat) (x : Str) : Bool := decide (N[i]? = some x) && (match sc.names.lookup x with
  | some .local => true
  | some .cell => true
  | _ => false)
section
variable {X : Cx} {g : G} {cls : Nat → Value} {k : Nat} {tab : List En} {N : List Str} {sc : Scope} {bt : Bt} {a b c : Expr} {pos : Pos} {fa fb fc : Env → Res B} {f h : Env → Out} {x y : Str} {e : Expr} {st : Stmt} {rest body : List Stmt} {i j : Nat} {t : Tg}
theorem CS.fl (C : CS X g cls k tab N sc bt) (F0 : Hp) : CS X (g.fl F0) cls k tab N sc bt := ⟨C.ct.fl F0, C.po, C.fn, C.tk, C.stk, C.frm⟩
theorem CS.ao (C : CS X g cls k tab N sc bt) {i : Nat} {x : Str} (h : aOk N sc i x = true) : X.N[i]? = some x ∧ Loc X.env.scope x := by
  unfold aOk at h
  rw [Bool.and_eq_true, decide_eq_true_eq] at h
  refine ⟨by rw [C.ct.hN]; exact h.1, ?_⟩
  rw [C.ct.hS]
  have h2 := h.2
  split at h2
  · rename_i e; exact .inl e
  · rename_i e; exact .inr e
  · cases h2
theorem CS.asg (C : CS X g cls k tab N sc bt) (i : Nat) {p : Pos} (he : PE X e (tF g fa)) (h : aOk N sc i x = true) (hl : nlc e = true) : PS X (.Assign [.Name x p] e pos) (tFS g (thenS fa (setV i))) :=
  fs_asg C.ct.nd' (C.ao h).1 (C.ao h).2 he (sw_no hl) (.inl (C.fn x))
theorem CS.asgLc (C : CS X g cls k tab N sc bt) (i : Nat) {it : Env → Res (List D)} {c : Env → Res Bool} {fe : Env → Res B} {elt tg iter : Expr} {ifs : List Expr} {scope : Scope} {p spos : Pos} (own : List (Str × Nat)) (hi : PI X tg iter (tFI g true it))
    (inn : ∀ {X' : Cx} {g' : G}, CB X' g' cls k tab N (relS scope sc) bt scope → Inn X' g' tg ifs elt t c fe) (ok : lcOk N sc scope own t iter = true) (h : aOk N sc i x = true) (hh : bt.hot = false := by rfl) : PS X (.Assign [.Name x p] (.ListComp elt [⟨tg, iter, ifs, 0⟩] scope pos) spos) (tFS g (thenS (compV t it c fe (own.map (·.2))) (setV i))) := by
  cases hs : swC sc scope x p.line pos.line with
  | false => exact fs_asg C.ct.nd' (C.ao h).1 (C.ao h).2 (C.ct.lc own hi inn ok hh) (by rw [sw_lc C.ct.hS, hs]) (.inl (C.fn x))
  | true =>
    have hl : X.env.scope.names.lookup x = some .local := by
      unfold swC at hs
      simp only [Bool.and_eq_true, beq_iff_eq] at hs
      rw [C.ct.hS]
      exact hs.1.1.2
    unfold lcOk at ok
    simp only [Bool.and_eq_true, List.all_eq_true, decide_eq_true_eq] at ok
    obtain ⟨⟨h1, h2⟩, h3⟩ := ok
    exact fs_asgLc (C.ct.calm hh) C.ct.nd' (C.ao h).1 hl (by rw [sw_lc C.ct.hS, hs]) hi (by rw [C.ct.hN, C.ct.hS]; exact blkOk_by h1) h2 (fun s H A cl fp => (inn (C.ct.blkB hh s H A cl fp)).tg) (fun s H A cl fp => (inn (C.ct.blkB hh s H A cl fp)).ifs) (fun s H A cl fp => (inn (C.ct.blkB hh s H A cl fp)).elt) (iter_plain h3 _)
theorem CS.g1 (C : CS X g cls k tab N sc bt) (i : Nat) (h : aOk N sc i x = true) : PG X (.Name x pos) (tFG g (.one i)) := fg_one C.ct.nd' (C.ao h).1 (C.ao h).2 (.inl (C.fn x))
theorem CS.gs (C : CS X g cls k tab N sc bt) : ∀ (is : List Nat) (es : List Expr) (xs : List Str), namesOf es = some xs → xs.length = is.length → ((is.zip xs).all fun p => aOk N sc p.1 p.2) = true →
    PGs X es (gPut is) ∧ (assignEach es X.env).length = is.length ∧ (assignEach es X.env).findIdx? (·.1) = none
  | [], [], [], _, _, _ => ⟨pgs_nil, rfl, rfl⟩
  | i :: is, .Name x p :: es, xs, h, hl, ha => by
    unfold namesOf at h
    cases e : namesOf es with
    | none => rw [e] at h; cases h
    | some ys =>
      rw [e] at h
      cases h
      simp only [List.zip_cons_cons, List.all_cons, Bool.and_eq_true] at ha
      obtain ⟨q1, q2, q3⟩ := C.gs is es ys e (by simpa using hl) ha.2
      refine ⟨pgs_cons (pg_name C.ct.nd' (C.ao ha.1).1 (C.ao ha.1).2 (.inl (C.fn _))) q1, ?_, ?_⟩
      · show (_ :: assignEach es X.env).length = _
        rw [List.length_cons, q2, List.length_cons]
      · show List.findIdx? _ ((false, _) :: assignEach es X.env) = none
        rw [List.findIdx?_cons, q3]
        rfl
  | [], .Name _ _ :: _, xs, h, hl, _ => by
    unfold namesOf at h
    cases e : namesOf _ with
    | none => rw [e] at h; cases h
    | some ys => rw [e] at h; cases h; cases hl
  | _ :: _, [], xs, h, hl, _ => by cases h; cases hl
def gsOkS (N : List Str) (sc : Scope) (is : List Nat) (es : List Expr) : Bool := match namesOf es with
  | some xs => decide (xs.length = is.length) && (is.zip xs).all fun p => aOk N sc p.1 p.2
  | none => false
theorem CS.gm (C : CS X g cls k tab N sc bt) (is : List Nat) {es : List Expr} {n : Nat} (h : gsOkS N sc is es = true) (hh : bt.hot = false := by rfl) : PG X (.Tuple es n pos) (tFG g (.many is)) := by
  unfold gsOkS at h
  split at h
  · rename_i xs e
    rw [Bool.and_eq_true, decide_eq_true_eq] at h
    obtain ⟨h1, h2, h3⟩ := C.gs is es xs e h.1 h.2
    exact fg_many (C.ct.calm hh) C.ct.hK h1 h2 h3
  · cases h
def ntu : Expr → Bool
  | .Tuple .. => false
  | _ => true
theorem CS.asgT (C : CS X g cls k tab N sc bt) {es : List Expr} {n : Nat} {p : Pos} (he : PE X e (tF g fa)) (hg : PG X (.Tuple es n p) (tFG g t)) (hl : nlc e = true) (ht : ntu e = true) : PS X (.Assign [.Tuple es n p] e pos) (tFS g (thenS fa (bindV t))) :=
  fs_asgT he hg (by cases e <;> first | rfl | cases hl) (by cases e <;> first | rfl | cases ht) rfl
def parC (sc : Scope) (x y : Str) (l1 l2 : Nat) (a b : Expr) : Bool :=
  ((if sc.kind.isAnnotationScope then ScopeKind.function else sc.kind) == .function) && (nst a && nst b) && (sc.names.lookup x == some .local && sc.names.lookup y == some .local) && (l2 == l1) && ([x, y].eraseDups.length == 2) && !([a, b].all (foldedForSure 8)) && !([a, b].all (constantsAlone 8))
theorem sw_par {x y : Str} {px py pt pt2 : Pos} {kt k2 : Nat} {env : PySem.Env} {sc : Scope} (h : env.scope = sc) (hc : parC sc x y px.line py.line a b = true) : swappedStores [.Tuple [.Name x px, .Name y py] kt pt] (.Tuple [a, b] k2 pt2) env = pure (some [x, y]) := by
  subst h
  unfold parC at hc
  simp only [Bool.and_eq_true, Bool.not_eq_true'] at hc
  obtain ⟨⟨⟨⟨⟨⟨c1, c2, c3⟩, c4, c5⟩, c6⟩, c7⟩, c8⟩, c9⟩ := hc
  have nsa : ∀ {e : Expr}, nst e = true → (match e with | .Starred .. => true | _ => false) = false := fun {e} h => by cases e <;> first | rfl | cases h
  have e1 : (env.blockKind != .function) = false := by
    show (!(env.blockKind == .function)) = false
    rw [show (env.blockKind == .function) = true from c1]
    rfl
  unfold swappedStores
  have q1 : (env.kindOf x == some .local) = true := c4
  have q2 : (env.kindOf y == some .local) = true := c5
  have q3 : (px.line == px.line) = true := by simp
  simp only [e1, List.length_cons, List.length_nil, List.any_cons, List.any_nil, nsa c2, nsa c3, List.filterMap_cons, List.filterMap_nil, List.head?_cons, Option.map_some, Option.getD_some, Expr.pos, q1, q2, q3, c6, c8, c9]
  simp at c7 ⊢
  refine (if_neg ?_).trans (if_pos c7)
  intro h
  rcases h with h | h
  · cases a <;> first | (cases h; done) | (cases c2; done)
  · cases b <;> first | (cases h; done) | (cases c3; done)
theorem CS.par2 (C : CS X g cls k tab N sc bt) (i j : Nat) {px py pt pt2 : Pos} {kt k2 : Nat} (ha : PE X a (tF g fa)) (hb : PE X b (tF g fb)) (h1 : lOk N sc i x = true) (h2 : lOk N sc j y = true) (hij : i ≠ j) (hc : parC sc x y px.line py.line a b = true) (hh : bt.hot = false := by rfl) :
    PS X (.Assign [.Tuple [.Name x px, .Name y py] kt pt] (.Tuple [a, b] k2 pt2) pos) (tFS g (Fn.par2 i j fa fb)) := by
  have hc' := hc
  unfold parC at hc'
  simp only [Bool.and_eq_true] at hc'
  exact fs_par2 (C.ct.calm hh) C.ct.nd' (C.ct.lo h1).1 (C.ct.lo h2).1 hij (C.ct.lo h1).2 (C.ct.lo h2).2 hc'.1.1.1.1.1.2.1 hc'.1.1.1.1.1.2.2 ha hb (sw_par C.ct.hS hc) rfl
theorem CS.app (C : CS X g cls k tab N sc bt) (i : Nat) {p1 p2 p3 p4 : Pos} (he : PE X e (tF g fa)) (h : vOk N sc i x = true) (hn : (nst e && (p2.endLine == p3.line)) = true) : PS X (.Expr (.Call (.Attribute (.Name x p1) "append" p2) [e] [] p3) p4) (tFS g (appV i fa)) := by
  obtain ⟨h1, h2, h3, h4⟩ := C.ct.vo h
  rw [Bool.and_eq_true] at hn
  exact fs_append h1 h2 h3 h4 hn.1 hn.2 he
theorem CS.sto (C : CS X g cls k tab N sc bt) (i : Nat) {fk fv : Env → Res B} {p1 p2 : Pos} (hk : PE X a (tF g fk)) (hv : PE X b (tF g fv)) (h : vOk N sc i x = true) (hn : nsl a = true) : PS X (.Assign [.Subscript (.Name x p1) a p2] b pos) (tFS g (putS i fk fv)) := by
  obtain ⟨h1, h2, h3, h4⟩ := C.ct.vo h
  exact fs_store C.ct.hu1 h1 h2 h3 h4 hn hk hv sw_sub
theorem CS.ex (C : CS X g cls k tab N sc bt) {p : Pos} (he : PE X e (tF g fa)) (hl : nlc e = true) : PS X (.Expr e p) (tFS g (thenS fa dropS)) := fs_expr he (sw_no hl)
theorem CS.fo (C : CS X g cls k tab N sc bt) {tg iter : Expr} {it : Env → Res (List D)} (hi : PI X tg iter (tFI g false it)) (hg : PG X tg (tFG g t)) (hb : ∀ g', CS X g' cls k tab N sc bt → PSs X body (tFS g' f)) (hs : nset iter = true) (hh : bt.hot = false := by rfl) : PS X (.For tg iter body [] pos) (tFS g (forV t it f)) :=
  fs_for C.po (C.ct.calm hh) hi hg (fun F0 => hb _ (C.fl F0)) (iter_plain hs _)
theorem CS.wh (C : CS X g cls k tab N sc bt) (m : Env → Nat) {t : Env → Res Bool} (hc : PT X c (tFT g t)) (hb : PSs X body (tFS g f)) : PS X (.While c body [] pos) (tFS g (whileS m t f)) := fs_while m C.po hc hb
theorem CS.rn (C : CS X g cls k tab N sc bt) (i : Nat) {p1 : Pos} (h : vOk N sc i x = true) : PS X (.Return (some (.Name x p1)) pos) (tFS g (retN i)) := by
  obtain ⟨h1, h2, h3, h4⟩ := C.ct.vo h
  exact fs_retN h1 h2 h3 h4
end
def outR (o : Out) : Res B := match o with
  | .nx _ => .ok (.dat .non)
  | .rt b => .ok b
  | .exc c _ => .exc c
  | _ => .bad
def okArg : B → Bool
  | .own _ => false
  | .vw _ => false
  | .nst _ _ => false
  | _ => true
def envS (n : Nat) (bs : List B) : Env := bs.map some ++ List.replicate (n - bs.length) none
def defF (n : Nat) (body : Env → Out) (bs : List B) : Res B := if bs.all okArg = true then outR (body (envS n bs)) else .bad
theorem paired_get {α β : Type} {R : α → β → Prop} : ∀ {vs : List α} {bs : List β} {i : Nat} {b : β}, Paired R vs bs → bs[i]? = some b → ∃ v, vs[i]? = some v ∧ R v b
  | _, _, 0, _, .cons r _, h => by cases h; exact ⟨_, rfl, r⟩
  | _, _, i + 1, _, .cons _ rs, h => paired_get (i := i) rs h
theorem no_own {n : Nat} {bs : List B} {i : Nat} {b : B} {H : Hp} {v : V} {a : Addr} (ok : bs.all okArg = true) (h : (envS n bs)[i]? = some (some b)) (f : Ft H v b a) : False := by
  unfold envS at h
  by_cases hi : i < bs.length
  · rw [List.getElem?_append_left (by simpa using hi), List.getElem?_map] at h
    cases hb : bs[i]? with
    | none => rw [hb] at h; cases h
    | some b' =>
      rw [hb] at h
      cases h
      have := List.all_eq_true.mp ok _ (List.mem_of_getElem? hb)
      cases b with
      | own m => cases this
      | nst sh ls => cases this
      | _ => exact f.elim
  · rw [List.getElem?_append_right (by simpa using hi), List.getElem?_replicate] at h
    split at h <;> cases h
theorem start_st {K : PySem.W.Frag} {fa : Nat → Option Addr} {cls : Nat → Value} {F H : Hp} {E : XK} {N : List Str} {vs : List V} {bs : List B} (s : Same F H) {p : Option (Addr × Obj)} (r : Paired (RR (gOf K fa cls F H E p) F H) vs bs) (ok : bs.all okArg = true) :
    St (gOf K fa cls F H E p) F H (L2.start N vs) (envS N.length bs) := by
  have hl := r.length
  refine ⟨Grow.refl s, by unfold L2.start envS; simp [hl], fun i b h => ?_, fun i j b b' v v' a hij h1 h2 h3 h4 h5 h6 => no_own ok h1 h5⟩
  · unfold envS at h
    by_cases hi : i < bs.length
    · rw [List.getElem?_append_left (by simpa using hi), List.getElem?_map] at h
      cases hb : bs[i]? with
      | none => rw [hb] at h; cases h
      | some b' =>
        rw [hb] at h
        cases h
        obtain ⟨v, hv, rv⟩ := paired_get r hb
        refine ⟨v, by unfold L2.start; rw [List.getElem?_append_left (by rw [List.length_map, hl]; exact hi), List.getElem?_map, hv]; rfl, ?_⟩
        have ob := List.all_eq_true.mp ok b (List.mem_of_getElem? hb)
        cases b with
        | dat d => exact rv
        | own m => cases ob
        | vw m => cases ob
        | bor m => exact rv
        | scr ns => exact rv
        | err c => exact rv
        | nst sh ls => cases ob
    · rw [List.getElem?_append_right (by simpa using hi), List.getElem?_replicate] at h
      split at h <;> cases h
theorem body_run {K : PySem.W.Frag} {fa : Nat → Option Addr} {cls : Nat → Value} {F H : Hp} {E : XK} {p : Option (Addr × Obj)} {N : List Str} {body : Env → Out} {vs : List V} {bs : List B} {Q : VK} (h2 : Same F H) (h3 : Paired (RR (gOf K fa cls F H E p) F H) vs bs) (h4 : Post (gOf K fa cls F H E p) [] F H (defF N.length body bs) Q) :
    tFS (gOf K fa cls F H E p) body { nx := fun _ H' => Q .non H', rt := Q } (L2.start N vs) H := by
  unfold defF at h4
  split at h4
  · rename_i ok
    refine ⟨F, envS N.length bs, start_st h2 h3 ok, ?_⟩
    cases e : body (envS N.length bs) with
    | nx ρ =>
      rw [e] at h4
      exact fun σ' F' H' s' => h4 .non F' H' s'.gr .non
    | rt b =>
      rw [e] at h4
      exact fun v F' H' g1 r1 => h4 v F' H' g1 r1
    | bk ρ => rw [e] at h4; exact h4.elim
    | ct ρ => rw [e] at h4; exact h4.elim
    | exc c ρ =>
      rw [e] at h4
      exact fun σ' F' H' s' => h4 F' H' s'.gr
    | bad => rw [e] at h4; exact h4.elim
  · exact h4.elim
theorem def_ok {P : Program} {w : World} {K : PySem.W.Frag} {mg : Str → Option Value} {base : Heap} {fa : Nat → Option Addr} {cls : Nat → Value} {q : Str} {st : Stmt} {f : Addr} {fd : FuncData} {N ps : List Str} {k n : Nat} {body : Env → Out} {tab : List En} {bt : Bt} (Fu : Fun K q q st f fd)
    (S : FnScope N ps (defScope st)) (hn : ps.length = n) (hbi : BiOk K fa mg bt) (hex : ExOk K fa cls mg bt) (hhs : HotOk P w K mg base fa cls k bt.hs) (T : ∀ X : Cx, X.prog = P → X.w = w → X.K = K → X.mg = mg → X.base = base → TabOk X fa cls k tab)
    (hb : ∀ (X : Cx) (g : G), g.fa = fa → CS X g cls k tab N (defScope st) bt → PSs X (defBody st) (tFS g body)) (hnot : bt.hot = false := by rfl) : FnOk P w K mg base (L2.CX P w) (k + 1) f fd ps (spF K fa cls n (defF N.length body)) := by
  refine Fu.okX S (fun vs H Q E h => h.1.trans hn.symm) fun cdv A outer s H vs Q E hr ⟨h1, F, bs, h2, h3, h4⟩ => ?_
  let X := cxOf (L2.CX P w) P w K mg base N q (defScope st) f cdv A outer s H E
  have tk : Takes X (fun cls d _ H => E cls d H) := takes_of (X := X) rfl rfl rfl rfl
  have C : CS X (gOf K fa cls F H E none) cls k tab N (defScope st) bt :=
    ⟨⟨rfl, fun _ => rfl, rfl, S.nd, rfl, ⟨hr.dp, hr.un⟩, T X rfl rfl rfl rfl rfl, ⟨fun _ => E, fun σ => passAt tk σ, fun _ _ _ h => h⟩, hbi, fun _ => hr.hd, fun _ => rfl, (fun _ z => by cases z), (fun z => by rw [hnot] at z; cases z), hex, hhs⟩, passes_of (X := X) (E₁ := fun e' s'' => L2.CX P w outer H s E e' s'') rfl, fun _ => rfl, ⟨_, tk, fun _ _ _ h => h⟩, rfl, rfl⟩
  exact ⟨_, hb X _ rfl C, body_run h2 h3 h4⟩
end Fn
namespace Fn
open PySem PySem.Spec PyProof.Rows L2
def nilA : Env → Res (List B) := fun _ => .ok []
def litI (i : Int) : Env → Res B := fun _ => .ok (.dat (.int i))
def litS (x : Str) : Env → Res B := fun _ => .ok (.dat (.str x))
def litB (b : Bool) : Env → Res B := fun _ => .ok (.dat (.bl b))
def litN : Env → Res B := fun _ => .ok (.dat .non)
def newK : Env → Res B := fun _ => .ok (.own (.k []))
def newT : Env → Res B := fun _ => .ok (.own (.t []))
def callF (f : List B → Res B) (fs : Env → Res (List B)) : Env → Res B := fun ρ => (fs ρ).bind f
def ownF (en : En) (fs : Env → Res (List B)) : Env → Res B := fun ρ => (fs ρ).bind fun bs => (lenA en.n bs).bind (callV en)
def tstF (f : Env → Res B) : Env → Res Bool := fun ρ => (f ρ).bind tstB
def yesF : Env → Res Bool := fun _ => .ok true
def itF (lk : Bool) (f : Env → Res B) : Env → Res (List D) := fun ρ => (f ρ).bind fun x => itemsB lk (rd x)
def rgF (fs : Env → Res (List B)) : Env → Res (List D) := fun ρ => (fs ρ).bind rngA
def noP : Env → Res (Option Int) := fun _ => .ok none
def atP (f : Env → Res B) : Env → Res (Option Int) := fun ρ => (f ρ).bind fun x => partB x
def nxS : Env → Out := fun ρ => .nx ρ
def bkS : Env → Out := fun ρ => .bk ρ
def ctS : Env → Out := fun ρ => .ct ρ
def rtN : Env → Out := fun _ => .rt (.dat .non)
def litD (d : D) : Env → Res B := fun _ => .ok (.dat d)
def lockS (i : Nat) (f : Env → Out) : Env → Out := fun ρ => f (lockE i ρ)
theorem whileN_mono {t : Env → Res Bool} {body : Env → Out} : ∀ (n m : Nat) (ρ : Env), whileN t body n ρ ≠ .bad → n ≤ m → whileN t body m ρ = whileN t body n ρ
  | 0, _, _, h, _ => absurd rfl h
  | n + 1, 0, _, _, h => absurd h (Nat.not_succ_le_zero n)
  | n + 1, m + 1, ρ, h, hm => by
    unfold whileN at h ⊢
    cases e : t ρ with
    | ok k =>
      rw [e] at h
      cases k with
      | false => rfl
      | true =>
        dsimp only at h ⊢
        cases e2 : body ρ with
        | nx ρ2 => rw [e2] at h; exact whileN_mono n m ρ2 h (Nat.le_of_succ_le_succ hm)
        | ct ρ2 => rw [e2] at h; exact whileN_mono n m ρ2 h (Nat.le_of_succ_le_succ hm)
        | bk ρ2 => rfl
        | rt b => rfl
        | exc c ρ2 => rfl
        | bad => rfl
    | exc c => rfl
    | bad => rfl
open Classical in
noncomputable def mW (t : Env → Res Bool) (body : Env → Out) (ρ : Env) : Nat := if h : ∃ n, whileN t body n ρ ≠ .bad then Classical.choose h else 0
noncomputable def whileC (t : Env → Res Bool) (body : Env → Out) : Env → Out := whileS (mW t body) t body
theorem whileC_eq {t : Env → Res Bool} {body : Env → Out} {ρ : Env} {n : Nat} (h : whileN t body n ρ ≠ .bad) : whileC t body ρ = whileN t body n ρ := by
  have ex : ∃ n, whileN t body n ρ ≠ .bad := ⟨n, h⟩
  unfold whileC whileS mW
  rw [dif_pos ex]
  have hc := Classical.choose_spec ex
  rcases Nat.le_total n (Classical.choose ex) with q | q
  · exact whileN_mono _ _ ρ h q
  · exact (whileN_mono _ _ ρ hc q).symm
theorem whileC_stop {t : Env → Res Bool} {body : Env → Out} {ρ : Env} (h : t ρ = .ok false) : whileC t body ρ = .nx ρ := by
  have e : whileN t body 1 ρ = .nx ρ := by unfold whileN; rw [h]
  rw [whileC_eq (n := 1) (by rw [e]; intro z; cases z), e]
theorem whileC_nx {t : Env → Res Bool} {body : Env → Out} {ρ ρ2 : Env} (h : t ρ = .ok true) (hb : body ρ = .nx ρ2) : whileC t body ρ = whileC t body ρ2 := by
  by_cases ex : ∃ n, whileN t body n ρ2 ≠ .bad
  · obtain ⟨n, hn⟩ := ex
    have e : whileN t body (n + 1) ρ = whileN t body n ρ2 := by
      rw [whileN, h]
      dsimp only
      rw [hb]
    rw [whileC_eq hn, whileC_eq (n := n + 1) (by rw [e]; exact hn), e]
  · have no : ¬ ∃ n, whileN t body n ρ ≠ .bad := by
      rintro ⟨n, hn⟩
      cases n with
      | zero => exact hn rfl
      | succ n =>
        rw [whileN, h] at hn
        dsimp only at hn
        rw [hb] at hn
        exact ex ⟨n, hn⟩
    unfold whileC whileS mW
    rw [dif_neg ex, dif_neg no]
    rfl
section
variable {X : Cx} {g : G} {cls : Nat → Value} {k : Nat} {tab : List En} {N : List Str} {sc : Scope} {bt : Bt} {c : Expr} {pos : Pos} {f : Env → Out} {body : List Stmt}
theorem CS.wc (C : CS X g cls k tab N sc bt) {t : Env → Res Bool} (hc : PT X c (tFT g t)) (hb : PSs X body (tFS g f)) : PS X (.While c body [] pos) (tFS g (whileC t f)) := C.wh _ hc hb
end
structure TabW (P : Program) (w : World) (K : PySem.W.Frag) (mg : Str → Option Value) (base : Heap) (fa : Nat → Option Addr) (cls : Nat → Value) (lv : Nat) (tab : List En) : Prop where
  at_ : ∀ (k : Nat) (en : En), tab[k]? = some en → ∃ f fd ps, mg en.name = some (.ref f) ∧ fa k = some f ∧ PySem.W.keepIn K (.ref f) = true ∧ Binds K fd ps [] ∧ FnOk P w K mg base (L2.CX P w) lv f fd ps (spF K fa cls en.n en.F)
section
variable {P : Program} {w : World} {K : PySem.W.Frag} {mg : Str → Option Value} {base : Heap} {fa : Nat → Option Addr} {cls : Nat → Value} {lv : Nat} {tab : List En}
theorem TabW.nil : TabW P w K mg base fa cls lv [] := ⟨fun k en h => by cases h⟩
theorem TabW.snoc (T : TabW P w K mg base fa cls lv tab) {en : En} {f : Addr} {fd : FuncData} {ps : List Str} (F : FnOk P w K mg base (L2.CX P w) (lv + 1) f fd ps (spF K fa cls en.n en.F)) (hm : mg en.name = some (.ref f)) (hfa : fa tab.length = some f) (hk : PySem.W.keepIn K (.ref f) = true) (hb : Binds K fd ps []) :
    TabW P w K mg base fa cls (lv + 1) (tab ++ [en]) := ⟨fun k en' h => by
  by_cases hl : k < tab.length
  · rw [List.getElem?_append_left hl] at h
    obtain ⟨f', fd', ps', a1, a2, a3, a4, a5⟩ := T.at_ k en' h
    exact ⟨f', fd', ps', a1, a2, a3, a4, a5.mono (Nat.le_succ lv)⟩
  · rw [List.getElem?_append_right (Nat.le_of_not_lt hl)] at h
    have e : k = tab.length := by
      by_cases z : k - tab.length = 0
      · omega
      · obtain ⟨m, hm2⟩ := Nat.exists_eq_succ_of_ne_zero z
        rw [hm2] at h
        cases h
    subst e
    rw [Nat.sub_self] at h
    cases h
    exact ⟨f, fd, ps, hm, hfa, hk, hb, F⟩⟩
theorem TabW.use (T : TabW P w K mg base fa cls lv tab) : ∀ X : Cx, X.prog = P → X.w = w → X.K = K → X.mg = mg → X.base = base → TabOk X fa cls lv tab := fun X h1 h2 h3 h4 h5 => by
  subst h1 h2 h3 h4 h5
  exact ⟨T.at_⟩
theorem TabW.more (T : TabW P w K mg base fa cls lv tab) {en : En} {q : Str} {st : Stmt} {f : Addr} {fd : FuncData} {N ps : List Str} {body : Env → Out} {bt : Bt} (Fu : Fun K q q st f fd) (S : FnScope N ps (defScope st)) (hbi : BiOk K fa mg bt) (hex : ExOk K fa cls mg bt) (hhs : HotOk P w K mg base fa cls lv bt.hs)
    (he : en = ⟨q, ps.length, defF N.length body⟩) (hb : ∀ (X : Cx) (g : G), CS X g cls lv tab N (defScope st) bt → PSs X (defBody st) (tFS g body)) (hm : mg q = some (.ref f)) (hfa : fa tab.length = some f) (hbd : Binds K fd ps []) (hnot : bt.hot = false := by rfl) : TabW P w K mg base fa cls (lv + 1) (tab ++ [en]) := by
  subst he
  refine T.snoc (en := ⟨q, ps.length, defF N.length body⟩) ?_ hm hfa Fu.kp hbd
  exact def_ok Fu S rfl hbi hex hhs T.use (fun X g _ C => hb X g C) hnot
end
def spLaw (K : PySem.W.Frag) : Sp := fun vs H Q _ => ∃ (a : Addr) (ns : List Int), vs = [.ref a] ∧ SqL K H a (ns.map V.int) ∧ ns.length ≤ 63 ∧ ∀ H', Q (.bl true) H'
theorem spLaw_of {K : PySem.W.Frag} {fa : Nat → Option Addr} {cls : Nat → Value} {L : List B → Res B} (h : ∀ ns : List Int, ns.length ≤ 63 → L [.scr ns] = .ok (.dat (.bl true))) : ∀ vs H Q E, spLaw K vs H Q E → spF K fa cls 1 L vs H Q E := by
  rintro vs H Q E ⟨a, ns, rfl, hS, hl, q⟩
  refine ⟨rfl, fun _ => none, [.scr ns], (fun _ _ z => by cases z), .cons ⟨a, rfl, hS⟩ .nil, ?_⟩
  rw [h ns hl]
  intro v F' H' g1 r1
  cases r1
  exact q H'
theorem no_exc {P : Program} {w : World} (H : Hp) (s : Shared) (e : Value) (s' : Shared) (z : L2.CX P w [] H s (fun _ _ _ => False) e s') : False := by
  obtain ⟨_, _, _, _, _, _, _, _, _, _, _, _, z⟩ := z
  exact z.elim
theorem walk {l : PySem.W.OpenLaw} {q : Program} {loose : List Str} {XP : (Str → Option Value) → Heap → Prop} {YP : World → Heap → Prop} {d : DefRec} {K : Params → PySem.W.Frag} {x : Str} (n : Nat) (hr : Room n callerA) (hn : l.most = some 63) (hdf : d.params.defaults = [])
    (hY : ∀ (w : World) (h : Heap), YP w h → (K w.params).In h)
    (F : ∀ (w : World) (mg : Str → Option Value) (fa : Addr) (h : Heap), (K w.params).In h → h.Ns mainGlobals mg → mg d.name = some (.ref fa) →
      ∃ fd : FuncData, (∀ (s : Shared) (u : Value), BindsTo s fd ⟨[u], []⟩ [(x, u)]) ∧ ∀ base : Heap, (K w.params).In base → base.Ns mainGlobals mg → FnOk l.prog w (K w.params) mg base (L2.CX l.prog w) n fa fd [x] (spLaw (K w.params))) :
    PySem.W.WalkO q loose XP YP l.row.toRowW d [] (fun f vs => PySem.call f vs) :=
  L2.walk_of (n := 63) (k := n) (x := x) (CX := fun w => L2.CX l.prog w) (sp := fun w => spLaw (K w.params)) hn (by decide) hdf hr hY F (fun _ _ a ns hl _ hS => ⟨a, ns, rfl, hS, hl, fun _ => rfl⟩) fun _ H s e s' z => no_exc H s e s' z
end Fn
namespace Fn
open PySem PySem.Spec PyProof.Rows L2
abbrev Sm64 (i : Int) : Prop := i.natAbs < 2 ^ 64
theorem log2_lt {n : Nat} (h : n < 2 ^ 64) : n.log2 < 64 := by
  by_cases z : n = 0
  · subst z; decide
  · exact (Nat.log2_lt z).mpr h
theorem mod_ok {i j : Int} (h : j ≠ 0) : modB (.dat (.int i)) (.dat (.int j)) = .ok (.dat (.int (i.fmod j))) := by
  unfold modB int2
  dsimp only
  rw [if_pos (decide_eq_true h)]
theorem mod_pos {i j : Int} (h : 0 < j) : modB (.dat (.int i)) (.dat (.int j)) = .ok (.dat (.int (i % j))) := by
  rw [mod_ok (by omega), Int.fmod_eq_emod_of_nonneg _ (by omega)]
theorem add_ii {i j : Int} : addB (.dat (.int i)) (.dat (.int j)) = .ok (.dat (.int (i + j))) := rfl
theorem sub_ii {i j : Int} : subB (.dat (.int i)) (.dat (.int j)) = .ok (.dat (.int (i - j))) := rfl
theorem and_ii {i j : Int} : andB (.dat (.int i)) (.dat (.int j)) = .ok (.dat (.int (Builtin.bitAnd i j))) := rfl
theorem shr_ok {i j : Int} (h : 0 ≤ j) : shrB (.dat (.int i)) (.dat (.int j)) = .ok (.dat (.int (i / 2 ^ j.toNat))) := by
  unfold shrB int2
  dsimp only
  rw [if_pos (decide_eq_true h)]
theorem shl_ok {i j : Int} (h : 0 ≤ j) (h2 : j ≤ 1000000) (hi : Sm64 i) : shlB (.dat (.int i)) (.dat (.int j)) = .ok (.dat (.int (i * 2 ^ j.toNat))) := by
  unfold shlB int2
  dsimp only
  rw [if_pos (by rw [Bool.and_eq_true, Bool.and_eq_true, decide_eq_true_eq, decide_eq_true_eq, decide_eq_true_eq]; exact ⟨⟨h, h2⟩, hi⟩)]
theorem pow_ok {i j : Int} (h : 0 ≤ j) (h2 : j ≤ 1000000) (hi : Sm64 i) : powB (.dat (.int i)) (.dat (.int j)) = .ok (.dat (.int (i ^ j.toNat))) := by
  unfold powB int2
  dsimp only
  rw [if_pos (by rw [Bool.and_eq_true, Bool.and_eq_true, decide_eq_true_eq, decide_eq_true_eq, decide_eq_true_eq]; exact ⟨⟨h, h2⟩, hi⟩)]
theorem lt_ii {i j : Int} : ltB (.dat (.int i)) (.dat (.int j)) = .ok (.dat (.bl (decide (i < j)))) := rfl
theorem gt_ii {i j : Int} : gtF (.dat (.int i)) (.dat (.int j)) = .ok (.dat (.bl (decide (j < i)))) := rfl
theorem le_ii {i j : Int} : leF (.dat (.int i)) (.dat (.int j)) = .ok (.dat (.bl (decide (i ≤ j)))) := rfl
theorem ge_ii {i j : Int} : geF (.dat (.int i)) (.dat (.int j)) = .ok (.dat (.bl (decide (j ≤ i)))) := rfl
theorem eq_ii {i j : Int} : eqB (.dat (.int i)) (.dat (.int j)) = .ok (.dat (.bl (decide (i = j)))) := by
  show Res.ok (B.dat (D.bl (PyData.eqv (.int i) (.int j)))) = _
  simp [PyData.eqv, Bool.beq_eq_decide_eq]
theorem ne_ii {i j : Int} : neB (.dat (.int i)) (.dat (.int j)) = .ok (.dat (.bl (!decide (i = j)))) := by
  show Res.ok (B.dat (D.bl (!PyData.eqv (.int i) (.int j)))) = _
  simp [PyData.eqv, Bool.beq_eq_decide_eq]
theorem abs_i {i : Int} : absF [.dat (.int i)] = .ok (.dat (.int (i.natAbs : Int))) := by
  show Res.ok (B.dat (D.int (if i < 0 then _ else _))) = _
  split <;> (congr; omega)
theorem min_ii {i j : Int} : minF [.dat (.int i), .dat (.int j)] = .ok (.dat (.int (min i j))) := by
  show Res.ok (B.dat (D.int (if j < i then j else i))) = _
  rw [Int.min_def]
  split <;> split <;> first | rfl | (congr; omega)
theorem max_ii {i j : Int} : maxF [.dat (.int i), .dat (.int j)] = .ok (.dat (.int (max i j))) := by
  show Res.ok (B.dat (D.int (if j > i then j else i))) = _
  rw [Int.max_def]
  split <;> split <;> first | rfl | (congr; omega)
theorem int_bl {b : Bool} : intF [.dat (.bl b)] = .ok (.dat (.int (if b = true then 1 else 0))) := rfl
theorem len_tup {ds : List D} : lenB [.dat (.tup ds)] = .ok (.dat (.int ds.length)) := rfl
theorem len_lst {ds : List D} : lenB [.dat (.lst ds)] = .ok (.dat (.int ds.length)) := rfl
theorem len_vw {ds : List D} : lenB [.vw (.l ds)] = .ok (.dat (.int ds.length)) := rfl
theorem len_bor {ds : List D} : lenB [.bor (.l ds)] = .ok (.dat (.int ds.length)) := rfl
theorem len_scr {ns : List Int} : lenB [.scr ns] = .ok (.dat (.int ns.length)) := by
  show Res.ok (B.dat (D.int ((ns.map D.int).length : Int))) = _
  rw [List.length_map]
theorem idx_tup {ds : List D} {k : Int} {d : D} (h : atI ds k = some d) : idxB (.dat (.tup ds)) (.dat (.int k)) = .ok (.dat d) := by
  show (match atI ds k with | some d => (.ok (.dat d) : Res B) | none => .bad) = _
  rw [h]
theorem idx_lst {ds : List D} {k : Int} {d : D} (h : atI ds k = some d) : idxB (.dat (.lst ds)) (.dat (.int k)) = .ok (.dat d) := by
  show (match atI ds k with | some d => (.ok (.dat d) : Res B) | none => .bad) = _
  rw [h]
theorem atI_map {α β : Type} (f : α → β) {xs : List α} {k : Int} {d : α} (h : atI xs k = some d) : atI (xs.map f) k = some (f d) := by
  unfold atI at h ⊢
  rw [List.length_map]
  cases e : ixN xs.length k with
  | none => rw [e] at h; cases h
  | some j =>
    rw [e] at h
    show (xs.map f)[j]? = _
    rw [List.getElem?_map, show xs[j]? = some d from h]
    rfl
theorem idx_scr {ns : List Int} {k d : Int} (h : atI ns k = some d) : idxB (.scr ns) (.dat (.int k)) = .ok (.dat (.int d)) := by
  show (match atI (ns.map D.int) k with | some d => (.ok (.dat d) : Res B) | none => .bad) = _
  rw [atI_map D.int h]
theorem atI_lt {α : Type} {xs : List α} {k : Int} (h0 : 0 ≤ k) (h : k < xs.length) : atI xs k = some (xs[k.toNat]'(by omega)) := by
  have e : k = ((k.toNat : Nat) : Int) := by omega
  have q : xs[k.toNat]? = some (xs[k.toNat]'(by omega)) := List.getElem?_eq_getElem (by omega)
  have := atI_nat q
  rw [← e] at this
  exact this
theorem def_rt {n : Nat} {body : Env → Out} {bs : List B} {r : Res B} (h1 : bs.all okArg = true) (h : outR (body (envS n bs)) = r) : defF n body bs = r := by
  unfold defF
  rw [if_pos h1, h]
theorem le_sz {n : Nat} (h : n ≤ 1000) : n ≤ sizeLine := Nat.le_of_lt (small1000 h)
theorem loop_nx {t : Tg} {body : Env → Out} (I : Nat → Env → Prop) {ds : List D} : ∀ (n : Nat) {ρ : Env}, n ≤ ds.length → I n ρ →
    (∀ i d ρ, ds[i]? = some d → I i ρ → ∃ ρ1 ρ2, bindT t d ρ = some ρ1 ∧ (body ρ1 = .nx ρ2 ∨ body ρ1 = .ct ρ2) ∧ I (i + 1) ρ2) → ∃ ρ', loopF t body (ds.drop n) ρ = .nx ρ' ∧ I ds.length ρ' := by
  intro n
  generalize hk : ds.length - n = k
  induction k generalizing n with
  | zero =>
    intro ρ hn h st
    have e : n = ds.length := by omega
    subst e
    rw [List.drop_length]
    exact ⟨ρ, rfl, h⟩
  | succ k ih =>
    intro ρ hn h st
    have hlt : n < ds.length := by omega
    obtain ⟨ρ1, ρ2, h1, h2, h3⟩ := st n ds[n] ρ (List.getElem?_eq_getElem hlt) h
    obtain ⟨ρ', h4, h5⟩ := ih (n + 1) (by omega) hlt h3 st
    refine ⟨ρ', ?_, h5⟩
    rw [List.drop_eq_getElem_cons hlt]
    unfold loopF
    rw [h1]
    dsimp only
    rcases h2 with h2 | h2 <;> (rw [h2]; exact h4)
theorem loop_all {t : Tg} {body : Env → Out} (I : Nat → Env → Prop) {ds : List D} {ρ : Env} (h : I 0 ρ) (st : ∀ i d ρ, ds[i]? = some d → I i ρ → ∃ ρ1 ρ2, bindT t d ρ = some ρ1 ∧ (body ρ1 = .nx ρ2 ∨ body ρ1 = .ct ρ2) ∧ I (i + 1) ρ2) :
    ∃ ρ', loopF t body ds ρ = .nx ρ' ∧ I ds.length ρ' := loop_nx I 0 (Nat.zero_le _) h st
theorem rng_1 {n : Int} (h1 : -2 ^ 62 ≤ n) (h2 : n < 2 ^ 62) : rngA [.dat (.int n)] = .ok (rng 0 n) := by
  unfold rngA
  dsimp only
  rw [if_pos ⟨h1, h2⟩]
theorem cat_tt {P Q : List D} (h : P.length + Q.length ≤ 1000) : addB (.dat (.tup P)) (.dat (.tup Q)) = .ok (.dat (.tup (P ++ Q))) := by
  show (if P.length + Q.length ≤ sizeLine then (.ok (.dat (.tup (P ++ Q))) : Res B) else .bad) = _
  exact if_pos (le_sz h)
theorem cut_take {α : Type} (xs : List α) (n : Nat) : cutL xs none (some (n : Int)) = xs.take n := by
  unfold cutL
  rw [HT.sIx_none, HT.sIx_nat, List.drop_zero, Nat.sub_zero, ← List.take_take, List.take_length]
abbrev txs (xs : List Str) : List D := xs.map D.str
abbrev Lays (xs : List Str) : Prop := ∀ x ∈ xs, PyData.strOk x = true
theorem lay_strs : ∀ {xs : List Str}, Lays xs → PyData.canLayAll0 (toPys (txs xs)) = true ∧ PyData.depthAll (toPys (txs xs)) = 0
  | [], _ => ⟨rfl, rfl⟩
  | x :: xs, h => by
    obtain ⟨h1, h2⟩ := lay_strs (xs := xs) fun y hy => h y (List.mem_cons_of_mem _ hy)
    show (PyData.canLay0 (.str x) && PyData.canLayAll0 (toPys (txs xs))) = true ∧ Nat.max (PyData.depth (.str x)) (PyData.depthAll (toPys (txs xs))) = 0
    rw [h1, h2]
    simp only [PyData.canLay0, PyData.depth, h x List.mem_cons_self]
    exact ⟨rfl, rfl⟩
theorem shaped_str {x : Str} (h : PyData.strOk x = true) : SeqAt.shaped (toPy (.str x)) = true := by
  show (PyData.canLay0 (.str x) && decide (PyData.depth (.str x) ≤ 64)) = true
  simp only [PyData.canLay0, PyData.depth, h]
  rfl
theorem shaped_strs {xs : List Str} (h : Lays xs) : SeqAt.shaped (.tuple (toPys (txs xs))) = true ∧ SeqAt.shaped (.list (toPys (txs xs))) = true := by
  obtain ⟨h1, h2⟩ := lay_strs h
  constructor
  · show (PyData.canLay0 (.tuple _) && decide (PyData.depth (.tuple _) ≤ 64)) = true
    simp only [PyData.canLay0, PyData.depth, h1, h2]
    rfl
  · show (PyData.canLay0 (.list _) && decide (PyData.depth (.list _) ≤ 64)) = true
    simp only [PyData.canLay0, PyData.depth, h1, h2]
    rfl
theorem eqv_strs : ∀ {xs ys : List Str}, PyData.eqvAll (toPys (txs xs)) (toPys (txs ys)) = decide (xs = ys)
  | [], [] => by simp [toPys, PyData.eqvAll]
  | [], _ :: _ => by simp [toPys, PyData.eqvAll]
  | _ :: _, [] => by simp [toPys, PyData.eqvAll]
  | x :: xs, y :: ys => by
    show (PyData.eqv (.str x) (.str y) && PyData.eqvAll (toPys (txs xs)) (toPys (txs ys))) = _
    rw [eqv_strs]
    simp [PyData.eqv, Bool.beq_eq_decide_eq]
theorem in_strs {x : Str} {xs : List Str} (hx : PyData.strOk x = true) (h : Lays xs) : inB false (.dat (.str x)) (.dat (.tup (txs xs))) = .ok (.dat (.bl (decide (x ∈ xs)))) := by
  show ((inSeq (.str x) (txs xs) true).bind fun k => (.ok (.dat (.bl (k != false))) : Res B)) = _
  unfold inSeq
  rw [if_pos (by rw [Bool.and_eq_true]; exact ⟨shaped_str hx, (shaped_strs h).2⟩), Res.ok_bind]
  congr 3
  rw [Bool.bne_false]
  induction xs with
  | nil => rfl
  | cons y ys ih =>
    show (PyData.eqv (.str y) (.str x) || (txs ys).any _) = _
    rw [ih fun z hz => h z (List.mem_cons_of_mem _ hz)]
    simp only [PyData.eqv, List.mem_cons]
    by_cases e : y = x
    · subst e; simp
    · have e' : ¬ x = y := fun z => e z.symm
      simp [e, e']
theorem leD_law : PySem.W.TotalLe leD := PySem.W.sortLe_total (PyProof.Rows.listOrd PyProof.Rows.itemOrd) false fun b : D => PySem.W.keyToks (toPy b)
theorem leD_iff {a b : D} : leD a b = true ↔ PyProof.Rows.lexLt PyProof.Rows.itemOrd (PySem.W.keyToks (toPy b)) (PySem.W.keyToks (toPy a)) = false := by
  show (!PyProof.Rows.lexLt PyProof.Rows.itemOrd _ _) = true ↔ _
  rw [Bool.not_eq_true']
theorem sortD_pair (ds : List D) : (ds.mergeSort leD).Pairwise fun a b => leD a b = true :=
  List.pairwise_mergeSort leD_law.trans (fun a b => by rw [Bool.or_eq_true]; exact leD_law.total a b) ds
theorem txs_of : ∀ {ds : List D}, (∀ d ∈ ds, ∃ x, d = .str x) → ∃ xs, ds = txs xs
  | [], _ => ⟨[], rfl⟩
  | d :: ds, h => by
    obtain ⟨x, rfl⟩ := h d List.mem_cons_self
    obtain ⟨xs, rfl⟩ := txs_of fun e he => h e (List.mem_cons_of_mem _ he)
    exact ⟨x :: xs, rfl⟩
def unS : D → Str
  | .str x => x
  | _ => Str.empty
theorem unS_txs (xs : List Str) : (txs xs).map unS = xs := by
  rw [List.map_map]
  exact List.map_id' xs
theorem txs_perm {xs ys : List Str} (h : (txs xs).Perm (txs ys)) : xs.Perm ys := by
  have := h.map unS
  rw [unS_txs, unS_txs] at this
  exact this
theorem alike_txs : ∀ (xs ys : List Str), PySem.W.alikeAll (toPys (txs xs)) (toPys (txs ys)) = true
  | [], _ => by simp [toPys, PySem.W.alikeAll]
  | _ :: _, [] => by simp [toPys, PySem.W.alikeAll]
  | x :: xs, y :: ys => by
    show (PySem.W.alike (.str x) (.str y) && PySem.W.alikeAll (toPys (txs xs)) (toPys (txs ys))) = true
    rw [alike_txs]
    simp [PySem.W.alike]
theorem sortOk_txs {xs : List Str} (h : Lays xs) : sortOk (txs xs) = true := by
  unfold sortOk
  rw [toPys_map]
  simp only [Bool.and_eq_true, Bool.or_eq_true, List.all_eq_true, List.mem_map]
  refine ⟨?_, ?_, .inr ?_⟩
  · rintro _ ⟨_, ⟨x, hx, rfl⟩, rfl⟩
    exact shaped_str (h x hx)
  · rintro _ ⟨_, ⟨x, hx, rfl⟩, rfl⟩ _ ⟨_, ⟨y, hy, rfl⟩, rfl⟩
    simp [toPy, PySem.W.alike]
  · rintro _ ⟨_, ⟨x, hx, rfl⟩, rfl⟩
    rfl
end Fn
namespace Fn
open PySem PySem.Spec PyProof.Rows L2
section
variable {ρ ρ' : Env} {f h : Env → Out} {fa fb fc : Env → Res B} {fs : Env → Res (List B)} {i j k : Nat} {b x y : B} {c c' : Nat} {d : D} {m : M} {ds : List D} {bs : List B} {ns : List Int}
def Out.sq (o : Out) (h : Env → Out) : Out := match o with
  | .nx ρ => h ρ
  | o => o
theorem e_seq : seqS f h ρ = (f ρ).sq h := by unfold seqS Out.sq; cases f ρ <;> rfl
theorem sq_nx : (Out.nx ρ).sq h = h ρ := (rfl)
theorem sq_rt : (Out.rt b).sq h = .rt b := (rfl)
theorem sq_bk : (Out.bk ρ).sq h = .bk ρ := (rfl)
theorem sq_ct : (Out.ct ρ).sq h = .ct ρ := (rfl)
theorem sq_exc : (Out.exc c ρ).sq h = .exc c ρ := (rfl)
def thenK (r : Res B) (k : B → Env → Out) (ρ : Env) : Out := match r with
  | .ok b => k b ρ
  | .exc c => .exc c ρ
  | .bad => .bad
variable {kk : B → Env → Out}
theorem e_then : thenS fa kk ρ = thenK (fa ρ) kk ρ := (rfl)
theorem then_ok : thenK (.ok b) kk ρ = kk b ρ := (rfl)
theorem then_exc : thenK (.exc c) kk ρ = .exc c ρ := (rfl)
theorem set_dat : setV i (.dat d) ρ = .nx (ρ.set i (some (.dat d))) := (rfl)
theorem set_own : setV i (.own m) ρ = .nx (ρ.set i (some (.own m))) := (rfl)
theorem set_bor : setV i (.bor m) ρ = .nx (ρ.set i (some (.bor m))) := (rfl)
theorem set_scr : setV i (.scr ns) ρ = .nx (ρ.set i (some (.scr ns))) := (rfl)
def setL (i : Nat) (b : B) (ρ : Env) : Out := match setV i b ρ with
  | .nx ρ' => .nx (lockE i ρ')
  | o => o
theorem ret_dat : retV (.dat d) ρ = .rt (.dat d) := (rfl)
theorem ret_own : retV (.own m) ρ = .rt (.own m) := (rfl)
theorem rd_dat : rd (.dat d) = .dat d := (rfl)
theorem rd_own : rd (.own m) = .dat (frzM m) := (rfl)
theorem rd_vw : rd (.vw m) = .vw m := (rfl)
theorem rd_bor : rd (.bor m) = .bor m := (rfl)
theorem rd_scr : rd (.scr ns) = .scr ns := (rfl)
theorem frz_l : frzM (.l ds) = .lst ds := (rfl)
theorem frz_k {kvs : List (Key × D)} : frzM (.k kvs) = .dk kvs := (rfl)
theorem frz_t {kvs : List (List Key × D)} : frzM (.t kvs) = .dt kvs := (rfl)
def look (o : Option (Option B)) : Res B := match o with
  | some (some (.dat d)) => .ok (.dat d)
  | some (some (.own m)) => .ok (.vw m)
  | some (some (.bor m)) => .ok (.bor m)
  | some (some (.scr ns)) => .ok (.scr ns)
  | some (some (.err c)) => .ok (.err c)
  | _ => .bad
theorem e_var : varB i ρ = look ρ[i]? := (rfl)
theorem look_dat : look (some (some (.dat d))) = .ok (.dat d) := (rfl)
theorem look_own : look (some (some (.own m))) = .ok (.vw m) := (rfl)
theorem look_bor : look (some (some (.bor m))) = .ok (.bor m) := (rfl)
theorem look_scr : look (some (some (.scr ns))) = .ok (.scr ns) := (rfl)
theorem look_err : look (some (some (.err c))) = .ok (.err c) := (rfl)
theorem rd_err : rd (.err c) = .err c := (rfl)
theorem arg_err : toArg (.err c) = .err c := (rfl)
theorem set_err : setV i (.err c) ρ = .nx (ρ.set i (some (.err c))) := (rfl)
def lookN (o : Option (Option B)) : Out := match o with
  | some (some (.dat d)) => .rt (.dat d)
  | some (some (.own m)) => .rt (.own m)
  | _ => .bad
theorem e_retN : retN i ρ = lookN ρ[i]? := (rfl)
theorem lookN_dat : lookN (some (some (.dat d))) = .rt (.dat d) := (rfl)
theorem lookN_own : lookN (some (some (.own m))) = .rt (.own m) := (rfl)
def bin2K (f : B → B → Res B) (ra rb : Res B) : Res B := ra.bind fun x => rb.bind fun y => f (rd x) (rd y)
variable {f2 : B → B → Res B} {f1 : B → Res B} {r ra rb : Res B}
theorem e_bin2 : bin2 f2 fa fb ρ = bin2K f2 (fa ρ) (fb ρ) := (rfl)
theorem bin2_ok : bin2K f2 (.ok x) (.ok y) = f2 (rd x) (rd y) := (rfl)
theorem bin2_exc : bin2K f2 (.exc c) rb = .exc c := (rfl)
theorem bin2_exc2 : bin2K f2 (.ok x) (.exc c) = .exc c := (rfl)
def one1K (f : B → Res B) (r : Res B) : Res B := r.bind fun x => f (rd x)
theorem e_one1 : one1 f1 fa ρ = one1K f1 (fa ρ) := (rfl)
theorem one1_ok : one1K f1 (.ok x) = f1 (rd x) := (rfl)
theorem one1_exc : one1K f1 (.exc c) = .exc c := (rfl)
def consK (ra : Res B) (rs : Res (List B)) : Res (List B) := ra.bind fun x => rs.bind fun xs => .ok (rd x :: xs)
theorem e_cons : consA fa fs ρ = consK (fa ρ) (fs ρ) := (rfl)
theorem cons_okK : consK (.ok x) (.ok bs) = .ok (rd x :: bs) := (rfl)
theorem cons_exc {rs : Res (List B)} : consK (.exc c) rs = .exc c := (rfl)
theorem cons_exc2 : consK (.ok x) (.exc c) = .exc c := (rfl)
theorem e_nil : nilA ρ = .ok [] := (rfl)
variable {g : List B → Res B}
theorem e_call : callF g fs ρ = (fs ρ).bind g := (rfl)
theorem bnd_ok {α β : Type} {a : α} {f : α → Res β} : (Res.ok a).bind f = f a := (rfl)
theorem bnd_exc {α β : Type} {f : α → Res β} : (Res.exc c : Res α).bind f = .exc c := (rfl)
def callE (en : En) (bs : List B) : Res B := (lenA en.n bs).bind (callV en)
theorem e_own {en : En} : ownF en fs ρ = (fs ρ).bind (callE en) := (rfl)
theorem arg_dat : toArg (.dat d) = .dat d := (rfl)
theorem arg_vw : toArg (.vw m) = .bor m := (rfl)
theorem arg_bor : toArg (.bor m) = .bor m := (rfl)
theorem arg_scr : toArg (.scr ns) = .scr ns := (rfl)
theorem retB_dat : retB (.dat d) = .ok (.dat d) := (rfl)
theorem retB_own : retB (.own m) = .ok (.own m) := (rfl)
theorem e_tst : tstF fa ρ = (fa ρ).bind tstB := (rfl)
theorem tst_bl {v : Bool} : tstB (.dat (.bl v)) = .ok v := (rfl)
def testK (r : Res B) : Res Bool := r.bind fun x => truB (rd x)
theorem e_testV : testV fa ρ = testK (fa ρ) := (rfl)
theorem test_ok : testK (.ok x) = truB (rd x) := (rfl)
theorem test_exc : testK (.exc c) = .exc c := (rfl)
theorem tru_bl {v : Bool} : truB (.dat (.bl v)) = .ok v := (rfl)
theorem tru_int {n : Int} : truB (.dat (.int n)) = .ok (n != 0) := (rfl)
theorem tru_non : truB (.dat .non) = .ok false := (rfl)
theorem tru_tup : truB (.dat (.tup ds)) = .ok (!ds.isEmpty) := (rfl)
theorem tru_lst : truB (.dat (.lst ds)) = .ok (!ds.isEmpty) := (rfl)
theorem tru_vw : truB (.vw (.l ds)) = .ok (!ds.isEmpty) := (rfl)
variable {t u : Env → Res Bool} {s : Res Bool} {p q : Bool}
def notK (r : Res Bool) : Res Bool := r.bind fun k => .ok !k
theorem e_notT : notT t ρ = notK (t ρ) := (rfl)
theorem notK_ok : notK (.ok p) = .ok !p := (rfl)
theorem notK_exc : notK (.exc c) = .exc c := (rfl)
def andTK (r : Res Bool) (u : Env → Res Bool) (ρ : Env) : Res Bool := r.bind fun k => if k = true then u ρ else .ok false
def orTK (r : Res Bool) (u : Env → Res Bool) (ρ : Env) : Res Bool := r.bind fun k => if k = true then .ok true else u ρ
theorem e_and : andT t u ρ = andTK (t ρ) u ρ := by unfold andT andTK; cases t ρ <;> first | rfl | (rename_i a; cases a <;> rfl)
theorem e_or : orT t u ρ = orTK (t ρ) u ρ := by unfold orT orTK; cases t ρ <;> first | rfl | (rename_i a; cases a <;> rfl)
theorem and_t : andTK (.ok true) u ρ = u ρ := (rfl)
theorem and_f : andTK (.ok false) u ρ = .ok false := (rfl)
theorem or_t : orTK (.ok true) u ρ = .ok true := (rfl)
theorem or_f : orTK (.ok false) u ρ = u ρ := (rfl)
theorem and_exc : andTK (.exc c) u ρ = .exc c := (rfl)
theorem or_exc : orTK (.exc c) u ρ = .exc c := (rfl)
def iteVK (r : Res Bool) (fa fb : Env → Res B) (ρ : Env) : Res B := r.bind fun k => if k = true then fa ρ else fb ρ
theorem e_iteV : iteV t fa fb ρ = iteVK (t ρ) fa fb ρ := by unfold iteV iteVK; cases t ρ <;> first | rfl | (rename_i a; cases a <;> rfl)
theorem iteV_t : iteVK (.ok true) fa fb ρ = fa ρ := (rfl)
theorem iteV_f : iteVK (.ok false) fa fb ρ = fb ρ := (rfl)
def andVK (r : Res B) (fb : Env → Res B) (ρ : Env) : Res B := r.bind fun x => match x with
  | .dat (.bl true) => fb ρ
  | .dat (.bl false) => .ok (.dat (.bl false))
  | _ => .bad
def orVK (r : Res B) (fb : Env → Res B) (ρ : Env) : Res B := r.bind fun x => match x with
  | .dat (.bl false) => fb ρ
  | .dat (.bl true) => .ok (.dat (.bl true))
  | _ => .bad
theorem e_andV : andV fa fb ρ = andVK (fa ρ) fb ρ := (rfl)
theorem e_orV : orV fa fb ρ = orVK (fa ρ) fb ρ := (rfl)
theorem andV_t : andVK (.ok (.dat (.bl true))) fb ρ = fb ρ := (rfl)
theorem andV_f : andVK (.ok (.dat (.bl false))) fb ρ = .ok (.dat (.bl false)) := (rfl)
theorem andV_exc : andVK (.exc c) fb ρ = .exc c := (rfl)
theorem orV_t : orVK (.ok (.dat (.bl true))) fb ρ = .ok (.dat (.bl true)) := (rfl)
theorem orV_f : orVK (.ok (.dat (.bl false))) fb ρ = fb ρ := (rfl)
theorem orV_exc : orVK (.exc c) fb ρ = .exc c := (rfl)
def iteSK (r : Res Bool) (f h : Env → Out) (ρ : Env) : Out := match r with
  | .ok k => if k = true then f ρ else h ρ
  | .exc c => .exc c ρ
  | .bad => .bad
theorem e_iteS : iteS t f h ρ = iteSK (t ρ) f h ρ := (rfl)
theorem iteS_t : iteSK (.ok true) f h ρ = f ρ := (rfl)
theorem iteS_f : iteSK (.ok false) f h ρ = h ρ := (rfl)
theorem iteS_exc : iteSK (.exc c) f h ρ = .exc c ρ := (rfl)
def itK (lk : Bool) (r : Res B) : Res (List D) := r.bind fun x => itemsB lk (rd x)
variable {lk : Bool}
theorem e_it : itF lk fa ρ = itK lk (fa ρ) := (rfl)
theorem itK_ok : itK lk (.ok x) = itemsB lk (rd x) := (rfl)
theorem itK_exc : itK lk (.exc c) = .exc c := (rfl)
theorem it_tup : itemsB lk (.dat (.tup ds)) = .ok ds := (rfl)
theorem it_ctup : itemsB lk (.dat (.ctup ds)) = .ok ds := (rfl)
theorem it_lst : itemsB lk (.dat (.lst ds)) = .ok ds := (rfl)
theorem it_bor : itemsB lk (.bor (.l ds)) = .ok ds := (rfl)
theorem it_vw : itemsB true (.vw (.l ds)) = .ok ds := (rfl)
theorem it_scr : itemsB lk (.scr ns) = .ok (ns.map .int) := (rfl)
theorem it_str {z : Str} : itemsB lk (.dat (.str z)) = .ok (z.cps.toList.map fun c => .str ⟨#[c]⟩) := (rfl)
noncomputable def rgZ : List B → Res (List D) := Classical.choose (⟨rngA, rfl⟩ : ∃ f, f = rngA)
theorem rgZ_eq : rgZ = rngA := Classical.choose_spec (⟨rngA, rfl⟩ : ∃ f, f = rngA)
noncomputable def shlZ : B → B → Res B := Classical.choose (⟨shlB, rfl⟩ : ∃ f, f = shlB)
theorem e_shl : shlB = shlZ := (Classical.choose_spec (⟨shlB, rfl⟩ : ∃ f, f = shlB)).symm
noncomputable def powZ : B → B → Res B := Classical.choose (⟨powB, rfl⟩ : ∃ f, f = powB)
theorem e_pow : powB = powZ := (Classical.choose_spec (⟨powB, rfl⟩ : ∃ f, f = powB)).symm
theorem e_rg : rgF fs ρ = (fs ρ).bind rgZ := by rw [rgZ_eq]; rfl
theorem e_noP : noP ρ = .ok none := (rfl)
theorem e_atP : atP fa ρ = (fa ρ).bind partB := (rfl)
theorem part_int {n : Int} : partB (.dat (.int n)) = .ok (some n) := (rfl)
def slcK (r : Res B) (rl rh : Res (Option Int)) : Res B := r.bind fun x => rl.bind fun l => rh.bind fun h => sliceB (rd x) l h
variable {fl fh : Env → Res (Option Int)} {lo hi : Option Int}
theorem e_slc : slcV fa fl fh ρ = slcK (fa ρ) (fl ρ) (fh ρ) := (rfl)
theorem slc_okK : slcK (.ok x) (.ok lo) (.ok hi) = sliceB (rd x) lo hi := (rfl)
variable {tg : Tg} {it : Env → Res (List D)} {vs : List Nat}
def compD (tg : Tg) (t : Env → Res Bool) (fe : Env → Res B) (ρ : Env) (ds : List D) : Res B := if ds.length ≤ sizeLine then (mapC (stepC tg t fe ρ) ds).bind fun out => .ok (.own (.l out)) else .bad
def compK (tg : Tg) (t : Env → Res Bool) (fe : Env → Res B) (ρ : Env) (r : Res (List D)) : Res B := r.bind (compD tg t fe ρ)
theorem e_comp : compV tg it t fe vs ρ = compK tg t fe (wipeE ρ vs) (it ρ) := (rfl)
theorem compK_ok {fe : Env → Res B} : compK tg t fe ρ (.ok ds) = compD tg t fe ρ ds := (rfl)
theorem compK_exc {fe : Env → Res B} : compK tg t fe ρ (.exc c) = .exc c := (rfl)
theorem wipe_nil : wipeE ρ [] = ρ := (rfl)
theorem wipe_cons : wipeE ρ (i :: vs) = (wipeE ρ vs).set i none := (rfl)
def forK (tg : Tg) (body : Env → Out) (r : Res (List D)) (ρ : Env) : Out := match r with
  | .ok ds => loopF tg body ds ρ
  | .exc c => .exc c ρ
  | .bad => .bad
theorem e_for : forV tg it f ρ = forK tg f (it ρ) ρ := (rfl)
theorem forK_ok : forK tg f (.ok ds) ρ = loopF tg f ds ρ := (rfl)
theorem forK_exc : forK tg f (.exc c) ρ = .exc c ρ := (rfl)
def bindO (o : Option Env) : Out := match o with
  | some ρ' => .nx ρ'
  | none => .bad
theorem bindV_dat : bindV tg (.dat d) ρ = bindO (bindT tg d ρ) := (rfl)
theorem bindV_own : bindV tg (.own m) ρ = bindO (bindT tg (frzM m) ρ) := (rfl)
theorem bindO_some : bindO (some ρ) = .nx ρ := (rfl)
variable {is : List Nat}
theorem bt_one : bindT (.one i) d ρ = some (ρ.set i (some (.dat d))) := (rfl)
theorem bt_tup (h : ds.length = is.length) : bindT (.many is) (.tup ds) ρ = some (putMany is ds ρ) := if_pos h
theorem bt_ctup (h : ds.length = is.length) : bindT (.many is) (.ctup ds) ρ = some (putMany is ds ρ) := if_pos h
theorem bt_lst (h : ds.length = is.length) : bindT (.many is) (.lst ds) ρ = some (putMany is ds ρ) := if_pos h
theorem pm_nil : putMany [] ds ρ = ρ := (rfl)
theorem pm_nil2 : putMany is [] ρ = ρ := by cases is <;> rfl
theorem pm_cons : putMany (i :: is) (d :: ds) ρ = putMany is ds (ρ.set i (some (.dat d))) := (rfl)
def par2K (i j : Nat) (ra rb : Res B) (ρ : Env) : Out := match ra with
  | .ok x => (match rb with
    | .ok y => if (okV x && okV y) = true then .nx ((ρ.set i (some x)).set j (some y)) else .bad
    | .exc c => .exc c ρ
    | .bad => .bad)
  | .exc c => .exc c ρ
  | .bad => .bad
theorem e_par2 : par2 i j fa fb ρ = par2K i j (fa ρ) (fb ρ) ρ := (rfl)
variable {d' : D} {m' : M}
theorem par2_dd : par2K i j (.ok (.dat d)) (.ok (.dat d')) ρ = .nx ((ρ.set i (some (.dat d))).set j (some (.dat d'))) := (rfl)
theorem par2_od : par2K i j (.ok (.own m)) (.ok (.dat d')) ρ = .nx ((ρ.set i (some (.own m))).set j (some (.dat d'))) := (rfl)
theorem par2_do : par2K i j (.ok (.dat d)) (.ok (.own m')) ρ = .nx ((ρ.set i (some (.dat d))).set j (some (.own m'))) := (rfl)
theorem par2_oo : par2K i j (.ok (.own m)) (.ok (.own m')) ρ = .nx ((ρ.set i (some (.own m))).set j (some (.own m'))) := (rfl)
def lockO (i : Nat) (ρ : Env) (o : Option (Option B)) : Env := match o with
  | some (some (.own m)) => ρ.set i (some (.dat (frzM m)))
  | _ => ρ
theorem e_lock : lockE i ρ = lockO i ρ ρ[i]? := by
  unfold lockE lockO ownAt
  split <;> split <;> first | rfl | (rename_i h1 _ _ h2; rw [h2] at h1; simp_all) | simp_all
theorem lock_own : lockO i ρ (some (some (.own m))) = ρ.set i (some (.dat (frzM m))) := (rfl)
theorem lock_dat : lockO i ρ (some (some (.dat d))) = ρ := (rfl)
theorem lock_bor : lockO i ρ (some (some (.bor m))) = ρ := (rfl)
theorem lock_none : lockO i ρ (some none) = ρ := (rfl)
theorem e_lockS : lockS i f ρ = f (lockE i ρ) := (rfl)
theorem setL_dat (h : i < ρ.length) : setL i (.dat d) ρ = .nx (ρ.set i (some (.dat d))) := by
  unfold setL
  rw [set_dat]
  dsimp only
  rw [e_lock, List.getElem?_set_self h]
  rfl
theorem setL_own (h : i < ρ.length) : setL i (.own m) ρ = .nx (ρ.set i (some (.dat (frzM m)))) := by
  unfold setL
  rw [set_own]
  dsimp only
  rw [e_lock, List.getElem?_set_self h]
  show Out.nx ((ρ.set i _).set i _) = _
  rw [List.set_set]
theorem setL_bor (h : i < ρ.length) : setL i (.bor m) ρ = .nx (ρ.set i (some (.bor m))) := by
  unfold setL
  rw [set_bor]
  dsimp only
  rw [e_lock, List.getElem?_set_self h]
  rfl
theorem outR_nx : outR (.nx ρ) = .ok (.dat .non) := (rfl)
theorem outR_rt : outR (.rt b) = .ok b := (rfl)
theorem outR_exc : outR (.exc c ρ) = .exc c := (rfl)
theorem e_litI {n : Int} : litI n ρ = .ok (.dat (.int n)) := (rfl)
theorem e_litS {z : Str} : litS z ρ = .ok (.dat (.str z)) := (rfl)
theorem e_litB : litB p ρ = .ok (.dat (.bl p)) := (rfl)
theorem e_litN : litN ρ = .ok (.dat .non) := (rfl)
theorem e_litD : litD d ρ = .ok (.dat d) := (rfl)
theorem e_newK : newK ρ = .ok (.own (.k [])) := (rfl)
theorem e_newT : newT ρ = .ok (.own (.t [])) := (rfl)
theorem e_nx : nxS ρ = .nx ρ := (rfl)
theorem e_bk : bkS ρ = .bk ρ := (rfl)
theorem e_ct : ctS ρ = .ct ρ := (rfl)
theorem e_rtN : rtN ρ = .rt (.dat .non) := (rfl)
theorem e_yes : yesF ρ = .ok true := (rfl)
def ownOf (o : Option (Option B)) : Option M := match o with
  | some (some (.own m)) => some m
  | _ => none
def appK (i : Nat) (o : Option M) (r : Res B) (ρ : Env) : Out := match o with
  | some (.l ds) => (match r with
    | .ok b => (match rd b with
      | .dat d => if ds.length < sizeLine then .nx (ρ.set i (some (.own (.l (ds ++ [d]))))) else .bad
      | _ => .bad)
    | .exc c => .exc c ρ
    | .bad => .bad)
  | _ => .bad
theorem e_app : appV i fa ρ = appK i (ownOf ρ[i]?) (fa ρ) ρ := (rfl)
theorem own_of : ownOf (some (some (.own m))) = some m := (rfl)
theorem app_dat (h : ds.length < sizeLine) : appK i (some (.l ds)) (.ok (.dat d)) ρ = .nx (ρ.set i (some (.own (.l (ds ++ [d]))))) := if_pos h
theorem app_own (h : ds.length < sizeLine) : appK i (some (.l ds)) (.ok (.own m)) ρ = .nx (ρ.set i (some (.own (.l (ds ++ [frzM m]))))) := if_pos h
theorem app_exc : appK i (some (.l ds)) (.exc c) ρ = .exc c ρ := (rfl)
def putK (i : Nat) (rv : Res B) (o : Option M) (rk : Res B) (ρ : Env) : Out := match rv with
  | .ok b => (match rd b, o, rk with
    | .dat d, some m, .ok k => (match storeM m (rd k) d with
      | some m' => .nx (ρ.set i (some (.own m')))
      | none => .bad)
    | .dat _, some _, .exc c => .exc c ρ
    | _, _, _ => .bad)
  | .exc c => .exc c ρ
  | .bad => .bad
theorem e_put : putS i fa fb ρ = putK i (fb ρ) (ownOf ρ[i]?) (fa ρ) ρ := (rfl)
def putO (i : Nat) (o : Option M) (ρ : Env) : Out := match o with
  | some m' => .nx (ρ.set i (some (.own m')))
  | none => .bad
theorem put_dat : putK i (.ok (.dat d)) (some m) (.ok x) ρ = putO i (storeM m (rd x) d) ρ := (rfl)
theorem put_own : putK i (.ok (.own m')) (some m) (.ok x) ρ = putO i (storeM m (rd x) (frzM m')) ρ := (rfl)
theorem putO_some : putO i (some m) ρ = .nx (ρ.set i (some (.own m))) := (rfl)
variable {fe : Env → Res B}
theorem mapC_nil {g : D → Res (Option D)} : mapC g [] = .ok [] := (rfl)
def consC (r : Res (Option D)) (rs : Res (List D)) : Res (List D) := r.bind fun o => rs.bind fun xs => .ok (o.toList ++ xs)
theorem mapC_cons {g : D → Res (Option D)} : mapC g (d :: ds) = consC (g d) (mapC g ds) := (rfl)
theorem consC_ok {o : Option D} : consC (.ok o) (.ok ds) = .ok (o.toList ++ ds) := (rfl)
def stepV (r : Res Bool) (fe : Env → Res B) (ρ : Env) : Res (Option D) := match r with
  | .ok true => (match fe ρ with
    | .ok b => datOnly (rd b)
    | _ => .bad)
  | .ok false => .ok none
  | _ => .bad
def stepK (o : Option Env) (t : Env → Res Bool) (fe : Env → Res B) : Res (Option D) := match o with
  | none => .bad
  | some ρ1 => stepV (t ρ1) fe ρ1
theorem e_step : stepC tg t fe ρ d = stepK (bindT tg d ρ) t fe := (rfl)
theorem stepK_some : stepK (some ρ) t fe = stepV (t ρ) fe ρ := (rfl)
def datR (r : Res B) : Res (Option D) := match r with
  | .ok b => datOnly (rd b)
  | _ => .bad
theorem stepV_t : stepV (.ok true) fe ρ = datR (fe ρ) := (rfl)
theorem stepV_f : stepV (.ok false) fe ρ = .ok none := (rfl)
theorem datR_dat : datR (.ok (.dat d)) = .ok (some d) := (rfl)
theorem datR_own : datR (.ok (.own m)) = .ok (some (frzM m)) := (rfl)
theorem loop_nil : loopF tg f [] ρ = .nx ρ := (rfl)
def loopK (o : Out) (tg : Tg) (body : Env → Out) (ds : List D) : Out := match o with
  | .nx ρ2 => loopF tg body ds ρ2
  | .ct ρ2 => loopF tg body ds ρ2
  | .bk ρ2 => .nx ρ2
  | .rt b => .rt b
  | .exc c ρ2 => .exc c ρ2
  | .bad => .bad
theorem loop_one (h : bindT tg d ρ = some ρ') : loopF tg f (d :: ds) ρ = loopK (f ρ') tg f ds := by
  conv => lhs; unfold loopF
  rw [h]
  rfl
theorem lk_nx : loopK (.nx ρ) tg f ds = loopF tg f ds ρ := (rfl)
theorem lk_ct : loopK (.ct ρ) tg f ds = loopF tg f ds ρ := (rfl)
theorem lk_bk : loopK (.bk ρ) tg f ds = .nx ρ := (rfl)
theorem lk_rt : loopK (.rt b) tg f ds = .rt b := (rfl)
theorem lk_exc : loopK (.exc c ρ) tg f ds = .exc c ρ := (rfl)
section
variable {α : Type} {as : List α} {e : α → D}
theorem mapC_if (k : α → Bool) (h : α → D) : ∀ {as : List α}, (∀ a ∈ as, stepC tg t fe ρ (e a) = .ok (if k a = true then some (h a) else none)) → mapC (stepC tg t fe ρ) (as.map e) = .ok ((as.filter k).map h)
  | [], _ => rfl
  | a :: as, hs => by
    rw [List.map_cons, mapC_cons, hs a List.mem_cons_self, mapC_if k h fun b hb => hs b (List.mem_cons_of_mem _ hb), consC_ok, List.filter_cons]
    cases k a <;> rfl
theorem compD_if (k : α → Bool) (h : α → D) (hl : as.length ≤ sizeLine) (hs : ∀ a ∈ as, stepC tg t fe ρ (e a) = .ok (if k a = true then some (h a) else none)) :
    compD tg t fe ρ (as.map e) = .ok (.own (.l ((as.filter k).map h))) := by
  unfold compD
  rw [if_pos (by rw [List.length_map]; exact hl), mapC_if k h hs]
  rfl
theorem compD_all (h : α → D) (hl : as.length ≤ sizeLine) (hs : ∀ a ∈ as, stepC tg t fe ρ (e a) = .ok (some (h a))) :
    compD tg t fe ρ (as.map e) = .ok (.own (.l (as.map h))) := by
  rw [compD_if (fun _ => true) h hl fun a ha => by rw [hs a ha]; rfl, List.filter_eq_self.mpr fun _ _ => rfl]
theorem loop_fold {σ : Type} (enc : σ → Env) (st : σ → α → σ) (I : List α → σ → Prop) : ∀ {as : List α} {s : σ}, I as s → (∀ a as s, I (a :: as) s → I as (st s a) ∧ ∃ ρ1, bindT tg (e a) (enc s) = some ρ1 ∧ (f ρ1 = .nx (enc (st s a)) ∨ f ρ1 = .ct (enc (st s a)))) → loopF tg f (as.map e) (enc s) = .nx (enc (as.foldl st s)) ∧ I [] (as.foldl st s)
  | [], _, hi, _ => ⟨rfl, hi⟩
  | a :: as, s, hi, hs => by
    obtain ⟨h0, ρ1, h1, h2⟩ := hs a as s hi
    have ih := loop_fold enc st I h0 hs
    rw [List.map_cons, loop_one h1, List.foldl_cons]
    rcases h2 with h2 | h2 <;> (rw [h2]; exact ih)
end
def mapO (w : Env → Env) (o : Out) : Out := match o with
  | .nx ρ => .nx (w ρ)
  | .bk ρ => .bk (w ρ)
  | .ct ρ => .ct (w ρ)
  | o => o
def forget (ws : List Nat) (f : Env → Out) : Env → Out := fun ρ => mapO (fun ρ => wipeE ρ ws) (f ρ)
def fgK (ws : List Nat) (o : Out) : Out := mapO (fun ρ => wipeE ρ ws) o
theorem e_forget {ws : List Nat} : forget ws f ρ = fgK ws (f ρ) := (rfl)
theorem fg_nx {ws : List Nat} : fgK ws (.nx ρ) = .nx (wipeE ρ ws) := (rfl)
theorem fg_bk {ws : List Nat} : fgK ws (.bk ρ) = .bk (wipeE ρ ws) := (rfl)
theorem fg_ct {ws : List Nat} : fgK ws (.ct ρ) = .ct (wipeE ρ ws) := (rfl)
theorem fg_rt {ws : List Nat} : fgK ws (.rt b) = .rt b := (rfl)
theorem fg_exc {ws : List Nat} : fgK ws (.exc c ρ) = .exc c ρ := (rfl)
end
section
variable {g : G} {f : Env → Out} {X : Cx} {st : Stmt} {sts : List Stmt}
theorem St.fewer {F H : Hp} {σ : L2.St} {ρ : Env} (s : St g F H σ ρ) (i : Nat) : St g F H σ (ρ.set i none) := by
  refine ⟨s.gr, by simp [s.len], fun j b h => ?_, fun j k b1 b2 v1 v2 a hjk h1 h2 h3 h4 h5 h6 => ?_⟩
  · rcases set_some h with ⟨rfl, h1, h2⟩ | ⟨h1, h2⟩
    · cases h1
    · exact s.at_ j b h2
  · rcases set_some h1 with ⟨rfl, e1, l1⟩ | ⟨n1, e1⟩
    · cases e1
    rcases set_some h2 with ⟨rfl, e2, l2⟩ | ⟨n2, e2⟩
    · cases e2
    exact s.apart j k b1 b2 v1 v2 a hjk e1 e2 h3 h4 h5 h6
theorem St.fewers {F H : Hp} {σ : L2.St} : ∀ {ws : List Nat} {ρ : Env}, St g F H σ ρ → St g F H σ (wipeE ρ ws)
  | [], _, s => s
  | w :: ws, ρ, s => (St.fewers (ws := ws) s).fewer w
theorem post_forget {ws : List Nat} {E : Ends} {o : Out} (h : PostS g E (mapO (fun ρ => wipeE ρ ws) o)) : PostS g E o := by
  cases o with
  | nx ρ => exact fun σ F H s => h σ F H s.fewers
  | bk ρ => exact fun σ F H s => h σ F H s.fewers
  | ct ρ => exact fun σ F H s => h σ F H s.fewers
  | rt b => exact h
  | exc c ρ => exact h
  | bad => exact h
theorem fs_forget (ws : List Nat) (h : PS X st (tFS g f)) : PS X st (tFS g (forget ws f)) := PS.imp h fun E σ H ⟨F, ρ, s, p⟩ => ⟨F, ρ, s, post_forget p⟩
theorem fs_forgets (ws : List Nat) (h : PSs X sts (tFS g f)) : PSs X sts (tFS g (forget ws f)) := PSs.imp h fun E σ H ⟨F, ρ, s, p⟩ => ⟨F, ρ, s, post_forget p⟩
theorem post_lock {i : Nat} {E : Ends} {ρ : Env} (h : PostS g E (.nx (lockE i ρ))) : PostS g E (.nx ρ) := fun σ F H s => by
  unfold lockE at h
  cases e : ownAt ρ i with
  | none => rw [e] at h; exact h σ F H s
  | some m =>
    rw [e] at h
    obtain ⟨F', _, _, s'⟩ := s.lock (ownAt_ok e)
    exact h σ F' H s'
theorem fs_setL {fa : Env → Res B} {i : Nat} (h : PS X st (tFS g (thenS fa (setV i)))) : PS X st (tFS g (thenS fa (setL i))) := PS.imp h fun E σ H ⟨F, ρ, s, p⟩ => ⟨F, ρ, s, by
  unfold thenS at p ⊢
  cases e : fa ρ with
  | ok b =>
    rw [e] at p
    dsimp only at p ⊢
    unfold setL at p
    unfold setV at p ⊢
    split
    · rename_i hb
      rw [if_pos hb] at p
      exact post_lock p
    · rename_i hb
      rw [if_neg hb] at p
      exact p
  | exc c => rw [e] at p; exact p
  | bad => rw [e] at p; exact p⟩
end
end Fn
namespace HT
open PySem PySem.Spec PyProof.Rows
section
variable {prog : Program} {w : World} {A : Around} {E : Value → Shared → Prop} {s : Shared}
theorem fm_congr {α β : Type} {f g : α → Option β} : ∀ {l : List α}, (∀ a ∈ l, f a = g a) → l.filterMap f = l.filterMap g
  | [], _ => rfl
  | a :: l, h => by
    rw [List.filterMap_cons, List.filterMap_cons, h a List.mem_cons_self, fm_congr fun b hb => h b (List.mem_cons_of_mem _ hb)]
theorem adjust_back (n : Nat) : Builtin.Slice.sliceAdjust none none (-1) (n : Int) = ((n : Int) - 1, -1) := by
  unfold Builtin.Slice.sliceAdjust
  simp only [show ((-1 : Int) < 0) from by omega, if_true]
theorem places_back (n : Nat) : Builtin.Slice.slicePlaces ((n : Int) - 1) (-1) (-1) = n := by
  unfold Builtin.Slice.slicePlaces
  simp only [show ¬ ((-1 : Int) > 0) from by omega, if_false, Int.neg_neg, Int.ediv_one]
  split <;> omega
theorem pick_back (xs : Array Value) : ((List.range xs.size).filterMap fun (k : Nat) => xs[(((xs.size : Int) - 1) + (k : Int) * (-1)).toNat]?).toArray = xs.toList.reverse.toArray := by
  have e : ∀ k ∈ List.range xs.size, xs[(((xs.size : Int) - 1) + (k : Int) * (-1)).toNat]? = xs[xs.size - 1 - k]? := fun k hk => by
    have := List.mem_range.mp hk
    congr 1
    omega
  rw [fm_congr e]
  have := PySem.W.krv_range xs.size
  rw [← PySem.W.krv_all xs, ← List.filterMap_reverse, ← this, List.filterMap_map]
  rfl
theorem sliceApplied_back {sl : Addr} {vl vu vs : Value} {n : Nat} {Q : Int × Int × Nat → Shared → Prop} (hs : s.heap.IsSliceOf sl vl vu vs) (pl : IsPart vl none) (pu : IsPart vu none) (ps : IsPart vs (some (-1)))
    (h : Q ((n : Int) - 1, -1, n) s) : wpAny (model prog w) A (Builtin.Slice.sliceApplied (.ref sl) (pure (n : Int))) Q E s := by
  obtain ⟨os, hos, hcs, hds⟩ := id hs
  unfold Builtin.Slice.sliceApplied Builtin.Slice.sliceFields
  refine wpAny_bind (wpAny_bind (wpAny_field hos hds (x := vl) rfl (wpAny_bind (wpAny_field hos hds (x := vu) rfl (wpAny_bind (wpAny_field hos hds (x := vs) rfl (wpAny_pure ?_)))))))
  refine wpAny_bind (slicePart_ ps ?_)
  show wpAny _ _ (if ((-1 : Int) == 0) = true then _ else _) _ _ s
  rw [if_neg (by decide)]
  refine wpAny_bind (slicePart_ pl (wpAny_bind (slicePart_ pu (wpAny_bind (wpAny_pure ?_)))))
  show wpAny _ _ (match Builtin.Slice.sliceAdjust none none (-1) (n : Int) with | (lo, hi) => pure (lo, (-1 : Int), Builtin.Slice.slicePlaces lo hi (-1))) _ _ s
  rw [adjust_back n]
  show wpAny _ _ (pure ((n : Int) - 1, (-1 : Int), Builtin.Slice.slicePlaces ((n : Int) - 1) (-1) (-1))) _ _ s
  rw [places_back]
  exact wpAny_pure h
theorem getItem_tuple_back {t sl : Addr} {items : Array Value} {vl vu vs : Value} {Q : Value → Shared → Prop} (ht : IsTup s.heap t items) (hs : s.heap.IsSliceOf sl vl vu vs) (pl : IsPart vl none) (pu : IsPart vu none) (ps : IsPart vs (some (-1)))
    (h : Q (.ref s.heap.objs.size) { s with heap := s.heap.push { cls := .type "tuple", data := .seq items.toList.reverse.toArray } })
    (hsz : items.size ≤ sizeLine) : wpAny (model prog w) A (getItem (.ref t) (.ref sl)) Q E s := by
  have htake : sizeOk (.seq items.toList.reverse.toArray) := by
    show items.toList.reverse.toArray.size ≤ sizeLine
    rw [List.size_toArray, List.length_reverse, Array.length_toList]
    exact hsz
  obtain ⟨os, hos, hcs, hds⟩ := id hs
  have hTs : s.TypeIs (.ref sl) "slice" := ⟨os, hos, hcs⟩
  unfold getItem
  try with_reducible refine wpAny_holding ?_
  first | refine wpAny_bind (wpAny_pure ?_) | skip
  refine wpAny_bind (wpAny_sequenceKey ht.typeIs (by decide) ?_)
  refine wpAny_bind (wpAny_callSpecial?_slot (name := Str.ofString "__getitem__") ht.typeIs PyProof.Rows.slot_tuple_getitem
    (wpAny_call_entry PyProof.Rows.slot_tuple_getitem ht.typeIs entry_tuple_getitem ?_ (args_tuple_getitem _ _)))
  show wpAny _ _ (Builtin.Tuple.tupleItemsOf (.ref t) >>= _) _ _ s
  refine wpAny_bind (tupleItemsOf_ ht ?_)
  refine wpAny_bind (wpAny_typeOf hTs ?_)
  rw [if_pos (by decide)]
  refine wpAny_bind (sliceApplied_back hs pl pu ps ?_)
  show wpAny _ _ (if (((items.size : Int) - 1) == 0 && (-1 : Int) == 1 && items.size == items.size) = true then _ else _) _ _ s
  rw [if_neg (by rw [show ((-1 : Int) == 1) = false from rfl, Bool.and_false, Bool.false_and]; decide), pick_back]
  first
    | exact wpAny_bind (m := Builtin.Tuple.tupleExact _) (wpAny_newObj_type (wpAny_pure ⟨_, rfl, wpAny_pure h⟩) htake)
    | exact wpAny_bind (m := Builtin.Tuple.tupleExact _) (wpAny_newObj_type (wpAny_bind (wpAny_pure (wpAny_pure ⟨_, rfl, wpAny_pure h⟩))) htake)
    | exact wpAny_bind (wpAny_bind (m := Builtin.Tuple.tupleExact _) (wpAny_newObj_type (wpAny_pure (wpAny_pure ⟨_, rfl, wpAny_pure h⟩)) htake))
    | exact wpAny_bind (wpAny_bind (m := Builtin.Tuple.tupleExact _) (wpAny_newObj_type (wpAny_pure ⟨_, rfl, wpAny_pure h⟩) htake))
end
end HT
namespace Fn
open PySem PySem.Spec PyProof.Rows L2
section
variable {X : Cx} {g : G} {e : Expr} {te : TE} {pos : Pos}
def rBack (K : PySem.W.Frag) : V → Hp → VK → Prop := fun x H Q => ∃ a xs, x = .ref a ∧ ((SqL K H a xs ∧ ∀ p, H p = none → Q (.ref p) (upd H p (.lst xs.reverse))) ∨ (SqT K H a xs ∧ ∀ p, H p = none → Q (.ref p) (upd H p (.tup xs.reverse))))
def tBack (K : PySem.W.Frag) (te : TE) : TE := fun σ H Q => te σ H fun x H1 => rBack K x H1 Q
theorem pe_back {k : Nat} {p1 p2 p3 : Pos} (he : PE X e te) : PE X (.Subscript e (.Slice none none (some (.UnaryOp .USub (.Constant (.int 1) k p1) p2)) p3) pos) (tBack X.K te) := by
  refine ⟨fun pins s σ H Q I h => ?_⟩
  refine Subscript_ (thn (he.run pins s σ H _ I h) fun v s1 ⟨x, H1, I1, r1, q1⟩ => ?_)
  obtain ⟨a, xs, ex, hx⟩ := q1
  subst ex
  cases r1
  have hst : PO X (some (.UnaryOp .USub (.Constant (.int 1) k p1) p2)) (tPart (tUn (rU fun i => .int (-i)) (tC (.int 1)))) := po_some (pe_un un_neg pe_int)
  refine wpAny_Slice (thn (po_none.run pins s1 σ H1 (fun o H2 => o = none ∧ H2 = H1) I1 ⟨rfl, rfl⟩) fun vl s2 ⟨l, H2, I2, pl, el, e2⟩ => ?_)
  subst el e2
  refine thn (po_none.run pins s2 σ H2 (fun o H3 => o = none ∧ H3 = H2) I2 ⟨rfl, rfl⟩) fun vu s3 ⟨u, H3, I3, pu, eu, e3⟩ => ?_
  subst eu e3
  refine thn (hst.run pins s3 σ H3 (fun o H4 => o = some (-1) ∧ H4 = H3) I3 ⟨1, rfl, -1, rfl, rfl, rfl⟩) fun vs s4 ⟨o, H4, I4, ps, eo, e4⟩ => ?_
  subst eo e4
  have I5 : Inv X pins σ H4 { s4 with heap := s4.heap.push { cls := .type "slice", data := .fields #[vl, vu, vs] } } := I4.kept (t' := s4.toks) fun b ob q => Heap.get?_push_of_some _ q
  show wpAny (model X.prog X.w) X.A (subscriptTail e (.Slice none none (some (.UnaryOp .USub (.Constant (.int 1) k p1) p2)) p3) (.ref a) (.ref s4.heap.objs.size)) (EP X pins σ Q) X.xe { s4 with heap := s4.heap.push { cls := .type "slice", data := .fields #[vl, vu, vs] } }
  rcases hx with ⟨hx, q⟩ | ⟨hx, q⟩
  · obtain ⟨its, r, ht, hz⟩ := I5.list hx
    have hlen := r.length
    refine tail_any (ops := [.ref a, .ref s4.heap.objs.size]) ht.isList.typeIs (PySem.slot_list_getitem.lookup) ?_ (by with_unfolding_all rfl)
    refine wpAny_getItem_list_slice ht.isList (Heap.IsSliceOf.new _ vl vu vs) pl pu ps (by decide) ?_ (by rw [List.size_toArray]; omega)
    rw [PySem.W.krv_pick]
    refine ⟨.ref _, _, I5.laid (t' := s4.toks) (o := .lst xs.reverse) (fun b ob q => Heap.get?_push_of_some _ q) (Nat.le_refl _) ?_, rfl, q _ (I5.hok.fresh (Nat.le_refl _))⟩
    exact ⟨by rw [List.length_reverse]; exact hz, _, 0, r.reverse, Heap.get?_push_size _ rfl⟩
  · obtain ⟨its, r, ht, hz⟩ := I5.tuple hx
    have hlen := r.length
    refine tail_any (ops := [.ref a, .ref s4.heap.objs.size]) ht.typeIs (PyProof.Rows.slot_tuple_getitem.lookup) ?_ (by with_unfolding_all rfl)
    refine HT.getItem_tuple_back ht (Heap.IsSliceOf.new _ vl vu vs) pl pu ps ?_ (by rw [List.size_toArray]; omega)
    refine ⟨.ref _, _, I5.laid (t' := s4.toks) (o := .tup xs.reverse) (fun b ob q => Heap.get?_push_of_some _ q) (Nat.le_refl _) ?_, rfl, q _ (I5.hok.fresh (Nat.le_refl _))⟩
    exact ⟨by rw [List.length_reverse]; exact hz, _, r.reverse, IsTup.new _ _⟩
def backB (b : B) : Res B := match b with
  | .dat (.tup xs) => .ok (.dat (.tup xs.reverse))
  | .dat (.ctup xs) => .ok (.dat (.tup xs.reverse))
  | b => match seqI b with
    | some ds => .ok (.own (.l ds.reverse))
    | none => .bad
theorem g_back {σ : L2.St} {F H : Hp} {v : V} {b : B} {Q : VK} (s : Sm g F H) (r : RR g F H v b) (p : Post g σ F H (backB b) Q) : rBack g.K v H Q := by
  unfold backB at p
  split at p
  · cases r with
    | tup h1 h2 => exact ⟨_, _, rfl, .inr ⟨SqT.of (s.fh _ _ h1), p.newT s h2.rev⟩⟩
  · cases r with
    | ctup h1 h2 => exact ⟨_, _, rfl, .inr ⟨sqT_none h1, p.newT s h2.rev⟩⟩
  · rename_i n2 n3
    split at p
    · rename_i ds hs
      obtain ⟨a, xs, rfl, h1, h2⟩ := seqI_list s r hs n2 n3
      exact ⟨a, xs, rfl, .inl ⟨h1, p.newL s h2.rev⟩⟩
    · exact p.elim
theorem fe_back {fa : Env → Res B} {k : Nat} {p1 p2 p3 : Pos} (hK : g.K = X.K) (ha : PE X e (tF g fa)) : PE X (.Subscript e (.Slice none none (some (.UnaryOp .USub (.Constant (.int 1) k p1) p2)) p3) pos) (tF g (one1 backB fa)) := by
  refine PE.imp (pe_back ha) fun σ H Q ⟨F, ρ, s, p⟩ => ?_
  refine run1 s (fun b v F1 H1 e g1 r => ?_) (fun c e F' H' g1 => ?_) (fun e => ?_)
  · rw [← hK]
    refine g_back (σ := σ) ⟨(s.grow g1).sub, (s.grow g1).gr.hh⟩ r ?_
    unfold one1 at p
    rw [e, Res.ok_bind] at p
    exact p.later g1
  · unfold one1 at p
    rw [e] at p
    exact p F' H' g1
  · unfold one1 at p
    rw [e] at p
    exact p
theorem back_tup {ds : List D} : backB (.dat (.tup ds)) = .ok (.dat (.tup ds.reverse)) := rfl
theorem back_lst {ds : List D} : backB (.dat (.lst ds)) = .ok (.own (.l ds.reverse)) := rfl
variable {cls : Nat → Value} {k : Nat} {tab : List En} {N : List Str} {sc : Scope} {bt : Bt}
theorem CT.back (C : CT X g cls k tab N sc bt) {fa : Env → Res B} {k : Nat} {p1 p2 p3 : Pos} (ha : PE X e (tF g fa)) : PE X (.Subscript e (.Slice none none (some (.UnaryOp .USub (.Constant (.int 1) k p1) p2)) p3) pos) (tF g (one1 backB fa)) := fe_back C.hK ha
end
end Fn
namespace PySem.SeqAt
open PySem PySem.Calls PyProof.Rows
section
variable {A : Around} {s : Shared}
theorem call_tuple_lt0 {prog : Program} {w : World} {E : Value → Shared → Prop} {Q : Value → Shared → Prop} {l b : Addr} {items items2 : Array Value} {e r : Nat → Bool} (hl : s.heap.IsTuple l items) (hb : s.heap.IsTuple b items2)
    (he : ∀ j (h1 : j < items.size) (h2 : j < items2.size), EqAt A.in1 s items[j] items2[j] (e j)) (hr : ∀ j (h1 : j < items.size) (h2 : j < items2.size), e j = false → RcLt A.in1 s items[j] items2[j] (r j))
    (h : Q (.bool (firstLt e r (decide (items.size < items2.size)) (List.range (min items.size items2.size)))) s) : wpAny (model prog w) A (call (.builtin "tuple.__lt__") [.ref l, .ref b]) Q E s := by
  obtain ⟨⟨cls, dd, data, sl⟩, ho, hc, n, hd⟩ := id hl
  obtain ⟨⟨cls2, dd2, data2, sl2⟩, ho2, hc2, n2, hd2⟩ := id hb
  simp only at hc hd hc2 hd2
  subst hc hd hc2 hd2
  exact call_meets F.slot_tuple_lt ⟨_, ho, rfl⟩ F.entry_tuple_lt (F.args_tuple_lt_2 _ _) (tuple_ltAt l b items items2 n n2 dd dd2 sl sl2 e r) ⟨ho, ho2, he, hr, h⟩
end
end PySem.SeqAt
namespace PySem.W
open PySem PySem.Calls PyProof.Rows PySem.SeqAt
section
variable {prog : Program} {w : World} {A : Around} {E : Value → Shared → Prop} {s : Shared}
theorem oneLt_tuples {xs ys : List PyData} {a b : Value} {as bs : List Addr} {Q : Bool → Shared → Prop} (ra : Reads s.heap a (.tuple xs) as) (rb : Reads s.heap b (.tuple ys) bs) (hal : alikeAll xs ys = true)
    (hu : A.units + min (PyData.depth (.tuple xs)) (PyData.depth (.tuple ys)) < cLine) (hq : Q (dataLt (.tuple xs) (.tuple ys)) s) : wpAny (model prog w) A (oneLt' true a b) Q E s := by
  cases ra with
  | @tuple l o vs n _ as₁ h1 h2 h3 h4 =>
    cases rb with
    | @tuple l' o' vs' n' _ bs₁ k1 k2 k3 k4 =>
      have n1 : vs.size = xs.length := by simpa using ReadsAll.length _ _ _ h4
      have n2 : vs'.size = ys.length := by simpa using ReadsAll.length _ _ _ k4
      rw [dataLt_tuple, ← firstLt_toks xs ys hal, ← n1, ← n2] at hq
      rw [oneLt'_eq]
      simp only [if_true]
      refine wpAny_bind (wpAny_cRoomFor (room_here hu) ?_)
      refine wpAny_bind (wpAny_callSpecialIfBound?_slot (T := "tuple") ⟨_, h1, h2⟩ F.slot_tuple_lt (call_tuple_lt0 (e := pairEq xs ys) (r := fun j => dataLt (xs.getD j .none) (ys.getD j .none)) ⟨_, h1, h2, _, h3⟩ ⟨_, k1, k2, _, k3⟩ (fun j j1 j2 => ?_) (fun j j1 j2 hj => ?_) ?_))
      · have := eqAt_alikeAll xs ys A.in1 s vs.toList vs'.toList _ _ h4 k4 hal (room_in hu) j (by simpa using j1) (by simpa using j2)
        simpa using this
      · have := rcLt_alikeAll xs ys A.in1 s vs.toList vs'.toList _ _ h4 k4 hal (room_in hu) j (by simpa using j1) (by simpa using j2) hj
        simpa using this
      · exact wpAny_truthy_bool hq
theorem mapM_is {M : Model} {α β : Type} {f : α → Sem β} {g : α → β} : ∀ (l : List α) {Q : List β → Shared → Prop}, (∀ v ∈ l, ∀ (Q' : β → Shared → Prop), Q' (g v) s → wpAny M A (f v) Q' E s) → Q (l.map g) s → wpAny M A (l.mapM f) Q E s
  | [], _, _, h => by rw [List.mapM_nil]; exact wpAny_pure h
  | x :: l, Q, hf, h => by
    rw [List.mapM_cons]
    exact wpAny_bind (hf x (.head _) _ (wpAny_bind (mapM_is l (Q := fun bs s' => wpAny M A (pure (g x :: bs)) Q E s') (fun v hv => hf v (.tail _ hv)) (wpAny_pure h))))
theorem kae_kind {vs : List Value} {Q : SortKind → Shared → Prop} (h2 : 2 ≤ vs.length) (hT : ∀ v ∈ vs, ∃ a its, v = .ref a ∧ s.heap.IsTuple a its) (h0 : ∀ v, vs.head? = some v → ∃ a, v = .ref a ∧ s.heap.IsTuple a #[]) (h : Q oneType' s) : wpAny (model prog w) A (keyKind' vs.toArray) Q E s := by
  obtain ⟨v₁, v₂, rest, rfl⟩ : ∃ v₁ v₂ rest, vs = v₁ :: v₂ :: rest := by
    match vs, h2 with
    | [], h2 => simp at h2
    | [_], h2 => simp at h2
    | v₁ :: v₂ :: rest, _ => exact ⟨v₁, v₂, rest, rfl⟩
  rw [keyKind'_eq, List.mapM_toArray, map_eq_pure_bind]
  let g : Value → Option Value := fun v => open Classical in if q : ∃ its, ∃ a, v = .ref a ∧ s.heap.IsTuple a its then (Classical.choose q)[0]? else none
  have uniq : ∀ {a : Addr} {its its' : Array Value}, s.heap.IsTuple a its → s.heap.IsTuple a its' → its = its' := by
    rintro a its its' ⟨o, ho, _, n, hd⟩ ⟨o', ho', _, n', hd'⟩
    rw [ho] at ho'; cases ho'; rw [hd] at hd'; cases hd'; rfl
  have gs : ∀ a its, s.heap.IsTuple a its → g (.ref a) = its[0]? := by
    intro a its hi
    have q : ∃ its, ∃ a', Value.ref a = .ref a' ∧ s.heap.IsTuple a' its := ⟨its, a, rfl, hi⟩
    have e : g (.ref a) = (Classical.choose q)[0]? := dif_pos q
    rw [e]
    obtain ⟨a', h1, h2⟩ := Classical.choose_spec q
    cases h1
    rw [uniq h2 hi]
  refine wpAny_bind (wpAny_bind (mapM_is (g := g) _ (fun v hv Q' hq => ?_) (wpAny_pure ?_)))
  · obtain ⟨a, its, rfl, hi⟩ := hT v hv
    rw [kas_first_eq]
    obtain ⟨o, ho, hc, n, hd⟩ := id hi
    refine wpAny_bind (wpAny_typeOf ⟨o, ho, hc⟩ ?_)
    rw [if_neg (by decide)]
    rw [gs a its hi] at hq
    exact wpAny_bind (listItems_at ho hd (wpAny_pure hq))
  · obtain ⟨a, rfl, hi⟩ := h0 v₁ rfl
    have g1 : g (.ref a) = none := by rw [gs a _ hi]; rfl
    rw [List.map_cons, g1]
    rw [if_neg (by simp), if_neg (by simp)]
    rw [oneTypeOnly'_eq, List.mapM_toArray, map_eq_pure_bind]
    refine wpAny_bind (wpAny_bind (wpAny_bind (kas_mapM (r := Value.type "tuple") _ (fun v hv Q' hq => ?_) (wpAny_pure ?_))))
    · obtain ⟨a, its, rfl, o, ho, hc, n, hd⟩ := hT v hv
      exact wpAny_typeOf ⟨o, ho, hc⟩ hq
    have hall : ((List.map (fun _ => Value.type "tuple") (Value.ref a :: v₂ :: rest)).toArray.all fun x => x == Value.type "tuple") = true := by
      simp only [List.all_toArray, List.all_map, List.all_eq_true]
      intro _ _
      exact beq_self_eq_true _
    have h0 : (List.map (fun _ => Value.type "tuple") (Value.ref a :: v₂ :: rest)).toArray[0]? = some (Value.type "tuple") := by simp
    rw [h0]
    simp only [hall, if_true]
    exact wpAny_pure (wpAny_pure h)
def Sortable0 (ds : List PyData) : Prop := ds.head? = some (.tuple []) ∧ ∀ d, d ∈ ds → ∃ xs, d = .tuple xs
theorem SortsAt.data0 {vs : List Value} {ds : List PyData} (e : EachIs (fun v d => ∃ as, Reads s.heap v d as) vs ds) (hal : AllAlike ds) (hk : Sortable0 ds) (hu : ∀ d, d ∈ ds → A.units + d.depth < cLine) : SortsAt prog w A s (dataKind s.heap ds) vs := by
  have room : ∀ {d d' : PyData}, d ∈ ds → A.units + min d.depth d'.depth < cLine := fun {d d'} hd => Nat.lt_of_le_of_lt (Nat.add_le_add_left (Nat.min_le_left _ _) _) (hu d hd)
  refine ⟨fun v hv => ?_, oneType', ?_, fun h2 E Q hq => ?_⟩
  · obtain ⟨d, hd, as, r⟩ := e.left v hv
    exact ⟨_, dataKind_some hal hd r⟩
  · intro E x y a b Q ha hb hq
    obtain ⟨d, as, hd, ra, rfl⟩ := dataKind_inv ha
    obtain ⟨d', as', hd', rb, rfl⟩ := dataKind_inv hb
    rw [keyLt'_oneType]
    obtain ⟨xs, rfl⟩ := hk.2 d hd
    obtain ⟨ys, rfl⟩ := hk.2 d' hd'
    exact oneLt_tuples ra rb (by simpa [alike] using hal _ hd _ hd') (room hd) hq
  · refine kae_kind h2 (fun v hv => ?_) (fun v hv => ?_) hq
    · obtain ⟨d, hd, as, r⟩ := e.left v hv
      obtain ⟨xs, rfl⟩ := hk.2 d hd
      cases r with
      | @tuple l o vs n _ as₁ k1 k2 k3 k4 => exact ⟨l, vs, rfl, o, k1, k2, n, k3⟩
    · cases e with
      | nil => cases hv
      | @cons v' d vs' ds' r t =>
        cases hv
        obtain ⟨as, r⟩ := r
        have e0 : d = .tuple [] := Option.some.inj hk.1
        subst e0
        cases r with
        | @tuple l o vs n _ as₁ k1 k2 k3 k4 =>
          have : vs = #[] := by
            have := ReadsAll.length _ _ _ k4
            exact Array.eq_empty_of_size_eq_zero (by simpa using this)
          subst this
          exact ⟨l, rfl, o, k1, k2, n, k3⟩
end
end PySem.W
namespace PySem.W
open PySem PySem.Calls PyProof.Rows PySem.SeqAt
section
variable {prog : Program} {w : World} {A : Around} {E : Value → Shared → Prop} {s : Shared} {β : Type} {R : Value → β → Prop} {enc : β → PyData} {vs : List Value} {bs : List β}
theorem list_sort_data2 {a : Addr} {n : Nat} {Q : Value → Shared → Prop} (ho : s.heap.get? a = some (seqObj "list" vs.toArray n)) (e : EachIs R vs bs) (er : EachIs (fun v b => ∃ as, Reads s.heap v (enc b) as ∧ a ∉ as) vs bs) (hal : AllAlike (bs.map enc)) (hk : Sortable (bs.map enc) ∨ Sortable0 (bs.map enc)) (hL : bs.length ≤ sizeLine)
    (hu : ∀ b, b ∈ bs → A.units + 1 + (enc b).depth < cLine) (h : ∀ out, out.length = bs.length → EachIs R out (bs.mergeSort (dataLe false enc)) → Q .none { s with heap := sortedHeap s.heap a vs (List.toArray out) }) :
    wpAny (model prog w) A (call (.builtin "list.sort") [.ref a]) Q E s := by
  have er' : EachIs (fun v b => ∃ as, Reads (sortingHeap s.heap a vs) v (enc b) as) vs bs := each_keepBut (h' := sortingHeap s.heap a vs) (fun _ _ hb q => sortingHeap_old hb q) (fun o q => by rw [ho] at q; rw [← Option.some.inj q]) hal er
  have S : SortsAt prog w A.in1 { s with heap := sortingHeap s.heap a vs } (dataKind (sortingHeap s.heap a vs) (bs.map enc)) vs := by
    rcases hk with hk | hk
    · exact SortsAt.data (s := { s with heap := sortingHeap s.heap a vs }) (each_map (R := fun v d => ∃ as, Reads (sortingHeap s.heap a vs) v d as) enc er') hal hk (bound_map hu)
    · exact SortsAt.data0 (s := { s with heap := sortingHeap s.heap a vs }) (each_map (R := fun v d => ∃ as, Reads (sortingHeap s.heap a vs) v d as) enc er') hal hk (bound_map hu)
  refine wpAny_call_entry slot_list_sort ⟨_, ho, rfl⟩ entry_list_sort (list_sort_vals (κ := dataKind (sortingHeap s.heap a vs) (bs.map enc)) ho S (by rw [e.length]; exact hL) ⟨.none, rfl, ?_⟩) (args_list_sort _)
  exact h _ (by rw [sortVals_length false rfl]; exact e.length) (sortVals_data false e er' hal)
end
end PySem.W
namespace Fn
open PySem PySem.Spec PyProof.Rows L2
def isTupP : PyData → Bool
  | .tuple _ => true
  | _ => false
def head0 : List PyData → Bool
  | .tuple [] :: _ => true
  | _ => false
def sortOk2 (ds : List D) : Bool := (toPys ds).all SeqAt.shaped && ((toPys ds).all (fun a => (toPys ds).all fun b => PySem.W.alike a b) && ((toPys ds).all isTup1 || ((toPys ds).all isPlain || (head0 (toPys ds) && (toPys ds).all isTupP))))
theorem sortOk2_iff {ds : List D} (h : sortOk2 ds = true) : (∀ d ∈ ds, SeqAt.shaped (toPy d) = true) ∧ PySem.W.AllAlike (ds.map toPy) ∧ (PySem.W.Sortable (ds.map toPy) ∨ PySem.W.Sortable0 (ds.map toPy)) := by
  unfold sortOk2 at h
  rw [Bool.and_eq_true, Bool.and_eq_true, Bool.or_eq_true, Bool.or_eq_true, Bool.and_eq_true] at h
  obtain ⟨h1, h2, h3⟩ := h
  rcases h3 with h3 | h3 | h3
  · obtain ⟨a, b, c⟩ := sortOk_iff (ds := ds) (by unfold sortOk; rw [h1, h2, h3]; rfl)
    exact ⟨a, b, .inl c⟩
  · obtain ⟨a, b, c⟩ := sortOk_iff (ds := ds) (by unfold sortOk; rw [h1, h2, h3, Bool.or_true]; rfl)
    exact ⟨a, b, .inl c⟩
  · rw [toPys_map] at h1 h2 h3
    rw [List.all_eq_true] at h1 h2
    obtain ⟨h3, h4⟩ := h3
    rw [List.all_eq_true] at h4
    refine ⟨fun d hd => h1 _ (List.mem_map.mpr ⟨d, hd, rfl⟩), fun d hd d' hd' => List.all_eq_true.mp (h2 d hd) d' hd', .inr ⟨?_, fun d hd => ?_⟩⟩
    · unfold head0 at h3
      split at h3
      · rename_i e; rw [e]; rfl
      · cases h3
    · have := h4 d hd
      cases d with
      | tuple xs => exact ⟨xs, rfl⟩
      | _ => cases this
section
variable {X : Cx} {pins : List (Addr × Obj)} {σ : L2.St} {H : Hp} {s : Shared}
theorem sort_new2 {A : Around} {E : Value → Shared → Prop} {xs : List V} {us : List Value} {ds : List D} {Q : VK} {tk : Nat} {h' : Heap} (hu : A.units + 100 < cLine) (I : Inv X pins σ H { s with heap := h', toks := tk }) (rv : Vals xs us) (hd : DpAll X.K H xs (toPys ds)) (hl : xs.length = ds.length)
    (ho : sortOk2 ds = true) (hz : xs.length ≤ sizeLine) (q : ∀ p, H p = none → Q (.ref p) (upd H p (.lst ((sortZ xs ds).map (·.1))))) :
    wpAny (model X.prog X.w) A (call (.builtin "list.sort") [.ref h'.objs.size]) (fun _ s' => EP X pins σ Q (.ref h'.objs.size) s') E { s with heap := h'.push (seqObj "list" us.toArray 0), toks := tk } := by
  obtain ⟨o1, o2, o3⟩ := sortOk2_iff ho
  obtain ⟨e1, e2⟩ := each_of I rv hd
  have hlz : (xs.zip ds).length = xs.length := by rw [List.length_zip, ← hl]; exact Nat.min_self _
  have hoL : (h'.push (seqObj "list" us.toArray 0)).get? h'.objs.size = some (seqObj "list" us.toArray 0) := Heap.get?_push_size _ rfl
  have e3 : PySem.W.EachIs (fun v (b : V × D) => ∃ as, Reads (h'.push (seqObj "list" us.toArray 0)) v (toPy b.2) as ∧ h'.objs.size ∉ as) us (xs.zip ds) := by
    have go : ∀ {vs : List Value} {bs : List (V × D)}, (∀ b ∈ bs, SeqAt.shaped (toPy b.2) = true) → PySem.W.EachIs (fun v (b : V × D) => ∃ as, Reads h' v (toPy b.2) as) vs bs → PySem.W.EachIs (fun v (b : V × D) => ∃ as, Reads (h'.push (seqObj "list" us.toArray 0)) v (toPy b.2) as ∧ h'.objs.size ∉ as) vs bs := by
      intro vs bs hs e
      induction e with
      | nil => exact .nil
      | cons r t ih =>
        obtain ⟨as, rr⟩ := r
        refine .cons ⟨as, PyProof.Rows.Reads.keeps (fun b o e => Heap.get?_push_of_some _ e) rr, fun hm => Nat.lt_irrefl _ (reads_lt _ _ _ (SeqAt.canLay_of_shaped (hs _ List.mem_cons_self)) rr _ hm)⟩ (ih fun b hb => hs b (List.mem_cons_of_mem _ hb))
    exact go (fun b hb => o1 b.2 (List.of_mem_zip hb).2) e2
  refine PySem.W.list_sort_data2 (bs := xs.zip ds) (enc := fun b => toPy b.2) (s := { s with heap := h'.push (seqObj "list" us.toArray 0), toks := tk }) hoL e1 e3
    (by rw [map_toPy_zip hl]; exact o2) (by rw [map_toPy_zip hl]; exact o3) (by rw [hlz]; exact hz) (fun b hb => ?_) fun out ho1 ho2 => ?_
  · have := SeqAt.depth_of_shaped (o1 b.2 (List.of_mem_zip hb).2)
    omega
  · have hv : Vals ((sortZ xs ds).map (·.1)) out := each_vals ho2
    have hlen : ((sortZ xs ds).map (·.1)).length ≤ sizeLine := by rw [hv.length, ho1, hlz]; exact hz
    obtain ⟨e', he'⟩ := PyProof.Rows.sortedHeap_at (vs := us) (out := out.toArray) hoL
    refine ⟨.ref h'.objs.size, upd H h'.objs.size (.lst ((sortZ xs ds).map (·.1))), I.laid (t' := tk) (fun b u e => ?_) (Nat.le_refl _) (show ObjOk X.prog X.w _ _ _ (.lst ((sortZ xs ds).map (·.1))) from ⟨hlen, out, e', hv, he'⟩), rfl, q _ (I.hok.fresh (Nat.le_refl _))⟩
    have hb : b < h'.objs.size := Heap.lt_size e
    rw [PyProof.Rows.sortedHeap_old (Nat.ne_of_lt hb) (by rw [size_push']; exact Nat.lt_succ_of_lt hb)]
    exact Heap.get?_push_of_some _ e
def rSortS (K : PySem.W.Frag) : List V → Hp → VK → Prop := fun vs H Q => ∃ (a : Addr) (xs : List V) (ds : List D), vs = [.ref a] ∧ (SqL K H a xs ∨ SqT K H a xs) ∧ DpAll K H xs (toPys ds) ∧ xs.length = ds.length ∧ sortOk2 ds = true ∧
  ∀ p, H p = none → Q (.ref p) (upd H p (.lst ((sortZ xs ds).map (·.1))))
theorem cr_sortS (hc : X.calm = true) (hu : X.A.units + 200 < cLine) : CallR X (.builtin "sorted") (rSortS X.K) := by
  intro pins s σ H vs us Q I r h
  obtain ⟨a, xs, ds, rfl, hs, hdp, hl, ho, q⟩ := h
  rw [Vals.ref1 r]
  obtain ⟨T, o, its, n, hT, hg, hcl, hdt, rv, hz⟩ : ∃ (T : String) (o : Obj) (its : List Value) (n : Nat), (T = "list" ∨ T = "tuple") ∧ s.heap.get? a = some o ∧ o.cls = .type T ∧ o.data = .seq its.toArray n ∧ Vals xs its ∧ xs.length ≤ sizeLine := by
    rcases hs with hs | hs
    · obtain ⟨its, rv, pl, hz⟩ := I.list hs
      obtain ⟨o, h1, h2, n, h3⟩ := pl.isList
      exact ⟨"list", o, its, n, .inl rfl, h1, h2, h3, rv, hz⟩
    · obtain ⟨its, rv, pl, hz⟩ := I.tuple hs
      obtain ⟨o, h1, h2, n, h3⟩ := pl
      exact ⟨"tuple", o, its, n, .inr rfl, h1, h2, h3, rv, hz⟩
  refine Calls.call_function_entry PyProof.Rows.kind_sorted PyProof.Rows.plain_sorted PyProof.Rows.entry_sorted (PyProof.Rows.args_sorted1 _) ?_
  unfold Builtin.«sorted»
  refine wpAny_bind (m := checkCount "sorted" 1 1 _) (wpAny_pure ?_)
  refine wpAny_bind (wpAny_collect_seq a hT hg hcl hdt (fun h' hk => ?_) (by rw [List.size_toArray, ← rv.length]; exact hz))
  have I1 : Inv X pins σ H { s with heap := h', toks := s.toks } := I.kept (t' := s.toks) hk
  refine wpAny_bind (wpAny_newList ?_ (by show its.length ≤ _; rw [← rv.length]; exact hz))
  refine wpAny_bind (wpAny_holding (wpAny_mono (sort_new2 (A := X.A.in1) (E := X.xe) (s := s) (tk := s.toks) (Q := Q) (by show X.A.units + 1 + 100 < cLine; omega) I1 rv hdp hl ho hz q) (fun _ s' x => ?_) fun _ _ e => e))
  exact wpAny_pure ⟨_, rfl, x⟩
end
section
variable {g : G}
theorem lay_of2 {ds : List D} (h : sortOk2 ds = true) : PyData.canLayAll0 (toPys ds) = true := by
  obtain ⟨h1, _, _⟩ := sortOk2_iff h
  have go : ∀ ds : List D, (∀ d ∈ ds, SeqAt.shaped (toPy d) = true) → PyData.canLayAll0 (toPys ds) = true := by
    intro ds
    induction ds with
    | nil => intro _; simp [toPys, PyData.canLayAll0]
    | cons d ds ih =>
      intro h
      rw [toPys, PyData.canLayAll0, SeqAt.canLay_of_shaped (h d List.mem_cons_self), ih fun e he => h e (List.mem_cons_of_mem _ he)]
      rfl
  exact go ds h1
def isDict : B → Bool
  | .dat (.dk _) => true
  | .dat (.dt _) => true
  | .vw (.k _) => true
  | .vw (.t _) => true
  | .bor (.k _) => true
  | .bor (.t _) => true
  | _ => false
def sortG (bs : List B) : Res B := match bs with
  | [b] => if isDict b = true then sortF [b] else (match seqI b with
    | some ds => if sortOk2 ds = true then .ok (.own (.l (ds.mergeSort leD))) else .bad
    | none => .bad)
  | _ => .bad
theorem g_sortG {K : PySem.W.Frag} (hK : g.K = K) : CallG g (fun xs H Q => rSortAll K xs H Q ∨ rSortS K xs H Q) sortG := by
  intro σ F H vs bs Q s r p
  unfold sortG at p
  split at p
  · split at p
    · exact .inl (g_sort hK σ F H vs _ Q s r p)
    · subst hK
      obtain ⟨v, rfl, rv⟩ := paired1 r
      split at p
      · rename_i ds hs
        split at p
        · rename_i ho
          have fin : ∀ (a : Addr) (xs : List V), v = .ref a → (SqL g.K H a xs ∨ SqT g.K H a xs) → RpAll g.K g.fa F xs ds → rSortS g.K [v] H Q := fun a xs ev hq hr => by
            subst ev
            exact ⟨a, xs, ds, rfl, hq, RpAll.dp s.fh hr (lay_of2 ho), hr.len, ho, p.newL s (sortZ_rp hr)⟩
          rename_i b _ _
          by_cases t1 : ∃ xs, b = .dat (.tup xs)
          · obtain ⟨xs, rfl⟩ := t1
            cases hs
            cases rv with
            | tup h1 h2 => exact .inr (fin _ _ rfl (.inr (SqT.of (s.fh _ _ h1))) h2)
          · by_cases t2 : ∃ xs, b = .dat (.ctup xs)
            · obtain ⟨xs, rfl⟩ := t2
              cases hs
              cases rv with
              | ctup h1 h2 => exact .inr (fin _ _ rfl (.inr (sqT_none h1)) h2)
            · obtain ⟨a, xs, e, h1, h2⟩ := seqI_list s rv hs (fun xs z => t1 ⟨xs, z⟩) (fun xs z => t2 ⟨xs, z⟩)
              exact .inr (fin a xs e (.inl h1) h2)
        · exact p.elim
      · exact p.elim
  · exact p.elim
variable {X : Cx} {cls : Nat → Value} {k : Nat} {tab : List En} {N : List Str} {sc : Scope} {bt : Bt}
theorem CT.sortG (C : CT X g cls k tab N sc bt) (hh : bt.hot = false := by rfl) : BiW X g "sorted" Fn.sortG := ⟨.inl ⟨_, _, CallR.or (c_sort (C.calm hh) C.hu) (cr_sortS (C.calm hh) C.hu), boot_sorted, g_sortG C.hK⟩⟩
end
end Fn
namespace Fn
open PySem PySem.Spec PyProof.Rows L2
section
variable {X : Cx} {g : G} {cls : Nat → Value} {k : Nat} {tab : List En} {N : List Str} {sc : Scope} {bt : Bt} {a b e : Expr} {fa fb : Env → Res B} {p1 p2 p3 p4 : Pos}
def ixOf (ds : List D) (d : D) : Option Nat := ds.findIdx? fun z => PyData.eqv (toPy z) (toPy d)
def indexB (a b : B) : Res B := match seqL a with
  | some ds => if (SeqAt.shaped (.list (toPys ds)) && SeqAt.shaped (toPy (datOf b))) = true then (match ixOf ds (datOf b) with
    | some j => .ok (.dat (.int (j : Nat)))
    | none => .bad) else .bad
  | none => .bad
def indexE (fa fb : Env → Res B) : Env → Res B := fun ρ => (fa ρ).bind fun x => match seqL (rd x) with
  | some _ => (fb ρ).bind fun y => indexB (rd x) (rd y)
  | none => .bad
def indexK (ra rb : Res B) : Res B := ra.bind fun x => match seqL (rd x) with
  | some _ => rb.bind fun y => indexB (rd x) (rd y)
  | none => .bad
theorem e_index {ρ : Env} : indexE fa fb ρ = indexK (fa ρ) (fb ρ) := (rfl)
theorem index_ok {x y : B} : indexK (.ok x) (.ok y) = indexB (rd x) (rd y) := by
  show (match seqL (rd x) with | some _ => indexB (rd x) (rd y) | none => .bad) = _
  unfold indexB
  cases seqL (rd x) <;> rfl
def mutP (f : M → Option M) (i : Nat) : Env → Out := fun ρ => match ownAt ρ i with
  | some m => (match f m with
    | some m' => .nx (ρ.set i (some (.own m')))
    | none => .bad)
  | none => .bad
def mutK (f : M → Option M) (i : Nat) (o : Option M) (ρ : Env) : Out := match o with
  | some m => (match f m with
    | some m' => .nx (ρ.set i (some (.own m')))
    | none => .bad)
  | none => .bad
theorem e_mut {f : M → Option M} {i : Nat} {ρ : Env} : mutP f i ρ = mutK f i (ownOf ρ[i]?) ρ := (rfl)
def revM : M → Option M
  | .l ds => some (.l ds.reverse)
  | _ => none
theorem mut_rev {ds : List D} {i : Nat} {ρ : Env} : mutK revM i (some (.l ds)) ρ = .nx (ρ.set i (some (.own (.l ds.reverse)))) := (rfl)
theorem CS.rev (C : CS X g cls k tab N sc bt) (i : Nat) {x : Str} (h : vOk N sc i x = true) (hl : (p2.endLine == p3.line) = true) : PS X (.Expr (.Call (.Attribute (.Name x p1) "reverse" p2) [] [] p3) p4) (tFS g (mutP revM i)) := by
  obtain ⟨h1, h2, h3, h4⟩ := C.ct.vo h
  refine PS.imp (ps_expr (pe_bm0 PySem.F.plainAttrs_list PySem.F.slot_list_reverse PySem.F.type_list_reverse mt_reverse (pe_var h1 h2 h3 h4) (by rfl) hl) (by rfl)) fun E σ H h => ?_
  show tVar i σ H fun v H1 => tyV X.K "list" v H1 ∧ rReverse v [] H1 fun _ H1 => E.nx σ H1
  obtain ⟨F, ρ, s, p⟩ := h
  unfold mutP at p
  split at p
  · rename_i m ho
    obtain ⟨q, o, a1, a2, a3, a4, a5⟩ := s.own_none (ownAt_ok ho)
    cases a5 with
    | l rl =>
      refine ⟨_, a1, Or.inl ⟨rfl, _, SqL.of a2⟩, q, _, rfl, rfl, a2, ?_⟩
      exact p σ F _ (s.change (ownAt_ok ho) a1 (.l rl.rev))
    | k _ _ => exact p.elim
    | t _ _ => exact p.elim
  · exact p.elim
def extV (i : Nat) (fa : Env → Res B) : Env → Out := fun ρ => match ownAt ρ i with
  | some (.l ds) => (match fa ρ with
    | .ok b => (match seqL (rd b) with
      | some es => if ds.length + es.length ≤ sizeLine then .nx (ρ.set i (some (.own (.l (ds ++ es))))) else .bad
      | none => .bad)
    | .exc c => .exc c ρ
    | .bad => .bad)
  | _ => .bad
def extK (i : Nat) (o : Option M) (r : Res B) (ρ : Env) : Out := match o with
  | some (.l ds) => (match r with
    | .ok b => (match seqL (rd b) with
      | some es => if ds.length + es.length ≤ sizeLine then .nx (ρ.set i (some (.own (.l (ds ++ es))))) else .bad
      | none => .bad)
    | .exc c => .exc c ρ
    | .bad => .bad)
  | _ => .bad
theorem e_ext {i : Nat} {ρ : Env} : extV i fa ρ = extK i (ownOf ρ[i]?) (fa ρ) ρ := (rfl)
theorem ext_own {i : Nat} {ρ : Env} {ds es : List D} (h : ds.length + es.length ≤ 1000) : extK i (some (.l ds)) (.ok (.own (.l es))) ρ = .nx (ρ.set i (some (.own (.l (ds ++ es))))) := if_pos (le_sz h)
theorem ext_dat {i : Nat} {ρ : Env} {ds es : List D} (h : ds.length + es.length ≤ 1000) : extK i (some (.l ds)) (.ok (.dat (.lst es))) ρ = .nx (ρ.set i (some (.own (.l (ds ++ es))))) := if_pos (le_sz h)
theorem CS.ext (C : CS X g cls k tab N sc bt) (i : Nat) {x : Str} (he : PE X e (tF g fa)) (h : vOk N sc i x = true) (hn : (nst e && (p2.endLine == p3.line)) = true) : PS X (.Expr (.Call (.Attribute (.Name x p1) "extend" p2) [e] [] p3) p4) (tFS g (extV i fa)) := by
  obtain ⟨h1, h2, h3, h4⟩ := C.ct.vo h
  rw [Bool.and_eq_true] at hn
  refine PS.imp (ps_expr (pe_bm PySem.F.plainAttrs_list PySem.F.slot_list_extend PySem.F.type_list_extend mt_extend (pe_var h1 h2 h3 h4) (pa_cons he pa_nil (star_cons hn.1)) (by rfl) (by cases e <;> first | rfl | cases hn.1) hn.2 (star_cons hn.1) (by rfl))) fun E σ H h => ?_
  show tVar i σ H fun v H1 => tyV X.K "list" v H1 ∧ tF g fa σ H1 fun w H2 => rExtend v [w] H2 fun _ H1 => E.nx σ H1
  obtain ⟨F, ρ, s, p⟩ := h
  unfold extV at p
  split at p
  · rename_i ds ho
    obtain ⟨q, o, a1, a2, a3, a4, a5⟩ := s.own_none (ownAt_ok ho)
    cases a5 with
    | l rl =>
      refine ⟨_, a1, Or.inl ⟨rfl, _, SqL.of a2⟩, ?_⟩
      refine run1 s (fun b v F1 H1 e2 g1 r1 => ?_) (fun c e => ?_) (fun e => ?_)
      · rw [e2] at p
        dsimp only at p
        split at p
        · rename_i es hs
          obtain ⟨a, zs, rfl, z1, z2⟩ := seqL_ok (s.grow g1).sm r1 hs
          split at p
          · rename_i hz
            refine ⟨q, a, _, zs, rfl, rfl, g1.hh _ _ a2, z1, by rw [rl.len, z2.len]; exact hz, ?_⟩
            exact p σ F1 _ ((s.grow g1).change (ownAt_ok ho) a1 (.l ((rl.mono g1.fh).app z2)))
          · exact p.elim
        · exact p.elim
      · rw [e] at p
        exact fun F' H' g1 => p σ F' H' (s.grow g1)
      · rw [e] at p
        exact p
  · exact p.elim
end
end Fn
namespace Fn
open PySem PySem.Spec PyProof.Rows L2
section
variable {ρ : Env} {fa fb fc : Env → Res B} {f f' : B → B → Res B} {b x y : B} {c : Nat} {d : D} {m : M} {ds es : List D} {bs : List B} {ns : List Int} {p q : Bool} {i j k n : Int}
def chnV (f' : B → B → Res B) (r : Res B) (y : B) (fc : Env → Res B) (ρ : Env) : Res B := r.bind fun z => match z with
  | .dat (.bl true) => bin2K f' (.ok y) (fc ρ)
  | .dat (.bl false) => .ok (.dat (.bl false))
  | _ => .bad
def chnK (f f' : B → B → Res B) (ra rb : Res B) (fc : Env → Res B) (ρ : Env) : Res B := ra.bind fun x => rb.bind fun y => chnV f' (f (rd x) (rd y)) y fc ρ
theorem e_chn : chn f f' fa fb fc ρ = chnK f f' (fa ρ) (fb ρ) fc ρ := (rfl)
theorem chn_ok : chnK f f' (.ok x) (.ok y) fc ρ = chnV f' (f (rd x) (rd y)) y fc ρ := (rfl)
theorem chnV_t : chnV f' (.ok (.dat (.bl true))) y fc ρ = bin2K f' (.ok y) (fc ρ) := (rfl)
theorem chnV_f : chnV f' (.ok (.dat (.bl false))) y fc ρ = .ok (.dat (.bl false)) := (rfl)
def lstK (o : Option (List D)) : Res B := match o with
  | some ds => if ds.length ≤ sizeLine then .ok (.own (.l ds)) else .bad
  | none => .bad
def tupK (o : Option (List D)) : Res B := match o with
  | some ds => if ds.length ≤ sizeLine then .ok (.dat (.tup ds)) else .bad
  | none => .bad
theorem e_lstB : lstB bs = lstK (dats bs) := (rfl)
theorem e_tupB : tupB bs = tupK (dats bs) := (rfl)
def datsO (d : D) (o : Option (List D)) : Option (List D) := match o with
  | some ds => some (d :: ds)
  | none => none
theorem dats_nil : dats [] = some [] := (rfl)
theorem dats_cons : dats (.dat d :: bs) = datsO d (dats bs) := (rfl)
theorem datsO_some : datsO d (some ds) = some (d :: ds) := (rfl)
theorem lstK_ok (h : ds.length ≤ 1000) : lstK (some ds) = .ok (.own (.l ds)) := if_pos (le_sz h)
theorem tupK_ok (h : ds.length ≤ 1000) : tupK (some ds) = .ok (.dat (.tup ds)) := if_pos (le_sz h)
theorem len_S {z : Str} (h : z.length ≤ 1000) : lenB [.dat (.str z)] = .ok (.dat (.int z.length)) := if_pos (le_sz h)
theorem neg_i : negB (.dat (.int i)) = .ok (.dat (.int (-i))) := (rfl)
theorem not_bl : notB (.dat (.bl p)) = .ok (.dat (.bl !p)) := (rfl)
theorem tupF_lst : tupF [.dat (.lst ds)] = .ok (.dat (.tup ds)) := (rfl)
theorem tupF_tup : tupF [.dat (.tup ds)] = .ok (.dat (.tup ds)) := (rfl)
theorem tupF_vw : tupF [.vw (.l ds)] = .ok (.dat (.tup ds)) := (rfl)
theorem tupF_bor : tupF [.bor (.l ds)] = .ok (.dat (.tup ds)) := (rfl)
theorem lstF_tup : lstF [.dat (.tup ds)] = .ok (.own (.l ds)) := (rfl)
theorem lstF_lst : lstF [.dat (.lst ds)] = .ok (.own (.l ds)) := (rfl)
theorem int_i : intF [.dat (.int i)] = .ok (.dat (.int i)) := (rfl)
theorem is_t : isB false (.dat (.bl p)) (.dat (.bl q)) = .ok (.dat (.bl (decide (p = q)))) := by show Res.ok (B.dat (D.bl _)) = _; rw [Bool.bne_false]
theorem isn_t : isB true (.dat (.bl p)) (.dat (.bl q)) = .ok (.dat (.bl (!decide (p = q)))) := by show Res.ok (B.dat (D.bl _)) = _; rw [Bool.bne_true]
theorem is_n : isB false (.dat d) (.dat .non) = .ok (.dat (.bl (isNone d))) := by show Res.ok (B.dat (D.bl _)) = _; rw [Bool.bne_false]; rfl
theorem isn_n : isB true (.dat d) (.dat .non) = .ok (.dat (.bl (!isNone d))) := by show Res.ok (B.dat (D.bl _)) = _; rw [Bool.bne_true]; rfl
theorem eq_bl : eqB (.dat (.bl p)) (.dat (.bl q)) = .ok (.dat (.bl (decide (p = q)))) := by
  show Res.ok (B.dat (D.bl (PyData.eqv (.bool p) (.bool q)))) = _
  cases p <;> cases q <;> rfl
theorem ne_bl : neB (.dat (.bl p)) (.dat (.bl q)) = .ok (.dat (.bl (!decide (p = q)))) := by
  show Res.ok (B.dat (D.bl (!PyData.eqv (.bool p) (.bool q)))) = _
  cases p <;> cases q <;> rfl
theorem sortOk_two {ds : List D} (h : sortOk ds = true) : sortOk2 ds = true := by
  unfold sortOk at h
  unfold sortOk2
  rw [Bool.and_eq_true, Bool.and_eq_true, Bool.or_eq_true] at h
  obtain ⟨h1, h2, h3⟩ := h
  rw [h1, h2]
  rcases h3 with h3 | h3 <;> rw [h3] <;> simp
theorem sort_l {ds : List D} (h : sortOk2 ds = true) : sortG [.dat (.lst ds)] = .ok (.own (.l (ds.mergeSort leD))) := if_pos h
theorem sort_dt {kvs : List (List Key × D)} : sortG [.dat (.dt kvs)] = sortF [.dat (.dt kvs)] := (rfl)
theorem isi_bl {t : Ty} : isiB t (.dat (.bl p)) = .ok (.dat (.bl (isTy t (.bl p)))) := (rfl)
variable {α : Type} {as : List α} {h : α → Bool} {g : α → Int}
theorem blsD_as : ∀ {as : List α}, blsD (as.map fun a => D.bl (h a)) = some (as.map h)
  | [] => rfl
  | a :: as => by rw [List.map_cons]; unfold blsD; rw [blsD_as]; rfl
theorem all_map : allF [.dat (.lst (as.map fun a => D.bl (h a)))] = .ok (.dat (.bl (as.all h))) := by
  show (match blsD (as.map fun a => D.bl (h a)) with | some ns => (.ok (.dat (.bl (ns.all id))) : Res B) | none => .bad) = _
  rw [blsD_as]
  simp [List.all_map]
theorem any_map : anyF [.dat (.lst (as.map fun a => D.bl (h a)))] = .ok (.dat (.bl (as.any h))) := by
  show (match blsD (as.map fun a => D.bl (h a)) with | some ns => (.ok (.dat (.bl (ns.any id))) : Res B) | none => .bad) = _
  rw [blsD_as]
  simp [List.any_map]
def pick (ds : List D) (k : Int) : D := ds.getD k.toNat .non
theorem atI_pick (h0 : 0 ≤ k) (h1 : k < (ds.length : Int)) : atI ds k = some (pick ds k) := by
  rw [atI_lt h0 h1]
  unfold pick
  rw [List.getD_eq_getElem?_getD, List.getElem?_eq_getElem (by omega)]
  rfl
theorem idx_pT (h0 : 0 ≤ k) (h1 : k < (ds.length : Int)) : idxB (.dat (.tup ds)) (.dat (.int k)) = .ok (.dat (pick ds k)) := idx_tup (atI_pick h0 h1)
theorem idx_pL (h0 : 0 ≤ k) (h1 : k < (ds.length : Int)) : idxB (.dat (.lst ds)) (.dat (.int k)) = .ok (.dat (pick ds k)) := idx_lst (atI_pick h0 h1)
theorem pick_map {e : α → D} [Inhabited α] (h0 : 0 ≤ k) (h1 : k < (as.length : Int)) : pick (as.map e) k = e (as.getD k.toNat default) := by
  unfold pick
  rw [List.getD_eq_getElem?_getD, List.getD_eq_getElem?_getD, List.getElem?_map, List.getElem?_eq_getElem (by omega : k.toNat < as.length)]
  rfl
theorem ixI {l : List Int} (h0 : 0 ≤ k) (h1 : k < (l.length : Int)) : idxB (.dat (.lst (l.map .int))) (.dat (.int k)) = .ok (.dat (.int (l.getD k.toNat 0))) := by
  rw [idx_pL h0 (by rwa [List.length_map]), pick_map h0 h1]; rfl
theorem pick_S {l : List Str} (h0 : 0 ≤ k) (h1 : k < (l.length : Int)) : pick (l.map .str) k = .str (l.getD k.toNat Str.empty) := by
  unfold pick
  rw [List.getD_eq_getElem?_getD, List.getD_eq_getElem?_getD, List.getElem?_map, List.getElem?_eq_getElem (by omega : k.toNat < l.length)]
  rfl
theorem ixS {l : List Str} (h0 : 0 ≤ k) (h1 : k < (l.length : Int)) : idxB (.dat (.lst (l.map .str))) (.dat (.int k)) = .ok (.dat (.str (l.getD k.toNat Str.empty))) := by
  rw [idx_pL h0 (by rwa [List.length_map]), pick_S h0 h1]
theorem ixSt {l : List Str} (h0 : 0 ≤ k) (h1 : k < (l.length : Int)) : idxB (.dat (.tup (l.map .str))) (.dat (.int k)) = .ok (.dat (.str (l.getD k.toNat Str.empty))) := by
  rw [idx_pT h0 (by rwa [List.length_map]), pick_S h0 h1]
theorem slc_tup {lo hi : Option Int} : sliceB (.dat (.tup ds)) lo hi = .ok (.dat (.tup (cutL ds lo hi))) := (rfl)
theorem slc_l {lo hi : Option Int} : sliceB (.dat (.lst ds)) lo hi = .ok (.own (.l (cutL ds lo hi))) := (rfl)
theorem slc_vw {lo hi : Option Int} : sliceB (.vw (.l ds)) lo hi = .ok (.own (.l (cutL ds lo hi))) := (rfl)
theorem slc_bor {lo hi : Option Int} : sliceB (.bor (.l ds)) lo hi = .ok (.own (.l (cutL ds lo hi))) := (rfl)
theorem sIx_pos {n e : Nat} (h : 0 ≤ k) : HT.sIx n e (some k) = min k.toNat n := by
  have := HT.sIx_nat n e k.toNat
  rwa [show ((k.toNat : Nat) : Int) = k from by omega] at this
theorem cut_drop {l : List α} (h : 0 ≤ k) : cutL l (some k) none = l.drop k.toNat := by
  unfold cutL
  rw [sIx_pos h, HT.sIx_none, List.take_of_length_le (by rw [List.length_drop]; omega)]
  by_cases z : k.toNat ≤ l.length
  · rw [Nat.min_eq_left z]
  · rw [Nat.min_eq_right (by omega), List.drop_of_length_le (Nat.le_refl _), List.drop_of_length_le (by omega)]
theorem cut_tak {l : List α} (h : 0 ≤ k) : cutL l none (some k) = l.take k.toNat := by
  have := cut_take l k.toNat
  rwa [show ((k.toNat : Nat) : Int) = k from by omega] at this
theorem cat_l (h : ds.length + es.length ≤ 1000) : addB (.dat (.lst ds)) (.dat (.lst es)) = .ok (.own (.l (ds ++ es))) := if_pos (le_sz h)
theorem app_l (h : ds.length < 1000) {i : Nat} {ρ : Env} : appK i (some (.l ds)) (.ok (.dat d)) ρ = .nx (ρ.set i (some (.own (.l (ds ++ [d]))))) := app_dat (Nat.lt_of_lt_of_le h (le_sz (Nat.le_refl _)))
theorem app_m (h : ds.length < 1000) {i : Nat} {ρ : Env} : appK i (some (.l ds)) (.ok (.own m)) ρ = .nx (ρ.set i (some (.own (.l (ds ++ [frzM m]))))) := app_own (Nat.lt_of_lt_of_le h (le_sz (Nat.le_refl _)))
theorem rg1 (h0 : -1000000000 ≤ k) (h1 : k ≤ 1000000000) : rgZ [.dat (.int k)] = .ok ((List.range k.toNat).map fun (i : Nat) => D.int i) := by
  rw [rgZ_eq, rng_1 (by omega) (by omega)]
  unfold rng
  rw [Int.sub_zero]
  simp only [Int.zero_add]
theorem rg2 (h0 : -1000000000 ≤ i) (h1 : i ≤ 1000000000) (h2 : -1000000000 ≤ k) (h3 : k ≤ 1000000000) : rgZ [.dat (.int i), .dat (.int k)] = .ok ((List.range (k - i).toNat).map fun (j : Nat) => D.int (i + (j : Int))) := by
  rw [rgZ_eq]
  unfold rngA
  dsimp only
  rw [if_pos (by omega)]
  rfl
end
theorem pow_z {i k : Int} (h : 0 ≤ k) (h2 : k ≤ 1000) (hi : Sm64 i) : powZ (.dat (.int i)) (.dat (.int k)) = .ok (.dat (.int (i ^ k.toNat))) := by
  rw [← e_pow]; exact pow_ok h (by omega) hi
theorem shl_z {i k : Int} (h : 0 ≤ k) (h2 : k ≤ 1000) (hi : Sm64 i) : shlZ (.dat (.int i)) (.dat (.int k)) = .ok (.dat (.int (i * 2 ^ k.toNat))) := by
  rw [← e_shl]; exact shl_ok h (by omega) hi
def fit : Nat → D → Bool
  | 0, .tup ds => ds.isEmpty
  | 0, .lst ds => ds.isEmpty
  | n + 1, .tup ds => decide (ds.length ≤ 1000) && ds.all (fit n)
  | n + 1, .lst ds => decide (ds.length ≤ 1000) && ds.all (fit n)
  | _, .str x => PyData.strOk x && decide (x.length ≤ 1000)
  | _, .ctup _ => false
  | _, .fn _ => false
  | _, .lk _ => false
  | _, .lt _ => false
  | _, _ => true
class ISz (i : Int) (n : outParam Nat) : Prop where
  h : i.natAbs < 2 ^ n
theorem ISz.up {i : Int} {n m : Nat} (a : ISz i n) (h : n ≤ m) : ISz i m := ⟨Nat.lt_of_lt_of_le a.h (Nat.pow_le_pow_right (by decide) h)⟩
theorem isz_of {i : Int} {n : Nat} (h1 : -(2 ^ n) < i) (h2 : i < 2 ^ n) : ISz i n := ⟨by
  have : ((2 ^ n : Nat) : Int) = 2 ^ n := by simp
  omega⟩
instance isz_lit {k : Nat} : ISz (no_index (OfNat.ofNat k)) (k.log2 + 1) := ⟨by
  show ((k : Nat) : Int).natAbs < _
  rw [Int.natAbs_natCast]
  exact Nat.lt_log2_self⟩
class Ps (k : Nat) : Prop where
  h : 0 < k
instance ps_succ {k : Nat} : Ps (k + 1) := ⟨Nat.succ_pos k⟩
instance isz_neg {i : Int} {n : Nat} [a : ISz i n] : ISz (-i) n := ⟨by rw [Int.natAbs_neg]; exact a.h⟩
theorem two_pow_add {a b n m : Nat} (h1 : a < 2 ^ n) (h2 : b < 2 ^ m) : a + b < 2 ^ (max n m + 1) := by
  have := Nat.lt_of_lt_of_le h1 (Nat.pow_le_pow_right (by decide) (Nat.le_max_left n m))
  have := Nat.lt_of_lt_of_le h2 (Nat.pow_le_pow_right (by decide) (Nat.le_max_right n m))
  rw [Nat.pow_succ]
  omega
instance isz_add {i j : Int} {n m : Nat} [a : ISz i n] [b : ISz j m] : ISz (i + j) (max n m + 1) := ⟨Nat.lt_of_le_of_lt (Int.natAbs_add_le i j) (two_pow_add a.h b.h)⟩
instance isz_sub {i j : Int} {n m : Nat} [a : ISz i n] [b : ISz j m] : ISz (i - j) (max n m + 1) := ⟨Nat.lt_of_le_of_lt (Int.natAbs_sub_le i j) (two_pow_add a.h b.h)⟩
instance isz_mul {i j : Int} {n m : Nat} [a : ISz i n] [b : ISz j m] : ISz (i * j) (n + m) := ⟨by
  rw [Int.natAbs_mul, Nat.pow_add]
  exact Nat.mul_lt_mul'' a.h b.h⟩
instance isz_mod {i : Int} {k : Nat} [hp : Ps k] : ISz (i % (no_index (OfNat.ofNat k))) (k.log2 + 1) := ⟨by
  have h : 0 < k := hp.h
  show (i % ((k : Nat) : Int)).natAbs < _
  have h1 := Int.emod_nonneg i (show ((k : Nat) : Int) ≠ 0 by omega)
  have h2 := Int.emod_lt_of_pos i (show (0 : Int) < ((k : Nat) : Int) by omega)
  have h3 : k < 2 ^ (k.log2 + 1) := Nat.lt_log2_self
  omega⟩
instance isz_div {i : Int} {n : Nat} [a : ISz i n] {j : Int} : ISz (i / j) n := ⟨Nat.lt_of_le_of_lt (Int.natAbs_ediv_le_natAbs i j) a.h⟩
theorem isz_log {i : Int} {n : Nat} (a : ISz i n) : i.natAbs.log2 ≤ n := by
  by_cases z : i.natAbs = 0
  · rw [z]; exact Nat.zero_le _
  · exact Nat.le_of_lt ((Nat.log2_lt z).mpr a.h)
theorem mul_z {i j : Int} {n m : Nat} [a : ISz i n] [b : ISz j m] (h : n + m < 1000000) : mulB (.dat (.int i)) (.dat (.int j)) = .ok (.dat (.int (i * j))) := by
  unfold mulB
  dsimp only
  have := isz_log a
  have := isz_log b
  rw [if_pos (by omega)]
theorem div_z {i j : Int} {m : Nat} [b : ISz j m] (h : 0 < j) (h2 : m < 8999) : divB (.dat (.int i)) (.dat (.int j)) = .ok (.dat (.int (i / j))) := by
  unfold divB int2
  dsimp only
  have := isz_log b
  rw [if_pos (by rw [Bool.and_eq_true, decide_eq_true_eq, decide_eq_true_eq]; exact ⟨by omega, by omega⟩), Int.fdiv_eq_ediv_of_nonneg _ (by omega)]
end Fn
namespace Fn
open PySem PySem.Spec PyProof.Rows L2
abbrev sC (l : List Nat) : Str := ⟨l.toArray⟩
theorem sC_inj {a b : List Nat} (h : sC a = sC b) : a = b := by
  injection h with h
  simpa using h
theorem idx_str {x : Str} {k : Int} {c : Nat} (h : atI x.cps.toList k = some c) (hl : x.length ≤ 1000) : idxB (.dat (.str x)) (.dat (.int k)) = .ok (.dat (.str (sC [c]))) := by
  show (match atI x.cps.toList k with | some c => (if x.length ≤ sizeLine then (.ok (.dat (.str ⟨#[c]⟩)) : Res B) else .bad) | none => .bad) = _
  rw [h]
  exact if_pos (le_sz hl)
theorem idxL {ds : List D} {n : Nat} {d : D} (k : Int) (hk : k = (n : Int)) (h : ds[n]? = some d) : idxB (.dat (.lst ds)) (.dat (.int k)) = .ok (.dat d) := by
  subst hk
  exact idx_lst (atI_nat h)
theorem rep_ok {c : Nat} {m : Int} (h1 : 0 ≤ m) (h2 : m ≤ 1000) : mulB (.dat (.str (sC [c]))) (.dat (.int m)) = .ok (.dat (.str (sC (List.replicate m.toNat c)))) := by
  show (if -1000 ≤ m ∧ m ≤ 1000 ∧ (sC [c]).length ≤ 1000 then (.ok (.dat (.str (repS (sC [c]) m))) : Res B) else .bad) = _
  rw [if_pos ⟨by omega, h2, by show 1 ≤ 1000; decide⟩]
  unfold repS
  congr 4
  simp
theorem cat_ok {a b : List Nat} (h : a.length + b.length ≤ 1000) : addB (.dat (.str (sC a))) (.dat (.str (sC b))) = .ok (.dat (.str (sC (a ++ b)))) := by
  show (if (sC a).length + (sC b).length ≤ sizeLine then (.ok (.dat (.str (sC a ++ sC b))) : Res B) else .bad) = _
  rw [if_pos (le_sz (by show a.toArray.size + b.toArray.size ≤ 1000; simpa using h))]
  congr 3
  show (⟨a.toArray ++ b.toArray⟩ : Str) = _
  simp
def abc : Str := "abcdefghijklmnopqrstuvwxyz"
theorem abc_cps : abc.cps.toList = (List.range 26).map (97 + ·) := by decide +kernel
theorem letter {j : Int} (h0 : 0 ≤ j) (h1 : j < 26) : idxB (.dat (.str abc)) (.dat (.int j)) = .ok (.dat (.str (sC [97 + j.toNat]))) := by
  refine idx_str ?_ (by decide +kernel)
  rw [abc_cps]
  have e : j = ((j.toNat : Nat) : Int) := by omega
  have q : ((List.range 26).map (97 + ·))[j.toNat]? = some (97 + j.toNat) := by
    rw [List.getElem?_map, List.getElem?_range (by omega)]
    rfl
  have := atI_nat q
  rw [← e] at this
  exact this
def abc8 : Str := "abcdefgh"
theorem abc8_cps : abc8.cps.toList = (List.range 8).map (97 + ·) := by decide +kernel
theorem letter8 {k : Nat} (h1 : k < 8) : idxB (.dat (.str abc8)) (.dat (.int (k : Int))) = .ok (.dat (.str (sC [97 + k]))) := by
  refine idx_str ?_ (by decide +kernel)
  rw [abc8_cps]
  exact atI_nat (by rw [List.getElem?_map, List.getElem?_range (by omega)]; rfl)
def nmC (x0 x1 x2 x3 : Int) (k : Nat) : List Nat :=
  if x1 % 4 = 1 then (97 + k) :: List.replicate (x3 % 8).toNat (97 + (x2 % 26).toNat)
  else if x1 % 4 = 2 then List.replicate (1 + k) (97 + (x2 % 26).toNat)
  else if x1 % 4 = 3 then [97 + (x2 % 26).toNat, 97 + ((x3 + 5 * (k : Int)) % 26).toNat, 97 + (x0 % 26).toNat]
  else List.replicate (1 + (x2 + 3 * (k : Int)) % (if x3 % 2 = 0 then 1 else 5)).toNat (97 + ((x0 + 7 * (k : Int)) % 26).toNat)
theorem repl_head {n m a b : Nat} (h : List.replicate n a = List.replicate m b) (hn : 0 < n) : a = b := by
  cases n with
  | zero => omega
  | succ n =>
    cases m with
    | zero => simp at h
    | succ m =>
      rw [List.replicate_succ, List.replicate_succ] at h
      injection h
theorem nmC_inj {x0 x1 x2 x3 : Int} {k j : Nat} (hk : k < 8) (hj : j < 8) (h : nmC x0 x1 x2 x3 k = nmC x0 x1 x2 x3 j) : k = j := by
  unfold nmC at h
  split at h
  · injection h with h _
    omega
  · split at h
    · have := congrArg List.length h
      rw [List.length_replicate, List.length_replicate] at this
      omega
    · split at h
      · injection h with _ h
        injection h with h _
        omega
      · have := repl_head h (by split <;> omega)
        omega
def isNm (x : Str) : Prop := 1 ≤ x.length ∧ x.length ≤ 8 ∧ ∀ c ∈ x.cps.toList, 97 ≤ c ∧ c < 123
theorem isNm_ok {x : Str} (h : isNm x) : PyData.strOk x = true := by
  show x.cps.all (fun c => decide (c < 0x110000)) = true
  rw [← Array.all_toList, List.all_eq_true]
  exact fun c hc => decide_eq_true (by have := h.2.2 c hc; omega)
theorem nmC_nm (x0 x1 x2 x3 : Int) {k : Nat} (hk : k < 8) : isNm (sC (nmC x0 x1 x2 x3 k)) := by
  have main : 1 ≤ (nmC x0 x1 x2 x3 k).length ∧ (nmC x0 x1 x2 x3 k).length ≤ 8 ∧ ∀ c ∈ nmC x0 x1 x2 x3 k, 97 ≤ c ∧ c < 123 := by
    unfold nmC
    split
    · refine ⟨by simp, by simp only [List.length_cons, List.length_replicate]; omega, fun c hc => ?_⟩
      rcases List.mem_cons.mp hc with rfl | hc
      · omega
      · have := List.eq_of_mem_replicate hc
        omega
    · split
      · refine ⟨by simp only [List.length_replicate]; omega, by simp only [List.length_replicate]; omega, fun c hc => ?_⟩
        have := List.eq_of_mem_replicate hc
        omega
      · split
        · refine ⟨by simp, by simp, fun c hc => ?_⟩
          simp only [List.mem_cons, List.not_mem_nil, or_false] at hc
          rcases hc with rfl | rfl | rfl <;> omega
        · refine ⟨by simp only [List.length_replicate]; split <;> omega, by simp only [List.length_replicate]; split <;> omega, fun c hc => ?_⟩
          have := List.eq_of_mem_replicate hc
          omega
  exact ⟨main.1, main.2.1, by simpa using main.2.2⟩
structure Nms (ns : List Str) (n : Nat) : Prop where
  len : ns.length = n
  nm : ∀ x ∈ ns, isNm x
  nd : ns.Nodup
  srt : (txs ns).Pairwise fun a b => leD a b = true
theorem Nms.lay {ns : List Str} {n : Nat} (h : Nms ns n) : Lays ns := fun x hx => isNm_ok (h.nm x hx)
theorem txs_sort (ns0 : List Str) : ∃ ns : List Str, (txs ns0).mergeSort leD = txs ns ∧ ns.Perm ns0 := by
  have all : ∀ d ∈ (txs ns0).mergeSort leD, ∃ x, d = .str x := fun d hd => by
    obtain ⟨x, _, rfl⟩ := List.mem_map.mp (List.mem_mergeSort.mp hd)
    exact ⟨x, rfl⟩
  obtain ⟨ns, hns⟩ := txs_of all
  exact ⟨ns, hns, txs_perm (by rw [← hns]; exact List.mergeSort_perm (txs ns0) leD)⟩
theorem sort_txs {ns0 ns : List Str} (h : Lays ns0) (hs : (txs ns0).mergeSort leD = txs ns) : sortG [.dat (.lst (txs ns0))] = .ok (.own (.l (txs ns))) := by
  rw [sort_l (sortOk_two (sortOk_txs h)), hs]
theorem nms_draw (x0 x1 x2 x3 : Int) {n : Nat} (hn : n ≤ 8) : ∃ ns : List Str, Nms ns n ∧ sortG [.dat (.lst ((List.range n).map fun k => D.str (sC (nmC x0 x1 x2 x3 k))))] = .ok (.own (.l (txs ns))) := by
  let ns0 : List Str := (List.range n).map fun k => sC (nmC x0 x1 x2 x3 k)
  have e0 : ((List.range n).map fun k => D.str (sC (nmC x0 x1 x2 x3 k))) = txs ns0 := by simp [ns0, txs]
  have nm0 : ∀ x ∈ ns0, isNm x := by
    intro x hx
    obtain ⟨k, hk, rfl⟩ := List.mem_map.mp hx
    exact nmC_nm _ _ _ _ (by have := List.mem_range.mp hk; omega)
  have nd0 : ns0.Nodup := by
    refine List.pairwise_map.mpr (List.Pairwise.imp_of_mem (fun {a b} ha hb hne h => ?_) (List.nodup_range (n := n)))
    have := List.mem_range.mp ha
    have := List.mem_range.mp hb
    exact hne (nmC_inj (by omega) (by omega) (sC_inj h))
  obtain ⟨ns, hns, hp⟩ := txs_sort ns0
  refine ⟨ns, ⟨?_, fun x hx => nm0 x (hp.mem_iff.mp hx), hp.nodup_iff.mpr nd0, by rw [← hns]; exact sortD_pair _⟩, ?_⟩
  · rw [hp.length_eq]; simp [ns0]
  · rw [e0]
    exact sort_txs (fun x hx => isNm_ok (nm0 x hx)) hns
theorem idx_26 {z : Int} : idxB (.dat (.str "abcdefghijklmnopqrstuvwxyz")) (.dat (.int (z % 26))) = .ok (.dat (.str (sC [97 + (z % 26).toNat]))) := letter (by omega) (by omega)
end Fn
namespace Fn
open PySem PySem.Spec PyProof.Rows L2
theorem loop_inv {tg : Tg} {f : Env → Out} {α : Type} {e : α → D} (I : List α → Env → Prop) : ∀ {as : List α} {ρ : Env}, I as ρ → (∀ a as ρ, I (a :: as) ρ → ∃ ρ1 ρ2, bindT tg (e a) ρ = some ρ1 ∧ (f ρ1 = .nx ρ2 ∨ f ρ1 = .ct ρ2) ∧ I as ρ2) → ∃ ρ', loopF tg f (as.map e) ρ = .nx ρ' ∧ I [] ρ'
  | [], ρ, hi, _ => ⟨ρ, rfl, hi⟩
  | a :: as, ρ, hi, hs => by
    obtain ⟨ρ1, ρ2, h1, h2, h3⟩ := hs a as ρ hi
    obtain ⟨ρ', h4, h5⟩ := loop_inv I h3 hs
    refine ⟨ρ', ?_, h5⟩
    rw [List.map_cons, loop_one h1]
    rcases h2 with h2 | h2 <;> (rw [h2]; exact h4)
abbrev pK (p : Str × Str) : List Key := [Sum.inr p.1, Sum.inr p.2]
abbrev pD (p : Str × Str) : D := .tup [.str p.1, .str p.2]
abbrev pKv (p : Str × Str) : List Key × D := (pK p, .bl true)
theorem put_pair (ps : List (Str × Str)) (p : Str × Str) : putD (ps.map pKv) (pK p) (.bl true) = (if p ∈ ps then ps else ps ++ [p]).map pKv := by
  have inj : ∀ q : Str × Str, (pK q = pK p) ↔ q = p := by
    intro q
    constructor
    · intro h
      simp only [pK, List.cons.injEq, Sum.inr.injEq, and_true] at h
      exact Prod.ext h.1 h.2
    · rintro rfl; rfl
  unfold putD
  have e1 : ((ps.map pKv).any fun kv => decide (kv.1 = pK p)) = decide (p ∈ ps) := by
    rw [List.any_map]
    induction ps with
    | nil => rfl
    | cons q qs ih =>
      rw [List.any_cons, ih]
      simp only [Function.comp, inj, List.mem_cons]
      by_cases h : q = p
      · subst h; simp
      · have h' : ¬ p = q := fun z => h z.symm
        simp [h, h']
  rw [e1]
  by_cases h : p ∈ ps
  · rw [if_pos (decide_eq_true h), if_pos h]
    rw [List.map_map]
    refine List.map_congr_left fun q _ => ?_
    show (if pK q = pK p then (pK q, D.bl true) else pKv q) = pKv q
    split <;> rfl
  · rw [if_neg (by rw [decide_eq_false h]; decide), if_neg h, List.map_append]
    rfl
structure Prs (ns : List Str) (ps : List (Str × Str)) : Prop where
  l : ∀ p ∈ ps, p.1 ∈ ns
  r : ∀ p ∈ ps, p.2 ∈ ns
theorem sort_pairs {ns : List Str} {n : Nat} (h : Nms ns n) (ps : List (Str × Str)) (hp : Prs ns ps) : ∃ qs : List (Str × Str), qs.Perm ps ∧ sortG [.dat (.dt (ps.map pKv))] = .ok (.own (.l (qs.map pD))) := by
  have e0 : ((ps.map pKv).map fun kv => kD kv.1) = ps.map pD := by
    rw [List.map_map]
    rfl
  have so : sortOk (ps.map pD) = true := by
    unfold sortOk
    rw [toPys_map]
    simp only [Bool.and_eq_true, Bool.or_eq_true, List.all_eq_true, List.mem_map]
    refine ⟨?_, ?_, .inl ?_⟩
    · rintro _ ⟨_, ⟨p, hq, rfl⟩, rfl⟩
      exact (shaped_strs (xs := [p.1, p.2]) (fun x hx => by
        simp only [List.mem_cons, List.not_mem_nil, or_false] at hx
        rcases hx with rfl | rfl
        · exact h.lay _ (hp.l p hq)
        · exact h.lay _ (hp.r p hq))).1
    · rintro _ ⟨_, ⟨p, _, rfl⟩, rfl⟩ _ ⟨_, ⟨q, _, rfl⟩, rfl⟩
      have := alike_txs [p.1, p.2] [q.1, q.2]
      simpa [pD, toPy, PySem.W.alike] using this
    · rintro _ ⟨_, ⟨p, _, rfl⟩, rfl⟩
      rfl
  have pm := List.mergeSort_perm (ps.map pD) leD
  let un : D → Str × Str := fun d => match d with
    | .tup [.str a, .str b] => (a, b)
    | _ => (Str.empty, Str.empty)
  have unD : ∀ p : Str × Str, un (pD p) = p := fun p => rfl
  refine ⟨((ps.map pD).mergeSort leD).map un, ?_, ?_⟩
  · have := pm.map un
    rw [List.map_map, show (un ∘ pD) = id from funext unD, List.map_id] at this
    exact this
  · rw [sort_dt]
    show (if sortOk ((ps.map pKv).map fun kv => kD kv.1) = true then (.ok (.own (.l (((ps.map pKv).map fun kv => kD kv.1).mergeSort leD))) : Res B) else .bad) = _
    rw [e0, if_pos so]
    congr 3
    rw [List.map_map]
    have : ∀ d ∈ (ps.map pD).mergeSort leD, (pD ∘ un) d = d := fun d hd => by
      obtain ⟨p, _, rfl⟩ := List.mem_map.mp (List.mem_mergeSort.mp hd)
      rfl
    rw [List.map_congr_left this, List.map_id']
structure Gph (ns : List Str) (ps : List (Str × Str)) : Prop where
  nm : Nms ns ns.length
  pos : 0 < ns.length
  le : ns.length ≤ 7
  pr : Prs ns ps
  few : ps.length ≤ 12
abbrev gD (ns : List Str) (ps : List (Str × Str)) : D := .tup [.tup (txs ns), .tup (ps.map pD)]
theorem sto_pair {ps : List (Str × Str)} {s t : Str} (hl : ps.length < 900) : storeM (.t (ps.map pKv)) (.dat (.tup [.str s, .str t])) (.bl true) = some (.t ((if (s, t) ∈ ps then ps else ps ++ [(s, t)]).map pKv)) := by
  show (if (ps.map pKv).length < sizeLine then some (M.t (putD (ps.map pKv) (pK (s, t)) (.bl true))) else none) = _
  rw [if_pos (small1000 (by rw [List.length_map]; omega)), put_pair]
end Fn
namespace Fn
open PySem PySem.Spec PyProof.Rows L2
theorem in_ns {x : Str} {xs : List Str} (hx : PyData.strOk x = true) (h : Lays xs) : inB false (.dat (.str x)) (.dat (.tup (xs.map .str))) = .ok (.dat (.bl (decide (x ∈ xs)))) := in_strs hx h
theorem and_1 (m k : Nat) : Builtin.bitAnd ((m / 2 ^ k : Nat) : Int) 1 = ((m / 2 ^ k % 2 : Nat) : Int) := by
  have := PySem.W.os_band (m / 2 ^ k) 1
  rw [Nat.and_one_is_mod] at this
  exact this
theorem shr_n {m k : Nat} : shrB (.dat (.int (m : Int))) (.dat (.int (k : Int))) = .ok (.dat (.int ((m / 2 ^ k : Nat) : Int))) := by
  rw [shr_ok (by omega), Int.toNat_natCast]
  congr 3
theorem shl_n {k : Nat} (h : k ≤ 1000) : shlZ (.dat (.int 1)) (.dat (.int (k : Int))) = .ok (.dat (.int ((2 ^ k : Nat) : Int))) := by
  rw [shl_z (by omega) (by omega) (by decide), Int.toNat_natCast]
  congr 3
  push_cast
  omega
end Fn
namespace Fn
open PySem PySem.Spec PyProof.Rows L2
structure Shp (d : D) (n : Nat) : Prop where
  lay : PyData.canLay0 (toPy d) = true
  dep : PyData.depth (toPy d) ≤ n
theorem Shp.shaped {d : D} {n : Nat} (h : Shp d n) (hn : n ≤ 64) : SeqAt.shaped (toPy d) = true := by
  show (PyData.canLay0 (toPy d) && decide (PyData.depth (toPy d) ≤ 64)) = true
  rw [h.lay, decide_eq_true (Nat.le_trans h.dep hn)]
  rfl
theorem Shp.up {d : D} {n m : Nat} (h : Shp d n) (hn : n ≤ m) : Shp d m := ⟨h.lay, Nat.le_trans h.dep hn⟩
theorem shp_int (i : Int) : Shp (.int i) 0 := ⟨rfl, Nat.le_refl _⟩
theorem shp_all {n : Nat} : ∀ {ds : List D}, (∀ d ∈ ds, Shp d n) → PyData.canLayAll0 (toPys ds) = true ∧ PyData.depthAll (toPys ds) ≤ n
  | [], _ => ⟨rfl, Nat.zero_le _⟩
  | d :: ds, h => by
    obtain ⟨h1, h2⟩ := shp_all (ds := ds) fun e he => h e (List.mem_cons_of_mem _ he)
    obtain ⟨h3, h4⟩ := h d List.mem_cons_self
    constructor
    · show (PyData.canLay0 (toPy d) && PyData.canLayAll0 (toPys ds)) = true
      rw [h1, h3]; rfl
    · show max (PyData.depth (toPy d)) (PyData.depthAll (toPys ds)) ≤ n
      omega
theorem shp_tup {n : Nat} {ds : List D} (h : ∀ d ∈ ds, Shp d n) : Shp (.tup ds) (n + 1) := by
  obtain ⟨h1, h2⟩ := shp_all h
  constructor
  · show PyData.canLay0 (.tuple (toPys ds)) = true
    simp only [PyData.canLay0, h1]
  · show PyData.depth (.tuple (toPys ds)) ≤ _
    simp only [PyData.depth]
    omega
theorem ne_shp {a b : D} {n m : Nat} (ha : Shp a n) (hb : Shp b m) (hn : n ≤ 64) (hm : m ≤ 64) : neB (.dat a) (.dat b) = .ok (.dat (.bl (!PyData.eqv (toPy a) (toPy b)))) := by
  unfold neB eqD
  rw [if_pos (by rw [show datOf (.dat a) = a from rfl, show datOf (.dat b) = b from rfl, ha.shaped hn, hb.shaped hm]; rfl)]
  rfl
theorem all_nil_ {p : D → Prop} : ∀ d ∈ ([] : List D), p d := fun _ h => nomatch h
theorem all_cons_ {p : D → Prop} {a : D} {ds : List D} (h : p a) (t : ∀ d ∈ ds, p d) : ∀ d ∈ a :: ds, p d := fun d hd => by
  rcases List.mem_cons.mp hd with rfl | hd
  · exact h
  · exact t d hd
end Fn
namespace Fn
open PySem PySem.Spec PyProof.Rows L2
structure Plc where
  n : Str
  a : Int
  b : Int
  c : Int
  d : Int
structure PlOk (top : Int) (p : Plc) : Prop where
  a0 : 0 ≤ p.a
  a1 : p.a ≤ 99
  b0 : 0 ≤ p.b
  b1 : p.b ≤ 99
  c0 : p.d * top ≤ p.c
  c1 : p.c ≤ 999
  d0 : 0 ≤ p.d
  d1 : p.d ≤ 99
abbrev Tie := (Str × Str) × Int
structure Tgood (ns : List Str) (t : Tie) : Prop where
  l : t.1.1 ∈ ns
  r : t.1.2 ∈ ns
  ne : t.1.1 ≠ t.1.2
  lo : 1 ≤ t.2
  hi : t.2 ≤ 999
structure WebOk (top : Int) (ps : List Plc) (ts : List Tie) : Prop where
  t1 : 1 ≤ top
  t9 : top ≤ 9
  nm : Nms (ps.map Plc.n) ps.length
  pos : 0 < ps.length
  le : ps.length ≤ 8
  pl : ∀ p ∈ ps, PlOk top p
  ti : ∀ t ∈ ts, Tgood (ps.map Plc.n) t
  few : ts.length ≤ 16
  tnd : (ts.map (·.1)).Nodup
  tsr : ((ts.map (·.1)).map pD).Pairwise fun a b => leD a b = true
end Fn
namespace Fn
open PySem PySem.Spec PyProof.Rows L2
abbrev Strict (ns : List Str) : Prop := ns.Pairwise fun a b => a.cps.toList < b.cps.toList
def posN (ns : List Str) (x : Str) : Nat := (ixOf (txs ns) (.str x)).getD 0
theorem ix_txs {ns : List Str} {x : Str} (h : x ∈ ns) : ∃ hl : posN ns x < ns.length, ns[posN ns x] = x ∧ ixOf (txs ns) (.str x) = some (posN ns x) := by
  have ev : ∀ y : Str, PyData.eqv (toPy (.str y)) (toPy (.str x)) = decide (y = x) := fun y => by
    show PyData.eqv (.str y) (.str x) = _
    simp [PyData.eqv, Bool.beq_eq_decide_eq]
  cases e : ixOf (txs ns) (.str x) with
  | none =>
    have := List.findIdx?_eq_none_iff.mp e (.str x) (List.mem_map.mpr ⟨x, h, rfl⟩)
    rw [ev] at this
    simp at this
  | some i =>
    have hp : posN ns x = i := by unfold posN; rw [e]; rfl
    obtain ⟨hl, h1, h2⟩ := List.findIdx?_eq_some_iff_getElem.mp e
    rw [List.length_map] at hl
    rw [hp]
    refine ⟨hl, ?_, rfl⟩
    rw [List.getElem_map, ev, decide_eq_true_eq] at h1
    exact h1
def bitsOf (ns : List Str) (m : Nat) : List Str := ((List.range ns.length).filter fun k => decide (m / 2 ^ k % 2 = 1)).map fun k => ns.getD k Str.empty
end Fn
namespace Fn
open PySem PySem.Spec PyProof.Rows L2
theorem exm_of {K : PySem.W.Frag} {C : Addr} {cls : Value} {b : Bool} (h1 : PySem.W.subIn K (.ref C) (.type "BaseException") = some true) (h2 : PySem.W.isClsIn K C = true) (h3 : PySem.W.typeIn K (.ref C) = some (.type "type")) (h4 : PySem.W.subIn K cls (.ref C) = some b) : PySem.W.exmOne K cls (.ref C) = some b := by
  have e2 : ((PySem.W.clsIn K C).isSome && PySem.W.typeIn K (.ref C) == some (.type "type")) = true := by
    rw [show (PySem.W.clsIn K C).isSome = true from h2, h3] <;> rfl
  unfold PySem.W.exmOne PySem.W.kitCls
  rw [h1, if_pos (by rfl)]
  dsimp only
  rw [if_pos e2]
  exact h4
theorem kit_of_sub {K : PySem.W.Frag} {C D : Addr} {b : Bool} (h2 : PySem.W.isClsIn K C = true) (h3 : PySem.W.typeIn K (.ref C) = some (.type "type")) (h4 : PySem.W.subIn K (.ref D) (.ref C) = some b) (self : D = C → b = true) : PySem.W.kitOne K (.ref D) (.ref C) = some b := by
  have e2 : ((PySem.W.clsIn K C).isSome && PySem.W.typeIn K (.ref C) == some (.type "type")) = true := by
    rw [show (PySem.W.clsIn K C).isSome = true from h2, h3] <;> rfl
  unfold PySem.W.kitOne PySem.W.kitCls
  split
  · rename_i e
    have : D = C := by simpa using e
    rw [self this]
  · show (if ((PySem.W.clsIn K C).isSome && PySem.W.typeIn K (.ref C) == some (.type "type")) = true then PySem.W.subIn K (.ref D) (.ref C) else none) = some b
    rw [if_pos e2]
    exact h4
def rIsX (X : Cx) : List V → Hp → VK → Prop := fun xs H Q => ∃ (p : Addr × Obj) (D : Addr), p ∈ X.pn ∧ ExcC X.K D ∧ Zc (.ref D) none p.2 ∧ (∃ vs, p.2.data = .fields vs) ∧ rIsP X.K D p.1 xs H Q
theorem call_isX {X : Cx} : CallR X (.builtin "isinstance") (rIsX X) := fun pins s σ H xs us Q I r ⟨p, D, h1, h2, h3, h4, h5⟩ => call_isP h1 h2 h3 h4 pins s σ H xs us Q I r h5
def errI (rs : List Nat) (c' : Nat) (b : B) : Res B := match b with
  | .err c => if c ∈ rs then .ok (.dat (.bl (subE c c'))) else .bad
  | _ => .bad
def errV (rs : List Nat) (b : B) : Res B := match b with
  | .err c => if c ∈ rs then .ok (.dat (.bl true)) else .bad
  | _ => .bad
def noErrB : B → Bool
  | .err _ => false
  | _ => true
def noErrO : Option B → Bool
  | some b => noErrB b
  | none => true
def noErr (ρ : Env) : Bool := ρ.all noErrO
def Bt.ht (bt : Bt) : Bt := { bt with hot := true }
section
variable {X : Cx} {g : G} {cls : Nat → Value} {k : Nat} {tab : List En} {N : List Str} {sc : Scope} {bt : Bt} {a : Expr} {pos pos2 p p2 p3 : Pos} {fa : Env → Res B} {x y m : Str} {j : Nat}
theorem CS.rz (C : CS X g cls k tab N sc bt) (c : Nat) (h : bt.ex[c]? = some x) (hr : c ∈ bt.rs) (hg : dOk sc x = true) (hh : bt.hot = false := by rfl) :
    PS X (.Raise (some (.Call (.Name x p) [.Constant (.str m) j p2] [] pos)) none pos2) (tFS g fun ρ => .exc c ρ) := by
  obtain ⟨W, tk, hW⟩ := C.tk
  obtain ⟨D, hm, hf, hc, _⟩ := C.ct.ex.at_ c x h
  obtain ⟨D', hf', hc', eo⟩ := C.ct.ex.rs c hr
  obtain rfl : D' = D := Option.some.inj (hf'.symm.trans hf)
  unfold dOk at hg
  rw [Bool.and_eq_true, decide_eq_true_eq] at hg
  refine PS.imp (ps_raise (C.ct.calm hh) tk (pmk_own PySem.F.excBase_ValueError eo.xk hm eo.kp (raises_own eo.sb eo.ty) (C.ct.gl hg.1) (nmOk_ok hg.2).1)) fun E σ H ⟨F, ρ, s, p⟩ => ?_
  show W (.ref D') none σ H
  rw [← hc]
  exact hW c σ H (p σ F H s)
theorem err_at (C : CT X g cls k tab N sc bt) {v : V} {c : Nat} (r : ErrAt g v c) (hr : c ∈ bt.rs) : ∃ (q : Addr × Obj) (D : Addr), q ∈ X.pn ∧ v = .ref q.1 ∧ g.fa (1000 + c) = some D ∧ ErrOk X.K D ∧ Zc (.ref D) none q.2 ∧ ∃ vs, q.2.data = .fields vs := by
  obtain ⟨a, D, oe, h1, h2, h3, h4, h5⟩ := r
  obtain ⟨D', h6, _, h7⟩ := C.ex.rs c hr
  obtain rfl : D' = D := Option.some.inj (h6.symm.trans h3)
  exact ⟨(a, oe), D', C.ph _ h1, h2, h3, h7, h4, h5⟩
theorem CT.isE (C : CT X g cls k tab N sc bt) (c' : Nat) (ha : PE X a (tF g fa)) (h : bt.ex[c']? = some y) (hi : gOk sc bt "isinstance" = true) (hg : dOk sc y = true) (hn : nst a = true) :
    PE X (.Call (.Name "isinstance" p) [a, .Name y p2] [] pos) (tF g (one1 (errI bt.rs c') fa)) := by
  obtain ⟨D', hm, hf, _, hs1, hs2, hs3⟩ := C.ex.at_ c' y h
  have hl : c' < bt.ex.length := (List.getElem?_eq_some_iff.mp h).1
  unfold dOk at hg
  rw [Bool.and_eq_true, decide_eq_true_eq] at hg
  have h2 : PA X [a, .Name y p2] (tCons (tF g fa) (tCons (tC (.ref D')) tNil)) := pa_cons ha (pa_cons (pe_glob (v := .ref D') (C.gl hg.1) hm rfl (nmOk_ok hg.2).1) pa_nil) (star_cons hn)
  refine PE.imp (pe_callB call_isX (C.bl hi).1 (C.bl hi).2 PyProof.Rows.boot_isinstance h2 (by decide) (by decide) (star_cons hn) (by rfl)) fun σ H Q ⟨F, ρ, s, q⟩ => ?_
  unfold one1 at q
  show tF g fa σ H _
  refine run1 s (fun bx v F1 H1 e1 g1 r1 => ?_) (fun c e => ?_) (fun e => ?_)
  · rw [e1, Res.ok_bind] at q
    unfold errI at q
    split at q
    · rename_i c hb
      split at q
      · rename_i hr
        rw [hb] at r1
        obtain ⟨p, D, k1, rfl, k3, k4, k5, k6⟩ := err_at C r1 hr
        refine ⟨p, D, k1, k4.ec, k5, k6, .ref D', .ref D', subE c c', rfl, .own D', kit_of_sub hs2 hs3 (C.ex.sub c hr c' D D' hl k3 hf) (fun e => ?_), ?_⟩
        · subst e
          exact Option.some.inj ((C.ex.sub c hr c' D D hl k3 hf).symm.trans k4.sf)
        · exact (q.later g1).bl (s.grow g1).sm
      · exact q.elim
    · exact q.elim
  · rw [e, Res.exc_bind] at q
    exact q
  · rw [e] at q
    exact q
theorem CT.isEV (C : CT X g cls k tab N sc bt) (ha : PE X a (tF g fa)) (hi : gOk sc bt "isinstance" = true) (hg : gOk sc bt "ValueError" = true) (hn : nst a = true) :
    PE X (.Call (.Name "isinstance" p) [a, .Name "ValueError" p2] [] pos) (tF g (one1 (errV bt.rs) fa)) := by
  have h2 : PA X [a, .Name "ValueError" p2] (tCons (tF g fa) (tCons (tC (.ty "ValueError")) tNil)) := pa_cons ha (pa_cons (pe_bltn (v := .ty "ValueError") (C.bl hg).1 (C.bl hg).2 (by rfl) rfl (by decide) (by decide)) pa_nil) (star_cons hn)
  refine PE.imp (pe_callB call_isX (C.bl hi).1 (C.bl hi).2 PyProof.Rows.boot_isinstance h2 (by decide) (by decide) (star_cons hn) (by rfl)) fun σ H Q ⟨F, ρ, s, q⟩ => ?_
  unfold one1 at q
  show tF g fa σ H _
  refine run1 s (fun bx v F1 H1 e1 g1 r1 => ?_) (fun c e => ?_) (fun e => ?_)
  · rw [e1, Res.ok_bind] at q
    unfold errV at q
    split at q
    · rename_i c hb
      split at q
      · rename_i hr
        rw [hb] at r1
        obtain ⟨p, D, k1, rfl, k3, k4, k5, k6⟩ := err_at C r1 hr
        refine ⟨p, D, k1, k4.ec, k5, k6, .ty "ValueError", .type "ValueError", true, rfl, .ty _, ?_, (q.later g1).bl (s.grow g1).sm⟩
        unfold PySem.W.kitOne
        rw [if_neg (by simp)]
        show (if PySem.W.kitMeta "ValueError" = true then PySem.W.subIn X.K (.ref D) (.type "ValueError") else none) = some true
        rw [if_pos (by decide +kernel)]
        exact k4.ve
      · exact q.elim
    · exact q.elim
  · rw [e, Res.exc_bind] at q
    exact q
  · rw [e] at q
    exact q
theorem St.withH {F H : Hp} {σ : L2.St} {ρ : Env} {E' : Nat → L2.St → Hp → Prop} {o : Option (Addr × Obj)} (s : St g F H σ ρ) (h : g.h = none) : St { g with E := E', h := o } F H σ ρ :=
  ⟨s.gr, s.len, fun i b e => by
    obtain ⟨v, h1, h2⟩ := s.at_ i b e
    refine ⟨v, h1, ?_⟩
    cases b with
    | err c => obtain ⟨a, D, oe, z, _⟩ := h2; rw [h] at z; cases z
    | _ => exact h2, s.apart⟩
theorem St.noH {F H : Hp} {σ : L2.St} {ρ : Env} {E' : Nat → L2.St → Hp → Prop} {o : Option (Addr × Obj)} (s : St { g with E := E', h := o } F H σ ρ) (h : noErr ρ = true) : St g F H σ ρ :=
  ⟨s.gr, s.len, fun i b e => by
    obtain ⟨v, h1, h2⟩ := s.at_ i b e
    refine ⟨v, h1, ?_⟩
    cases b with
    | err c =>
      have := List.all_eq_true.mp h _ (List.mem_of_getElem? e)
      cases this
    | _ => exact h2, s.apart⟩
theorem RB.noH {F H F' H' : Hp} {v : V} {b : B} {E' : Nat → L2.St → Hp → Prop} {o : Option (Addr × Obj)} (r : RB { g with E := E', h := o } F H F' H' v b) (h : noErrB b = true) : RB g F H F' H' v b := by
  cases b with
  | err c => cases h
  | _ => exact r
theorem CS.tr (C : CS X g cls k tab N sc bt) {pn : List (Addr × Obj)} {xe : Value → Shared → Prop} {W : WX} (tk : Takes (X.tr pn xe) W) (po : PassesOwn (model X.prog X.w) X.A X.env xe) (hh : bt.hot = false) : CS (X.tr pn xe) { g with E := fun c σ H => W (cls c) none σ H, h := none } cls k tab N sc bt :=
  ⟨⟨C.ct.hK, C.ct.calm, C.ct.hN, C.ct.nd, C.ct.hS, C.ct.room, ⟨fun j en h => C.ct.tab.at_ j en h⟩, ⟨WE W, fun σ => passAt tk σ, fun _ _ _ h => h⟩, C.ct.bi, C.ct.hd, fun _ => rfl, (fun p h => by cases h), (fun z => by rw [hh] at z; cases z), C.ct.ex, ⟨fun j en h => C.ct.hs.at_ j en h⟩⟩,
    po, C.fn, ⟨W, tk, fun _ _ _ h => h⟩, C.stk, C.frm⟩
theorem CS.suite (C : CS X g cls k tab N sc bt) {a : Addr} {oe : Obj} {pn : List (Addr × Obj)} : CS (X.suite a ((a, oe) :: pn)) { g with E := fun _ _ _ => False, h := some (a, oe) } cls k tab N sc bt.ht :=
  ⟨⟨C.ct.hK, (fun z => by cases z), C.ct.hN, C.ct.nd, C.ct.hS, ⟨C.ct.room.dp, C.ct.room.un⟩, ⟨fun j en h => C.ct.tab.at_ j en h⟩, ⟨fun _ _ _ _ => False, fun σ pins H s e s' I c => pass0L pins σ H s e s' I c, fun _ _ _ h => h⟩, ⟨C.ct.bi.bi, C.ct.bi.cs⟩, (fun z => by cases z), (fun z => by cases z), (fun p h => by cases h; exact List.mem_cons_self), (fun _ => ⟨_, rfl⟩), ⟨C.ct.ex.at_, C.ct.ex.rs, C.ct.ex.sub⟩, ⟨fun j en h => C.ct.hs.at_ j en h⟩⟩,
    PassesOwn.never, C.fn, ⟨_, takes_none5, fun _ _ _ h => h⟩, C.stk, C.frm⟩
def leaveH (w : Env → Env) : Out → Out
  | .nx ρ => if noErr (w ρ) = true then .nx (w ρ) else .bad
  | .bk ρ => if noErr (w ρ) = true then .bk (w ρ) else .bad
  | .ct ρ => if noErr (w ρ) = true then .ct (w ρ) else .bad
  | .rt b => if noErrB b = true then .rt b else .bad
  | _ => .bad
def hdl (o : Option Nat) (c : Nat) (fh : Env → Out) (ρ : Env) : Out := match o with
  | none => leaveH id (fh ρ)
  | some i => leaveH (fun ρ => ρ.set i none) (fh (ρ.set i (some (.err c))))
def tryK (rs : List Nat) (c' : Nat) (o : Option Nat) (fh : Env → Out) (r : Out) : Out := match r with
  | .exc c ρ => if c ∈ rs then (if subE c c' = true then hdl o c fh ρ else .exc c ρ) else .bad
  | r => r
def tryS (rs : List Nat) (c' : Nat) (o : Option Nat) (fb fh : Env → Out) : Env → Out := fun ρ => tryK rs c' o fh (fb ρ)
section
variable {fb fh : Env → Out} {body suite : List Stmt} {b₀ : Stmt} {n : Str} {np pos' : Pos}
theorem CS.tra (C : CS X g cls k tab N sc bt) (c' i : Nat) (h : bt.ex[c']? = some x) (hg : dOk sc x = true) (hi : lOk N sc i n = true)
    (hb : ∀ {X' : Cx} {g' : G}, CS X' g' cls k tab N sc bt → PSs X' body (tFS g' fb)) (hs : ∀ {X' : Cx} {g' : G}, CS X' g' cls k tab N sc bt.ht → PSs X' (b₀ :: suite) (tFS g' fh)) (hh : bt.hot = false := by rfl) :
    PS X (.Try body [.ExceptHandler (some (.Name x np)) (some n) (b₀ :: suite) pos'] [] [] pos) (tFS g (tryS bt.rs c' (some i) fb fh)) := by
  obtain ⟨W, tk, hW⟩ := C.tk
  obtain ⟨D', hm, hf, hcl, hs1, hs2, hs3⟩ := C.ct.ex.at_ c' x h
  have hl : c' < bt.ex.length := (List.getElem?_eq_some_iff.mp h).1
  unfold dOk at hg
  rw [Bool.and_eq_true, decide_eq_true_eq] at hg
  have hgn := C.ct.nh hh
  refine PS.imp (L2.ps_try_as (i := i) (tb := fun W => tFS { g with E := fun c σ H => W (cls c) none σ H, h := none } fb) (ts := fun a cl d D σ H => ∀ oe, Zc cl d oe → (∃ vs, oe.data = .fields vs) → tFS { g with E := fun _ _ _ => False, h := some (a, oe) } fh D σ H) (Wout := W) C.stk C.frm C.ct.nd' (C.ct.lo hi).1 (C.ct.lo hi).2 ⟨C.ct.gl hg.1, (nmOk_ok hg.2).1, .inl hm⟩ tk
    (fun W pn xe tk' po => hb (C.tr tk' po hh)) (fun a oe cl d pn hz hfd => ⟨fun pins s σ H D I w => (hs (C.suite (oe := oe))).run pins s σ H D I (w oe hz hfd)⟩)) fun E σ H ⟨F, ρ, s, p⟩ => ⟨F, ρ, s.withH hgn, ?_⟩
  unfold tryS at p
  cases e : fb ρ with
  | nx ρ' => rw [e] at p; exact fun σ' F' H' s' => p σ' F' H' (by have := s'.withH (g := { g with E := _, h := none }) (E' := g.E) (o := g.h) rfl; exact this)
  | bk ρ' => rw [e] at p; exact fun σ' F' H' s' => p σ' F' H' (by have := s'.withH (g := { g with E := _, h := none }) (E' := g.E) (o := g.h) rfl; exact this)
  | ct ρ' => rw [e] at p; exact fun σ' F' H' s' => p σ' F' H' (by have := s'.withH (g := { g with E := _, h := none }) (E' := g.E) (o := g.h) rfl; exact this)
  | rt b =>
    rw [e] at p
    exact fun v F' H' g1 r1 => p v F' H' g1 (by
      cases b with
      | err c => obtain ⟨_, _, _, z, _⟩ := r1; cases z
      | _ => exact r1)
  | bad => rw [e] at p; exact p
  | exc c ρ' =>
    rw [e] at p
    unfold tryK at p
    dsimp only at p
    split at p
    · rename_i hr
      obtain ⟨D, f1, f2, f3⟩ := C.ct.ex.rs c hr
      intro σ' F' H' s'
      have sg : St g F' H' σ' ρ' := by have := s'.withH (g := { g with E := _, h := none }) (E' := g.E) (o := g.h) rfl; exact this
      refine ⟨subE c c', ?_, fun hy a ha oe hz hfd => ?_, fun hno => ?_⟩
      · rw [f2]
        exact exm_of hs1 hs2 hs3 (C.ct.ex.sub c hr c' D D' hl f1 hf)
      · rw [if_pos hy] at p
        rw [f2] at hz
        have sh : St { g with E := fun _ _ _ => False, h := some (a, oe) } F' H' σ' ρ' := sg.withH hgn
        have s3 := sh.put (b := .err c) (v := .ref a) (Grow.refl sh.sub) ⟨a, D, oe, rfl, rfl, f1, by
          cases hd : oe.dict with
          | none => exact ⟨hz.1, hd⟩
          | some z => exact ⟨hz.1, hz.2⟩, hfd⟩ i (fun m z => by cases z)
        refine ⟨F', _, s3, ?_⟩
        unfold hdl at p
        dsimp only at p
        cases eh : fh (ρ'.set i (some (.err c))) with
        | nx ρ2 => rw [eh] at p; unfold leaveH at p; dsimp only at p; split at p; · rename_i z; exact fun σ2 F2 H2 s2 => p (σ2.set i none) F2 H2 ((s2.drop i).noH z)
                   · exact p.elim
        | bk ρ2 => rw [eh] at p; unfold leaveH at p; dsimp only at p; split at p; · rename_i z; exact fun σ2 F2 H2 s2 => p (σ2.set i none) F2 H2 ((s2.drop i).noH z)
                   · exact p.elim
        | ct ρ2 => rw [eh] at p; unfold leaveH at p; dsimp only at p; split at p; · rename_i z; exact fun σ2 F2 H2 s2 => p (σ2.set i none) F2 H2 ((s2.drop i).noH z)
                   · exact p.elim
        | rt b => rw [eh] at p; unfold leaveH at p; dsimp only at p; split at p; · rename_i z; exact fun v F2 H2 g2 r2 => p v F2 H2 g2 (RB.noH (g := g) r2 z)
                  · exact p.elim
        | exc c2 ρ2 => rw [eh] at p; exact p.elim
        | bad => rw [eh] at p; exact p.elim
      · rw [if_neg (by rw [hno]; exact Bool.false_ne_true)] at p
        exact hW c σ' H' (p σ' F' H' sg)
    · exact p.elim
end
end
end Fn
namespace Fn
open PySem PySem.Spec PyProof.Rows L2
section
variable {X : Cx} {g : G} {cls : Nat → Value} {k : Nat} {tab : List En} {N : List Str} {sc : Scope} {bt : Bt} {a b e : Expr} {fa fb : Env → Res B} {p1 p2 p3 p4 : Pos}
def boolsOf : List D → Option (List Bool)
  | [] => some []
  | .bl b :: ds => (boolsOf ds).map (b :: ·)
  | _ => none
def countB (a b : B) : Res B := match seqL a, b with
  | some ds, .dat (.bl k) => (match boolsOf ds with
    | some bs => .ok (.dat (.int (bs.countP (· == k) : Nat)))
    | none => .bad)
  | _, _ => .bad
def countE (fa fb : Env → Res B) : Env → Res B := fun ρ => (fa ρ).bind fun x => match seqL (rd x) with
  | some _ => (fb ρ).bind fun y => countB (rd x) (rd y)
  | none => .bad
def countK (ra rb : Res B) : Res B := ra.bind fun x => match seqL (rd x) with
  | some _ => rb.bind fun y => countB (rd x) (rd y)
  | none => .bad
theorem e_count {ρ : Env} : countE fa fb ρ = countK (fa ρ) (fb ρ) := (rfl)
end
section
variable {ρ : Env} {f h fb fh : Env → Out} {fa : Env → Res B} {rs : List Nat} {c c' i : Nat} {o : Option Nat} {b : B} {w : Env → Env} {d : D} {m : M} {ns : List Int} {x : Option B}
theorem e_try : tryS rs c' o fb fh ρ = tryK rs c' o fh (fb ρ) := (rfl)
theorem tryK_nx : tryK rs c' o fh (.nx ρ) = .nx ρ := (rfl)
theorem tryK_rt : tryK rs c' o fh (.rt b) = .rt b := (rfl)
theorem tryK_bk : tryK rs c' o fh (.bk ρ) = .bk ρ := (rfl)
theorem tryK_ct : tryK rs c' o fh (.ct ρ) = .ct ρ := (rfl)
theorem tryK_exc (h1 : c ∈ rs) (h2 : subE c c' = true) : tryK rs c' o fh (.exc c ρ) = hdl o c fh ρ := by
  show (if c ∈ rs then (if subE c c' = true then hdl o c fh ρ else .exc c ρ) else .bad) = _
  rw [if_pos h1, if_pos h2]
theorem tryK_pass (h1 : c ∈ rs) (h2 : subE c c' = false) : tryK rs c' o fh (.exc c ρ) = .exc c ρ := by
  show (if c ∈ rs then (if subE c c' = true then hdl o c fh ρ else .exc c ρ) else .bad) = _
  rw [if_pos h1, if_neg (by rw [h2]; exact Bool.false_ne_true)]
def leaveN : Out → Out := leaveH id
def leaveS (i : Nat) : Out → Out := leaveH fun ρ => ρ.set i none
theorem hdl_none : hdl none c fh ρ = leaveN (fh ρ) := (rfl)
theorem hdl_some : hdl (some i) c fh ρ = leaveS i (fh (ρ.set i (some (.err c)))) := (rfl)
theorem leaveN_nx (h : noErr ρ = true) : leaveN (.nx ρ) = .nx ρ := if_pos h
theorem leaveN_ct (h : noErr ρ = true) : leaveN (.ct ρ) = .ct ρ := if_pos h
theorem leaveN_bk (h : noErr ρ = true) : leaveN (.bk ρ) = .bk ρ := if_pos h
theorem leaveN_rt (h : noErrB b = true) : leaveN (.rt b) = .rt b := if_pos h
theorem leaveS_nx (h : noErr (ρ.set i none) = true) : leaveS i (.nx ρ) = .nx (ρ.set i none) := if_pos h
theorem leaveS_ct (h : noErr (ρ.set i none) = true) : leaveS i (.ct ρ) = .ct (ρ.set i none) := if_pos h
theorem leaveS_bk (h : noErr (ρ.set i none) = true) : leaveS i (.bk ρ) = .bk (ρ.set i none) := if_pos h
theorem leaveS_rt (h : noErrB b = true) : leaveS i (.rt b) = .rt b := if_pos h
theorem noErr_nil : noErr [] = true := (rfl)
theorem noErr_cons : noErr (x :: ρ) = (noErrO x && noErr ρ) := (rfl)
theorem noErrO_none : noErrO none = true := (rfl)
theorem noErrO_dat : noErrO (some (.dat d)) = true := (rfl)
theorem noErrO_own : noErrO (some (.own m)) = true := (rfl)
theorem noErrO_bor : noErrO (some (.bor m)) = true := (rfl)
theorem noErrO_scr : noErrO (some (.scr ns)) = true := (rfl)
theorem noErrB_dat : noErrB (.dat d) = true := (rfl)
theorem noErrB_own : noErrB (.own m) = true := (rfl)
theorem errI_t (h1 : c ∈ rs) (h2 : subE c c' = true) : errI rs c' (.err c) = .ok (.dat (.bl true)) := by
  show (if c ∈ rs then _ else _) = _
  rw [if_pos h1, h2]
theorem errI_f (h1 : c ∈ rs) (h2 : subE c c' = false) : errI rs c' (.err c) = .ok (.dat (.bl false)) := by
  show (if c ∈ rs then _ else _) = _
  rw [if_pos h1, h2]
theorem errV_t (h1 : c ∈ rs) : errV rs (.err c) = .ok (.dat (.bl true)) := if_pos h1
def rzS (c : Nat) : Env → Out := fun ρ => .exc c ρ
theorem e_rz : rzS c ρ = .exc c ρ := (rfl)
theorem retB_err : retB (.err c) = .ok (.err c) := (rfl)
end
end Fn
namespace Fn
open PySem PySem.Spec PyProof.Rows L2
def frD (q : Rat) : D := .tup [.int q.num, .int (q.den : Int)]
theorem fr_0 {q : Rat} : idxB (.dat (frD q)) (.dat (.int 0)) = .ok (.dat (.int q.num)) := idx_tup rfl
theorem fr_1 {q : Rat} : idxB (.dat (frD q)) (.dat (.int 1)) = .ok (.dat (.int (q.den : Int))) := idx_tup rfl
structure FrB (q : Rat) (n : Nat) : Prop where
  nn : q.num.natAbs < 2 ^ n
  dd : q.den < 2 ^ n
theorem FrB.up {q : Rat} {n m : Nat} (a : FrB q n) (h : n ≤ m) : FrB q m := ⟨Nat.lt_of_lt_of_le a.nn (Nat.pow_le_pow_right (by decide) h), Nat.lt_of_lt_of_le a.dd (Nat.pow_le_pow_right (by decide) h)⟩
theorem FrB.zn {q : Rat} {n : Nat} (a : FrB q n) : ISz q.num n := ⟨a.nn⟩
theorem FrB.zd {q : Rat} {n : Nat} (a : FrB q n) : ISz (q.den : Int) n := ⟨by rw [Int.natAbs_natCast]; exact a.dd⟩
theorem divInt_num_le (a b : Int) : (Rat.divInt a b).num.natAbs ≤ a.natAbs := by
  rw [Rat.num_divInt]
  refine Nat.le_trans (Int.natAbs_ediv_le_natAbs _ _) ?_
  rw [Int.natAbs_mul]
  have : b.sign.natAbs ≤ 1 := by rw [Int.natAbs_sign]; split <;> omega
  exact Nat.le_trans (Nat.mul_le_mul_right _ this) (by omega)
theorem divInt_den_le {a b : Int} (h : b ≠ 0) : (Rat.divInt a b).den ≤ b.natAbs := by
  rw [Rat.den_divInt, if_neg h]
  exact Nat.div_le_self _ _
theorem divInt_frB {a b : Int} {n : Nat} (h : b ≠ 0) (h1 : a.natAbs < 2 ^ n) (h2 : b.natAbs < 2 ^ n) : FrB (Rat.divInt a b) n := ⟨Nat.lt_of_le_of_lt (divInt_num_le a b) h1, Nat.lt_of_le_of_lt (divInt_den_le h) h2⟩
theorem den_ne {q : Rat} : (q.den : Int) ≠ 0 := by have := q.den_pos; omega
theorem mul_den_ne {p q : Rat} : (p.den : Int) * (q.den : Int) ≠ 0 := Int.mul_ne_zero den_ne den_ne
theorem fr_add (p q : Rat) : Rat.divInt (p.num * q.den + q.num * p.den) (p.den * q.den) = p + q := by
  rw [← Rat.divInt_add_divInt _ _ den_ne den_ne, Rat.num_divInt_den, Rat.num_divInt_den]
theorem fr_sub (p q : Rat) : Rat.divInt (p.num * q.den - q.num * p.den) (p.den * q.den) = p - q := by
  rw [← Rat.divInt_sub_divInt _ _ den_ne den_ne, Rat.num_divInt_den, Rat.num_divInt_den]
theorem fr_mul (p q : Rat) : Rat.divInt (p.num * q.num) (p.den * q.den) = p * q := by
  rw [← Rat.divInt_mul_divInt, Rat.num_divInt_den, Rat.num_divInt_den]
theorem fr_div (p q : Rat) : Rat.divInt (p.num * q.den) (p.den * q.num) = p / q := by
  rw [Rat.div_def, Rat.inv_def, ← Rat.divInt_mul_divInt, Rat.num_divInt_den]
theorem pow_mul_lt {a b n m : Nat} (h1 : a < 2 ^ n) (h2 : b < 2 ^ m) : a * b < 2 ^ (n + m) := by
  rw [Nat.pow_add]
  rcases Nat.eq_zero_or_pos b with z | z
  · rw [z, Nat.mul_zero]; exact Nat.mul_pos (Nat.two_pow_pos _) (Nat.two_pow_pos _)
  · exact Nat.lt_of_lt_of_le ((Nat.mul_lt_mul_right z).mpr h1) (Nat.mul_le_mul_left _ (Nat.le_of_lt h2))
theorem FrB.add {p q : Rat} {n m : Nat} (a : FrB p n) (b : FrB q m) : FrB (p + q) (n + m + 1) := by
  rw [← fr_add]
  refine divInt_frB mul_den_ne ?_ ?_
  · have h1 := pow_mul_lt a.nn b.dd
    have h2 := pow_mul_lt b.nn a.dd
    rw [Nat.add_comm m n] at h2
    have h3 := Int.natAbs_add_le (p.num * q.den) (q.num * p.den)
    rw [Int.natAbs_mul, Int.natAbs_mul, Int.natAbs_natCast, Int.natAbs_natCast] at h3
    rw [Nat.pow_succ]; omega
  · rw [Int.natAbs_mul, Int.natAbs_natCast, Int.natAbs_natCast]
    have := pow_mul_lt a.dd b.dd
    rw [Nat.pow_succ]; omega
theorem FrB.sub {p q : Rat} {n m : Nat} (a : FrB p n) (b : FrB q m) : FrB (p - q) (n + m + 1) := by
  rw [← fr_sub]
  refine divInt_frB mul_den_ne ?_ ?_
  · have h1 := pow_mul_lt a.nn b.dd
    have h2 := pow_mul_lt b.nn a.dd
    rw [Nat.add_comm m n] at h2
    have h3 := Int.natAbs_sub_le (p.num * q.den) (q.num * p.den)
    rw [Int.natAbs_mul, Int.natAbs_mul, Int.natAbs_natCast, Int.natAbs_natCast] at h3
    rw [Nat.pow_succ]; omega
  · rw [Int.natAbs_mul, Int.natAbs_natCast, Int.natAbs_natCast]
    have := pow_mul_lt a.dd b.dd
    rw [Nat.pow_succ]; omega
theorem FrB.mul {p q : Rat} {n m : Nat} (a : FrB p n) (b : FrB q m) : FrB (p * q) (n + m) := by
  rw [← fr_mul]
  refine divInt_frB mul_den_ne ?_ ?_
  · rw [Int.natAbs_mul]; exact pow_mul_lt a.nn b.nn
  · rw [Int.natAbs_mul, Int.natAbs_natCast, Int.natAbs_natCast]; exact pow_mul_lt a.dd b.dd
theorem FrB.div {p q : Rat} {n m : Nat} (a : FrB p n) (b : FrB q m) (h : q ≠ 0) : FrB (p / q) (n + m) := by
  rw [← fr_div]
  have hn : q.num ≠ 0 := fun z => h (Rat.num_eq_zero.mp z)
  refine divInt_frB (Int.mul_ne_zero den_ne hn) ?_ ?_
  · rw [Int.natAbs_mul, Int.natAbs_natCast]; exact pow_mul_lt a.nn b.dd
  · rw [Int.natAbs_mul, Int.natAbs_natCast]; exact pow_mul_lt a.dd b.nn
theorem fr_low {t b : Int} (hb : b ≠ 0) : t.fdiv (if b < 0 then -(Int.gcd t b : Int) else (Int.gcd t b : Int)) = (Rat.divInt t b).num ∧ b.fdiv (if b < 0 then -(Int.gcd t b : Int) else (Int.gcd t b : Int)) = ((Rat.divInt t b).den : Int) := by
  have g0 : 0 < Int.gcd t b := Int.gcd_pos_of_ne_zero_right t hb
  rw [Rat.num_divInt, Rat.den_divInt, if_neg hb, Int.gcd_comm b t]
  obtain ⟨k, hk⟩ : (Int.gcd t b : Int) ∣ t := Int.gcd_dvd_left ..
  obtain ⟨l, hl⟩ : (Int.gcd t b : Int) ∣ b := Int.gcd_dvd_right ..
  generalize hg : Int.gcd t b = g at *
  have gi : (g : Int) ≠ 0 := by omega
  by_cases c : b < 0
  · rw [if_pos c, Int.sign_eq_neg_one_of_neg c]
    have l0 : l < 0 := by
      rcases Int.lt_or_le l 0 with z | z
      · exact z
      · have := Int.mul_nonneg (Int.natCast_nonneg g) z; omega
    refine ⟨?_, ?_⟩
    · rw [hk, show (g : Int) * k = (-(g : Int)) * (-k) by rw [Int.neg_mul_neg], Int.mul_fdiv_cancel_left _ (by omega), Int.neg_mul_neg, show (-1 : Int) * (↑g * k) = ↑g * (-k) by rw [Int.neg_one_mul, Int.mul_neg], Int.mul_ediv_cancel_left _ gi]
    · have e : b.natAbs = g * l.natAbs := by rw [hl, Int.natAbs_mul, Int.natAbs_natCast]
      rw [e, Nat.mul_div_cancel_left _ g0, hl, show (g : Int) * l = (-(g : Int)) * (-l) by rw [Int.neg_mul_neg], Int.mul_fdiv_cancel_left _ (by omega)]
      omega
  · rw [if_neg c, Int.sign_eq_one_of_pos (by omega)]
    have l0 : 0 < l := by
      rcases Int.lt_or_le 0 l with z | z
      · exact z
      · have := Int.mul_nonneg (Int.natCast_nonneg g) (show 0 ≤ -l by omega)
        rw [Int.mul_neg] at this
        omega
    refine ⟨?_, ?_⟩
    · rw [hk, Int.mul_fdiv_cancel_left _ gi, Int.one_mul, Int.mul_ediv_cancel_left _ gi]
    · have e : b.natAbs = g * l.natAbs := by rw [hl, Int.natAbs_mul, Int.natAbs_natCast]
      rw [e, Nat.mul_div_cancel_left _ g0, hl, Int.mul_fdiv_cancel_left _ gi]
      omega
theorem div_f {t j : Int} (h : j ≠ 0) (hz : j.natAbs < 2 ^ 8000) : divB (.dat (.int t)) (.dat (.int j)) = .ok (.dat (.int (t.fdiv j))) := by
  have hl : j.natAbs.log2 < 8000 := (Nat.log2_lt (by omega)).mpr hz
  unfold divB int2
  dsimp only
  rw [if_pos (by rw [Bool.and_eq_true, decide_eq_true_eq, decide_eq_true_eq]; exact ⟨h, by omega⟩)]
theorem gcd_small {t b : Int} (hb : b ≠ 0) (hz : b.natAbs < 2 ^ 8000) : (if b < 0 then -(Int.gcd t b : Int) else (Int.gcd t b : Int)) ≠ 0 ∧ (if b < 0 then -(Int.gcd t b : Int) else (Int.gcd t b : Int)).natAbs < 2 ^ 8000 := by
  have g0 : 0 < Int.gcd t b := Int.gcd_pos_of_ne_zero_right t hb
  have g1 : Int.gcd t b ≤ b.natAbs := Nat.le_of_dvd (by omega) (Nat.gcd_dvd_right _ _)
  split
  · rw [Int.natAbs_neg, Int.natAbs_natCast]; exact ⟨by omega, Nat.lt_of_le_of_lt g1 hz⟩
  · rw [Int.natAbs_natCast]; exact ⟨by omega, Nat.lt_of_le_of_lt g1 hz⟩
end Fn
namespace Fn
open PySem PySem.Spec PyProof.Rows L2
def pB (cut : List Str) (p : Plc) : Int := if p.n ∈ cut then p.c else p.a
def pL (cut : List Str) (p : Plc) : Int := if p.n ∈ cut then -p.d else p.b
def tieB (cut : List Str) (t : Tie) : Int := if t.1.1 ∈ cut ∧ t.1.2 ∉ cut then t.2 else 0
def lnB (cut : List Str) (ps : List Plc) (ts : List Tie) : Int := (ps.map (pB cut)).sum + (ts.map (tieB cut)).sum
def lnL (cut : List Str) (ps : List Plc) : Int := (ps.map (pL cut)).sum
end Fn
namespace Fn
open PySem PySem.Spec PyProof.Rows L2
theorem drop_any {b : B} {ρ : Env} : dropS b ρ = .nx ρ := (rfl)
theorem ne_self_ {a : D} {n : Nat} (h : Shp a n) (hn : n ≤ 64) : neB (.dat a) (.dat a) = .ok (.dat (.bl false)) := by
  rw [ne_shp h h hn hn, PySem.SeqAt.eqv_refl _ h.lay]
  rfl
mutual
def pur : D → Bool
  | .non => true
  | .int _ => true
  | .str _ => true
  | .tup ds => purs ds
  | .lst ds => purs ds
  | _ => false
def purs : List D → Bool
  | [] => true
  | d :: ds => pur d && purs ds
end
mutual
theorem eqv_pur : ∀ {a b : D}, pur a = true → pur b = true → (PyData.eqv (toPy a) (toPy b) = true ↔ a = b)
  | .non, b, _, hb => by cases b <;> simp_all [pur, toPy, PyData.eqv]
  | .int i, b, _, hb => by cases b <;> simp_all [pur, toPy, PyData.eqv]
  | .str x, b, _, hb => by cases b <;> simp_all [pur, toPy, PyData.eqv]
  | .tup ds, b, ha, hb => by
    cases b with
    | tup es =>
      have := eqvs_pur (as := ds) (bs := es) (by simpa [pur] using ha) (by simpa [pur] using hb)
      simp only [toPy, PyData.eqv, D.tup.injEq]
      exact this
    | _ => simp_all [pur, toPy, PyData.eqv]
  | .lst ds, b, ha, hb => by
    cases b with
    | lst es =>
      have := eqvs_pur (as := ds) (bs := es) (by simpa [pur] using ha) (by simpa [pur] using hb)
      simp only [toPy, PyData.eqv, D.lst.injEq]
      exact this
    | _ => simp_all [pur, toPy, PyData.eqv]
theorem eqvs_pur : ∀ {as bs : List D}, purs as = true → purs bs = true → (PyData.eqvAll (toPys as) (toPys bs) = true ↔ as = bs)
  | [], [], _, _ => by simp [toPys, PyData.eqvAll]
  | [], b :: bs, _, _ => by simp [toPys, PyData.eqvAll]
  | a :: as, [], _, _ => by simp [toPys, PyData.eqvAll]
  | a :: as, b :: bs, ha, hb => by
    simp only [purs, Bool.and_eq_true] at ha hb
    have h1 := eqv_pur ha.1 hb.1
    have h2 := eqvs_pur ha.2 hb.2
    simp only [toPys, PyData.eqvAll, Bool.and_eq_true, List.cons.injEq, h1, h2]
end
theorem shp_fr (q : Rat) : Shp (frD q) 1 := shp_tup (all_cons_ (shp_int _) (all_cons_ (shp_int _) all_nil_))
theorem divInt_nn {a b : Int} (h : 0 ≤ a) (hb : 0 < b) : 0 ≤ Rat.divInt a b := Rat.divInt_nonneg h (by omega)
theorem divInt_le {a b t : Int} (h : a ≤ t * b) (hb : 0 < b) : Rat.divInt a b ≤ (t : Rat) := by
  have hb' : (0 : Rat) < (b : Rat) := Rat.intCast_lt_intCast.mpr hb
  refine Rat.le_of_mul_le_mul_right ?_ hb'
  rw [Rat.divInt_eq_div, Rat.div_mul_cancel (Rat.ne_of_gt hb'), ← Rat.intCast_mul]
  exact Rat.intCast_le_intCast.mpr h
end Fn
namespace Fn
open PySem PySem.Spec PyProof.Rows L2
end Fn
namespace Fn
open PySem PySem.Spec PyProof.Rows L2
def rIsXT (X : Cx) : List V → Hp → VK → Prop := fun xs H Q => ∃ (p : Addr × Obj) (D : Addr), p ∈ X.pn ∧ ExcC X.K D ∧ Zc (.ref D) none p.2 ∧ (∃ vs, p.2.data = .fields vs) ∧ rIsPT X.K D p.1 xs H Q
theorem call_isXT {X : Cx} : CallR X (.builtin "isinstance") (rIsXT X) := fun pins s σ H xs us Q I r ⟨p, D, h1, h2, h3, h4, h5⟩ => call_isPT h1 h2 h3 h4 pins s σ H xs us Q I r h5
def errT (rs cs : List Nat) (b : B) : Res B := match b with
  | .err c => if c ∈ rs then .ok (.dat (.bl (cs.any (subE c)))) else .bad
  | _ => .bad
def exA (sc : Scope) (bt : Bt) : List Expr → List Nat → Bool
  | [], [] => true
  | .Name y _ :: es, c :: cs => decide (bt.ex[c]? = some y) && dOk sc y && exA sc bt es cs
  | _, _ => false
section
variable {X : Cx} {g : G} {cls : Nat → Value} {k : Nat} {tab : List En} {N : List Str} {sc : Scope} {bt : Bt} {a : Expr} {pos pos2 p p2 p3 : Pos} {fa : Env → Res B} {x y m : Str} {j : Nat}
theorem CT.exA (C : CT X g cls k tab N sc bt) : ∀ {es : List Expr} {cs : List Nat}, Fn.exA sc bt es cs = true → ∃ (vs : List V) (us : List Value), PA X es (fun _ H Q => Q vs H) ∧ Paired ClsV vs us ∧ vs.length = es.length ∧
    ∀ c ∈ bt.rs, ∀ D, g.fa (1000 + c) = some D → PySem.W.kitAny X.K (.ref D) us = some (cs.any (subE c))
  | [], [], _ => ⟨[], [], ⟨fun p pins s σ H Q I w => pa_nil.run p pins s σ H Q I w⟩, .nil, rfl, fun _ _ _ _ => rfl⟩
  | .Name y q :: es, c' :: cs, h => by
    unfold Fn.exA at h
    rw [Bool.and_eq_true, Bool.and_eq_true, decide_eq_true_eq] at h
    obtain ⟨⟨h1, h2⟩, h3⟩ := h
    obtain ⟨vs, us, k1, k2, k3, k4⟩ := C.exA h3
    obtain ⟨D', hm, hf, _, hs1, hs2, hs3⟩ := C.ex.at_ c' y h1
    have hl : c' < bt.ex.length := (List.getElem?_eq_some_iff.mp h1).1
    unfold dOk at h2
    rw [Bool.and_eq_true, decide_eq_true_eq] at h2
    refine ⟨.ref D' :: vs, .ref D' :: us, PA.imp (pa_cons (pe_glob (v := .ref D') (C.gl h2.1) hm rfl (nmOk_ok h2.2).1) k1) fun _ _ _ w => w, .cons (.own D') k2, by rw [List.length_cons, k3]; rfl, fun c hc D hD => ?_⟩
    have e1 := C.ex.sub c hc c' D D' hl hD hf
    have e2 : PySem.W.kitOne X.K (.ref D) (.ref D') = some (subE c c') := kit_of_sub hs2 hs3 e1 fun e => by
      subst e
      obtain ⟨D2, f1, _, f3⟩ := C.ex.rs c hc
      obtain rfl : D2 = D := Option.some.inj (f1.symm.trans hD)
      exact Option.some.inj (e1.symm.trans f3.sf)
    show (match PySem.W.kitOne X.K (.ref D) (.ref D') with | some true => some true | some false => PySem.W.kitAny X.K (.ref D) us | none => none) = _
    rw [e2, List.any_cons]
    cases subE c c' with
    | true => rfl
    | false => exact k4 c hc D hD
  | [], _ :: _, h => by cases h
  | .Name _ _ :: _, [], h => by cases h
theorem CT.isET (C : CT X g cls k tab N sc bt) (cs : List Nat) {es : List Expr} {kk : Nat} (ha : PE X a (tF g fa)) (h : Fn.exA sc bt es cs = true) (hz : decide (es.length ≤ 1000) = true) (hi : gOk sc bt "isinstance" = true) (hn : nst a = true) :
    PE X (.Call (.Name "isinstance" p) [a, .Tuple es kk p2] [] pos) (tF g (one1 (errT bt.rs cs) fa)) := by
  obtain ⟨vs, us, k1, k2, k3, k4⟩ := C.exA h
  have h2 : PA X [a, .Tuple es kk p2] (tCons (tF g fa) (tCons (tTup fun _ H Q => Q vs H) tNil)) := pa_cons ha (pa_cons (pe_tup k1) pa_nil) (star_cons hn)
  refine PE.imp (pe_callB call_isXT (C.bl hi).1 (C.bl hi).2 PyProof.Rows.boot_isinstance h2 (by decide) (by decide) (star_cons hn) (by rfl)) fun σ H Q ⟨F, ρ, s, q⟩ => ?_
  unfold one1 at q
  show tF g fa σ H _
  refine run1 s (fun bx v F1 H1 e1 g1 r1 => ?_) (fun c e => ?_) (fun e => ?_)
  · rw [e1, Res.ok_bind] at q
    unfold errT at q
    split at q
    · rename_i c hb
      split at q
      · rename_i hr
        rw [hb] at r1
        obtain ⟨pp, D, j1, rfl, j3, j4, j5, j6⟩ := err_at C r1 hr
        refine ⟨by rw [k3]; exact le_sz (of_decide_eq_true hz), fun t ht => ⟨pp, D, j1, j4.ec, j5, j6, t, vs, us, _, rfl, upd_same, k2, k4 c hr D j3, ?_⟩⟩
        exact q (.bl _) F1 _ (g1.trans (Grow.newH (s.grow g1).sub ht)) (.bl _)
      · exact q.elim
    · exact q.elim
  · rw [e, Res.exc_bind] at q
    exact q
  · rw [e] at q
    exact q
end
section
variable {rs cs : List Nat} {c : Nat}
theorem errT_t (h1 : c ∈ rs) (h2 : cs.any (subE c) = true) : errT rs cs (.err c) = .ok (.dat (.bl true)) := by
  show (if c ∈ rs then _ else _) = _
  rw [if_pos h1, h2]
theorem errT_f (h1 : c ∈ rs) (h2 : cs.any (subE c) = false) : errT rs cs (.err c) = .ok (.dat (.bl false)) := by
  show (if c ∈ rs then _ else _) = _
  rw [if_pos h1, h2]
end
section
variable {X : Cx} {g : G} {cls : Nat → Value} {k : Nat} {tab : List En} {N : List Str} {sc : Scope} {bt : Bt} {a : Expr} {pos p p2 p3 : Pos} {fa : Env → Res B}
end
end Fn
namespace Fn
open PySem PySem.Spec PyProof.Rows L2
def inS (p : Plc) (q : Rat) : Rat := (p.a : Rat) + (p.b : Rat) * q
def ouS (p : Plc) (q : Rat) : Rat := (p.c : Rat) - (p.d : Rat) * q
end Fn
namespace PySem
open PySem PySem.W PySem.Calls PyProof.Rows
set_option maxHeartbeats 1000000 in
theorem fn_enum_newT (l : Addr) (items : Array Value) (n : Nat) (dct : Option Addr) (sl : Array (Option Value)) :
    Meets (Builtin.«enumerate.__new__» ⟨[.type "enumerate", .ref l], []⟩) (fun _ R s => s.heap.IsTuple l items ∧
      R (.ok (.ret (.ref (s.heap.push { cls := .type "tuple_iterator", data := .fields #[.ref l, .int 0 0] }).objs.size)))
        { s with heap := (s.heap.push { cls := .type "tuple_iterator", data := .fields #[.ref l, .int 0 0] }).push { cls := .type "enumerate", data := .fields #[.none, .bool false, .ref s.heap.objs.size, rawInt 0, .none, .none] } }) :=
  .of_wp fun prog w A R s ⟨hL, h⟩ => by
    obtain ⟨hp, g, d, tk, os⟩ := s
    have hsub := sub_enumerate
    obtain ⟨o, ho, hc, _⟩ := id hL
    wp_walk
    refine wpAny_stack_any fun st => wpAny_pure ?_
    split
    · rename_i c _ _ _ _ _
      cases (c == Value.type "enumerate")
      · wp_walk using wpAny_loadPart' ho, wpAny_pyIter_tuple hL
        exact ⟨_, rfl, h⟩
      · wp_walk using wpAny_loadPart' ho, wpAny_pyIter_tuple hL
        exact ⟨_, rfl, h⟩
    · wp_walk using wpAny_loadPart' ho, wpAny_pyIter_tuple hL
      exact ⟨_, rfl, h⟩
section
variable {prog : Program} {w : World} {A : Around} {E : Value → Shared → Prop} {s : Shared}
theorem fn_call_enumT {l : Addr} {items : Array Value} {Q : Value → Shared → Prop} (hL : s.heap.IsTuple l items)
    (h : ∀ h', IsEnum h' (s.heap.objs.size + 1) s.heap.objs.size 0 .none → h'.IsTupleIter s.heap.objs.size l 0 → h'.objs.size = s.heap.objs.size + 2 →
      (∀ b o, s.heap.get? b = some o → h'.get? b = some o) → Q (.ref (s.heap.objs.size + 1)) { s with heap := h' }) :
    wpAny (model prog w) A (call (.type "enumerate") [.ref l]) Q E s := by
  refine callType_new F.called_enumerate (by decide) (F.typeCall_enumerate_1 _) (F.newCall_enumerate_1 _) (fun obj => F.args_object_init_2 obj _) F.entry_enumerate_new
    (fn_enum_newT l items 0 none #[]) ⟨hL, ?_⟩
  have hz : (s.heap.push { cls := .type "tuple_iterator", data := .fields #[.ref l, .int 0 0] }).objs.size = s.heap.objs.size + 1 := Heap.size_push ..
  show _ ∧ _
  rw [hz]
  have he : IsEnum ((s.heap.push { cls := .type "tuple_iterator", data := .fields #[.ref l, .int 0 0] }).push
      { cls := .type "enumerate", data := .fields #[.none, .bool false, .ref s.heap.objs.size, rawInt 0, .none, .none] }) (s.heap.objs.size + 1) s.heap.objs.size 0 .none := by
    have := Heap.get?_push_size (s.heap.push { cls := .type "tuple_iterator", data := .fields #[.ref l, .int 0 0] })
      (o := { cls := .type "enumerate", data := .fields #[.none, .bool false, .ref s.heap.objs.size, rawInt 0, .none, .none] }) rfl
    rw [hz] at this; exact this
  refine ⟨⟨_, he, rfl⟩, h _ he ⟨_, Heap.get?_push_of_some _ (Heap.get?_push_size _ rfl), rfl, rfl⟩ (by rw [Heap.size_push, hz]) fun b o x => Heap.get?_push_of_some _ (Heap.get?_push_of_some _ x)⟩
end
end PySem
namespace L2
open PySem PySem.Spec PyProof.Rows
def IteT (K : PySem.W.Frag) (a : Addr) : It :=
  ⟨fun i H => ∃ (xs : List V) (x : V), SqT K H a xs ∧ xs[i]? = some x, fun i H v H' => ∃ T x, v = .ref T ∧ H T = none ∧ H' = upd H T (.tup [.int (i : Nat), x]) ∧ ∀ xs, SqT K H a xs → xs[i]? = some x, fun i H => ∃ xs : List V, SqT K H a xs ∧ xs.length ≤ i⟩
theorem turn_enumT {P : Program} {w : World} {K : PySem.W.Frag} {elts : List Expr} {kk : Nat} {tpos : Pos} (a e it : Addr) (hea : a ≠ e) (hia : a ≠ it) :
    Turn P w K (.Tuple elts kk tpos) (IteT K a) [e, it] e (fun i h => (∃ old, IsEnum h e it ((i : Nat) : Int) old) ∧ h.IsTupleIter it a i ∧ e ≠ it) where
  mem := by simp
  obj := fun i h st b hb => by
    obtain ⟨⟨old, he⟩, ⟨o, ho, hc, hd⟩, _⟩ := st
    have e' : b = e ∨ b = it := by simpa using hb
    rcases e' with z | z
    · rw [z]; exact ⟨_, he, fun v q => nomatch q⟩
    · rw [z]; exact ⟨o, ho, fun v q => by rw [hd] at q; cases q⟩
  keep := fun i h h' st k => let ⟨⟨old, he⟩, hi, hne⟩ := st; ⟨⟨old, k e (by simp) _ he⟩, hi.at fun o q => k it (by simp) o q, hne⟩
  item := by
    intro X hP hw hK hc i pins s σ H E I hf st hg
    subst hP hw hK
    obtain ⟨⟨old, he⟩, hit, hne⟩ := st
    obtain ⟨xs, x, hq, hx⟩ := hg
    obtain ⟨its, rv, p, hz⟩ := I.tuple hq
    obtain ⟨u, hu, ru⟩ := rv.get hx
    have hel : e < s.heap.objs.size := Heap.lt_size he
    have hil : it < s.heap.objs.size := by obtain ⟨_, q, _⟩ := hit; exact Heap.lt_size q
    have hu' : its.toArray[i]? = some u := by simpa using hu
    have hlt : i < its.toArray.size := (Array.getElem?_eq_some_iff.mp hu').1
    have D := Draws.tuple (prog := X.prog) (w := X.w) (A := X.A.in1) (show X.A.in1.handled = none from I.ok.hd hc) it a hia its.toArray
    refine wpAny_pyNext_enum_itemD D he ⟨hit, p⟩ hlt hne (by simp [hne, Ne.symm hea]) fun x' h' tk hP ho hs' hT hsz hk => ?_
    obtain rfl : x' = u := by rw [hu'] at hP; exact (Option.some.inj hP).symm
    refine ⟨_, rfl, wpAny_letOwnedTupleGo_enum (s := { s with heap := h', toks := tk + 1 }) ho fun h'' he' sb => ?_⟩
    have hT2 : h''.get? s.heap.objs.size = some { cls := .type "tuple", data := .seq #[.int i tk, x'] } := (sb.2 _ (Nat.ne_of_gt hel)).trans hT
    have new : ObjOk X.prog X.w (upd H s.heap.objs.size (.tup [.int (i : Nat), x])) h'' s.heap.objs.size (.tup [.int (i : Nat), x]) :=
      ⟨by show 2 ≤ sizeLine; decide, [.int i tk, x'], .cons ⟨_, rfl⟩ (.cons ru .nil), ⟨_, hT2, rfl, _, rfl⟩⟩
    have I1 : Inv X pins σ (upd H s.heap.objs.size (.tup [.int (i : Nat), x])) { s with heap := h'', toks := tk + 1 } :=
      I.turnedNew (ch := [e, it]) (fun b ob hb q => (sb.2 b (fun z => hb (by simp [z]))).trans (hk b ob (fun z => hb (by simp [z])) (fun z => hb (by simp [z])) q)) hf (Nat.le_refl _) new
    refine ⟨.ref s.heap.objs.size, _, I1, rfl, ⟨_, x, rfl, I.hok.fresh (Nat.le_refl _), rfl, fun ys hy => by rw [I.tuple_inj hy hq]; exact hx⟩, ⟨⟨x', ?_⟩, hs'.1.at fun o q => (sb.2 it (Ne.symm hne)).trans q, hne⟩, fun b hb => ?_⟩
    · have e1 : ((i + 1 : Nat) : Int) = (i : Int) + 1 := by omega
      rw [e1]; exact he'
    · have hb' : b < s.heap.objs.size := by
        have e' : b = e ∨ b = it := by simpa using hb
        rcases e' with z | z
        · rw [z]; exact hel
        · rw [z]; exact hil
      rw [upd_ne (Nat.ne_of_lt hb')]
      exact (hf b hb).1
  done := by
    intro X hP hw hK hc i pins s σ H E I hf st hg
    subst hP hw hK
    obtain ⟨⟨old, he⟩, hit, hne⟩ := st
    obtain ⟨xs, hq, hx⟩ := hg
    obtain ⟨its, rv, p, hz⟩ := I.tuple hq
    obtain ⟨f0, f1, f2, f3, f4, f5⟩ := hf it (by simp)
    have hl := rv.length
    have hh : X.A.in1.handled = none := I.ok.hd hc
    have D : Draws X.prog X.w X.A.in1 it [it, a] i (fun _ _ => True) (fun j h => j = i ∧ h.IsTupleIter it a i ∧ h.IsTuple a its.toArray) :=
      { live := fun _ _ st => let ⟨o, ho, _⟩ := st.2.1; ⟨o, ho⟩
        frame := fun _ _ _ st hk => ⟨st.1, st.2.1.at fun o e => hk it (by simp) o e, st.2.2.at fun o e => hk a (by simp) o e⟩
        item := fun j s Q E hj st hQ => absurd st.1 (Nat.ne_of_lt hj)
        done := fun s Q E st hE => wpAny_nextOf_tuple_end hh st.2.1 st.2.2 (by simp; omega) hE }
    exact wpAny_pyNext_enum_endD D he ⟨rfl, hit, p⟩ fun h' eb => ⟨rfl, I.turned (t' := s.toks) (fun b o hb q => eb b o hb q) f0 f1 f3 f4 f5⟩
  self := fun A i s Q E st h => let ⟨⟨_, he⟩, _⟩ := st; wpAny_pyIter_enum he h
def iEnumT (K : PySem.W.Frag) (ta : TA) : TI := fun σ H R => ta σ H fun vs H1 => ∃ a xs, vs = [.ref a] ∧ ((SqL K H1 a xs ∧ R (Ite K a) H1) ∨ (SqT K H1 a xs ∧ R (IteT K a) H1))
theorem pi_enumT {X : Cx} {e : Expr} {ta : TA} {p pos tpos : Pos} {elts : List Expr} {kk : Nat} (hg : Gl X "enumerate") (hm : X.mg "enumerate" = none) (ha : PA X [e] ta) (hs : starEach [e] X.env = [(false, eval e X.env)]) :
    PI X (.Tuple elts kk tpos) (.Call (.Name "enumerate" p) [e] [] pos) (iEnumT X.K ta) := by
  refine ⟨fun pins s σ H R I h => ?_⟩
  refine Call_ (ld_blt I hg hm boot_enumerate (PyProof.Rows.callWith_type1 (thn (ha.run pos pins s σ H _ I h) fun us s1 ⟨vs, H1, I1, r1, q1⟩ => ?_) hs rfl))
  obtain ⟨a, xs, ex, q1⟩ := q1
  subst ex
  cases r1 with
  | cons r rr =>
    cases rr
    cases r
    have fr : ∀ b, b ∈ [s1.heap.objs.size + 1, s1.heap.objs.size] → FpOk X pins H1 b := fun b hb => by
      have e' : b = s1.heap.objs.size + 1 ∨ b = s1.heap.objs.size := by simpa using hb
      have hle : s1.heap.objs.size ≤ b := by
        rcases e' with z | z
        · rw [z]; exact Nat.le_add_right _ _
        · rw [z]; exact Nat.le_refl _
      exact I1.fpOk hle (I1.hok.fresh hle)
    rcases q1 with ⟨hq, q⟩ | ⟨hq, q⟩
    · obtain ⟨its, rv, p', hz⟩ := I1.list hq
      refine call_enumerate_list p'.isList fun h' he hit hsz hk => wpAny_pyIter_enum he ?_
      have I2 : Inv X pins σ H1 { s1 with heap := h' } := I1.kept (t' := s1.toks) hk
      exact ⟨s1.heap.objs.size + 1, [s1.heap.objs.size + 1, s1.heap.objs.size], _, _, H1, rfl, I2, turn_enum a (s1.heap.objs.size + 1) s1.heap.objs.size, ⟨⟨.none, he⟩, hit, Nat.succ_ne_self _⟩, fr, q⟩
    · obtain ⟨its, rv, p', hz⟩ := I1.tuple hq
      obtain ⟨o, ho, _⟩ := id p'
      have hlt := Heap.lt_size ho
      refine fn_call_enumT (show s1.heap.IsTuple a its.toArray from p') fun h' he hit hsz hk => wpAny_pyIter_enum he ?_
      have I2 : Inv X pins σ H1 { s1 with heap := h' } := I1.kept (t' := s1.toks) hk
      exact ⟨s1.heap.objs.size + 1, [s1.heap.objs.size + 1, s1.heap.objs.size], _, _, H1, rfl, I2, turn_enumT a (s1.heap.objs.size + 1) s1.heap.objs.size (Nat.ne_of_lt (Nat.lt_succ_of_lt hlt)) (Nat.ne_of_lt hlt), ⟨⟨.none, he⟩, hit, Nat.succ_ne_self _⟩, fr, q⟩
end L2
namespace Fn
open PySem PySem.Spec PyProof.Rows L2 RZ
def tupsB : B → Option (List D)
  | .dat (.tup ds) => some ds
  | .dat (.ctup ds) => some ds
  | _ => none
def lstsB (lk : Bool) : B → Option (List D)
  | .dat (.lst ds) => some ds
  | .vw (.l ds) => if lk = true then some ds else none
  | .bor (.l ds) => some ds
  | .scr ns => some (ns.map .int)
  | _ => none
def zipD (xs ys : List D) : List D := List.zipWith (fun a b => D.tup [a, b]) xs ys
def enD (xs : List D) : List D := zipD ((List.range xs.length).map fun (i : Nat) => D.int i) xs
def enA (lk : Bool) (bs : List B) : Res (List D) := match bs with
  | [a] => (match tupsB a with
    | some xs => .ok (enD xs)
    | none => (match lstsB lk a with
      | some xs => .ok (enD xs)
      | none => .bad))
  | _ => .bad
section
variable {X : Cx} {g : G} {a b : Expr} {pos p : Pos} {fa fb : Env → Res B} {lk : Bool} {F1 H1 : Hp} {v : V} {c : B} {ds : List D}
theorem tups_at (s : Sm g F1 H1) (r : RR g F1 H1 v c) (h : tupsB c = some ds) : ∃ a xs, v = .ref a ∧ (∀ F H, PP g lk F1 H1 F H → SqT g.K H a xs) ∧ SqT g.K H1 a xs ∧ RpAll g.K g.fa F1 xs ds := by
  unfold tupsB at h
  split at h
  · cases h
    cases r with
    | tup h1 h2 => exact ⟨_, _, rfl, (fun F H q => SqT.of (q.2.1 _ _ (q.1 _ _ h1))), SqT.of (s.fh _ _ h1), h2⟩
  · cases h
    cases r with
    | ctup h1 h2 => exact ⟨_, _, rfl, (fun F H q => sqT_none h1), sqT_none h1, h2⟩
  · cases h
theorem lsts_at (s : Sm g F1 H1) (r : RR g F1 H1 v c) (h : lstsB lk c = some ds) : ∃ a xs, v = .ref a ∧ (∀ F H, PP g lk F1 H1 F H → SqL g.K H a xs) ∧ SqL g.K H1 a xs ∧ RpAll g.K g.fa F1 xs ds := by
  unfold lstsB at h
  split at h
  · cases h
    cases r with
    | lst h1 h2 => exact ⟨_, _, rfl, (fun F H q => SqL.of (q.2.1 _ _ (q.1 _ _ h1))), SqL.of (s.fh _ _ h1), h2⟩
  · split at h
    · rename_i hl
      cases h
      obtain ⟨p, o, rfl, h1, h2⟩ := r
      cases h2 with
      | l h2 => exact ⟨_, _, rfl, (fun F H q => SqL.of (q.2.2.2 hl _ _ h1)), SqL.of h1, h2⟩
    · cases h
  · cases h
    obtain ⟨p, o, rfl, h1, h2⟩ := r
    cases h2 with
    | l h2 => exact ⟨_, _, rfl, (fun F H q => SqL.of (q.2.2.1 _ _ h1)), SqL.of (s.gh _ _ h1), h2⟩
  · cases h
    obtain ⟨p, rfl, h1⟩ := r
    exact ⟨_, _, rfl, (fun F H q => q.2.2.1.seq h1), s.gh.seq h1, RpAll.of_ints _⟩
  · cases h
theorem zip_get {xs ys : List D} {i : Nat} {d : D} (h : (zipD xs ys)[i]? = some d) : ∃ x y, xs[i]? = some x ∧ ys[i]? = some y ∧ d = .tup [x, y] := by
  unfold zipD at h
  rw [List.getElem?_zipWith] at h
  cases e1 : xs[i]? with
  | none => rw [e1] at h; cases h
  | some x =>
    cases e2 : ys[i]? with
    | none => rw [e1, e2] at h; cases h
    | some y => rw [e1, e2] at h; cases h; exact ⟨x, y, rfl, rfl, rfl⟩
theorem zip_len {xs ys : List D} : (zipD xs ys).length = min xs.length ys.length := List.length_zipWith
theorem en_len {xs : List D} : (enD xs).length = xs.length := by
  unfold enD
  rw [zip_len, List.length_map, List.length_range, Nat.min_self]
theorem en_get {xs : List D} {i : Nat} {d : D} (h : (enD xs)[i]? = some d) : ∃ x, xs[i]? = some x ∧ d = .tup [.int (i : Nat), x] := by
  obtain ⟨n, x, h1, h2, rfl⟩ := zip_get h
  refine ⟨x, h2, ?_⟩
  rw [List.getElem?_map] at h1
  have hi : i < xs.length := (List.getElem?_eq_some_iff.mp h2).1
  rw [List.getElem?_range hi] at h1
  cases h1
  rfl
theorem pair_new {F H : Hp} {T : Addr} {x y : V} {dx dy : D} (q : Same F H) (hT : H T = none) (hx : Rp g.K g.fa F x dx) (hy : Rp g.K g.fa F y dy) : ∃ F', Grow F H F' (upd H T (.tup [x, y])) ∧ Rp g.K g.fa F' (.ref T) (.tup [dx, dy]) :=
  ⟨upd F T (.tup [x, y]), Grow.newF q hT, .tup upd_same (.cons (hx.mono (same_upd (q.free hT))) (.cons (hy.mono (same_upd (q.free hT))) .nil))⟩
theorem en_it {p1 : Addr} {xs : List V} {ds : List D} (h1 : ∀ F H, PP g lk F1 H1 F H → SqL g.K H p1 xs) (r1 : RpAll g.K g.fa F1 xs ds) : ItOk g (PP g lk F1 H1) (Ite g.K p1) (enD ds) where
  go := fun i F H q hi => by
    rw [en_len] at hi
    exact ⟨xs, xs[i]'(by rw [r1.len]; omega), h1 F H q, by simp⟩
  stop := fun i F H q hi => by
    rw [en_len] at hi
    exact ⟨xs, h1 F H q, by rw [r1.len]; exact hi⟩
  yld := fun i F H x H' d q hd hy => by
    obtain ⟨T, x, rfl, hT, rfl, gx⟩ := hy
    obtain ⟨dx, e1, rfl⟩ := en_get hd
    obtain ⟨v1, k1, k2⟩ := r1.get e1
    have z1 := gx xs (h1 F H q)
    rw [k1] at z1
    cases z1
    exact pair_new q.2.1 hT (.int _) (k2.mono q.1)
theorem en_itT {p1 : Addr} {xs : List V} {ds : List D} (h1 : ∀ F H, PP g lk F1 H1 F H → SqT g.K H p1 xs) (r1 : RpAll g.K g.fa F1 xs ds) : ItOk g (PP g lk F1 H1) (IteT g.K p1) (enD ds) where
  go := fun i F H q hi => by
    rw [en_len] at hi
    exact ⟨xs, xs[i]'(by rw [r1.len]; omega), h1 F H q, by simp⟩
  stop := fun i F H q hi => by
    rw [en_len] at hi
    exact ⟨xs, h1 F H q, by rw [r1.len]; exact hi⟩
  yld := fun i F H x H' d q hd hy => by
    obtain ⟨T, x, rfl, hT, rfl, gx⟩ := hy
    obtain ⟨dx, e1, rfl⟩ := en_get hd
    obtain ⟨v1, k1, k2⟩ := r1.get e1
    have z1 := gx xs (h1 F H q)
    rw [k1] at z1
    cases z1
    exact pair_new q.2.1 hT (.int _) (k2.mono q.1)
theorem PostI.of {σ : L2.St} {F H : Hp} {r : Res (List D)} {R : It → Hp → Prop} {ds : List D} (p : PostI g lk σ F H r R) (e : r = .ok ds) {F1 H1 : Hp} (g1 : Grow F H F1 H1) {J : It} (ok : ItOk g (PP g lk F1 H1) J ds) : R J H1 := by
  subst e
  exact p F1 H1 J g1 ok
theorem fi_enum {elts : List Expr} {kk : Nat} {tpos : Pos} {fs : Env → Res (List B)} (hK : g.K = X.K) (hg : Gl X "enumerate") (hm : X.mg "enumerate" = none) (hn : nst a = true) (ha : PA X [a] (tFA g fs)) : PI X (.Tuple elts kk tpos) (.Call (.Name "enumerate" p) [a] [] pos) (tFI g lk fun ρ => (fs ρ).bind (enA lk)) := by
  refine PI.imp (pi_enumT hg hm ha (star_cons hn)) fun σ H R ⟨F, ρ, s, q⟩ => ⟨F, ρ, s, ?_⟩
  dsimp only at q
  cases e : fs ρ with
  | exc c => rw [e, Res.exc_bind] at q; exact q
  | bad => rw [e] at q; exact q
  | ok bs =>
    rw [e, Res.ok_bind] at q
    intro vs F1 H1 g1 r1
    have s1 := (s.grow g1).sm
    unfold enA at q
    split at q
    · rename_i a
      cases r1 with
      | cons ra rn =>
        cases rn
        split at q
        · rename_i xs t1
          obtain ⟨p1, us, rfl, k1, k2, k3⟩ := tups_at (lk := lk) s1 ra t1
          rw [← hK]
          exact ⟨p1, us, rfl, .inr ⟨k2, q F1 H1 _ g1 (en_itT k1 k3)⟩⟩
        · split at q
          · rename_i xs t1
            obtain ⟨p1, us, rfl, k1, k2, k3⟩ := lsts_at (lk := lk) s1 ra t1
            rw [← hK]
            exact ⟨p1, us, rfl, .inl ⟨k2, q F1 H1 _ g1 (en_it k1 k3)⟩⟩
          · exact q.elim
    · exact q.elim
end
end Fn
namespace Fn
open PySem PySem.Spec PyProof.Rows L2
def kIx : List Key → Key → Option Nat
  | [], _ => none
  | k' :: ks, k => if k' = k then some 0 else (kIx ks k).map (· + 1)
theorem zip_val {k : Key} : ∀ {ks : List Key} {vs : List V}, ks.length = vs.length → (kIx ks k = none → valV (ks.zip vs) k = none) ∧ (∀ n, kIx ks k = some n → ∃ v, vs[n]? = some v ∧ valV (ks.zip vs) k = some v)
  | [], [], _ => ⟨fun _ => rfl, fun n h => by cases h⟩
  | [], _ :: _, h => by simp at h
  | _ :: _, [], h => by simp at h
  | a :: ks, v :: vs, h => by
    have h' : ks.length = vs.length := by simpa using h
    obtain ⟨i1, i2⟩ := zip_val (k := k) h'
    unfold kIx
    by_cases e : a = k
    · rw [if_pos e]
      refine ⟨fun z => (by cases z), fun n z => ?_⟩
      cases z
      exact ⟨v, rfl, valV_pos e⟩
    · rw [if_neg e]
      refine ⟨fun z => ?_, fun n z => ?_⟩
      · rw [List.zip_cons_cons, valV_neg e]
        exact i1 (by cases hk : kIx ks k with
          | none => rfl
          | some m => rw [hk] at z; cases z)
      · cases hk : kIx ks k with
        | none => rw [hk] at z; cases z
        | some m =>
          rw [hk] at z
          cases z
          obtain ⟨w, h1, h2⟩ := i2 m hk
          exact ⟨w, h1, by rw [List.zip_cons_cons, valV_neg e]; exact h2⟩
section
variable {g : G} {F H F' H' : Hp} {σ : L2.St} {ρ : Env} {i : Nat} {ks : List Key} {ls : List (List D)} {k : Key}
theorem St.nst_at (s : St g F H σ ρ) {sh : Sh} (h : ρ[i]? = some (some (.nst sh ls))) : ∃ p qs, σ[i]? = some (some (.ref p)) ∧ NstOk g.K g.fa g.G0 F H p sh qs ls := by
  obtain ⟨v, h1, p, qs, rfl, n⟩ := s.at_ i _ h
  exact ⟨p, qs, h1, n⟩
theorem St.nstNew (s : St g F H σ ρ) (h : ρ[i]? = some (some (.own (.k [])))) : St g F H σ (ρ.set i (some (.nst (.k []) []))) := by
  obtain ⟨p, o, h1, h2, h3, h4, h5⟩ := s.own_none h
  cases h5 with
  | @k kvs _ e r =>
    have hz : kvs = [] := List.map_eq_nil_iff.mp e
    subst hz
    refine s.turn h h1 (Same.refl F) s.gr (fun a _ _ => ⟨rfl, fun _ f => f⟩) ⟨p, [], rfl, ⟨h2, .inl h3, h4, rfl, rfl, List.nodup_nil, (by simp), fun i q ds z => by simp at z⟩⟩ fun a ha => ?_
    rcases ha with ha | ⟨p', o', e1, e2, e3⟩
    · exact .inl ha
    · cases e1
      rw [h2] at e2
      cases e2
      cases e3
theorem St.nstApp (s : St g F H σ ρ) {sh : Sh} (h : ρ[i]? = some (some (.nst sh ls))) {p : Addr} {qs : List Addr} (hp : σ[i]? = some (some (.ref p))) (n : NstOk g.K g.fa g.G0 F H p sh qs ls) {m : Nat} {q : Addr} {ds : List D} {xs : List V} {y : V} {d : D}
    (hq : qs[m]? = some q) (hd : ls[m]? = some ds) (hx : H q = some (.lst xs)) (r : Rp g.K g.fa F y d) : St g F (upd H q (.lst (xs ++ [y]))) σ (ρ.set i (some (.nst sh (ls.set m (ds ++ [d]))))) := by
  have hqm : q ∈ qs := List.mem_of_getElem? hq
  have npq : p ≠ q := fun z => n.np (z ▸ hqm)
  obtain ⟨xs', e1, e2, e3, e4⟩ := n.child m q ds hq hd
  rw [hx] at e1
  cases e1
  refine s.turn h hp (Same.refl F) ⟨s.gr.fh, fun b u z => ?_, fun b u z => ?_, s.gr.new⟩ (fun a _ ha => ⟨upd_ne fun z => ha (.inr ⟨p, _, rfl, n.top, n.kid.mpr (z ▸ hqm)⟩), fun _ f => f⟩) ⟨p, qs, rfl, ⟨by rw [upd_ne npq]; exact n.top, n.pf, n.pg, by rw [List.length_set]; exact n.len, by rw [List.length_set]; exact n.fit, n.nd, n.np, fun j q' ds' h1 h2 => ?_⟩⟩ fun a ha => ?_
  · rw [upd_ne (ne_of_none z e3)]; exact s.gr.hh _ _ z
  · rw [upd_ne (ne_of_none z e2)]; exact s.sub _ _ z
  · by_cases hj : j = m
    · subst hj
      rw [hq] at h1
      cases h1
      rw [List.getElem?_set_self (by exact (List.getElem?_eq_some_iff.mp hd).1)] at h2
      cases h2
      exact ⟨_, upd_same, e2, e3, e4.app (.cons r .nil)⟩
    · rw [List.getElem?_set_ne (Ne.symm hj)] at h2
      obtain ⟨ws, f1, f2, f3, f4⟩ := n.child j q' ds' h1 h2
      have ne : q' ≠ q := fun z => by
        subst z
        have l1 := (List.getElem?_eq_some_iff.mp h1).1
        have l2 := (List.getElem?_eq_some_iff.mp hq).1
        exact hj ((List.getElem_inj (h₀ := l1) (h₁ := l2) n.nd).mp (by rw [(List.getElem?_eq_some_iff.mp h1).2, (List.getElem?_eq_some_iff.mp hq).2]))
      exact ⟨ws, by rw [upd_ne ne]; exact f1, f2, f3, f4⟩
  · rcases ha with ha | ⟨p', o', z1, z2, z3⟩
    · exact .inl (.inl ha)
    · cases z1
      rw [upd_ne npq] at z2
      exact .inl (.inr ⟨p, o', rfl, z2, z3⟩)
theorem St.nstAdd (s : St g F H σ ρ) (h : ρ[i]? = some (some (.nst (.k ks) ls))) {p q : Addr} {qs : List Addr} (hp : σ[i]? = some (some (.ref p))) (n : NstOk g.K g.fa g.G0 F H p (.k ks) qs ls) (e : Grow F H F' H') (hq : H q = none) (hq' : H' q = some (.lst [])) (fq : F' q = none) :
    NstOk g.K g.fa g.G0 F' (upd H' p (.dK (ks.zip (qs.map V.ref) ++ [(k, .ref q)]))) p (.k (ks ++ [k])) (qs ++ [q]) (ls ++ [[]]) ∧ St g F' (upd H' p (.dK (ks.zip (qs.map V.ref) ++ [(k, .ref q)]))) σ (ρ.set i (some (.nst (.k (ks ++ [k])) (ls ++ [[]])))) := by
  have npq : q ≠ p := fun z => by rw [z, n.top] at hq; cases hq
  have fit : ks.length = ls.length := n.fit
  have hF : F' p = none := by
    rcases n.pf with f | f
    · exact e.new p _ n.top (fun xs z => by cases z) f
    · cases f
  have kid : ∀ {a : Addr}, a ∈ qs → a ≠ p := fun z y => n.np (y ▸ z)
  have hnew : q ∉ qs := fun z => by
    obtain ⟨_, _, z1, _⟩ := n.at' z
    rw [hq] at z1
    cases z1
  have ok : NstOk g.K g.fa g.G0 F' (upd H' p (.dK (ks.zip (qs.map V.ref) ++ [(k, .ref q)]))) p (.k (ks ++ [k])) (qs ++ [q]) (ls ++ [[]]) := by
    refine ⟨?_, .inl hF, n.pg, by rw [List.length_append, List.length_append, n.len]; rfl, by show (ks ++ [k]).length = (ls ++ [[]]).length; rw [List.length_append, List.length_append, fit]; rfl, ?_, ?_, fun j q' ds' h1 h2 => ?_⟩
    · rw [upd_same]
      show some (HO.dK _) = some (HO.dK ((ks ++ [k]).zip ((qs ++ [q]).map V.ref)))
      rw [List.map_append, List.zip_append (by rw [List.length_map, n.len]; exact fit)]
      rfl
    · exact List.nodup_append.mpr ⟨n.nd, by simp, fun a ha b hb => by
        rw [List.mem_singleton] at hb
        subst hb
        exact fun z => hnew (z ▸ ha)⟩
    · rw [List.mem_append, List.mem_singleton]
      rintro (z | z)
      · exact n.np z
      · exact npq z.symm
    · by_cases hj : j < qs.length
      · rw [List.getElem?_append_left hj] at h1
        rw [List.getElem?_append_left (by rw [← n.len]; exact hj)] at h2
        obtain ⟨ws, f1, f2, f3, f4⟩ := n.child j q' ds' h1 h2
        exact ⟨ws, by rw [upd_ne (kid (List.mem_of_getElem? h1))]; exact e.hh _ _ f1, e.new _ _ f1 (fun xs z => by cases z) f2, f3, f4.mono e.fh⟩
      · have hz : j = qs.length := by
          have := (List.getElem?_eq_some_iff.mp h1).1
          rw [List.length_append, List.length_singleton] at this
          omega
        subst hz
        rw [List.getElem?_append_right (Nat.le_refl _), Nat.sub_self] at h1
        rw [n.len, List.getElem?_append_right (Nat.le_refl _), Nat.sub_self] at h2
        cases h1
        cases h2
        exact ⟨[], by rw [upd_ne npq]; exact hq', fq, s.gr.hh.free hq, .nil⟩
  refine ⟨ok, s.turn h hp e.fh ⟨s.gr.fh.trans e.fh, fun b u z => ?_, fun b u z => ?_, fun a o ha na fa => e.new a o (s.gr.hh _ _ ha) na (s.gr.new a o ha na fa)⟩ (fun a ⟨o, ho⟩ ha => ⟨?_, fun na f => e.new a o ho (na o ho) f⟩) ⟨p, _, rfl, ok⟩ fun a ha => ?_⟩
  · rw [upd_ne (ne_of_none z n.pg)]; exact e.hh _ _ (s.gr.hh _ _ z)
  · rw [upd_ne (ne_of_none z hF)]; exact e.sub _ _ z
  · rw [upd_ne fun z => ha (.inl (by rw [z])), ho]
    exact e.hh _ _ ho
  · rcases ha with ha | ⟨p', o', z1, z2, z3⟩
    · exact .inl (.inl ha)
    · cases z1
      rw [ok.top] at z2
      cases z2
      have z4 := ok.kid.mp z3
      rw [List.mem_append, List.mem_singleton] at z4
      rcases z4 with z4 | z4
      · exact .inl (.inr ⟨p, _, rfl, n.top, n.kid.mpr z4⟩)
      · subst z4
        exact .inr hq
theorem St.nstClose (s : St g F H σ ρ) (h : ρ[i]? = some (some (.nst (.k ks) ls))) : ∃ F', Same F F' ∧ St g F' H σ (ρ.set i (some (.own (.k (ks.zip (ls.map .lst)))))) := by
  obtain ⟨p, qs, hp, n⟩ := s.nst_at h
  have fit : ks.length = ls.length := n.fit
  have hF : F p = none := by
    rcases n.pf with f | f
    · exact f
    · cases f
  let F' : Hp := fun a => if a ∈ qs then H a else F a
  have out : ∀ {a : Addr}, a ∉ qs → F' a = F a := fun h => if_neg h
  have inn : ∀ {a : Addr}, a ∈ qs → F' a = H a := fun h => if_pos h
  have sm : Same F F' := fun b u z => by
    by_cases hb : b ∈ qs
    · obtain ⟨_, _, _, z2, _⟩ := n.at' hb
      rw [z2] at z
      cases z
    · rw [out hb]; exact z
  refine ⟨F', sm, s.turn h hp sm ⟨s.gr.fh.trans sm, s.gr.hh, fun b u z => ?_, fun a o ha na fa => ?_⟩ (fun a _ ha => ⟨rfl, fun _ f => ?_⟩) ⟨p, _, rfl, n.top, by rw [out n.np]; exact hF, n.pg, ?_⟩ fun a ha => .inl (.inl ha)⟩
  · by_cases hb : b ∈ qs
    · rw [inn hb] at z; exact z
    · rw [out hb] at z; exact s.sub _ _ z
  · by_cases hb : a ∈ qs
    · obtain ⟨_, _, _, _, z3, _⟩ := n.at' hb
      rw [z3] at ha
      cases ha
    · rw [out hb]; exact s.gr.new a o ha na fa
  · rw [out fun z => ha (.inr ⟨p, _, rfl, n.top, n.kid.mpr z⟩)]; exact f
  · have l1 : ks.length = (qs.map V.ref).length := by rw [List.length_map, n.len]; exact fit
    have l2 : ks.length = (ls.map D.lst).length := by rw [List.length_map]; exact fit
    refine .k (by rw [List.map_fst_zip (by omega), List.map_fst_zip (by omega)]) ?_
    rw [List.map_snd_zip (by omega), List.map_snd_zip (by omega)]
    have go : ∀ (qs' : List Addr) (ls' : List (List D)), qs'.length = ls'.length → (∀ (j : Nat) (q : Addr) (ds : List D), qs'[j]? = some q → ls'[j]? = some ds → ∃ xs, F' q = some (.lst xs) ∧ RpAll g.K g.fa F' xs ds) → RpAll g.K g.fa F' (qs'.map V.ref) (ls'.map D.lst) := by
      intro qs'
      induction qs' with
      | nil => intro ls' hl _; cases ls' with
        | nil => exact .nil
        | cons _ _ => simp at hl
      | cons q qs' ih => intro ls' hl hc; cases ls' with
        | nil => simp at hl
        | cons l ls' =>
          obtain ⟨xs, z1, z2⟩ := hc 0 q l rfl rfl
          exact .cons (.lst z1 z2) (ih ls' (by simpa using hl) fun j q' ds' h1 h2 => hc (j + 1) q' ds' (by simpa using h1) (by simpa using h2))
    refine go qs ls n.len fun j q ds h1 h2 => ?_
    obtain ⟨xs, f1, f2, f3, f4⟩ := n.child j q ds h1 h2
    exact ⟨xs, by rw [inn (List.mem_of_getElem? h1)]; exact f1, f4.mono sm⟩
end
def closeE (i : Nat) (ρ : Env) : Env := match ρ[i]? with
  | some (some (.nst (.k ks) ls)) => ρ.set i (some (.own (.k (ks.zip (ls.map .lst)))))
  | _ => ρ
def closeS (i : Nat) (f : Env → Out) : Env → Out := fun ρ => f (closeE i ρ)
def sdAt (b : Option (Option B)) : Option (List Key × List (List D)) := match b with
  | some (some (.nst (.k ks) ls)) => some (ks, ls)
  | some (some (.own (.k []))) => some ([], [])
  | _ => none
def sdK (ks : List Key) (ls : List (List D)) (k : Key) : List Key × List (List D) × Nat := match kIx ks k with
  | some n => (ks, ls, n)
  | none => (ks ++ [k], ls ++ [[]], ks.length)
def sdV (i : Nat) (p : List Key × List (List D) × Nat) (fv : Env → Res B) (ρ : Env) : Out := match fv (ρ.set i (some (.nst (.k p.1) p.2.1))) with
  | .ok b => (match rd b, p.2.1[p.2.2]? with
    | .dat d, some ds => if ds.length < sizeLine then .nx (ρ.set i (some (.nst (.k p.1) (p.2.1.set p.2.2 (ds ++ [d]))))) else .bad
    | _, _ => .bad)
  | .exc c => .exc c (ρ.set i (some (.nst (.k p.1) p.2.1)))
  | .bad => .bad
def sdS (i : Nat) (fk fv : Env → Res B) : Env → Out := fun ρ => match sdAt ρ[i]? with
  | some (ks, ls) => (match fk ρ with
    | .ok bk => (match keyD (datOf (rd bk)) with
      | some k => if ks.length < sizeLine then sdV i (sdK ks ls k) fv ρ else .bad
      | none => .bad)
    | .exc c => .exc c ρ
    | .bad => .bad)
  | none => .bad
section
variable {X : Cx} {g : G} {f : Env → Out} {fk fv fa fz : Env → Res B}
theorem fs_close {sts : List Stmt} (i : Nat) (h1 : PSs X sts (tFS g f)) : PSs X sts (tFS g (closeS i f)) := by
  refine PSs.imp h1 fun E σ H ⟨F, ρ, s, p⟩ => ?_
  unfold closeS closeE at p
  split at p
  · rename_i ks ls e
    obtain ⟨F', _, s'⟩ := s.nstClose e
    exact ⟨F', _, s', p⟩
  · exact ⟨F, ρ, s, p⟩
theorem set_set_env {ρ : Env} {i : Nat} {a b : Option B} : (ρ.set i a).set i b = ρ.set i b := List.set_set ..
theorem set_same_env {ρ : Env} {i : Nat} {x : Option B} (h : ρ[i]? = some x) : ρ.set i x = ρ := by
  apply List.ext_getElem?
  intro j
  by_cases hj : i = j
  · subst hj
    rw [List.getElem?_set_self (List.getElem?_eq_some_iff.mp h).1, h]
  · rw [List.getElem?_set_ne hj]
theorem NstOk.grow {K : PySem.W.Frag} {fa' : Nat → Option Addr} {G0 F H F' H' : Hp} {p : Addr} {sh : Sh} {qs : List Addr} {ls : List (List D)} (n : NstOk K fa' G0 F H p sh qs ls) (e : Grow F H F' H') : NstOk K fa' G0 F' H' p sh qs ls := by
  refine ⟨e.hh _ _ n.top, ?_, n.pg, n.len, n.fit, n.nd, n.np, fun i q ds h1 h2 => ?_⟩
  · rcases n.pf with f | f
    · cases sh with
      | k ks => exact .inl (e.new p _ n.top (fun xs z => by cases z) f)
      | t => exact .inr rfl
      | l => exact .inl (e.new p _ n.top (fun xs z => by cases z) f)
      | kt ks => exact .inl (e.new p _ n.top (fun xs z => by cases z) f)
    · exact .inr f
  · obtain ⟨xs, f1, f2, f3, f4⟩ := n.child i q ds h1 h2
    exact ⟨xs, e.hh _ _ f1, e.new _ _ f1 (fun xs z => by cases z) f2, f3, f4.mono e.fh⟩
theorem sd_fin {i m : Nat} {ks : List Key} {ls : List (List D)} {qs : List Addr} {p q : Addr} {E : Ends} {σ : L2.St} {F H : Hp} {ρ : Env} (s : St g F H σ (ρ.set i (some (.nst (.k ks) ls)))) (hi : i < ρ.length) (hp : σ[i]? = some (some (.ref p))) (n : NstOk g.K g.fa g.G0 F H p (.k ks) qs ls) (hq : qs[m]? = some q)
    (h : PostS g E (sdV i (ks, ls, m) fv ρ)) : tyV X.K "list" (.ref q) H ∧ tF g fv σ H fun w H2 => rAppend (.ref q) [w] H2 fun _ H1 => E.nx σ H1 := by
  have hml : m < ls.length := by rw [← n.len]; exact (List.getElem?_eq_some_iff.mp hq).1
  have hd := List.getElem?_eq_getElem hml
  obtain ⟨xs, f1, f2, f3, f4⟩ := n.child m q _ hq hd
  refine ⟨Or.inl ⟨rfl, _, SqL.of f1⟩, ?_⟩
  have hset : (ρ.set i (some (.nst (.k ks) ls)))[i]? = some (some (.nst (.k ks) ls)) := List.getElem?_set_self hi
  unfold sdV at h
  dsimp only at h
  refine run1 s (fun b w F1 H1 e1 g1 r1 => ?_) (fun c e => ?_) (fun e => ?_)
  · rw [e1] at h
    dsimp only at h
    split at h
    · rename_i d ds hb hds
      rw [hb] at r1
      rw [hd] at hds
      cases hds
      split at h
      · rename_i hz
        have n1 := n.grow g1
        obtain ⟨xs', k1, k2, k3, k4⟩ := n1.child m q _ hq hd
        refine ⟨q, xs', w, rfl, rfl, k1, by rw [k4.len]; exact hz, ?_⟩
        have s2 := (s.grow g1).nstApp hset hp n1 hq hd k1 r1
        rw [set_set_env] at s2
        exact h σ F1 _ s2
      · exact h.elim
    · exact h.elim
  · rw [e] at h
    exact fun F' H' g1 => h σ F' H' (s.grow g1)
  · rw [e] at h
    exact h
theorem fs_sdap {lexp : Expr} {i : Nat} {x : Str} {ek ev : Expr} {p1 p2 p3 p5 p6 p7 : Pos} (hi : X.N[i]? = some x) (hv : Vis X.env.scope x) (hd : (x == ("__debug__" : Str)) = false) (hcd : (x == ("__classdict__" : Str)) = false) (hnk : nst ek = true) (hn : nst ev = true) (hl1 : (p2.endLine == p3.line) = true) (hl2 : (p5.endLine == p6.line) = true) (hek : PE X ek (tF g fk)) (hev : PE X ev (tF g fv)) (hl0 : PE X lexp (tF g fun _ => .ok (.own (.l [])))) (hnl : nst lexp = true) :
    PS X (.Expr (.Call (.Attribute (.Call (.Attribute (.Name x p1) "setdefault" p2) [ek, lexp] [] p3) "append" p5) [ev] [] p6) p7) (tFS g (sdS i fk fv)) := by
  refine PS.imp (ps_expr (pe_bm PySem.F.plainAttrs_list PySem.F.slot_list_append PySem.F.type_list_append mt_append (pe_dsetd (pe_var hi hv hd hcd) hek hl0 ⟨by rfl, by
      rw [star_cons hnk, star_cons hnl]; rfl, hl1, by rw [star_cons hnk, star_cons hnl]; rfl⟩) (pa_cons hev pa_nil (star_cons hn)) (by rfl) (by cases ev <;> first | rfl | cases hn) hl2 (star_cons hn) (by rfl))) fun E σ H h => ?_
  show tDSetd (tVar i) (tF g fk) (tF g fun _ => .ok (.own (.l []))) σ H fun v H1 => tyV X.K "list" v H1 ∧ tF g fv σ H1 fun w H2 => rAppend v [w] H2 fun _ H1 => E.nx σ H1
  obtain ⟨F, ρ, s, p⟩ := h
  unfold sdS at p
  split at p
  · rename_i ks ls ho
    have hil : i < ρ.length := by
      unfold sdAt at ho
      split at ho
      · rename_i e; exact (List.getElem?_eq_some_iff.mp e).1
      · rename_i e; exact (List.getElem?_eq_some_iff.mp e).1
      · cases ho
    have base : ∀ {F1 H1 : Hp}, St g F1 H1 σ ρ → St g F1 H1 σ (ρ.set i (some (.nst (.k ks) ls))) := fun {F1 H1} s1 => by
      unfold sdAt at ho
      split at ho
      · rename_i e
        cases ho
        rw [set_same_env e]
        exact s1
      · rename_i e
        cases ho
        exact s1.nstNew e
      · cases ho
    have hset : (ρ.set i (some (.nst (.k ks) ls)))[i]? = some (some (.nst (.k ks) ls)) := List.getElem?_set_self hil
    obtain ⟨p0, qs0, hσ, n0⟩ := (base s).nst_at hset
    refine ⟨_, hσ, p0, rfl, .inl ⟨_, Rd.of n0.top⟩, ?_⟩
    refine run1 s (fun bk y F1 H1 e1 g1 r1 => ?_) (fun c e => ?_) (fun e => ?_)
    · rw [e1] at p
      dsimp only at p
      split at p
      · rename_i k hk
        have ey := rr_key r1 hk
        split at p
        · rename_i hz
          have st := base (s.grow g1)
          have n := n0.grow g1
          refine ⟨F1, _, st, fun z F2 H2 g2 rb => ?_⟩
          obtain ⟨q, o, rfl, hq, hq', fq, rm⟩ := rb
          cases rm with
          | l rl =>
            cases rl
            have fit : ks.length = ls.length := n.fit
            have hlen : ks.length = (qs0.map V.ref).length := by rw [List.length_map, n.len]; exact fit
            obtain ⟨i1, i2⟩ := zip_val (k := k) hlen
            have hlz : (ks.zip (qs0.map V.ref)).length < sizeLine := by rw [List.length_zip, ← hlen, Nat.min_self]; exact hz
            refine ⟨_, k, g2.hh _ _ n.top, ey, hlz, fun v hv => ?_, fun hv => ?_⟩
            · cases hx : kIx ks k with
              | none => rw [i1 hx] at hv; cases hv
              | some m =>
                obtain ⟨w, w1, w2⟩ := i2 m hx
                rw [w2] at hv
                cases hv
                rw [List.getElem?_map] at w1
                cases hqm : qs0[m]? with
                | none => rw [hqm] at w1; cases w1
                | some qm =>
                  rw [hqm] at w1
                  cases w1
                  unfold sdK at p
                  rw [hx] at p
                  exact sd_fin (st.grow g2) hil hσ (n.grow g2) hqm p
            · cases hx : kIx ks k with
              | some m =>
                obtain ⟨w, w1, w2⟩ := i2 m hx
                rw [w2] at hv
                cases hv
              | none =>
                unfold sdK at p
                rw [hx] at p
                obtain ⟨n3, s3⟩ := st.nstAdd (k := k) hset hσ n g2 hq hq' fq
                rw [putK_new (.ref q) hv]
                rw [set_set_env] at s3
                have hq0 : qs0.length = ks.length := by rw [hlen, List.length_map]
                exact sd_fin s3 hil hσ n3 (by rw [List.getElem?_append_right (Nat.le_of_eq hq0), hq0, Nat.sub_self]; rfl) p
        · exact p.elim
      · exact p.elim
    · rw [e] at p
      exact fun F' H' g1 => p σ F' H' (s.grow g1)
    · rw [e] at p
      exact p
  · exact p.elim
def dispV (fk fv : Env → Res B) : Env → Res B := fun ρ => match fk ρ with
  | .ok a => (match fv ρ with
    | .ok b => (match keyD (datOf (rd a)), rd b with
      | some k, .dat d => .ok (.own (.k [(k, d)]))
      | _, _ => .bad)
    | .exc c => .exc c
    | .bad => .bad)
  | .exc c => .exc c
  | .bad => .bad
theorem fe_disp1 {ek ev : Expr} {pos : Pos} (hk : PE X ek (tF g fk)) (hv : PE X ev (tF g fv)) : PE X (.Dict [some ek] [ev] pos) (tF g (dispV fk fv)) := by
  refine PE.imp (pe_disp (pps_cons hk hv pps_nil) rfl rfl (by simp) (by simp)) fun σ H Q ⟨F, ρ, s, p⟩ => ?_
  intro q hq
  have g0 : Grow F H F (upd H q (.dK [])) := Grow.newH s.sub hq
  show tF g fk σ (upd H q (.dK [])) fun x H1 => tF g fv σ H1 fun y H2 => _
  unfold dispV at p
  refine run1 (s.grow g0) (fun a x F1 H1 e1 g1 r1 => ?_) (fun c e => ?_) (fun e => ?_)
  · rw [e1] at p
    dsimp only at p
    refine run1 ((s.grow g0).grow g1) (fun b y F2 H2 e2 g2 r2 => ?_) (fun c e => ?_) (fun e => ?_)
    · rw [e2] at p
      dsimp only at p
      split at p
      · rename_i k d hk hd
        have ex := rr_key r1 hk
        subst ex
        rw [hd] at r2
        have gg := (g0.trans g1).trans g2
        have t2 : H2 q = some (.dK []) := g2.hh _ _ (g1.hh _ _ upd_same)
        have f2 : F2 q = none := (g1.trans g2).new q (.dK []) upd_same (fun xs z => by cases z) (s.sub.free hq)
        refine ⟨t2, [(k, y)], rfl, by simp, ?_⟩
        refine p (.ref q) F2 _ ⟨gg.fh, fun b u z => ?_, fun b u z => ?_, gg.new⟩ ⟨q, _, rfl, hq, upd_same, f2, ?_⟩
        · rw [upd_ne (ne_of_none z hq)]; exact gg.hh _ _ z
        · rw [upd_ne (ne_of_none z f2)]; exact gg.sub _ _ z
        · exact .k (kvs := [(k, y)]) rfl (.cons r2 .nil)
      · exact p.elim
    · rw [e] at p
      exact fun F' H' g2 => p F' H' ((g0.trans g1).trans g2)
    · rw [e] at p
      exact p
  · rw [e] at p
    exact fun F' H' g1 => p F' H' (g0.trans g1)
  · rw [e] at p
    exact p
def dget2V (fa fk fz : Env → Res B) : Env → Res B := fun ρ => match fa ρ with
  | .ok a => if (dkOf (rd a)).isSome then (match fk ρ with
    | .ok k => (match fz ρ with
      | .ok z => (match dgetB (rd a) (rd k), rd z with
        | some (some d), _ => .ok (.dat d)
        | some none, .dat d => .ok (.dat d)
        | _, _ => .bad)
      | .exc c => .exc c
      | .bad => .bad)
    | .exc c => .exc c
    | .bad => .bad) else .bad
  | .exc c => .exc c
  | .bad => .bad
theorem fe_dget2 {ea ek ez : Expr} {p1 p2 : Pos} (hu : X.A.units + 1 < cLine) (hb : attributeBase ea "get" X.env (eval ea X.env) = eval ea X.env) (hnk : nst ek = true) (hnz : nst ez = true) (hl : (p1.endLine == p2.line) = true) (ha : PE X ea (tF g fa)) (hk : PE X ek (tF g fk)) (hz : PE X ez (tF g fz)) : PE X (.Call (.Attribute ea "get" p1) [ek, ez] [] p2) (tF g (dget2V fa fk fz)) := by
  refine PE.imp (pe_dget2 hu ha hk hz ⟨hb, by rw [star_cons hnk, star_cons hnz]; rfl, hl, by rw [star_cons hnk, star_cons hnz]; rfl⟩) fun σ H Q ⟨F, ρ, s, p⟩ => ?_
  show tF g fa σ H fun x H1 => _
  unfold dget2V at p
  refine run1 s (fun a x F1 H1 e1 g1 r1 => ?_) (fun c e => ?_) (fun e => ?_)
  · rw [e1] at p
    dsimp only at p
    split at p
    · rename_i hs
      cases hd : dkOf (rd a) with
      | none => rw [hd] at hs; cases hs
      | some kds =>
        obtain ⟨q, kvs, rfl, t1, _, _⟩ := dkOf_ok (s.grow g1).sm r1 hd
        refine ⟨q, rfl, .inl ⟨_, Rd.of t1⟩, ?_⟩
        refine run1 (s.grow g1) (fun k y F2 H2 e2 g2 r2 => ?_) (fun c e => ?_) (fun e => ?_)
        · rw [e2] at p
          dsimp only at p
          refine run1 ((s.grow g1).grow g2) (fun z w F3 H3 e3 g3 r3 => ?_) (fun c e => ?_) (fun e => ?_)
          · rw [e3] at p
            dsimp only at p
            have gg := (g1.trans g2).trans g3
            have s3 := s.grow gg
            split at p
            · rename_i d o hg
              obtain ⟨q', ov, eq, dg, hr⟩ := dgetB_ok s3.sm (r1.mono (g2.trans g3)) (r2.mono g3) hg
              cases eq
              rcases hr with ⟨_, z⟩ | ⟨v, d', rfl, z, rp⟩
              · cases z
              · cases z
                exact ⟨_, dg, p v F3 H3 gg rp⟩
            · rename_i d hg hzd
              obtain ⟨q', ov, eq, dg, hr⟩ := dgetB_ok s3.sm (r1.mono (g2.trans g3)) (r2.mono g3) hg
              cases eq
              rcases hr with ⟨rfl, _⟩ | ⟨v, d', _, z, _⟩
              · rw [hzd] at r3
                exact ⟨_, dg, p w F3 H3 gg r3⟩
              · cases z
            · exact p.elim
          · rw [e] at p
            exact fun F' H' g3 => p F' H' ((g1.trans g2).trans g3)
          · rw [e] at p
            exact p
        · rw [e] at p
          exact fun F' H' g2 => p F' H' (g1.trans g2)
        · rw [e] at p
          exact p
    · exact p.elim
  · rw [e] at p
    exact fun F' H' g1 => p F' H' g1
  · rw [e] at p
    exact p
end
end Fn
namespace L2
open PySem PySem.Spec PyProof.Rows
def IterB (b : Bool) (h : Heap) (it a : Addr) (i : Nat) : Prop := match b with
  | true => h.IsListIter it a i
  | false => h.IsTupleIter it a i
def AtB (b : Bool) (h : Heap) (a : Addr) (items : Array Value) : Prop := match b with
  | true => h.IsList a items
  | false => h.IsTuple a items
def itB (b : Bool) (a : Addr) : Obj := match b with
  | true => { cls := .type "list_iterator", data := .fields #[.ref a, .int 0 0] }
  | false => { cls := .type "tuple_iterator", data := .fields #[.ref a, .int 0 0] }
theorem IterB.new {b : Bool} {h : Heap} {it a : Addr} (e : h.get? it = some (itB b a)) : IterB b h it a 0 := by
  cases b <;> exact ⟨_, e, rfl, rfl⟩
theorem IterB.at_ {b : Bool} {h h' : Heap} {it a : Addr} {i : Nat} (x : IterB b h it a i) (e : ∀ o, h.get? it = some o → h'.get? it = some o) : IterB b h' it a i := by
  cases b
  · exact Heap.IsTupleIter.at x e
  · exact Heap.IsListIter.at x e
theorem IterB.obj {b : Bool} {h : Heap} {it a : Addr} {i : Nat} (x : IterB b h it a i) : ∃ o, h.get? it = some o ∧ ∃ vs, o.data = .fields vs := by
  cases b <;> (obtain ⟨o, e, _, d⟩ := x; exact ⟨o, e, _, d⟩)
theorem AtB.lt {b : Bool} {h : Heap} {a : Addr} {items : Array Value} (x : AtB b h a items) : a < h.objs.size := by
  cases b <;> (obtain ⟨o, e, _⟩ := x; exact Heap.lt_size e)
section
variable {X : Cx} {pins : List (Addr × Obj)} {σ : St} {H : Hp} {s : Shared} {a : Addr} {xs ys : List V} {b : Bool}
end
end L2
namespace Fn
open PySem PySem.Spec PyProof.Rows L2
def sqD (lk : Bool) (b : B) : Option (Bool × List D) := match tupsB b with
  | some ds => some (false, ds)
  | none => (lstsB lk b).map (true, ·)
def zip3D (xs ys zs : List D) : List D := List.zipWith (fun a p => match p with | (b, c) => D.tup [a, b, c]) xs (ys.zip zs)
def zipE (lk : Bool) (bs : List B) : Res (List D) := match bs with
  | [a, b] => (match sqD lk a, sqD lk b with
    | some (_, xs), some (_, ys) => .ok (zipD xs ys)
    | _, _ => .bad)
  | [a, b, c] => (match sqD lk a, sqD lk b, sqD lk c with
    | some (_, xs), some (_, ys), some (_, zs) => .ok (zip3D xs ys zs)
    | _, _, _ => .bad)
  | _ => .bad
section
variable {X : Cx} {g : G} {a b c : Expr} {pos p : Pos} {fs : Env → Res (List B)} {lk : Bool} {F1 H1 : Hp} {v : V} {bb : B} {ds : List D} {k : Bool}
end
end Fn
namespace Fn
open PySem PySem.Spec PyProof.Rows L2
def minAtD (ds : List D) : Nat := argBest (fun i j => PySem.W.dataLt ((toPys ds).getD i .none) ((toPys ds).getD j .none)) (ds.length - 1)
def minOk (ds : List D) : Bool := (toPys ds).all SeqAt.shaped && (((toPys ds).all fun a => (toPys ds).all fun b => PySem.W.alike a b) && ((toPys ds).all notNone && decide (0 < ds.length)))
theorem toPys_len : ∀ ds : List D, (toPys ds).length = ds.length := fun ds => by rw [toPys_map, List.length_map]
theorem canLayAll_of : ∀ {ds : List PyData}, (∀ d ∈ ds, d.canLay0 = true) → PyData.canLayAll0 ds = true
  | [], _ => rfl
  | d :: ds, h => by
    simp only [PyData.canLayAll0, Bool.and_eq_true]
    exact ⟨h d List.mem_cons_self, canLayAll_of fun e he => h e (List.mem_cons_of_mem _ he)⟩
def rMinDt (K : PySem.W.Frag) : List V → Hp → VK → Prop := fun vs H Q => ∃ (a : Addr) (xs : List V) (ds : List D), vs = [.ref a] ∧ SqL K H a xs ∧ DpAll K H xs (toPys ds) ∧ minOk ds = true ∧ ∀ v, xs[minAtD ds]? = some v → Q v H
theorem depthAll_shaped : ∀ {ds : List PyData}, ds.all SeqAt.shaped = true → PyData.depthAll ds ≤ 65
  | [], _ => by simp [PyData.depthAll]
  | d :: ds, h => by
    simp only [List.all_cons, Bool.and_eq_true] at h
    have h1 := SeqAt.depth_of_shaped h.1
    have h2 := depthAll_shaped h.2
    simp only [PyData.depthAll]
    omega
theorem cr_minDt {X : Cx} (hc : X.calm = true) (hu : X.A.units + 200 < cLine) : CallR X (.builtin "min") (rMinDt X.K) := by
  intro pins s σ H vs us Q I r h
  obtain ⟨a, xs, ds, rfl, hq, hd, ho, q⟩ := h
  obtain ⟨u, rfl, rx⟩ := r.one
  cases rx
  unfold minOk at ho
  simp only [Bool.and_eq_true, decide_eq_true_eq] at ho
  obtain ⟨o1, o2, o3, o4⟩ := ho
  obtain ⟨its, rv, pl, hz⟩ := I.list hq
  obtain ⟨as, hr⟩ := Dp.readsAll I (toPys ds) xs its hd rv
  have hl1 := rv.length
  have hl2 : its.length = (toPys ds).length := by
    have := PySem.W.readsAll_len (vs := its.toArray) hr
    simpa using this
  have ha : PySem.W.AlikeAll (toPys ds) := ⟨fun x hx y hy => List.all_eq_true.mp (List.all_eq_true.mp o2 x hx) y hy, fun x hx z => by
    have := List.all_eq_true.mp o3 x hx
    rw [z] at this
    cases this⟩
  have hdep := depthAll_shaped o1
  refine call_min_walkH (PySem.W.iter_listW (A := X.A.in1) (I.ok.hd hc) pl.isList fun s₂ e W st hfp hw hk => ?_)
  refine ⟨_, _, _, _, _, _, _, s.heap, _, rfl, W, st, hfp, by simp; have := toPys_len ds; omega, hw, hk, PySem.W.cmpIn_lt (A := X.A.in1) (vs := its.toArray) hr ha (by show X.A.units + 1 + _ < cLine; omega), fun v s' hP m => ?_⟩
  obtain ⟨h', tk, rfl, hk'⟩ := PySem.W.moved_old e rfl m
  have hP' : its[minAtD ds]? = some v := by
    have e1 : its.toArray.size - 1 = ds.length - 1 := by have := toPys_len ds; simp; omega
    rw [e1] at hP
    simpa [minAtD] using hP
  have hi : minAtD ds < xs.length := by rw [hl1]; exact (List.getElem?_eq_some_iff.mp hP').1
  obtain ⟨u', hu', rx⟩ := rv.get (List.getElem?_eq_getElem hi)
  rw [hP'] at hu'
  cases hu'
  exact ⟨_, H, I.kept (t' := tk) hk', rx, q _ (List.getElem?_eq_getElem hi)⟩
def minG (bs : List B) : Res B := match minF bs with
  | .ok b => .ok b
  | _ => (match bs with
    | [b] => (match seqL b with
      | some ds => if minOk ds = true then (match ds[minAtD ds]? with
        | some d => .ok (.dat d)
        | none => .bad) else .bad
      | none => .bad)
    | _ => .bad)
theorem minF_exc {bs : List B} {c : Nat} (h : minF bs = .exc c) : False := by
  unfold minF mnxB at h
  split at h
  · cases h
  · split at h
    · split at h
      · split at h <;> cases h
      · cases h
    · cases h
  · cases h
theorem g_minG {g : G} {K : PySem.W.Frag} (hK : g.K = K) : CallG g (fun vs H Q => rMinF K vs H Q ∨ rMinDt K vs H Q) minG := by
  subst hK
  intro σ F H vs bs Q s r p
  unfold minG at p
  cases e : minF bs with
  | ok b =>
    rw [e] at p
    exact .inl (g_min rfl σ F H vs bs Q s r (by rw [e]; exact p))
  | exc c => exact (minF_exc e).elim
  | bad =>
    rw [e] at p
    dsimp only at p
    split at p
    · rename_i b
      obtain ⟨v, rfl, rv⟩ := paired1 r
      split at p
      · rename_i ds hd
        split at p
        · rename_i ho
          split at p
          · rename_i d hm
            obtain ⟨a, xs, rfl, h1, h2⟩ := seqL_ok s rv hd
            have ho' := ho
            unfold minOk at ho'
            simp only [Bool.and_eq_true] at ho'
            refine .inr ⟨a, xs, ds, rfl, SqL.of h1, RpAll.dp s.fh h2 ?_, ho, fun v hv => ?_⟩
            · exact canLayAll_of fun d hd => SeqAt.canLay_of_shaped (List.all_eq_true.mp ho'.1 d hd)
            · obtain ⟨w, k1, k2⟩ := h2.get hm
              rw [k1] at hv
              cases hv
              exact p.dat s k2
          · exact p.elim
        · exact p.elim
      · exact p.elim
    · exact p.elim
section
variable {X : Cx} {g : G} {cls : Nat → Value} {k : Nat} {tab : List En} {N : List Str} {sc : Scope} {bt : Bt} {a b c : Expr} {pos p p2 p3 : Pos} {fa fb fc : Env → Res B}
theorem CT.minG (C : CT X g cls k tab N sc bt) (hh : bt.hot = false := by rfl) : BiW X g "min" Fn.minG := ⟨.inl ⟨_, _, CallR.or (c_min (C.calm hh)) (cr_minDt (C.calm hh) C.hu), boot_min, g_minG C.hK⟩⟩
theorem CT.enu (C : CT X g cls k tab N sc bt) {lk : Bool} {elts : List Expr} {kk : Nat} {tpos : Pos} (ha : PE X a (tF g fa)) (hg : gOk sc bt "enumerate" = true) (hn : nst a = true) : PI X (.Tuple elts kk tpos) (.Call (.Name "enumerate" p) [a] [] pos) (tFI g lk fun ρ => (consA fa (fun _ => .ok []) ρ).bind (enA lk)) :=
  fi_enum C.hK (C.bl hg).1 (C.bl hg).2 hn (fa_cons hn ha fa_nil)
theorem CT.dis (C : CT X g cls k tab N sc bt) {ek ev : Expr} (hk : PE X ek (tF g fa)) (hv : PE X ev (tF g fb)) : PE X (.Dict [some ek] [ev] pos) (tF g (dispV fa fb)) := fe_disp1 hk hv
theorem CT.dget (C : CT X g cls k tab N sc bt) {x : Str} {p1 p2 p4 : Pos} (ha : PE X (.Name x p4) (tF g fa)) (hk : PE X b (tF g fb)) (hz : PE X c (tF g fc)) (hn : (nst b && (nst c && (p1.endLine == p2.line))) = true) : PE X (.Call (.Attribute (.Name x p4) "get" p1) [b, c] [] p2) (tF g (dget2V fa fb fc)) := by
  simp only [Bool.and_eq_true] at hn
  exact fe_dget2 (by have := C.hu; omega) (by rfl) hn.1 hn.2.1 hn.2.2 ha hk hz
end
end Fn
namespace Fn
open PySem PySem.Spec PyProof.Rows L2
def zpF (lk : Bool) (fs : Env → Res (List B)) : Env → Res (List D) := fun ρ => (fs ρ).bind (zipE lk)
def enF (lk : Bool) (fs : Env → Res (List B)) : Env → Res (List D) := fun ρ => (fs ρ).bind (enA lk)
section
variable {X : Cx} {g : G} {cls : Nat → Value} {k : Nat} {tab : List En} {N : List Str} {sc : Scope} {bt : Bt} {a b c : Expr} {pos p p2 p3 : Pos} {fa fb fc : Env → Res B} {x : Str} {es : List Expr}
theorem CT.gp (C : CT X g cls k tab N sc bt) (i : Nat) (is : List Nat) {n m : Nat} (h : (lOk N sc i x && gsOk N sc is es) = true) (hh : bt.hot = false := by rfl) : PG X (.Tuple [.Name x p, .Tuple es n p2] m pos) (tFG g (.pr i is)) := by
  rw [Bool.and_eq_true] at h
  exact fg_pr (C.calm hh) C.hK (pgs_cons (pg_name C.nd' (C.lo h.1).1 (.inl (C.lo h.1).2) (.inr (C.lo h.1).2)) (pgs_cons (C.gm is h.2 hh) pgs_nil)) rfl rfl
theorem CS.gp (C : CS X g cls k tab N sc bt) (i : Nat) (is : List Nat) {n m : Nat} (h : (aOk N sc i x && gsOkS N sc is es) = true) (hh : bt.hot = false := by rfl) : PG X (.Tuple [.Name x p, .Tuple es n p2] m pos) (tFG g (.pr i is)) := by
  rw [Bool.and_eq_true] at h
  exact fg_pr (C.ct.calm hh) C.ct.hK (pgs_cons (pg_name C.ct.nd' (C.ao h.1).1 (C.ao h.1).2 (.inl (C.fn _))) (pgs_cons (C.gm is h.2 hh) pgs_nil)) rfl rfl
theorem CS.sd (C : CS X g cls k tab N sc bt) (i : Nat) {fk fv : Env → Res B} {ek ev : Expr} {p1 p2 p3 p4 p5 p6 p7 : Pos} (hk : PE X ek (tF g fk)) (hv : PE X ev (tF g fv)) (h : vOk N sc i x = true) (hn : (nst ek && (nst ev && ((p2.endLine == p3.line) && (p5.endLine == p6.line)))) = true) : PS X (.Expr (.Call (.Attribute (.Call (.Attribute (.Name x p1) "setdefault" p2) [ek, .List [] p4] [] p3) "append" p5) [ev] [] p6) p7) (tFS g (sdS i fk fv)) := by
  obtain ⟨h1, h2, h3, h4⟩ := C.ct.vo h
  simp only [Bool.and_eq_true] at hn
  exact fs_sdap h1 h2 h3 h4 hn.1 hn.2.1 hn.2.2.1 hn.2.2.2 hk hv (fe_lst fa_nil) rfl
end
section
variable {ρ : Env} {fs : Env → Res (List B)} {lk : Bool} {a b c : B} {xs ys zs : List D} {fk fv fa fz : Env → Res B} {f : Env → Out} {i : Nat}
def zpK (lk : Bool) (r : Res (List B)) : Res (List D) := r.bind (zipE lk)
theorem e_zp : zpF lk fs ρ = zpK lk (fs ρ) := (rfl)
theorem zpK_ok {bs : List B} : zpK lk (.ok bs) = zipE lk bs := (rfl)
theorem zpK_exc {n : Nat} : zpK lk (.exc n) = .exc n := (rfl)
def zip2K (o o' : Option (Bool × List D)) : Res (List D) := match o, o' with
  | some (_, xs), some (_, ys) => .ok (zipD xs ys)
  | _, _ => .bad
def zip3K (o o' o2 : Option (Bool × List D)) : Res (List D) := match o, o', o2 with
  | some (_, xs), some (_, ys), some (_, zs) => .ok (zip3D xs ys zs)
  | _, _, _ => .bad
theorem zip_2 : zipE lk [a, b] = zip2K (sqD lk a) (sqD lk b) := (rfl)
theorem zip_3 : zipE lk [a, b, c] = zip3K (sqD lk a) (sqD lk b) (sqD lk c) := (rfl)
theorem zip2K_ok {k1 k2 : Bool} : zip2K (some (k1, xs)) (some (k2, ys)) = .ok (zipD xs ys) := (rfl)
theorem zip3K_ok {k1 k2 k3 : Bool} : zip3K (some (k1, xs)) (some (k2, ys)) (some (k3, zs)) = .ok (zip3D xs ys zs) := (rfl)
theorem sqD_tup : sqD lk (.dat (.tup xs)) = some (false, xs) := (rfl)
theorem sqD_ctup : sqD lk (.dat (.ctup xs)) = some (false, xs) := (rfl)
theorem sqD_lst : sqD lk (.dat (.lst xs)) = some (true, xs) := (rfl)
theorem sqD_vw : sqD true (.vw (.l xs)) = some (true, xs) := (rfl)
theorem sqD_bor : sqD lk (.bor (.l xs)) = some (true, xs) := (rfl)
theorem sqD_scr {ns : List Int} : sqD lk (.scr ns) = some (true, ns.map .int) := (rfl)
def enK (lk : Bool) (r : Res (List B)) : Res (List D) := r.bind (enA lk)
theorem e_en : enF lk fs ρ = enK lk (fs ρ) := (rfl)
theorem enK_ok {bs : List B} : enK lk (.ok bs) = enA lk bs := (rfl)
theorem enK_exc {n : Nat} : enK lk (.exc n) = .exc n := (rfl)
def enO (o : Option (Bool × List D)) : Res (List D) := match o with
  | some (_, xs) => .ok (enD xs)
  | none => .bad
theorem en_1 : enA lk [a] = enO (sqD lk a) := by
  show (match tupsB a with
    | some xs => (.ok (enD xs) : Res (List D))
    | none => (match lstsB lk a with
      | some xs => .ok (enD xs)
      | none => .bad)) = enO (match tupsB a with
    | some ds => some (false, ds)
    | none => (lstsB lk a).map (true, ·))
  cases tupsB a with
  | some xs => rfl
  | none => cases lstsB lk a <;> rfl
theorem enO_ok {k1 : Bool} : enO (some (k1, xs)) = .ok (enD xs) := (rfl)
def dispK (r r' : Res B) : Res B := match r with
  | .ok a => (match r' with
    | .ok b => (match keyD (datOf (rd a)), rd b with
      | some k, .dat d => .ok (.own (.k [(k, d)]))
      | _, _ => .bad)
    | .exc c => .exc c
    | .bad => .bad)
  | .exc c => .exc c
  | .bad => .bad
theorem e_disp : dispV fk fv ρ = dispK (fk ρ) (fv ρ) := (rfl)
theorem disp_str {x : Str} {d : D} : dispK (.ok (.dat (.str x))) (.ok (.dat d)) = .ok (.own (.k [(.inr x, d)])) := (rfl)
theorem disp_int {n : Int} {d : D} : dispK (.ok (.dat (.int n))) (.ok (.dat d)) = .ok (.own (.k [(.inl n, d)])) := (rfl)
def dgetK (r r' r2 : Res B) : Res B := match r with
  | .ok a => if (dkOf (rd a)).isSome then (match r' with
    | .ok k => (match r2 with
      | .ok z => (match dgetB (rd a) (rd k), rd z with
        | some (some d), _ => .ok (.dat d)
        | some none, .dat d => .ok (.dat d)
        | _, _ => .bad)
      | .exc c => .exc c
      | .bad => .bad)
    | .exc c => .exc c
    | .bad => .bad) else .bad
  | .exc c => .exc c
  | .bad => .bad
def dgO (o : Option D) (z : B) : Res B := match o, z with
  | some d, _ => .ok (.dat d)
  | none, .dat d => .ok (.dat d)
  | _, _ => .bad
theorem e_dget : dget2V fa fk fz ρ = dgetK (fa ρ) (fk ρ) (fz ρ) := (rfl)
theorem dget_str {kvs : List (Key × D)} {x : Str} {z : B} : dgetK (.ok (.dat (.dk kvs))) (.ok (.dat (.str x))) (.ok z) = dgO (getK kvs (.inr x)) (rd z) := by
  show (match (some (getK kvs (.inr x)) : Option (Option D)), rd z with
    | some (some d), _ => (.ok (.dat d) : Res B)
    | some none, .dat d => .ok (.dat d)
    | _, _ => .bad) = _
  unfold dgO
  cases getK kvs (.inr x) with
  | none => cases rd z <;> rfl
  | some d => rfl
theorem dgO_some {d : D} {z : B} : dgO (some d) z = .ok (.dat d) := (rfl)
theorem dgO_none {d : D} : dgO none (.dat d) = .ok (.dat d) := (rfl)
def closeO (i : Nat) (ρ : Env) (o : Option (Option B)) : Env := match o with
  | some (some (.nst (.k ks) ls)) => ρ.set i (some (.own (.k (ks.zip (ls.map .lst)))))
  | _ => ρ
theorem e_close : closeE i ρ = closeO i ρ ρ[i]? := (rfl)
theorem e_closeS : closeS i f ρ = f (closeE i ρ) := (rfl)
theorem close_nst {ks : List Key} {ls : List (List D)} : closeO i ρ (some (some (.nst (.k ks) ls))) = ρ.set i (some (.own (.k (ks.zip (ls.map .lst))))) := (rfl)
theorem close_own {m : M} : closeO i ρ (some (some (.own m))) = ρ := (rfl)
end
end Fn
namespace Fn
open PySem
abbrev Stp := Str × Nat × Bool × Int
def resOne (n : Nat) (a b : Str) (w g : Int) : List (Str × Stp) := (if g < w then [(a, (b, n, true, w - g))] else []) ++ (if 0 < g then [(b, (a, n, false, g))] else [])
def resS : Nat → List (Str × Str) → List Int → List Int → List (Str × Stp)
  | n, (a, b) :: as, w :: ws, g :: gs => resOne n a b w g ++ resS (n + 1) as ws gs
  | _, _, _, _ => []
def net : List (Str × Str) → List Int → Str → Int
  | (a, b) :: as, g :: gs, k => (if a = k then g else 0) - (if b = k then g else 0) + net as gs k
  | _, _, _ => 0
def Fits (ws gs : List Int) : Prop := gs.length = ws.length ∧ ∀ (i : Nat) (w g : Int), ws[i]? = some w → gs[i]? = some g → 0 ≤ g ∧ g ≤ w
end Fn
namespace Fn
open PySem PySem.Spec PyProof.Rows L2
def stD (s : Stp) : D := .tup [.str s.1, .int (s.2.1 : Nat), .bl s.2.2.1, .int s.2.2.2]
def stepsOf (S : List (Str × Stp)) (k : Str) : List Stp := (S.filter fun p => decide (p.1 = k)).map (·.2)
theorem mem_steps {S : List (Str × Stp)} {k : Str} {s : Stp} : s ∈ stepsOf S k ↔ (k, s) ∈ S := by
  unfold stepsOf
  rw [List.mem_map]
  constructor
  · rintro ⟨⟨a, b⟩, h, rfl⟩
    have := List.mem_filter.mp h
    have e : a = k := of_decide_eq_true this.2
    subst e
    exact this.1
  · exact fun h => ⟨(k, s), List.mem_filter.mpr ⟨h, decide_eq_true rfl⟩, rfl⟩
theorem steps_snoc {S : List (Str × Stp)} {k : Str} {p : Str × Stp} : stepsOf (S ++ [p]) k = stepsOf S k ++ (if p.1 = k then [p.2] else []) := by
  unfold stepsOf
  rw [List.filter_append, List.map_append]
  by_cases e : p.1 = k
  · simp [e]
  · simp [e]
theorem kIx_at {k : Key} : ∀ {ks : List Key} {n : Nat}, kIx ks k = some n → ks[n]? = some k
  | [], _, h => by cases h
  | a :: ks, n, h => by
    unfold kIx at h
    split at h
    · cases h
      rename_i e
      simp [e]
    · cases e : kIx ks k with
      | none => rw [e] at h; cases h
      | some m =>
        rw [e] at h
        cases h
        simpa using kIx_at e
theorem kIx_snoc {k k' : Key} : ∀ {ks : List Key}, kIx (ks ++ [k]) k' = match kIx ks k' with
    | some n => some n
    | none => if k = k' then some ks.length else none
  | [] => by
    show (if k = k' then some 0 else _) = _
    unfold kIx
    split <;> rfl
  | a :: ks => by
    rw [List.cons_append]
    unfold kIx
    by_cases e : a = k'
    · rw [if_pos e, if_pos e]
    · rw [if_neg e, if_neg e, kIx_snoc]
      cases kIx ks k' with
      | some n => rfl
      | none =>
        dsimp only [Option.map]
        by_cases e2 : k = k'
        · rw [if_pos e2, if_pos e2]; rfl
        · rw [if_neg e2, if_neg e2]
def addG (G : List Key × List (List D)) (k : Str) (d : D) : List Key × List (List D) :=
  ((sdK G.1 G.2 (.inr k)).1, (sdK G.1 G.2 (.inr k)).2.1.set (sdK G.1 G.2 (.inr k)).2.2 (((sdK G.1 G.2 (.inr k)).2.1[(sdK G.1 G.2 (.inr k)).2.2]?).getD [] ++ [d]))
structure GOk (G : List Key × List (List D)) (S : List (Str × Stp)) : Prop where
  len : G.1.length = G.2.length
  le : G.1.length ≤ S.length
  some_ : ∀ (k : Str) n, kIx G.1 (.inr k) = some n → G.2[n]? = some ((stepsOf S k).map stD) ∧ stepsOf S k ≠ []
  none_ : ∀ k : Str, kIx G.1 (.inr k) = none → stepsOf S k = []
theorem GOk.nil : GOk ([], []) [] := ⟨rfl, Nat.le_refl _, (fun k n h => by cases h), fun k h => rfl⟩
theorem GOk.add {G : List Key × List (List D)} {S : List (Str × Stp)} (g : GOk G S) (p : Str × Stp) : GOk (addG G p.1 (stD p.2)) (S ++ [p]) := by
  obtain ⟨k, s⟩ := p
  cases hx : kIx G.1 (.inr k) with
  | some n =>
    have e : addG G k (stD s) = (G.1, G.2.set n ((G.2[n]?).getD [] ++ [stD s])) := by unfold addG sdK; rw [hx]
    obtain ⟨h1, h2⟩ := g.some_ k n hx
    show GOk (addG G k (stD s)) _
    rw [e, h1]
    have hn : n < G.2.length := (List.getElem?_eq_some_iff.mp h1).1
    refine ⟨by rw [List.length_set]; exact g.len, by rw [List.length_append]; have := g.le; show G.1.length ≤ _; omega, fun k' n' h => ?_, fun k' h => ?_⟩
    · rw [steps_snoc]
      obtain ⟨q1, q2⟩ := g.some_ k' n' h
      refine ⟨?_, fun z => q2 (List.append_eq_nil_iff.mp z).1⟩
      by_cases c : k = k'
      · subst c
        rw [hx] at h
        cases h
        rw [if_pos rfl, List.getElem?_set_self hn, List.map_append]
        rfl
      · have ne : n ≠ n' := fun z => by
          subst z
          have := (kIx_at hx).symm.trans (kIx_at h)
          exact c (by injection this with z; injection z)
        rw [if_neg c, List.append_nil, List.getElem?_set_ne ne]
        exact q1
    · rw [steps_snoc, g.none_ k' h]
      have c : k ≠ k' := fun z => by rw [z, h] at hx; cases hx
      rw [if_neg c]
      rfl
  | none =>
    have e : addG G k (stD s) = (G.1 ++ [.inr k], (G.2 ++ [[]]).set G.1.length [stD s]) := by
      unfold addG sdK
      rw [hx]
      show (G.1 ++ [Sum.inr k], (G.2 ++ [[]]).set G.1.length (((G.2 ++ [[]])[G.1.length]?).getD [] ++ [stD s])) = _
      rw [g.len, List.getElem?_append_right (Nat.le_refl _), Nat.sub_self]
      rfl
    have e2 : (G.2 ++ [[]]).set G.1.length [stD s] = G.2 ++ [[stD s]] := by
      rw [g.len, List.set_append_right _ _ (Nat.le_refl _), Nat.sub_self]
      rfl
    rw [e2] at e
    show GOk (addG G k (stD s)) _
    rw [e]
    have h0 := g.none_ k hx
    refine ⟨by rw [List.length_append, List.length_append, g.len]; rfl, by rw [List.length_append, List.length_append]; have := g.le; simp; omega, fun k' n' h => ?_, fun k' h => ?_⟩
    · rw [kIx_snoc] at h
      rw [steps_snoc]
      cases hk : kIx G.1 (.inr k') with
      | some m =>
        rw [hk] at h
        cases h
        obtain ⟨q1, q2⟩ := g.some_ k' _ hk
        have c : k ≠ k' := fun z => by rw [z, hk] at hx; cases hx
        rw [if_neg c, List.append_nil]
        refine ⟨?_, q2⟩
        rw [List.getElem?_append_left (List.getElem?_eq_some_iff.mp q1).1]
        exact q1
      | none =>
        rw [hk] at h
        dsimp only at h
        by_cases c : (Sum.inr k : Key) = .inr k'
        · rw [if_pos c] at h
          cases h
          cases c
          rw [if_pos rfl, h0]
          refine ⟨?_, by simp⟩
          rw [g.len, List.getElem?_append_right (Nat.le_refl _), Nat.sub_self]
          rfl
        · rw [if_neg c] at h
          cases h
    · rw [kIx_snoc] at h
      cases hk : kIx G.1 (.inr k') with
      | some m => rw [hk] at h; cases h
      | none =>
        rw [hk] at h
        dsimp only at h
        have c : k ≠ k' := fun z => by rw [z, if_pos rfl] at h; cases h
        rw [steps_snoc, g.none_ k' hk, if_neg c]
        rfl
abbrev Came := List (Str × Option (Str × Stp))
def innerC (k : Str) (L : Came) (s : Stp) : Came := if s.1 ∈ L.map (·.1) then L else L ++ [(s.1, some (k, s))]
structure BOk (S : List (Str × Stp)) (start : Str) (L : Came) : Prop where
  fst : L[0]? = some (start, none)
  nd : (L.map (·.1)).Nodup
  tree : ∀ i p, L[i]? = some p → i ≠ 0 → ∃ j f s, j < i ∧ p = (s.1, some (f, s)) ∧ (f, s) ∈ S ∧ (L.map (·.1))[j]? = some f
theorem BOk.start {S : List (Str × Stp)} {start : Str} : BOk S start [(start, none)] :=
  ⟨rfl, by simp, fun i p h hi => by
    cases i with
    | zero => exact absurd rfl hi
    | succ i => simp at h⟩
theorem BOk.inner {S : List (Str × Stp)} {start : Str} {L : Came} (b : BOk S start L) {k : Str} {s : Stp} (hk : k ∈ L.map (·.1)) (hs : (k, s) ∈ S) : BOk S start (innerC k L s) ∧ (∃ E, innerC k L s = L ++ E) ∧ s.1 ∈ (innerC k L s).map (·.1) := by
  unfold innerC
  by_cases h : s.1 ∈ L.map (·.1)
  · rw [if_pos h]
    exact ⟨b, ⟨[], by simp⟩, h⟩
  · rw [if_neg h]
    obtain ⟨j, hj, ej⟩ := List.mem_iff_getElem.mp hk
    have hl : 0 < L.length := (List.getElem?_eq_some_iff.mp b.fst).1
    refine ⟨⟨by rw [List.getElem?_append_left hl]; exact b.fst, ?_, fun i p hi h0 => ?_⟩, ⟨_, rfl⟩, by simp⟩
    · rw [List.map_append]
      exact List.nodup_append.mpr ⟨b.nd, by simp, fun a ha c hc => by
        have : c = s.1 := by simpa using hc
        subst this
        exact fun z => h (z ▸ ha)⟩
    · by_cases hlt : i < L.length
      · rw [List.getElem?_append_left hlt] at hi
        obtain ⟨j', f, s', h1, h2, h3, h4⟩ := b.tree i p hi h0
        exact ⟨j', f, s', h1, h2, h3, by rw [List.map_append, List.getElem?_append_left (List.getElem?_eq_some_iff.mp h4).1]; exact h4⟩
      · have e : i = L.length := by
          have := (List.getElem?_eq_some_iff.mp hi).1
          rw [List.length_append, List.length_singleton] at this
          omega
        subst e
        rw [List.getElem?_append_right (Nat.le_refl _), Nat.sub_self] at hi
        cases hi
        refine ⟨j, k, s, by simpa using hj, rfl, hs, ?_⟩
        rw [List.map_append, List.getElem?_append_left hj, List.getElem?_eq_getElem hj, ej]
theorem BOk.inners {S : List (Str × Stp)} {start k : Str} : ∀ {ss : List Stp} {L : Came}, BOk S start L → k ∈ L.map (·.1) → (∀ s ∈ ss, (k, s) ∈ S) → BOk S start (ss.foldl (innerC k) L) ∧ (∃ E, ss.foldl (innerC k) L = L ++ E) ∧ ∀ s ∈ ss, s.1 ∈ (ss.foldl (innerC k) L).map (·.1)
  | [], L, b, _, _ => ⟨b, ⟨[], by simp⟩, fun s h => by cases h⟩
  | s :: ss, L, b, hk, hs => by
    obtain ⟨b1, ⟨E1, e1⟩, m1⟩ := b.inner hk (hs s List.mem_cons_self)
    obtain ⟨b2, ⟨E2, e2⟩, m2⟩ := BOk.inners (ss := ss) b1 (by rw [e1, List.map_append]; exact List.mem_append_left _ hk) fun t ht => hs t (List.mem_cons_of_mem _ ht)
    refine ⟨b2, ⟨E1 ++ E2, by rw [List.foldl_cons, e2, e1, List.append_assoc]⟩, fun t ht => ?_⟩
    rw [List.foldl_cons]
    rcases List.mem_cons.mp ht with rfl | ht
    · rw [e2, List.map_append]
      exact List.mem_append_left _ m1
    · exact m2 t ht
theorem BOk.len {S : List (Str × Stp)} {start : Str} {L : Came} (b : BOk S start L) : L.length ≤ S.length + 1 := by
  have h1 : ∀ x ∈ L.map (·.1), x ∈ start :: S.map (·.2.1) := fun x hx => by
    obtain ⟨p, hp, rfl⟩ := List.mem_map.mp hx
    obtain ⟨i, hi, e⟩ := List.mem_iff_getElem.mp hp
    have hi' : L[i]? = some p := by rw [List.getElem?_eq_getElem hi, e]
    by_cases h0 : i = 0
    · subst h0
      rw [b.fst] at hi'
      cases hi'
      exact List.mem_cons_self
    · obtain ⟨j, f, s, _, rfl, h3, _⟩ := b.tree i p hi' h0
      exact List.mem_cons_of_mem _ (List.mem_map.mpr ⟨_, h3, rfl⟩)
  have := (List.Nodup.length_le_of_subset b.nd h1)
  simpa using this
def Clo (S : List (Str × Stp)) (L : Came) (at_ : Nat) : Prop := ∀ j f, j < at_ → (L.map (·.1))[j]? = some f → ∀ s, (f, s) ∈ S → s.1 ∈ L.map (·.1)
theorem Clo.step {S : List (Str × Stp)} {start : Str} {L : Came} {at_ : Nat} {k : Str} (b : BOk S start L) (c : Clo S L at_) (hk : (L.map (·.1))[at_]? = some k) : BOk S start ((stepsOf S k).foldl (innerC k) L) ∧ Clo S ((stepsOf S k).foldl (innerC k) L) (at_ + 1) ∧ ∃ E, (stepsOf S k).foldl (innerC k) L = L ++ E := by
  obtain ⟨b2, ⟨E, e⟩, m⟩ := b.inners (ss := stepsOf S k) (List.mem_of_getElem? hk) fun s hs => mem_steps.mp hs
  refine ⟨b2, fun j f hj hf s hs => ?_, E, e⟩
  have hlt : at_ < (L.map (·.1)).length := (List.getElem?_eq_some_iff.mp hk).1
  rw [e, List.map_append, List.getElem?_append_left (by omega)] at hf
  by_cases h : j < at_
  · rw [e, List.map_append]
    exact List.mem_append_left _ (c j f h hf s hs)
  · have : j = at_ := by omega
    subst this
    rw [hk] at hf
    cases hf
    exact m s (mem_steps.mpr hs)
theorem BOk.back {S : List (Str × Stp)} {start x : Str} {L : Came} (b : BOk S start L) {i : Nat} (hx : (L.map (·.1))[i]? = some x) (hne : x ≠ start) : ∃ j f s, j < i ∧ (x, some (f, s)) ∈ L ∧ s.1 = x ∧ (f, s) ∈ S ∧ (L.map (·.1))[j]? = some f := by
  rw [List.getElem?_map] at hx
  cases hp : L[i]? with
  | none => rw [hp] at hx; cases hx
  | some p =>
    rw [hp] at hx
    cases hx
    have h0 : i ≠ 0 := fun z => by
      subst z
      rw [b.fst] at hp
      cases hp
      exact hne rfl
    obtain ⟨j, f, s, h1, rfl, h3, h4⟩ := b.tree i p hp h0
    exact ⟨j, f, s, h1, List.mem_of_getElem? hp, rfl, h3, h4⟩
section
variable {i : Nat} {ρ : Env}
end
end Fn
namespace Fn
open PySem PySem.Spec PyProof.Rows L2
structure GFlow (as : List (Str × Str)) (start y : Str) (ws gs : List Int) : Prop where
  wl : ws.length = as.length
  fit : Fits ws gs
  keep : ∀ k, k ≠ start → k ≠ y → net as gs k = 0
  cut : ∃ ks : List Str, ks.Nodup ∧ start ∈ ks ∧ y ∉ ks ∧ ∀ f s, f ∈ ks → (f, s) ∈ resS 0 as ws gs → s.1 ∈ ks
def netQ : List Tie → List Rat → Str → Rat
  | t :: ts, f :: fs, k => (if t.1.1 = k then f else 0) - (if t.1.2 = k then f else 0) + netQ ts fs k
  | _, _, _ => 0
def wthS (P : Str → Bool) (ps : List Plc) (ts : List Tie) (q : Rat) : Rat := (ps.map fun p => if P p.n = true then ouS p q else inS p q).sum + (ts.map fun t => if P t.1.1 = true ∧ P t.1.2 = false then (t.2 : Rat) else 0).sum
structure WFlow (ps : List Plc) (ts : List Tie) (q : Rat) (fi ft fo : List Rat) : Prop where
  li : fi.length = ps.length
  lt : ft.length = ts.length
  lo : fo.length = ps.length
  bi : ∀ (i : Nat) (p : Plc) (f : Rat), ps[i]? = some p → fi[i]? = some f → 0 ≤ f ∧ f ≤ inS p q
  bt : ∀ (i : Nat) (t : Tie) (f : Rat), ts[i]? = some t → ft[i]? = some f → 0 ≤ f ∧ f ≤ (t.2 : Rat)
  bo : ∀ (i : Nat) (p : Plc) (f : Rat), ps[i]? = some p → fo[i]? = some f → 0 ≤ f ∧ f ≤ ouS p q
  keep : ∀ (i : Nat) (p : Plc) (a b : Rat), ps[i]? = some p → fi[i]? = some a → fo[i]? = some b → netQ ts ft p.n + b - a = 0
end Fn
namespace Fn
open PySem PySem.Spec PyProof.Rows L2
def InB (B : Int) (N : Nat) (f : Rat) : Prop := ∃ g : Int, f = Rat.divInt g B ∧ g.natAbs < 2 ^ N
theorem InB.add {B : Int} {N M : Nat} {f h : Rat} (a : InB B N f) (b : InB B M h) : InB B (max N M + 1) (f + h) := by
  obtain ⟨g, rfl, g1⟩ := a
  obtain ⟨k, rfl, k1⟩ := b
  refine ⟨g + k, ?_, Nat.lt_of_le_of_lt (Int.natAbs_add_le g k) (two_pow_add g1 k1)⟩
  simp only [Rat.divInt_eq_div, Rat.intCast_add]
  grind
theorem InB.sub {B : Int} {N M : Nat} {f h : Rat} (a : InB B N f) (b : InB B M h) : InB B (max N M + 1) (f - h) := by
  obtain ⟨g, rfl, g1⟩ := a
  obtain ⟨k, rfl, k1⟩ := b
  refine ⟨g - k, ?_, Nat.lt_of_le_of_lt (Int.natAbs_sub_le g k) (two_pow_add g1 k1)⟩
  simp only [Rat.divInt_eq_div, Rat.intCast_sub]
  grind
theorem InB.neg {B : Int} {N : Nat} {f : Rat} (a : InB B N f) : InB B N (-f) := by
  obtain ⟨g, rfl, g1⟩ := a
  refine ⟨-g, ?_, by rw [Int.natAbs_neg]; exact g1⟩
  simp only [Rat.divInt_eq_div, Rat.intCast_neg]
  grind
theorem InB.zero {B : Int} {N : Nat} : InB B N 0 := ⟨0, by rw [Rat.zero_divInt], by show 0 < 2 ^ N; exact Nat.two_pow_pos N⟩
theorem InB.up {B : Int} {N M : Nat} {f : Rat} (a : InB B N f) (h : N ≤ M) : InB B M f := by
  obtain ⟨g, e, g1⟩ := a
  exact ⟨g, e, Nat.lt_of_lt_of_le g1 (Nat.pow_le_pow_right (by decide) h)⟩
theorem InB.frB {B : Int} {N M : Nat} {f : Rat} (a : InB B N f) (hB : B ≠ 0) (hb : B.natAbs < 2 ^ M) (h : M ≤ N) : FrB f N := by
  obtain ⟨g, rfl, g1⟩ := a
  exact divInt_frB hB g1 (Nat.lt_of_lt_of_le hb (Nat.pow_le_pow_right (by decide) h))
structure GStream (ps : List Plc) (ts : List Tie) (q : Rat) (B : Int) (N : Nat) (fi ft fo : List Rat) : Prop where
  b0 : 0 < B
  bb : B.natAbs < 2 ^ N
  flow : WFlow ps ts q fi ft fo
  ni : ∀ f ∈ fi, InB B N f
  nt : ∀ f ∈ ft, InB B N f
  no : ∀ f ∈ fo, InB B N f
  le : ∀ P : Str → Bool, fi.sum ≤ wthS P ps ts q
  cut : ∃ P : Str → Bool, fi.sum = wthS P ps ts q
end Fn
namespace Fn
open PySem PySem.Spec PyProof.Rows L2
end Fn
namespace Fn
open PySem PySem.Spec PyProof.Rows L2
def lstG (bs : List B) : Res B := match bs with
  | [b] => (match dkOf b with
    | some kvs => .ok (.own (.l (kvs.map fun kv => keyB kv.1)))
    | none => lstF [b])
  | _ => .bad
theorem g_lstG {g : G} {K : PySem.W.Frag} (hK : g.K = K) : CallG g (fun vs H Q => rLstF K vs H Q ∨ rListD vs H Q) lstG := by
  subst hK
  intro σ F H vs bs Q s r p
  unfold lstG at p
  split at p
  · rename_i b
    split at p
    · rename_i kvs hk
      obtain ⟨v, rfl, rv⟩ := paired1 r
      obtain ⟨a, xs, rfl, h1, h2, h3⟩ := dkOf_ok s rv hk
      have ek : xs.map (fun kv => kV kv.1) = (kvs.map (·.1)).map kV := by rw [← h2, List.map_map]; rfl
      have eb : kvs.map (fun kv => keyB kv.1) = (kvs.map (·.1)).map keyB := by rw [List.map_map]; rfl
      have rr : RpAll g.K g.fa F (xs.map fun kv => kV kv.1) (kvs.map fun kv => keyB kv.1) := by
        rw [ek, eb]
        exact keysB_rp _
      exact .inr ⟨a, xs, rfl, h1, p.newL s rr⟩
    · exact .inl (g_lstF rfl σ F H vs _ Q s r p)
  · exact p.elim
section
variable {X : Cx} {g : G} {cls : Nat → Value} {k : Nat} {tab : List En} {N : List Str} {sc : Scope} {bt : Bt}
theorem CT.lstG (C : CT X g cls k tab N sc bt) (hh : bt.hot = false := by rfl) : BiW X g "list" Fn.lstG := ⟨.inr ⟨_, _, CallR.or call_list_of (call_list_dK (C.calm hh)), boot_list, g_lstG C.hK⟩⟩
end
theorem lstG_dk {kvs : List (Key × D)} : Fn.lstG [.dat (.dk kvs)] = .ok (.own (.l (kvs.map fun kv => keyB kv.1))) := (rfl)
theorem lstG_tup {ds : List D} : Fn.lstG [.dat (.tup ds)] = .ok (.own (.l ds)) := (rfl)
theorem lstG_lst {ds : List D} : Fn.lstG [.dat (.lst ds)] = .ok (.own (.l ds)) := (rfl)
theorem lstG_vw {ds : List D} : Fn.lstG [.vw (.l ds)] = .ok (.own (.l ds)) := (rfl)
theorem lstG_bor {ds : List D} : Fn.lstG [.bor (.l ds)] = .ok (.own (.l ds)) := (rfl)
end Fn
namespace Fn
open PySem PySem.Spec PyProof.Rows L2
def gapP (P : Str → Bool) (q : Rat) : List Plc → List Rat → List Rat → Rat
  | p :: ps, a :: fi, b :: fo => (if P p.n = true then ouS p q - b else inS p q - a) + gapP P q ps fi fo
  | _, _, _ => 0
def gapT (P : Str → Bool) : List Tie → List Rat → Rat
  | t :: ts, f :: ft => (if P t.1.1 = true then (if P t.1.2 = true then 0 else (t.2 : Rat) - f) else (if P t.1.2 = true then f else 0)) + gapT P ts ft
  | _, _ => 0
theorem sum_one (P : Str → Bool) (f : Rat) {k : Str} : ∀ {ps : List Plc}, (ps.map Plc.n).Nodup → k ∈ ps.map Plc.n → (ps.map fun p => if P p.n = true then (if k = p.n then f else 0) else 0).sum = if P k = true then f else 0
  | [], _, h => by simp at h
  | p :: ps, nd, h => by
    rw [List.map_cons, List.nodup_cons] at nd
    rw [List.map_cons, List.sum_cons]
    by_cases e : k = p.n
    · subst e
      have z : (ps.map fun x => if P x.n = true then (if p.n = x.n then f else 0) else 0).sum = 0 := by
        have : ∀ l : List Plc, (∀ x ∈ l, p.n ≠ x.n) → (l.map fun x => if P x.n = true then (if p.n = x.n then f else 0) else 0).sum = 0 := by
          intro l
          induction l with
          | nil => intro _; rfl
          | cons x l ih =>
            intro hx
            rw [List.map_cons, List.sum_cons, ih fun y hy => hx y (List.mem_cons_of_mem _ hy), if_neg (hx x List.mem_cons_self)]
            split <;> grind
        exact this ps fun x hx e => nd.1 (e ▸ List.mem_map_of_mem hx)
      rw [z, if_pos rfl]
      split <;> grind
    · have h' : k ∈ ps.map Plc.n := by
        rcases List.mem_cons.mp (by rw [← List.map_cons]; exact h) with h | h
        · exact absurd h e
        · exact h
      rw [if_neg e, sum_one P f nd.2 h']
      split <;> split <;> grind
theorem sum_addQ {α : Type} (f g : α → Rat) : ∀ l : List α, (l.map fun x => f x + g x).sum = (l.map f).sum + (l.map g).sum
  | [] => by simp <;> grind
  | x :: l => by
    rw [List.map_cons, List.map_cons, List.map_cons, List.sum_cons, List.sum_cons, List.sum_cons, sum_addQ f g l]
    grind
def crossT (P : Str → Bool) : List Tie → List Rat → Rat
  | t :: ts, f :: ft => (if P t.1.1 = true then f else 0) - (if P t.1.2 = true then f else 0) + crossT P ts ft
  | _, _ => 0
theorem sum_zero0 {P : Str → Bool} : ∀ ps : List Plc, (ps.map fun p => if P p.n = true then (0 : Rat) else 0).sum = 0
  | [] => rfl
  | p :: ps => by
    rw [List.map_cons, List.sum_cons, sum_zero0 ps]
    split <;> grind
theorem sum_net {P : Str → Bool} {ps : List Plc} (nd : (ps.map Plc.n).Nodup) : ∀ {ts : List Tie} {ft : List Rat}, (∀ t ∈ ts, t.1.1 ∈ ps.map Plc.n ∧ t.1.2 ∈ ps.map Plc.n) → (ps.map fun p => if P p.n = true then netQ ts ft p.n else 0).sum = crossT P ts ft
  | [], _, _ => by
    exact sum_zero0 ps
  | t :: ts, [], _ => by
    exact sum_zero0 ps
  | t :: ts, f :: ft, h => by
    obtain ⟨h1, h2⟩ := h t List.mem_cons_self
    have ih := sum_net (P := P) nd (ft := ft) fun u hu => h u (List.mem_cons_of_mem _ hu)
    have s1 := sum_one P f nd h1
    have s2 := sum_one P (-f) nd h2
    show _ = (if P t.1.1 = true then f else 0) - (if P t.1.2 = true then f else 0) + crossT P ts ft
    rw [← ih, ← s1]
    have e : (fun p : Plc => if P p.n = true then netQ (t :: ts) (f :: ft) p.n else 0) = fun p : Plc => ((if P p.n = true then (if t.1.1 = p.n then f else 0) else 0) + (if P p.n = true then (if t.1.2 = p.n then -f else 0) else 0)) + (if P p.n = true then netQ ts ft p.n else 0) := by
      funext p
      show (if P p.n = true then (if t.1.1 = p.n then f else 0) - (if t.1.2 = p.n then f else 0) + netQ ts ft p.n else 0) = _
      cases P p.n
      · simp only [Bool.false_eq_true, if_false]; grind
      · simp only [if_true]
        by_cases c1 : t.1.1 = p.n <;> by_cases c2 : t.1.2 = p.n <;> simp only [c1, c2, if_true, if_false] <;> grind
    rw [e, sum_addQ, sum_addQ, s2]
    split <;> grind
theorem gap_places {P : Str → Bool} {q : Rat} {N : Str → Rat} : ∀ {ps : List Plc} {fi fo : List Rat}, fi.length = ps.length → fo.length = ps.length → (∀ (i : Nat) (p : Plc) (a b : Rat), ps[i]? = some p → fi[i]? = some a → fo[i]? = some b → N p.n + b - a = 0) →
    (ps.map fun p => if P p.n = true then ouS p q else inS p q).sum - fi.sum = gapP P q ps fi fo - (ps.map fun p => if P p.n = true then N p.n else 0).sum
  | [], [], _, _, _, _ => by simp [gapP]
  | [], _ :: _, _, h, _, _ => by simp at h
  | _ :: _, [], _, h, _, _ => by simp at h
  | _ :: _, _ :: _, [], _, h, _ => by simp at h
  | p :: ps, a :: fi, b :: fo, h1, h2, h => by
    have ih := gap_places (P := P) (q := q) (N := N) (ps := ps) (fi := fi) (fo := fo) (by simpa using h1) (by simpa using h2) fun i p a b e1 e2 e3 => h (i + 1) p a b (by simpa using e1) (by simpa using e2) (by simpa using e3)
    have h0 := h 0 p a b rfl rfl rfl
    simp only [List.map_cons, List.sum_cons, gapP]
    split <;> grind
theorem gap_ties {P : Str → Bool} : ∀ {ts : List Tie} {ft : List Rat}, ft.length = ts.length → (ts.map fun t => if P t.1.1 = true ∧ P t.1.2 = false then (t.2 : Rat) else 0).sum = gapT P ts ft + crossT P ts ft
  | [], [], _ => by simp [gapT, crossT] <;> grind
  | [], _ :: _, h => by simp at h
  | _ :: _, [], h => by simp at h
  | t :: ts, f :: ft, h => by
    have ih := gap_ties (P := P) (ts := ts) (ft := ft) (by simpa using h)
    simp only [List.map_cons, List.sum_cons, gapT, crossT, ih]
    cases P t.1.1 <;> cases P t.1.2 <;> simp <;> grind
theorem gap_eq {top : Int} {ps : List Plc} {ts : List Tie} (h : WebOk top ps ts) {q : Rat} {fi ft fo : List Rat} (f : WFlow ps ts q fi ft fo) (P : Str → Bool) : wthS P ps ts q - fi.sum = gapP P q ps fi fo + gapT P ts ft := by
  have e1 := gap_places (P := P) (q := q) (N := netQ ts ft) f.li f.lo f.keep
  have e2 := gap_ties (P := P) f.lt
  have e3 := sum_net (P := P) (ft := ft) h.nm.nd (ts := ts) fun t ht => ⟨(h.ti t ht).l, (h.ti t ht).r⟩
  unfold wthS
  grind
def stI (q : Rat) (ps : List Plc) (fi : List Rat) : List Str := ((ps.zip fi).filter fun z => decide (z.2 < inS z.1 q)).map fun z => z.1.n
def stO (q : Rat) (ps : List Plc) (fo : List Rat) : List Str := ((ps.zip fo).filter fun z => decide (z.2 < ouS z.1 q)).map fun z => z.1.n
def wayOne (z : Tie × Rat) : List (Str × Str) := (if z.2 < (z.1.2 : Rat) then [z.1.1] else []) ++ (if 0 < z.2 then [(z.1.1.2, z.1.1.1)] else [])
def waysL (ts : List Tie) (ft : List Rat) : List (Str × Str) := (ts.zip ft).flatMap wayOne
def flipL (ws : List (Str × Str)) : List (Str × Str) := ws.map fun w => (w.2, w.1)
theorem mem_flipL {ws : List (Str × Str)} {a b : Str} : (a, b) ∈ flipL ws ↔ (b, a) ∈ ws := by
  unfold flipL
  rw [List.mem_map]
  exact ⟨fun ⟨⟨u, v⟩, h, e⟩ => by cases e; exact h, fun h => ⟨(b, a), h, rfl⟩⟩
structure Tight (ps : List Plc) (ts : List Tie) (q : Rat) (fi ft fo : List Rat) (P : Str → Bool) : Prop where
  i : ∀ x ∈ stI q ps fi, P x = true
  w : ∀ a b, (a, b) ∈ waysL ts ft → P a = true → P b = true
  o : ∀ x ∈ stO q ps fo, P x = false
theorem gapP_nn {P : Str → Bool} {q : Rat} : ∀ {ps : List Plc} {fi fo : List Rat}, (∀ p a, (p, a) ∈ ps.zip fi → a ≤ inS p q) → (∀ p a, (p, a) ∈ ps.zip fo → a ≤ ouS p q) → 0 ≤ gapP P q ps fi fo
  | [], _, _, _, _ => by unfold gapP; grind
  | _ :: _, [], _, _, _ => by unfold gapP; grind
  | _ :: _, _ :: _, [], _, _ => by unfold gapP; grind
  | p :: ps, a :: fi, b :: fo, h1, h2 => by
    have ih := gapP_nn (P := P) (q := q) (ps := ps) (fi := fi) (fo := fo) (fun p a h => h1 p a (List.mem_cons_of_mem _ h)) fun p a h => h2 p a (List.mem_cons_of_mem _ h)
    have a1 := h1 p a List.mem_cons_self
    have a2 := h2 p b List.mem_cons_self
    unfold gapP
    split <;> grind
theorem gapT_nn {P : Str → Bool} : ∀ {ts : List Tie} {ft : List Rat}, (∀ t f, (t, f) ∈ ts.zip ft → 0 ≤ f ∧ f ≤ (t.2 : Rat)) → 0 ≤ gapT P ts ft
  | [], _, _ => by unfold gapT; grind
  | _ :: _, [], _ => by unfold gapT; grind
  | t :: ts, f :: ft, h => by
    have ih := gapT_nn (P := P) (ts := ts) (ft := ft) fun t f z => h t f (List.mem_cons_of_mem _ z)
    have a := h t f List.mem_cons_self
    unfold gapT
    split <;> split <;> grind
theorem zip_at {α β : Type} {as : List α} {bs : List β} {a : α} {b : β} (h : (a, b) ∈ as.zip bs) : ∃ i : Nat, as[i]? = some a ∧ bs[i]? = some b := by
  obtain ⟨i, hi, e⟩ := List.mem_iff_getElem.mp h
  have h1 : (as.zip bs)[i]? = some (a, b) := by rw [List.getElem?_eq_getElem hi, e]
  rw [List.getElem?_zip_eq_some] at h1
  exact ⟨i, h1.1, h1.2⟩
section
variable {top : Int} {ps : List Plc} {ts : List Tie} {q : Rat} {fi ft fo : List Rat}
theorem WFlow.zi (f : WFlow ps ts q fi ft fo) {p : Plc} {a : Rat} (h : (p, a) ∈ ps.zip fi) : 0 ≤ a ∧ a ≤ inS p q := by
  obtain ⟨i, h1, h2⟩ := zip_at h
  exact f.bi i p a h1 h2
theorem WFlow.zo (f : WFlow ps ts q fi ft fo) {p : Plc} {a : Rat} (h : (p, a) ∈ ps.zip fo) : 0 ≤ a ∧ a ≤ ouS p q := by
  obtain ⟨i, h1, h2⟩ := zip_at h
  exact f.bo i p a h1 h2
theorem WFlow.zt (f : WFlow ps ts q fi ft fo) {t : Tie} {a : Rat} (h : (t, a) ∈ ts.zip ft) : 0 ≤ a ∧ a ≤ (t.2 : Rat) := by
  obtain ⟨i, h1, h2⟩ := zip_at h
  exact f.bt i t a h1 h2
theorem WFlow.le (f : WFlow ps ts q fi ft fo) (h : WebOk top ps ts) (P : Str → Bool) : fi.sum ≤ wthS P ps ts q := by
  have e := gap_eq h f P
  have g1 := gapP_nn (P := P) (q := q) (ps := ps) (fi := fi) (fo := fo) (fun p a z => (f.zi z).2) fun p a z => (f.zo z).2
  have g2 := gapT_nn (P := P) (ts := ts) (ft := ft) fun t a z => f.zt z
  grind
structure LedP (ss : List Str) (ws : List (Str × Str)) (P : Str → Bool) : Prop where
  st : ∀ x ∈ ss, P x = true
  cl : ∀ a b, (a, b) ∈ ws → P a = true → P b = true
  mn : ∀ Q : Str → Bool, (∀ x ∈ ss, Q x = true) → (∀ a b, (a, b) ∈ ws → Q a = true → Q b = true) → ∀ x, P x = true → Q x = true
theorem LedP.ext {ss : List Str} {ws : List (Str × Str)} {P Q : Str → Bool} (a : LedP ss ws P) (b : LedP ss ws Q) : P = Q := by
  funext x
  cases h : P x with
  | true => exact (a.mn Q b.st b.cl x h).symm
  | false =>
    cases h' : Q x with
    | false => rfl
    | true => have := b.mn P a.st a.cl x h'; rw [h] at this; cases this
theorem led_out {P Q S : Str → Bool} (hQ : LedP (stO q ps fo) (flipL (waysL ts ft)) Q) (hS : Tight ps ts q fi ft fo S) {x : Str} (h : Q x = true) : S x = false := by
  have := hQ.mn (fun x => !S x) (fun x hx => by rw [hS.o x hx]; rfl) (fun a b hab hn => by
    have z := hS.w b a (mem_flipL.mp hab)
    cases c : S b with
    | false => rfl
    | true =>
      rw [z c] at hn
      cases hn) x h
  cases c : S x with
  | false => rfl
  | true => rw [c] at this; cases this
theorem near {P Q S : Str → Bool} (hP : LedP (stI q ps fi) (waysL ts ft) P) (hQ : LedP (stO q ps fo) (flipL (waysL ts ft)) Q) (hS : Tight ps ts q fi ft fo S) : Tight ps ts q fi ft fo P ∧ Tight ps ts q fi ft fo (fun x => !Q x) ∧ (∀ x, P x = true → S x = true) ∧ ∀ x, S x = true → Q x = false := by
  have sub : ∀ x, P x = true → S x = true := hP.mn S hS.i hS.w
  have out : ∀ x, S x = true → Q x = false := fun x h => by
    cases c : Q x with
    | false => rfl
    | true => have := led_out (P := P) hQ hS c; rw [h] at this; cases this
  refine ⟨⟨hP.st, hP.cl, fun x hx => ?_⟩, ⟨fun x hx => ?_, fun a b hab hn => ?_, fun x hx => ?_⟩, sub, out⟩
  · cases c : P x with
    | false => rfl
    | true => have := sub x c; rw [hS.o x hx] at this; cases this
  · show (!Q x) = true
    rw [out x (hS.i x hx)]
    rfl
  · show (!Q b) = true
    cases c : Q b with
    | false => rfl
    | true =>
      have := hQ.cl b a (mem_flipL.mpr hab) c
      have hn : (!Q a) = true := hn
      rw [this] at hn
      cases hn
  · show (!Q x) = false
    rw [hQ.st x hx]
    rfl
end
theorem Strict.filter {as : List Str} (h : Strict as) (P : Str → Bool) : Strict (as.filter P) := List.Pairwise.sublist List.filter_sublist h
section
variable {α : Type} {tg : Tg} {t : Env → Res Bool} {fe : Env → Res B} {ρ : Env}
end
structure VStream (ps : List Plc) (ts : List Tie) (q : Rat) (B : Int) (N : Nat) (fi ft fo : List Rat) : Prop where
  b0 : 0 < B
  bb : B.natAbs < 2 ^ N
  flow : WFlow ps ts q fi ft fo
  ni : ∀ f ∈ fi, InB B N f
  nt : ∀ f ∈ ft, InB B N f
  no : ∀ f ∈ fo, InB B N f
section
variable {ps : List Plc} {ts : List Tie} {q : Rat} {B : Int} {N : Nat} {fi ft fo : List Rat}
theorem GStream.v (g : GStream ps ts q B N fi ft fo) : VStream ps ts q B N fi ft fo := ⟨g.b0, g.bb, g.flow, g.ni, g.nt, g.no⟩
theorem VStream.g (g : VStream ps ts q B N fi ft fo) {top : Int} (h : WebOk top ps ts) (c : ∃ P : Str → Bool, fi.sum = wthS P ps ts q) : GStream ps ts q B N fi ft fo := ⟨g.b0, g.bb, g.flow, g.ni, g.nt, g.no, g.flow.le h, c⟩
theorem VStream.fr (g : VStream ps ts q B N fi ft fo) {f : Rat} (a : InB B N f) : FrB f N := a.frB (by have := g.b0; omega) g.bb (Nat.le_refl _)
end
structure LeastOf (ps : List Plc) (ts : List Tie) (q : Rat) (w : Rat) (P F : Str → Bool) : Prop where
  le : ∀ S : Str → Bool, w ≤ wthS S ps ts q
  p : w = wthS P ps ts q
  f : w = wthS F ps ts q
  near : ∀ S : Str → Bool, w = wthS S ps ts q → ∀ x, P x = true → S x = true
  far : ∀ S : Str → Bool, w = wthS S ps ts q → ∀ x, S x = true → F x = true
theorem map_at {α β : Type} {f : α → β} {l : List α} {i : Nat} {b : β} (h : (l.map f)[i]? = some b) : ∃ a, l[i]? = some a ∧ b = f a := by
  rw [List.getElem?_map] at h
  cases e : l[i]? with
  | none => rw [e] at h; cases h
  | some a => rw [e] at h; cases h; exact ⟨a, rfl, rfl⟩
end Fn
namespace Fn
open PySem PySem.Spec PyProof.Rows L2
section
variable {X : Cx} {g : G} {cls : Nat → Value} {k : Nat} {tab : List En} {N : List Str} {sc : Scope} {bt : Bt} {es : List Expr} {fa : Env → Res B}
end
end Fn
namespace Fn
open PySem PySem.Spec PyProof.Rows L2
theorem two_pow_mul {a b n m : Nat} (h1 : a < 2 ^ n) (h2 : b < 2 ^ m) : a * b < 2 ^ (n + m) := pow_mul_lt h1 h2
theorem InB.mulr {B : Int} {N M : Nat} {f : Rat} (a : InB B N f) {k d : Int} (hk : k.natAbs < 2 ^ M) : InB (B * d) (N + M) (f * Rat.divInt k d) := by
  obtain ⟨g, rfl, h⟩ := a
  refine ⟨g * k, ?_, by rw [Int.natAbs_mul]; exact two_pow_mul h hk⟩
  rw [Rat.divInt_mul_divInt]
section
variable {ps : List Plc} {ts : List Tie} {q : Rat}
theorem netQ_mul {r : Rat} {k : Str} : ∀ {ts : List Tie} {fs : List Rat}, netQ ts (fs.map (· * r)) k = netQ ts fs k * r
  | [], _ => by simp [netQ] <;> grind
  | _ :: _, [] => by simp [netQ] <;> grind
  | t :: ts, f :: fs => by
    have ih := netQ_mul (r := r) (k := k) (ts := ts) (fs := fs)
    simp only [List.map_cons, netQ, ih]
    split <;> split <;> grind
theorem mul_bd {f s r : Rat} (h : 0 ≤ f ∧ f ≤ s) (r0 : 0 ≤ r) (r1 : r ≤ 1) : 0 ≤ f * r ∧ f * r ≤ s := by
  have a := Rat.mul_nonneg h.1 r0
  have b := Rat.mul_le_mul_of_nonneg_left r1 h.1
  constructor <;> grind
theorem WFlow.part {fi ft fo : List Rat} (w : WFlow ps ts q fi ft fo) {r : Rat} (r0 : 0 ≤ r) (r1 : r ≤ 1) : WFlow ps ts q (fi.map (· * r)) (ft.map (· * r)) (fo.map (· * r)) := by
  refine ⟨by rw [List.length_map]; exact w.li, by rw [List.length_map]; exact w.lt, by rw [List.length_map]; exact w.lo, fun i p f h1 h2 => ?_, fun i p f h1 h2 => ?_, fun i p f h1 h2 => ?_, fun i p a b h1 h2 h3 => ?_⟩
  · obtain ⟨g, h3, rfl⟩ := map_at h2
    exact mul_bd (w.bi i p g h1 h3) r0 r1
  · obtain ⟨g, h3, rfl⟩ := map_at h2
    exact mul_bd (w.bt i p g h1 h3) r0 r1
  · obtain ⟨g, h3, rfl⟩ := map_at h2
    exact mul_bd (w.bo i p g h1 h3) r0 r1
  · obtain ⟨x, h4, rfl⟩ := map_at h2
    obtain ⟨y, h5, rfl⟩ := map_at h3
    have := w.keep i p x y h1 h4 h5
    rw [netQ_mul]
    grind
theorem VStream.part {B : Int} {N M : Nat} {fi ft fo : List Rat} (g : VStream ps ts q B N fi ft fo) {k d : Int} (k0 : 0 ≤ k) (kd : k ≤ d) (d0 : 0 < d) (hd : d.natAbs < 2 ^ M) : VStream ps ts q (B * d) (N + M) (fi.map (· * Rat.divInt k d)) (ft.map (· * Rat.divInt k d)) (fo.map (· * Rat.divInt k d)) := by
  have hk : k.natAbs < 2 ^ M := by omega
  refine ⟨Int.mul_pos g.b0 d0, by rw [Int.natAbs_mul]; exact two_pow_mul g.bb hd, g.flow.part (divInt_nn k0 d0) (by have := divInt_le (t := 1) (show k ≤ 1 * d by omega) d0; exact this), fun f hf => ?_, fun f hf => ?_, fun f hf => ?_⟩
  · obtain ⟨x, hx, rfl⟩ := List.mem_map.mp hf
    exact (g.ni x hx).mulr hk
  · obtain ⟨x, hx, rfl⟩ := List.mem_map.mp hf
    exact (g.nt x hx).mulr hk
  · obtain ⟨x, hx, rfl⟩ := List.mem_map.mp hf
    exact (g.no x hx).mulr hk
theorem WebOk.drop {top : Int} (h : WebOk top ps ts) (k : Nat) : WebOk top ps (ts.take k ++ ts.drop (k + 1)) := by
  have sub : List.Sublist (ts.take k ++ ts.drop (k + 1)) ts := by
    conv => rhs; rw [← List.take_append_drop k ts]
    refine List.Sublist.append (List.Sublist.refl _) ?_
    rw [show ts.drop (k + 1) = (ts.drop k).drop 1 by rw [List.drop_drop]]
    exact List.drop_sublist ..
  exact ⟨h.t1, h.t9, h.nm, h.pos, h.le, h.pl, fun t ht => h.ti t (sub.subset ht), Nat.le_trans sub.length_le h.few, h.tnd.sublist (sub.map _), h.tsr.sublist ((sub.map _).map _)⟩
theorem netQ_skip {n : Str} : ∀ (k : Nat) {ts : List Tie} {fs : List Rat}, k < ts.length → fs.length = (ts.take k ++ ts.drop (k + 1)).length → netQ ts (fs.take k ++ 0 :: fs.drop k) n = netQ (ts.take k ++ ts.drop (k + 1)) fs n
  | 0, t :: ts, fs, _, _ => by
    show (if t.1.1 = n then (0 : Rat) else 0) - (if t.1.2 = n then 0 else 0) + netQ ts fs n = netQ ts fs n
    split <;> split <;> grind
  | 0, [], _, h, _ => by simp at h
  | k + 1, [], _, h, _ => by simp at h
  | k + 1, t :: ts, [], h, e => by simp at e
  | k + 1, t :: ts, f :: fs, h, e => by
    have ih := netQ_skip (n := n) k (ts := ts) (fs := fs) (by simpa using h) (by simpa using e)
    show (if t.1.1 = n then f else 0) - (if t.1.2 = n then f else 0) + netQ ts (fs.take k ++ 0 :: fs.drop k) n = (if t.1.1 = n then f else 0) - (if t.1.2 = n then f else 0) + netQ (ts.take k ++ ts.drop (k + 1)) fs n
    rw [ih]
theorem skip_len (k : Nat) {fs : List Rat} {n : Nat} (hk : k < ts.length) (h : fs.length = (ts.take k ++ ts.drop (k + 1)).length) : (fs.take k ++ 0 :: fs.drop k).length = ts.length := by
  rw [List.length_append, List.length_take, List.length_drop] at h
  rw [List.length_append, List.length_cons, List.length_take, List.length_drop]
  omega
theorem WFlow.skip {top : Int} (h : WebOk top ps ts) {k : Nat} (hk : k < ts.length) {fi ft fo : List Rat} (w : WFlow ps (ts.take k ++ ts.drop (k + 1)) q fi ft fo) : WFlow ps ts q fi (ft.take k ++ 0 :: ft.drop k) fo := by
  have hl := w.lt
  have hl' := hl
  rw [List.length_append, List.length_take, List.length_drop] at hl'
  refine ⟨w.li, skip_len (n := 0) k hk hl, w.lo, w.bi, fun i t f h1 h2 => ?_, w.bo, fun i p a b h1 h2 h3 => ?_⟩
  · have tpos : (0 : Rat) ≤ (t.2 : Rat) := by
      have := (h.ti t (List.mem_of_getElem? h1)).lo
      have := Rat.intCast_le_intCast.mpr (show (0 : Int) ≤ t.2 by omega)
      simpa using this
    by_cases c1 : i < k
    · rw [List.getElem?_append_left (by rw [List.length_take]; omega), List.getElem?_take_of_lt c1] at h2
      exact w.bt i t f (by rw [List.getElem?_append_left (by rw [List.length_take]; omega), List.getElem?_take_of_lt c1]; exact h1) h2
    · rw [List.getElem?_append_right (by rw [List.length_take]; omega), List.length_take, show min k ft.length = k by omega] at h2
      by_cases c2 : i = k
      · subst c2
        rw [Nat.sub_self] at h2
        cases h2
        exact ⟨by grind, tpos⟩
      · rw [show i - k = (i - k - 1) + 1 by omega, List.getElem?_cons_succ, List.getElem?_drop, show k + (i - k - 1) = i - 1 by omega] at h2
        exact w.bt (i - 1) t f (by rw [List.getElem?_append_right (by rw [List.length_take]; omega), List.length_take, show min k ts.length = k by omega, List.getElem?_drop, show k + 1 + (i - 1 - k) = i by omega]; exact h1) h2
  · rw [netQ_skip k hk hl]
    exact w.keep i p a b h1 h2 h3
theorem VStream.skip {top : Int} (h : WebOk top ps ts) {k : Nat} (hk : k < ts.length) {B : Int} {N : Nat} {fi ft fo : List Rat} (g : VStream ps (ts.take k ++ ts.drop (k + 1)) q B N fi ft fo) : VStream ps ts q B N fi (ft.take k ++ 0 :: ft.drop k) fo := by
  refine ⟨g.b0, g.bb, g.flow.skip h hk, g.ni, fun f hf => ?_, g.no⟩
  rcases List.mem_append.mp hf with hf | hf
  · exact g.nt f (List.mem_of_mem_take hf)
  · rcases List.mem_cons.mp hf with rfl | hf
    · exact InB.zero
    · exact g.nt f (List.mem_of_mem_drop hf)
end
end Fn
namespace Fn
open PySem PySem.Spec PyProof.Rows L2
structure Jb where
  n : Str
  g : Int
  w : Int
  ws : List Str
structure Tl where
  n : Str
  c : Int
  f : Int
structure HouseOk (top : Int) (js : List Jb) (ls : List Tl) : Prop where
  t1 : 1 ≤ top
  t9 : top ≤ 9
  jn : Nms (js.map Jb.n) js.length
  ln : Nms (ls.map Tl.n) ls.length
  un : ∀ x ∈ js.map Jb.n, x ∉ ls.map Tl.n
  pos : 0 < js.length + ls.length
  le : js.length + ls.length ≤ 8
  jg : ∀ j ∈ js, 0 ≤ j.g ∧ j.g ≤ 99 ∧ 0 ≤ j.w ∧ j.w ≤ 99 ∧ j.ws.Nodup ∧ ∀ x ∈ j.ws, x ∈ ls.map Tl.n
  lg : ∀ t ∈ ls, 0 ≤ t.f ∧ t.f ≤ 99 ∧ t.f * top ≤ t.c ∧ t.c ≤ 999
  few : (js.flatMap Jb.ws).length ≤ 16
theorem sum_perm {α : Type} {f : α → Rat} {as bs : List α} (h : as.Perm bs) : (as.map f).sum = (bs.map f).sum := by
  induction h with
  | nil => rfl
  | cons x _ ih => rw [List.map_cons, List.map_cons, List.sum_cons, List.sum_cons, ih]
  | swap x y l => simp only [List.map_cons, List.sum_cons]; grind
  | trans _ _ i1 i2 => rw [i1, i2]
section
variable {top : Int} {js : List Jb} {ls : List Tl} {ps : List Plc} {ts : List Tie} {q : Rat}
end
end Fn
namespace Fn
open PySem PySem.Spec PyProof.Rows L2
def rnP (r : Str → Str) (p : Plc) : Plc := ⟨r p.n, p.a, p.b, p.c, p.d⟩
def rnT (r : Str → Str) (t : Tie) : Tie := ((r t.1.1, r t.1.2), t.2)
section
variable {r : Str → Str} {ps ps' : List Plc} {ts ts' : List Tie} {q : Rat}
def netS (h : Tie → Rat) (ts : List Tie) (k : Str) : Rat := (ts.map fun t => (if t.1.1 = k then h t else 0) - (if t.1.2 = k then h t else 0)).sum
theorem netQ_S {h : Tie → Rat} {k : Str} : ∀ {ts : List Tie}, netQ ts (ts.map h) k = netS h ts k
  | [] => by simp [netQ, netS]
  | t :: ts => by
    have ih := netQ_S (h := h) (k := k) (ts := ts)
    unfold netS at ih ⊢
    rw [List.map_cons, List.map_cons, List.sum_cons, ← ih]
    rfl
def atN (ns : List Str) (fs : List Rat) (x : Str) : Rat := fs.getD (posN ns x) 0
def pairIx (qs : List (Str × Str)) (p : Str × Str) : Nat := (ixOf (qs.map pD) (pD p)).getD 0
def atP' (qs : List (Str × Str)) (fs : List Rat) (p : Str × Str) : Rat := fs.getD (pairIx qs p) 0
theorem ix_pairs {qs : List (Str × Str)} {p : Str × Str} (h : p ∈ qs) : ∃ hl : pairIx qs p < qs.length, qs[pairIx qs p] = p ∧ ixOf (qs.map pD) (pD p) = some (pairIx qs p) := by
  have ev : ∀ y : Str × Str, PyData.eqv (toPy (pD y)) (toPy (pD p)) = decide (y = p) := fun y => by
    cases e : decide (y = p) with
    | true => exact (eqv_pur (a := pD y) (b := pD p) rfl rfl).mpr (by rw [of_decide_eq_true e])
    | false =>
      rw [← Bool.not_eq_true]
      intro z
      have z := (eqv_pur (a := pD y) (b := pD p) rfl rfl).mp z
      have : y = p := by
        obtain ⟨a, b⟩ := y
        obtain ⟨c, d⟩ := p
        injection z with z
        injection z with z1 z2
        injection z1 with z1
        injection z2 with z2
        injection z2 with z2
        exact Prod.ext z1 z2
      exact of_decide_eq_false e this
  cases e : ixOf (qs.map pD) (pD p) with
  | none =>
    have := List.findIdx?_eq_none_iff.mp e (pD p) (List.mem_map.mpr ⟨p, h, rfl⟩)
    rw [ev] at this
    simp at this
  | some i =>
    have hp : pairIx qs p = i := by unfold pairIx; rw [e]; rfl
    obtain ⟨hl, h1, h2⟩ := List.findIdx?_eq_some_iff_getElem.mp e
    rw [List.length_map] at hl
    rw [hp]
    refine ⟨hl, ?_, rfl⟩
    rw [List.getElem_map, ev, decide_eq_true_eq] at h1
    exact h1
theorem atN_get {ns : List Str} {fs : List Rat} {x : Str} (hl : fs.length = ns.length) (h : x ∈ ns) : fs[posN ns x]? = some (atN ns fs x) := by
  obtain ⟨h1, _, _⟩ := ix_txs h
  unfold atN
  rw [List.getD_eq_getElem?_getD, List.getElem?_eq_getElem (by omega)]
  rfl
theorem atP_get {qs : List (Str × Str)} {fs : List Rat} {p : Str × Str} (hl : fs.length = qs.length) (h : p ∈ qs) : fs[pairIx qs p]? = some (atP' qs fs p) := by
  obtain ⟨h1, _, _⟩ := ix_pairs h
  unfold atP'
  rw [List.getD_eq_getElem?_getD, List.getElem?_eq_getElem (by omega)]
  rfl
theorem map_atN {fs : List Rat} (nd : (ps'.map Plc.n).Nodup) (hl : fs.length = ps'.length) : fs = ps'.map fun p => atN (ps'.map Plc.n) fs p.n := by
  apply List.ext_getElem?
  intro i
  rw [List.getElem?_map]
  by_cases hi : i < ps'.length
  · rw [List.getElem?_eq_getElem (show i < fs.length by omega), List.getElem?_eq_getElem hi]
    show _ = some (atN (ps'.map Plc.n) fs ps'[i].n)
    have hm : ps'[i].n ∈ ps'.map Plc.n := List.mem_map_of_mem (List.getElem_mem hi)
    obtain ⟨h1, h2, _⟩ := ix_txs hm
    have e : posN (ps'.map Plc.n) ps'[i].n = i := by
      refine (List.getElem_inj (h₀ := h1) (h₁ := by rw [List.length_map]; exact hi) nd).mp ?_
      rw [h2, List.getElem_map]
    have := atN_get (fs := fs) (by rw [List.length_map]; exact hl) hm
    rw [e, List.getElem?_eq_getElem (by omega)] at this
    exact this
  · rw [List.getElem?_eq_none (by omega), List.getElem?_eq_none (by omega)]
    rfl
theorem map_atP {fs : List Rat} (nd : (ts'.map (·.1)).Nodup) (hl : fs.length = ts'.length) : fs = ts'.map fun t => atP' (ts'.map (·.1)) fs t.1 := by
  apply List.ext_getElem?
  intro i
  rw [List.getElem?_map]
  by_cases hi : i < ts'.length
  · rw [List.getElem?_eq_getElem (show i < fs.length by omega), List.getElem?_eq_getElem hi]
    show _ = some (atP' (ts'.map (·.1)) fs ts'[i].1)
    have hm : ts'[i].1 ∈ ts'.map (·.1) := List.mem_map_of_mem (List.getElem_mem hi)
    obtain ⟨h1, h2, _⟩ := ix_pairs hm
    have e : pairIx (ts'.map (·.1)) ts'[i].1 = i := by
      refine (List.getElem_inj (h₀ := h1) (h₁ := by rw [List.length_map]; exact hi) nd).mp ?_
      rw [h2, List.getElem_map]
    have := atP_get (fs := fs) (by rw [List.length_map]; exact hl) hm
    rw [e, List.getElem?_eq_getElem (by omega)] at this
    exact this
  · rw [List.getElem?_eq_none (by omega), List.getElem?_eq_none (by omega)]
    rfl
def bkI (r : Str → Str) (ps ps' : List Plc) (fs : List Rat) : List Rat := ps.map fun p => atN (ps'.map Plc.n) fs (r p.n)
def bkT (r : Str → Str) (ts ts' : List Tie) (fs : List Rat) : List Rat := ts.map fun t => atP' (ts'.map (·.1)) fs (r t.1.1, r t.1.2)
theorem back {top top' : Int} (h : WebOk top ps ts) (h' : WebOk top' ps' ts') (hp : ps'.Perm (ps.map (rnP r))) (ht : ts'.Perm (ts.map (rnT r))) (inj : ∀ x ∈ ps.map Plc.n, ∀ y ∈ ps.map Plc.n, r x = r y → x = y) {B : Int} {N : Nat} {fi ft fo : List Rat} (g : VStream ps' ts' q B N fi ft fo) :
    VStream ps ts q B N (bkI r ps ps' fi) (bkT r ts ts' ft) (bkI r ps ps' fo) ∧ (bkI r ps ps' fi).sum = fi.sum := by
  have w := g.flow
  have mn : ∀ p ∈ ps, r p.n ∈ ps'.map Plc.n := fun p hp' => by
    have := hp.mem_iff.mpr (List.mem_map_of_mem (f := rnP r) hp')
    exact List.mem_map.mpr ⟨_, this, rfl⟩
  have mt : ∀ t ∈ ts, (r t.1.1, r t.1.2) ∈ ts'.map (·.1) := fun t ht' => by
    have := ht.mem_iff.mpr (List.mem_map_of_mem (f := rnT r) ht')
    exact List.mem_map.mpr ⟨_, this, rfl⟩
  have li : fi.length = (ps'.map Plc.n).length := by rw [List.length_map]; exact w.li
  have lo : fo.length = (ps'.map Plc.n).length := by rw [List.length_map]; exact w.lo
  have lt : ft.length = (ts'.map (·.1)).length := by rw [List.length_map]; exact w.lt
  have atp : ∀ p ∈ ps, ∃ i p', ps'[i]? = some p' ∧ p'.n = r p.n ∧ p'.a = p.a ∧ p'.b = p.b ∧ p'.c = p.c ∧ p'.d = p.d ∧ i = posN (ps'.map Plc.n) (r p.n) := fun p hp' => by
    obtain ⟨h1, h2, _⟩ := ix_txs (mn p hp')
    rw [List.length_map] at h1
    rw [List.getElem_map] at h2
    have hm := hp.mem_iff.mpr (List.mem_map_of_mem (f := rnP r) hp')
    obtain ⟨j, hj, ej⟩ := List.mem_iff_getElem.mp hm
    have e : j = posN (ps'.map Plc.n) (r p.n) := by
      have h3 : (ps'.map Plc.n)[j]'(by rw [List.length_map]; exact hj) = (ps'.map Plc.n)[posN (ps'.map Plc.n) (r p.n)]'(by rw [List.length_map]; exact h1) := by
        rw [List.getElem_map, List.getElem_map, h2, ej]
        rfl
      exact (List.getElem_inj h'.nm.nd).mp h3
    exact ⟨j, ps'[j], List.getElem?_eq_getElem hj, by rw [ej]; rfl, by rw [ej]; rfl, by rw [ej]; rfl, by rw [ej]; rfl, by rw [ej]; rfl, e⟩
  have ei := map_atN (ps' := ps') (fs := fi) h'.nm.nd w.li
  have eo := map_atN (ps' := ps') (fs := fo) h'.nm.nd w.lo
  have et := map_atP (ts' := ts') (fs := ft) h'.tnd w.lt
  have keepQ : ∀ p ∈ ps, netQ ts (bkT r ts ts' ft) p.n = netQ ts' ft (r p.n) := fun p hp' => by
    have hx : p.n ∈ ps.map Plc.n := List.mem_map_of_mem hp'
    have e1 : netQ ts' ft (r p.n) = netS (fun t' => atP' (ts'.map (·.1)) ft t'.1) ts' (r p.n) := by
      conv => lhs; rw [et]
      exact netQ_S
    rw [e1]
    unfold bkT
    rw [netQ_S]
    unfold netS
    rw [sum_perm ht, List.map_map]
    refine congrArg List.sum (List.map_congr_left fun t ht' => ?_)
    have tl := (h.ti t ht').l
    have tr := (h.ti t ht').r
    show _ = (if r t.1.1 = r p.n then atP' (ts'.map (·.1)) ft (r t.1.1, r t.1.2) else 0) - (if r t.1.2 = r p.n then atP' (ts'.map (·.1)) ft (r t.1.1, r t.1.2) else 0)
    have d1 : (r t.1.1 = r p.n) = (t.1.1 = p.n) := propext ⟨inj _ tl _ hx, fun z => by rw [z]⟩
    have d2 : (r t.1.2 = r p.n) = (t.1.2 = p.n) := propext ⟨inj _ tr _ hx, fun z => by rw [z]⟩
    simp only [d1, d2]
  refine ⟨⟨g.b0, g.bb, ⟨?_, ?_, ?_, fun i p f h1 h2 => ?_, fun i t f h1 h2 => ?_, fun i p f h1 h2 => ?_, fun i p a b h1 h2 h3 => ?_⟩, fun f hf => ?_, fun f hf => ?_, fun f hf => ?_⟩, ?_⟩
  · unfold bkI; rw [List.length_map]
  · unfold bkT; rw [List.length_map]
  · unfold bkI; rw [List.length_map]
  · obtain ⟨p', h3, rfl⟩ := map_at h2
    rw [h1] at h3
    cases h3
    obtain ⟨j, p', z1, z2, z3, z4, z5, z6, z7⟩ := atp p (List.mem_of_getElem? h1)
    have := w.bi j p' _ z1 (by rw [z7]; exact atN_get li (mn p (List.mem_of_getElem? h1)))
    unfold inS at this ⊢
    rw [z3, z4] at this
    exact this
  · obtain ⟨t', h3, rfl⟩ := map_at h2
    rw [h1] at h3
    cases h3
    have ht1 := List.mem_of_getElem? h1
    obtain ⟨k1, k2, _⟩ := ix_pairs (mt t ht1)
    rw [List.length_map] at k1
    rw [List.getElem_map] at k2
    have hm := ht.mem_iff.mpr (List.mem_map_of_mem (f := rnT r) ht1)
    obtain ⟨j, hj, ej⟩ := List.mem_iff_getElem.mp hm
    have e : j = pairIx (ts'.map (·.1)) (r t.1.1, r t.1.2) := by
      have h3 : (ts'.map (·.1))[j]'(by rw [List.length_map]; exact hj) = (ts'.map (·.1))[pairIx (ts'.map (·.1)) (r t.1.1, r t.1.2)]'(by rw [List.length_map]; exact k1) := by
        rw [List.getElem_map, List.getElem_map, k2, ej]
        rfl
      exact (List.getElem_inj h'.tnd).mp h3
    have := w.bt j ts'[j] _ (List.getElem?_eq_getElem hj) (by rw [e]; exact atP_get lt (mt t ht1))
    rw [ej] at this
    exact this
  · obtain ⟨p', h3, rfl⟩ := map_at h2
    rw [h1] at h3
    cases h3
    obtain ⟨j, p', z1, z2, z3, z4, z5, z6, z7⟩ := atp p (List.mem_of_getElem? h1)
    have := w.bo j p' _ z1 (by rw [z7]; exact atN_get lo (mn p (List.mem_of_getElem? h1)))
    unfold ouS at this ⊢
    rw [z5, z6] at this
    exact this
  · obtain ⟨p1, h4, rfl⟩ := map_at h2
    rw [h1] at h4
    cases h4
    obtain ⟨p2, h5, rfl⟩ := map_at h3
    rw [h1] at h5
    cases h5
    have hm := List.mem_of_getElem? h1
    obtain ⟨j, p', z1, z2, z3, z4, z5, z6, z7⟩ := atp p hm
    have := w.keep j p' _ _ z1 (by rw [z7]; exact atN_get li (mn p hm)) (by rw [z7]; exact atN_get lo (mn p hm))
    rw [z2] at this
    rw [keepQ p hm]
    exact this
  · obtain ⟨p, hp', rfl⟩ := List.mem_map.mp hf
    exact g.ni _ (List.mem_of_getElem? (atN_get li (mn p hp')))
  · obtain ⟨t, ht', rfl⟩ := List.mem_map.mp hf
    exact g.nt _ (List.mem_of_getElem? (atP_get lt (mt t ht')))
  · obtain ⟨p, hp', rfl⟩ := List.mem_map.mp hf
    exact g.no _ (List.mem_of_getElem? (atN_get lo (mn p hp')))
  · conv => rhs; rw [ei]
    unfold bkI
    rw [sum_perm hp, List.map_map]
    rfl
end
end Fn
namespace Fn
open PySem PySem.Spec PyProof.Rows L2
def max3I (i j k : Int) : Int := max (max i j) k
def maxG (bs : List B) : Res B := match bs with
  | [.dat (.int i), .dat (.int j), .dat (.int k)] => .ok (.dat (.int (max3I i j k)))
  | bs => maxF bs
theorem max2_nu {i j : Int} : nuMax2 (.int i) (.int j) = some (.int (max i j)) := by
  unfold nuMax2 nuLt nuCB
  rw [Option.map_some]
  by_cases h : i < j
  · rw [if_pos (decide_eq_true h)]
    have : max i j = j := by omega
    rw [this]
  · rw [if_neg (by simpa using h)]
    have : max i j = i := by omega
    rw [this]
theorem max3_nu {i j k : Int} : nuMax3 (.int i) (.int j) (.int k) = some (.int (max3I i j k)) := by
  unfold nuMax3
  rw [max2_nu, Option.bind_some, max2_nu]
  rfl
theorem g_maxG {g : G} {K : PySem.W.Frag} (hK : g.K = K) : CallG g (fun vs H Q => rMaxF K vs H Q ∨ rNuC3 nuMax3 vs H Q) maxG := by
  subst hK
  intro σ F H vs bs Q s r p
  unfold maxG at p
  split at p
  · cases r with
    | cons r1 t =>
      obtain ⟨y, z, rfl, r2, r3⟩ := paired2 t
      cases r1
      cases r2
      cases r3
      exact .inr ⟨_, _, _, _, rfl, max3_nu, p.int s⟩
  · exact .inl (g_max rfl σ F H vs _ Q s r p)
section
variable {X : Cx} {g : G} {cls : Nat → Value} {k : Nat} {tab : List En} {N : List Str} {sc : Scope} {bt : Bt}
theorem CT.maxG (C : CT X g cls k tab N sc bt) (hh : bt.hot = false := by rfl) : BiW X g "max" Fn.maxG := ⟨.inl ⟨_, _, CallR.or (c_max (C.calm hh)) (call_max3Nu (C.calm hh)), boot_max, g_maxG C.hK⟩⟩
end
theorem max3_ii {i j k : Int} : maxG [.dat (.int i), .dat (.int j), .dat (.int k)] = .ok (.dat (.int (max3I i j k))) := rfl
end Fn
namespace L2
open PySem PySem.Spec PyProof.Rows
section
variable {X : Cx} {pins : List (Addr × Obj)} {σ : St} {H : Hp} {s : Shared} {a b : Addr} {r : Value} {d : V} {k : List Key} {A : Around} {E : Value → Shared → Prop}
end
section
variable {X : Cx} {o e f : Expr} {td ty tx : TE} {apos cpos : Pos}
end
end L2
namespace Fn
open PySem PySem.Spec PyProof.Rows L2
def kIxT : List (List Key) → List Key → Option Nat
  | [], _ => none
  | k' :: ks, k => if k' = k then some 0 else (kIxT ks k).map (· + 1)
section
variable {g : G} {F H F' H' : Hp} {σ : L2.St} {ρ : Env} {i : Nat} {ks : List (List Key)} {ls : List (List D)} {k : List Key}
end
def sdKT (ks : List (List Key)) (ls : List (List D)) (k : List Key) : List (List Key) × List (List D) × Nat := match kIxT ks k with
  | some n => (ks, ls, n)
  | none => (ks ++ [k], ls ++ [[]], ks.length)
section
variable {X : Cx} {g : G} {f : Env → Out} {fk fv fa fz : Env → Res B}
end
section
variable {X : Cx} {g : G} {F H : Hp} {σ : L2.St} {ρ : Env} {f : Env → Out} {fa : Env → Res B} {i : Nat}
def lkM : M → Option D
  | .k kvs => some (.lk kvs)
  | .t kvs => some (.lt kvs)
  | _ => none
theorem St.frz (s : St g F H σ ρ) {m : M} {d : D} (h : ρ[i]? = some (some (.own m))) (hd : lkM m = some d) : ∃ p u, H p = some u ∧ Mut (some u) ∧ ∀ od, ∃ F', St g F' (upd H p (.frz od u)) σ (ρ.set i (some (.dat d))) := by
  obtain ⟨p, o, h1, h2, h3, h4, h5⟩ := s.own_none h
  have go : ∀ od, Rp g.K g.fa (upd F p (.frz od o)) (.ref p) d → St g (upd F p (.frz od o)) (upd H p (.frz od o)) σ (ρ.set i (some (.dat d))) := fun od r => by
    have sm : Same F (upd F p (.frz od o)) := fun b u z => by rw [upd_ne (ne_of_none z h3)]; exact z
    refine s.turn h h1 sm ⟨s.gr.fh.trans sm, fun b u z => ?_, fun b u z => ?_, fun a o' ha na fa => ?_⟩ (fun a _ ha => ?_) r fun a ha => ha.elim
    · rw [upd_ne (ne_of_none z h4)]; exact s.gr.hh _ _ z
    · by_cases hb : b = p
      · subst hb
        rw [upd_same] at z ⊢
        exact z
      · rw [upd_ne hb] at z ⊢
        exact s.sub _ _ z
    · rw [upd_ne fun z => by subst z; rw [h4] at ha; cases ha]
      exact s.gr.new a o' ha na fa
    · have ne : a ≠ p := fun z => ha (by subst z; rfl)
      exact ⟨upd_ne ne, fun _ fz => by rw [upd_ne ne]; exact fz⟩
  have sm : ∀ od, Same F (upd F p (.frz od o)) := fun od b u z => by rw [upd_ne (ne_of_none z h3)]; exact z
  cases h5 with
  | l r => cases hd
  | k q r => cases hd; exact ⟨p, _, h2, True.intro, fun od => ⟨_, go od (.lk upd_same q (r.mono (sm od)))⟩⟩
  | t q r => cases hd; exact ⟨p, _, h2, True.intro, fun od => ⟨_, go od (.lt upd_same q (r.mono (sm od)))⟩⟩
def lkE (i : Nat) (ρ : Env) : Env := match ρ[i]? with
  | some (some (.own m)) => (match lkM m with
    | some d => ρ.set i (some (.dat d))
    | none => ρ)
  | _ => ρ
def lkS (i : Nat) (f : Env → Out) : Env → Out := fun ρ => f (lkE i ρ)
theorem fs_lk {sts : List Stmt} (i : Nat) (h1 : PSs X sts (tFS g f)) : PSs X sts (tFS g (lkS i f)) := by
  refine ⟨fun pins s σ H E I ⟨F, ρ, st, p⟩ => ?_⟩
  unfold lkS lkE at p
  split at p
  · rename_i m e
    split at p
    · rename_i d hd
      obtain ⟨a, u, hu, mu, go⟩ := st.frz e hd
      obtain ⟨od, I1⟩ := I.lock hu mu
      obtain ⟨F', st'⟩ := go od
      exact h1.run pins s σ _ E I1 ⟨F', _, st', p⟩
    · exact h1.run pins s σ H E I ⟨F, ρ, st, p⟩
  · exact h1.run pins s σ H E I ⟨F, ρ, st, p⟩
def keysB (b : B) : Res (List D) := match b with
  | .dat (.lk kvs) => .ok (kvs.map fun kv => keyB kv.1)
  | .dat (.lt kvs) => .ok (kvs.map fun kv => kD kv.1)
  | _ => .bad
def itD (f : Env → Res B) : Env → Res (List D) := fun ρ => (f ρ).bind fun x => keysB (rd x)
theorem keys_len {α β γ : Type} {xs : List (α × β)} {ys : List (α × γ)} (h : xs.map (·.1) = ys.map (·.1)) : xs.length = ys.length := by
  have := congrArg List.length h
  rwa [List.length_map, List.length_map] at this
theorem keys_at {α β γ : Type} {xs : List (α × β)} {ys : List (α × γ)} (h : xs.map (·.1) = ys.map (·.1)) {i : Nat} {k : α} {v : β} (e : xs[i]? = some (k, v)) {δ : Type} (f : α → δ) : (ys.map fun y => f y.1)[i]? = some (f k) := by
  have h2 : (xs.map (·.1))[i]? = some k := by rw [List.getElem?_map, e]; rfl
  rw [h] at h2
  rw [List.getElem?_map] at h2 ⊢
  cases c : ys[i]? with
  | none => rw [c] at h2; cases h2
  | some y => rw [c] at h2; cases h2; rfl
theorem keyK_it {lk : Bool} {F1 H1 : Hp} {p : Addr} {o : Obj} {kvs : List (Key × V)} {kds : List (Key × D)} (h : F1 p = some (.frz o (.dK kvs))) (e : kvs.map (·.1) = kds.map (·.1)) : ItOk g (PP g lk F1 H1) (Itk p o kvs) (kds.map fun kv => keyB kv.1) where
  go := fun i F H q hi => ⟨q.2.1 _ _ (q.1 _ _ h), by rw [List.length_map] at hi; rw [keys_len e]; exact hi⟩
  stop := fun i F H q hi => ⟨q.2.1 _ _ (q.1 _ _ h), by rw [List.length_map] at hi; rw [keys_len e]; exact hi⟩
  yld := fun i F H x H' d q hd hy => by
    obtain ⟨rfl, k, v, hk, rfl⟩ := hy
    rw [keys_at e hk] at hd
    cases hd
    exact ⟨F, Grow.refl q.2.1, keyB_rp k⟩
theorem keyT_it {lk : Bool} {F1 H1 : Hp} {p : Addr} {o : Obj} {kvs : List (List Key × V)} {kds : List (List Key × D)} (h : F1 p = some (.frz o (.dT kvs))) (e : kvs.map (·.1) = kds.map (·.1)) : ItOk g (PP g lk F1 H1) (Itkt p o kvs) (kds.map fun kv => kD kv.1) where
  go := fun i F H q hi => ⟨q.2.1 _ _ (q.1 _ _ h), by rw [List.length_map] at hi; rw [keys_len e]; exact hi⟩
  stop := fun i F H q hi => ⟨q.2.1 _ _ (q.1 _ _ h), by rw [List.length_map] at hi; rw [keys_len e]; exact hi⟩
  yld := fun i F H x H' d q hd hy => by
    obtain ⟨rfl, k, v, b, hk, rfl, hb⟩ := hy
    rw [keys_at e hk] at hd
    cases hd
    exact ⟨upd F b (.tup (k.map kV)), (Grow.refl q.2.1).tup hb, .tup upd_same (keysB_rp k)⟩
theorem fi_keys {lk : Bool} {tg a : Expr} (ha : PE X a (tF g fa)) : PI X tg a (tFI g lk (itD fa)) := by
  refine PI.imp (pi_keys ha) fun σ H R ⟨F, ρ, s, p⟩ => ?_
  unfold itD at p
  show tF g fa σ H _
  refine run1 s (fun bx v F1 H1 e1 g1 r1 => ?_) (fun c e => ?_) (fun e => ?_)
  · rw [e1, Res.ok_bind] at p
    have s1 := (s.grow g1).sm
    unfold keysB at p
    split at p
    · rename_i kds hb
      rw [hb] at r1
      cases r1 with
      | lk h1 h2 h3 => exact ⟨_, _, rfl, .inl ⟨_, s1.fh _ _ h1, p F1 H1 _ g1 (keyK_it h1 h2)⟩⟩
    · rename_i kds hb
      rw [hb] at r1
      cases r1 with
      | lt h1 h2 h3 => exact ⟨_, _, rfl, .inr ⟨_, s1.fh _ _ h1, p F1 H1 _ g1 (keyT_it h1 h2)⟩⟩
    · exact p.elim
  · rw [e, Res.exc_bind] at p
    exact fun F' H' g1 => p F' H' g1
  · rw [e] at p
    exact p
end
section
variable {X : Cx} {g : G} {cls : Nat → Value} {k : Nat} {tab : List En} {N : List Str} {sc : Scope} {bt : Bt} {x : Str}
end
end Fn
namespace Fn
open PySem PySem.Spec PyProof.Rows L2
theorem kIxT_some : ∀ {ks : List (List Key)} {k : List Key} {n : Nat}, kIxT ks k = some n → ks[n]? = some k
  | [], _, _, h => by cases h
  | a :: ks, k, n, h => by
    unfold kIxT at h
    by_cases e : a = k
    · rw [if_pos e] at h
      cases h
      rw [e]
      rfl
    · rw [if_neg e] at h
      cases c : kIxT ks k with
      | none => rw [c] at h; cases h
      | some m =>
        rw [c] at h
        cases h
        show ks[m]? = some k
        exact kIxT_some c
theorem kIxT_none : ∀ {ks : List (List Key)} {k : List Key}, kIxT ks k = none → k ∉ ks
  | [], _, _ => by simp
  | a :: ks, k, h => by
    unfold kIxT at h
    by_cases e : a = k
    · rw [if_pos e] at h; cases h
    · rw [if_neg e] at h
      have : kIxT ks k = none := by
        cases c : kIxT ks k with
        | none => rfl
        | some m => rw [c] at h; cases h
      rw [List.mem_cons]
      rintro (z | z)
      · exact e z.symm
      · exact kIxT_none this z
def valsS (S : List (List Key × D)) (k : List Key) : List D := (S.filter fun p => decide (p.1 = k)).map (·.2)
theorem vals_snoc {S : List (List Key × D)} {k k' : List Key} {d : D} : valsS (S ++ [(k, d)]) k' = valsS S k' ++ (if k = k' then [d] else []) := by
  unfold valsS
  rw [List.filter_append, List.map_append]
  by_cases e : k = k'
  · rw [if_pos e, List.filter_cons_of_pos (by simpa using e)]
    rfl
  · rw [if_neg e, List.filter_cons_of_neg (by simpa using e)]
    rfl
structure GT (G : List (List Key) × List (List D)) (S : List (List Key × D)) : Prop where
  len : G.1.length = G.2.length
  nd : G.1.Nodup
  le : G.1.length ≤ S.length
  at_ : ∀ (n : Nat) (k : List Key), G.1[n]? = some k → G.2[n]? = some (valsS S k) ∧ valsS S k ≠ []
  all : ∀ p ∈ S, p.1 ∈ G.1
def addT (G : List (List Key) × List (List D)) (k : List Key) (d : D) : List (List Key) × List (List D) :=
  ((sdKT G.1 G.2 k).1, (sdKT G.1 G.2 k).2.1.set (sdKT G.1 G.2 k).2.2 (((sdKT G.1 G.2 k).2.1[(sdKT G.1 G.2 k).2.2]?).getD [] ++ [d]))
theorem GT.nil : GT ([], []) [] := ⟨rfl, List.nodup_nil, Nat.le_refl _, (fun n k h => by simp at h), (fun p h => by cases h)⟩
theorem GT.add {G : List (List Key) × List (List D)} {S : List (List Key × D)} (g : GT G S) (k : List Key) (d : D) : GT (addT G k d) (S ++ [(k, d)]) := by
  cases hx : kIxT G.1 k with
  | some n =>
    have hk := kIxT_some hx
    obtain ⟨h1, h2⟩ := g.at_ n k hk
    have e : addT G k d = (G.1, G.2.set n (valsS S k ++ [d])) := by unfold addT sdKT; rw [hx]; dsimp only; rw [h1]; rfl
    have hn : n < G.2.length := (List.getElem?_eq_some_iff.mp h1).1
    rw [e]
    refine ⟨by rw [List.length_set]; exact g.len, g.nd, by rw [List.length_append]; have := g.le; show G.1.length ≤ _; omega, fun m k' hm => ?_, fun p hp => ?_⟩
    · rw [vals_snoc]
      by_cases c : m = n
      · subst c
        have : k' = k := by
          have hm : G.1[m]? = some k' := hm
          rw [hk] at hm
          cases hm
          rfl
        subst this
        rw [if_pos rfl]
        exact ⟨List.getElem?_set_self hn, by simp⟩
      · have ne : k ≠ k' := fun z => by
          subst z
          have hm : G.1[m]? = some k := hm
          obtain ⟨a1, a2⟩ := List.getElem?_eq_some_iff.mp hm
          obtain ⟨b1, b2⟩ := List.getElem?_eq_some_iff.mp hk
          exact c ((List.getElem_inj g.nd).mp (a2.trans b2.symm))
        rw [if_neg ne, List.append_nil]
        show (G.2.set n _)[m]? = _ ∧ _
        rw [List.getElem?_set_ne (Ne.symm c)]
        exact g.at_ m k' hm
    · rcases List.mem_append.mp hp with hp | hp
      · exact g.all p hp
      · rw [List.mem_singleton.mp hp]
        exact List.mem_of_getElem? hk
  | none =>
    have hk := kIxT_none hx
    have e : addT G k d = (G.1 ++ [k], G.2 ++ [[d]]) := by
      unfold addT sdKT
      rw [hx]
      dsimp only
      rw [g.len, List.getElem?_append_right (Nat.le_refl _), Nat.sub_self, List.set_append_right _ _ (Nat.le_refl _), Nat.sub_self]
      rfl
    have h0 : valsS S k = [] := by
      unfold valsS
      rw [List.map_eq_nil_iff, List.filter_eq_nil_iff]
      intro p hp z
      exact hk (by rw [← of_decide_eq_true z]; exact g.all p hp)
    rw [e]
    refine ⟨by rw [List.length_append, List.length_append, g.len]; rfl, ?_, by rw [List.length_append, List.length_append]; have := g.le; simp only [List.length_singleton]; omega, fun m k' hm => ?_, fun p hp => ?_⟩
    · exact List.nodup_append.mpr ⟨g.nd, by simp, fun a ha b hb => by
        rw [List.mem_singleton] at hb
        subst hb
        exact fun z => hk (z ▸ ha)⟩
    · rw [vals_snoc]
      have hm : (G.1 ++ [k])[m]? = some k' := hm
      show (G.2 ++ [[d]])[m]? = _ ∧ _
      by_cases c : m < G.1.length
      · rw [List.getElem?_append_left c] at hm
        have ne : k ≠ k' := fun z => hk (by rw [z]; exact List.mem_of_getElem? hm)
        rw [if_neg ne, List.append_nil, List.getElem?_append_left (by rw [← g.len]; exact c)]
        exact g.at_ m k' hm
      · have hz : m = G.1.length := by
          have := (List.getElem?_eq_some_iff.mp hm).1
          rw [List.length_append, List.length_singleton] at this
          omega
        subst hz
        rw [List.getElem?_append_right (Nat.le_refl _), Nat.sub_self] at hm
        cases hm
        rw [if_pos rfl, h0, g.len, List.getElem?_append_right (Nat.le_refl _), Nat.sub_self]
        exact ⟨rfl, by simp⟩
    · rcases List.mem_append.mp hp with hp | hp
      · exact List.mem_append_left _ (g.all p hp)
      · rw [List.mem_singleton.mp hp]
        exact List.mem_append_right _ (List.mem_singleton.mpr rfl)
section
variable {i : Nat} {fk fv fa : Env → Res B} {ρ : Env} {f : Env → Out}
def itDK (r : Res B) : Res (List D) := r.bind fun x => keysB (rd x)
theorem e_itD : itD fa ρ = itDK (fa ρ) := (rfl)
theorem itD_lt {kvs : List (List Key × D)} : itDK (.ok (.dat (.lt kvs))) = .ok (kvs.map fun kv => kD kv.1) := (rfl)
theorem idx_lt {kvs : List (List Key × D)} {kd d : D} {k : List Key} (hk : tkey (.dat kd) = some k) (h : getK kvs k = some d) : idxB (.dat (.lt kvs)) (.dat kd) = .ok (.dat d) := by
  show (match dgetB (.dat (.lt kvs)) (.dat kd) with | some (some d) => (.ok (.dat d) : Res B) | some none => .bad | none => _) = _
  rw [show dgetB (.dat (.lt kvs)) (.dat kd) = (match tkey (.dat kd) with | some q => some (getK kvs q) | none => none) from rfl, hk]
  dsimp only
  rw [h]
end
end Fn
namespace Fn
open PySem PySem.Spec PyProof.Rows L2
section
variable {g : G} {F H F' H' : Hp} {σ : L2.St} {ρ : Env}
theorem St.putN (s : St g F H σ ρ) {v : V} {b : B} (e : Grow F H F' H') (r : RN g F' H' v b) (fr : ∀ a, Ft H' v b a → H a = none) (i : Nat) : St g F' H' (σ.set i (some v)) (ρ.set i (some b)) := by
  have s1 := s.grow e
  have fresh : ∀ {j : Nat} {b' : B} {v' : V} {a : Addr}, ρ[j]? = some (some b') → σ[j]? = some (some v') → Ft H' v b a → Ft H' v' b' a → False := fun {j b' v' a} h1 h2 h3 h4 => by
    obtain ⟨w, e1, r1⟩ := s.at_ j b' h1
    rw [h2] at e1
    cases e1
    obtain ⟨o', z, _⟩ := Ft.at_ r1 (Ft.back r1 e.hh h4)
    rw [fr a h3] at z
    cases z
  refine ⟨s1.gr, by simp [s1.len], fun j b' h => ?_, fun j k b1 b2 v1 v2 a hjk h1 h2 h3 h4 h5 h6 => ?_⟩
  · rcases set_some h with ⟨rfl, h1, h2⟩ | ⟨h1, h2⟩
    · cases h1
      exact ⟨v, by rw [List.getElem?_set_self (by rw [s1.len]; exact h2)], r⟩
    · obtain ⟨w, h3, h4⟩ := s1.at_ j b' h2
      exact ⟨w, by rw [List.getElem?_set_ne h1]; exact h3, h4⟩
  · rcases set_some h1 with ⟨rfl, e1, l1⟩ | ⟨n1, e1⟩ <;> rcases set_some h2 with ⟨rfl, e2, l2⟩ | ⟨n2, e2⟩
    · exact absurd rfl hjk
    · cases e1
      rw [List.getElem?_set_self (by rw [s.len]; exact l1)] at h3
      rw [List.getElem?_set_ne n2] at h4
      cases h3
      exact fresh e2 h4 h5 h6
    · cases e2
      rw [List.getElem?_set_self (by rw [s.len]; exact l2)] at h4
      rw [List.getElem?_set_ne n1] at h3
      cases h4
      exact fresh e1 h3 h6 h5
    · rw [List.getElem?_set_ne n1] at h3
      rw [List.getElem?_set_ne n2] at h4
      exact s1.apart j k b1 b2 v1 v2 a hjk e1 e2 h3 h4 h5 h6
end
theorem mergeK_new : ∀ {more kvs : List (Key × V)}, (more.map (·.1)).Nodup → (∀ p ∈ more, p.1 ∉ kvs.map (·.1)) → mergeK kvs more = kvs ++ more
  | [], kvs, _, _ => by rw [List.append_nil]; rfl
  | p :: more, kvs, nd, h => by
    rw [List.map_cons, List.nodup_cons] at nd
    have hp : valV kvs p.1 = none := by
      have h0 := h p List.mem_cons_self
      unfold valV
      cases c : kvs.find? fun kv => decide (kv.1 = p.1) with
      | none => rfl
      | some kv =>
        have e := List.find?_some c
        exact absurd (List.mem_map.mpr ⟨kv, List.mem_of_find?_eq_some c, of_decide_eq_true e⟩) h0
    show mergeK (L2.putK kvs p.1 p.2) more = _
    rw [putK_new p.2 hp, mergeK_new nd.2 fun q hq => ?_, List.append_assoc]
    · rfl
    · rw [List.map_append, List.mem_append]
      rintro (z | z)
      · exact h q (List.mem_cons_of_mem _ hq) z
      · have z : q.1 = p.1 := by simpa using z
        exact nd.1 (z ▸ List.mem_map_of_mem hq)
def strsD : List D → Option (List Str)
  | [] => some []
  | .str x :: ds => (strsD ds).map (x :: ·)
  | _ => none
theorem strsD_ok : ∀ {ds : List D} {xs : List Str}, strsD ds = some xs → ds = xs.map .str
  | [], _, h => by cases h; rfl
  | .str x :: ds, xs, h => by
    unfold strsD at h
    cases e : strsD ds with
    | none => rw [e] at h; cases h
    | some ys => rw [e] at h; cases h; rw [strsD_ok e]; rfl
  | .non :: _, _, h => by cases h
  | .bl _ :: _, _, h => by cases h
  | .int _ :: _, _, h => by cases h
  | .tup _ :: _, _, h => by cases h
  | .ctup _ :: _, _, h => by cases h
  | .lst _ :: _, _, h => by cases h
  | .dk _ :: _, _, h => by cases h
  | .dt _ :: _, _, h => by cases h
  | .fn _ :: _, _, h => by cases h
  | .lk _ :: _, _, h => by cases h
  | .lt _ :: _, _, h => by cases h
def dnS (i j : Nat) (it : Env → Res (List D)) : Env → Out := fun ρ => match it ρ with
  | .ok ds => (match strsD ds with
    | some xs => if (decide xs.Nodup && (decide (ds.length ≤ sizeLine) && decide (j < ρ.length))) = true then .nx (ρ.set i (some (.nst (.k (xs.map .inr)) (xs.map fun _ => [])))) else .bad
    | none => .bad)
  | .exc c => .exc c ρ
  | .bad => .bad
structure DnI (H1 F1 F H : Hp) (D : Addr) (xs : List Str) (ps qs : List Addr) : Prop where
  gr : Grow F1 H1 F H
  top : H D = some (.lst (ps.map V.ref))
  fd : F D = none
  lp : ps.length = qs.length
  nd : qs.Nodup
  nD : D ∉ qs
  pr : ∀ (n : Nat) (p q : Addr) (x : Str), ps[n]? = some p → qs[n]? = some q → xs[n]? = some x → H p = some (.tup [.str x, .ref q])
  qs : ∀ q ∈ qs, H q = some (.lst []) ∧ F q = none ∧ H1 q = none
def teDn (j : Nat) : TE := tTup (tCons (tVar j) (tCons (tLst tNil) tNil))
section
variable {X : Cx} {g : G}
theorem fe_dn {j : Nat} {it : Env → Res (List D)} {σ : L2.St} {H : Hp} {F : Hp} {ρ : Env} (hj : j < ρ.length) (s : St g F H σ ρ) {xs : List Str} (hit : it ρ = .ok (xs.map .str)) (hz : xs.length ≤ sizeLine) {Q : VK}
    (q : ∀ (F1 H1 F2 H2 : Hp) (D : Addr) (ps qs : List Addr), Grow F H F1 H1 → H1 D = none → ps.length = xs.length → DnI H1 F1 F2 H2 D xs ps qs → Q (.ref D) H2) :
    tLc (tFI g true it) (tFG g.mute (.one j)) (tFT g.mute fun _ => .ok true) (teDn j) [j] σ H Q := by
  refine ⟨F, ρ, s, ?_⟩
  rw [hit]
  intro F1 H1 J g1 hJ D hD
  have s1 : St g.mute F1 H1 (L2.wipe σ [j]) (wipeE ρ [j]) := ((s.grow g1).wipe _).mute
  have s1' := s.grow g1
  have hw : (wipeE ρ [j]).length = ρ.length := by
    show (ρ.set j none).length = _
    rw [List.length_set]
  refine ⟨fun i m H => m = xs.length - i ∧ i ≤ xs.length ∧ ∃ F ps qs, ps.length = i ∧ DnI H1 F1 F H D xs ps qs, ⟨xs.length, by simp, Nat.zero_le _, F1, [], [], rfl, Grow.newH s1'.sub hD, upd_same, s1'.sub.free hD, rfl, List.nodup_nil, by simp, (fun n p q x h => by simp at h), (fun q h => by cases h)⟩, ?_⟩
  rintro i m H2 ⟨rfl, hi2, F2, ps, qs, hl, dn⟩
  have pp : PP g true F1 H1 F2 H2 := ⟨dn.gr.fh, dn.gr.sub, s1'.gr.hh.trans dn.gr.hh, fun _ => dn.gr.hh⟩
  by_cases hlt : i < xs.length
  · have hlt' : i < (xs.map Fn.D.str).length := by rw [List.length_map]; exact hlt
    refine .inr ⟨hJ.go i F2 H2 pp hlt', fun H' => ∃ F ps qs, ps.length = i + 1 ∧ DnI H1 F1 F H' D xs ps qs, fun H' hn => ⟨xs.length - (i + 1), by omega, rfl, hlt, hn⟩, fun x H' hy => ?_⟩
    have hd : (xs.map Fn.D.str)[i]? = some (.str xs[i]) := by rw [List.getElem?_map, List.getElem?_eq_getElem hlt]; rfl
    obtain ⟨F3, g3, r3⟩ := hJ.yld i F2 H2 x H' _ pp hd hy
    have g13 : Grow F1 H1 F3 H' := dn.gr.trans g3
    have s3 := s1.grow g13
    refine ⟨F3, wipeE ρ [j], .str xs[i], (wipeE ρ [j]).set j (some (.dat (.str xs[i]))), s3, r3, rfl, fun σ2 s4 kp => ?_⟩
    refine ⟨wipe_again (by
      have l1 := s4.len
      have l2 := s3.len
      rw [List.length_set] at l1
      rw [l1, ← l2, L2.wipe_length]) fun k hk => kp k fun z => hk (by simpa [Tg.slots] using z), ?_⟩
    refine ⟨F3, _, s4, ?_⟩
    show ∀ F5 H5, _ → _
    intro F5 H5 g5
    rw [if_pos rfl]
    have s5 := s4.grow g5
    obtain ⟨v, hv, rv⟩ := s5.at_ j (.dat (.str xs[i])) (List.getElem?_set_self (by rw [hw]; exact hj))
    cases rv
    refine ⟨_, hv, Nat.zero_le _, fun q hq => ⟨le_sz (by show 2 ≤ 1000; decide), fun p hp => ?_⟩⟩
    have g15 : Grow F1 H1 F5 H5 := g13.trans g5
    have top5 : H5 D = some (.lst (ps.map V.ref)) := g5.hh _ _ (g3.hh _ _ dn.top)
    have fd5 : F5 D = none := g5.new D _ (g3.hh _ _ dn.top) (by intro _ z; cases z) (g3.new D _ dn.top (by intro _ z; cases z) dn.fd)
    have nDq : D ≠ q := fun z => by rw [z, hq] at top5; cases top5
    have npq : p ≠ q := fun z => by rw [z, upd_same] at hp; cases hp
    have hp5 : H5 p = none := by rwa [upd_ne npq] at hp
    have nDp : D ≠ p := fun z => by rw [z, hp5] at top5; cases top5
    have at4 : ∀ a o, H5 a = some o → upd (upd H5 q (.lst [])) p (.tup [.str xs[i], .ref q]) a = some o := fun a o h => by
      rw [upd_ne (ne_of_none h hp5), upd_ne (ne_of_none h hq)]
      exact h
    have q1 : H1 q = none := by
      cases c : H1 q with
      | none => rfl
      | some o => rw [g15.hh _ _ c] at hq; cases hq
    have f5q : F5 q = none := g15.sub.free hq
    have f5p : F5 p = none := g15.sub.free hp5
    have hDn : upd (upd H5 q (.lst [])) p (.tup [.str xs[i], .ref q]) D = some (.lst (ps.map V.ref)) := at4 _ _ top5
    have qn : q ∉ qs := fun z => by
      obtain ⟨a1, _, _⟩ := dn.qs q z
      rw [g5.hh _ _ (g3.hh _ _ a1)] at hq
      cases hq
    refine ⟨_, hDn, by rw [List.length_map, hl]; omega, F5, ps ++ [p], qs ++ [q], by rw [List.length_append, hl]; rfl, ⟨⟨g15.fh, fun b u z => ?_, fun b u z => ?_, g15.new⟩, ?_, fd5, by rw [List.length_append, List.length_append, dn.lp]; rfl, ?_, ?_, fun n p' q' x h1 h2 h3 => ?_, fun q' hq' => ?_⟩⟩
    · rw [upd_ne (ne_of_none z hD)]
      exact at4 _ _ (g15.hh _ _ z)
    · rw [upd_ne (ne_of_none z fd5)]
      exact at4 _ _ (g15.sub _ _ z)
    · rw [upd_same, List.map_append]
      rfl
    · exact List.nodup_append.mpr ⟨dn.nd, by simp, fun a ha b hb => by
        rw [List.mem_singleton] at hb
        subst hb
        exact fun z => qn (z ▸ ha)⟩
    · rw [List.mem_append, List.mem_singleton]
      rintro (z | z)
      · exact dn.nD z
      · exact nDq z
    · by_cases hn : n < ps.length
      · rw [List.getElem?_append_left hn] at h1
        rw [List.getElem?_append_left (by rw [← dn.lp]; exact hn)] at h2
        have a := dn.pr n p' q' x h1 h2 h3
        have a5 := g5.hh _ _ (g3.hh _ _ a)
        have ne : p' ≠ D := fun z => by rw [z, top5] at a5; cases a5
        rw [upd_ne ne]
        exact at4 _ _ a5
      · have hz2 : n = ps.length := by
          have := (List.getElem?_eq_some_iff.mp h1).1
          rw [List.length_append, List.length_singleton] at this
          omega
        subst hz2
        rw [List.getElem?_append_right (Nat.le_refl _), Nat.sub_self] at h1
        rw [dn.lp, List.getElem?_append_right (Nat.le_refl _), Nat.sub_self] at h2
        cases h1
        cases h2
        rw [hl, List.getElem?_eq_getElem hlt] at h3
        cases h3
        rw [upd_ne (Ne.symm nDp), upd_same]
    · rcases List.mem_append.mp hq' with hq' | hq'
      · obtain ⟨a1, a2, a3⟩ := dn.qs q' hq'
        have a5 := g5.hh _ _ (g3.hh _ _ a1)
        have ne : q' ≠ D := fun z => dn.nD (z ▸ hq')
        exact ⟨by rw [upd_ne ne]; exact at4 _ _ a5, g5.new q' _ (g3.hh _ _ a1) (by intro _ z; cases z) (g3.new q' _ a1 (by intro _ z; cases z) a2), a3⟩
      · rw [List.mem_singleton.mp hq']
        exact ⟨by rw [upd_ne (Ne.symm nDq), upd_ne (Ne.symm npq), upd_same], f5q, q1⟩
  · have e : i = xs.length := by omega
    subst e
    exact .inl ⟨hJ.stop _ F2 H2 pp (by rw [List.length_map]; exact Nat.le_refl _), q F1 H1 F2 H2 D ps qs g1 hD hl dn⟩
end
theorem dn_pairs {K : PySem.W.Frag} {H : Hp} : ∀ {ps qs : List Addr} {xs : List Str}, ps.length = xs.length → qs.length = xs.length → (∀ (n : Nat) (p q : Addr) (x : Str), ps[n]? = some p → qs[n]? = some q → xs[n]? = some x → H p = some (.tup [.str x, .ref q])) → Paired (fun p kv => SqT K H p [kV kv.1, kv.2]) ps ((xs.map Sum.inr).zip (qs.map V.ref))
  | [], [], [], _, _, _ => .nil
  | p :: ps, q :: qs, x :: xs, h1, h2, h => .cons (SqT.of (h 0 p q x rfl rfl rfl)) (dn_pairs (by simpa using h1) (by simpa using h2) fun n p q x a b c => h (n + 1) p q x (by simpa using a) (by simpa using b) (by simpa using c))
  | [], _ :: _, [], _, h2, _ => by simp at h2
  | [], _, _ :: _, h1, _, _ => by simp at h1
  | _ :: _, _, [], h1, _, _ => by simp at h1
  | _ :: _, [], _ :: _, _, h2, _ => by simp at h2
section
variable {X : Cx} {g : G} {cls : Nat → Value} {k : Nat} {tab : List En} {N : List Str} {sc : Scope} {bt : Bt} {x y : Str}
theorem CS.dn (C : CS X g cls k tab N sc bt) (i j : Nat) {it : Env → Res (List D)} {iter : Expr} {scope : Scope} {n : Nat} {py p p1 p2 p3 pt lpos cpos pos : Pos} (hi : PI X (.Name x pt) iter (tFI g true it))
    (ok : (lcOk N sc scope [(x, j)] (.one j) iter && (vOk N (relS scope sc) j x && lOk N (relS scope sc) j x)) = true) (hg : gOk sc bt "dict" = true) (h : aOk N sc i y = true) (hh : bt.hot = false := by rfl) :
    PS X (.Assign [.Name y py] (.Call (.Name "dict" p) [.ListComp (.Tuple [.Name x p1, .List [] p2] n p3) [⟨.Name x pt, iter, [], 0⟩] scope lpos] [] cpos) pos) (tFS g (dnS i j it)) := by
  rw [Bool.and_eq_true, Bool.and_eq_true] at ok
  obtain ⟨ok, hv, hl⟩ := ok
  unfold lcOk at ok
  simp only [Bool.and_eq_true, List.all_eq_true, decide_eq_true_eq] at ok
  obtain ⟨⟨b1, b2⟩, b3⟩ := ok
  have comp : PE X (.ListComp (.Tuple [.Name x p1, .List [] p2] n p3) [⟨.Name x pt, iter, [], 0⟩] scope lpos) (tLc (tFI g true it) (tFG g.mute (.one j)) (tFT g.mute fun _ => .ok true) (teDn j) [j]) :=
    pe_lc (own := [(x, j)]) (C.ct.calm hh) C.ct.nd' hi (by rw [C.ct.hN, C.ct.hS]; exact blkOk_by b1) (fun s H A cl fp => (C.ct.blk hh s H A cl fp).g1 j hl) (fun s H A cl fp => ifs0) (fun s H A cl fp => by
      obtain ⟨v1, v2, v3, v4⟩ := (C.ct.blk hh s H A cl fp).vo hv
      exact pe_tup (pa_cons (pe_var v1 v2 v3 v4) (pa_cons (pe_lst pa_nil) pa_nil (star_cons rfl)) (star_cons rfl))) (iter_plain b3 _)
  obtain ⟨g1, g2⟩ := C.ct.bl hg
  have call := pe_callTy (pos := cpos) (p := p) (call_dictP (C.ct.calm hh)) g1 g2 boot_dict (pa_cons comp pa_nil (star_cons rfl)) (by decide) (by decide) (star_cons rfl) (by rfl)
  refine PS.imp (ps_set C.ct.nd' (C.ao h).1 (C.ao h).2 call (sw_no rfl) (.inl (C.fn y))) fun E σ H hw => ?_
  obtain ⟨F, ρ, s, q⟩ := hw
  unfold dnS at q
  unfold tAsg tCB tCons tNil gName
  cases e : it ρ with
  | exc c =>
    rw [e] at q
    refine ⟨F, ρ, s, ?_⟩
    rw [e]
    exact fun F' H' g1 => q σ F' H' (s.grow g1)
  | bad => rw [e] at q; exact q.elim
  | ok ds =>
    rw [e] at q
    dsimp only at q
    cases ex : strsD ds with
    | none => rw [ex] at q; exact q.elim
    | some xs =>
      rw [ex] at q
      dsimp only at q
      have ed := strsD_ok ex
      subst ed
      split at q
      · rename_i hc
        rw [Bool.and_eq_true, Bool.and_eq_true, decide_eq_true_eq, decide_eq_true_eq, decide_eq_true_eq, List.length_map] at hc
        refine fe_dn hc.2.2 s e hc.2.1 fun F1 H1 F2 H2 D ps qs g1 hD hl dn => ?_
        have ql : qs.length = xs.length := by rw [← dn.lp]; exact hl
        refine ⟨D, ps, (xs.map Sum.inr).zip (qs.map V.ref), rfl, SqL.of dn.top, dn_pairs hl ql dn.pr, fun P hP => ?_⟩
        have zl : (xs.map (Sum.inr : Str → Key)).length = (qs.map V.ref).length := by rw [List.length_map, List.length_map, ql]
        have mk : mergeK [] ((xs.map Sum.inr).zip (qs.map V.ref)) = (xs.map Sum.inr).zip (qs.map V.ref) := by
          rw [mergeK_new (by
            rw [List.map_fst_zip (Nat.le_of_eq zl)]
            exact List.pairwise_map.mpr (hc.1.imp fun ne z => ne (by injection z))) (fun p _ => by simp)]
          rfl
        rw [mk]
        have g2 := g1.trans dn.gr
        have g3 := g2.trans (Grow.newH dn.gr.sub hP (o := .dK ((xs.map Sum.inr).zip (qs.map V.ref))))
        have s2 := s.grow g2
        have nP : P ∉ qs := fun z => by rw [(dn.qs P z).1] at hP; cases hP
        have nst : NstOk g.K g.fa g.G0 F2 (upd H2 P (.dK ((xs.map Sum.inr).zip (qs.map V.ref)))) P (.k (xs.map .inr)) qs (xs.map fun _ => []) := by
          refine ⟨upd_same, .inl (dn.gr.sub.free hP), s2.gr.hh.free hP, by rw [List.length_map]; exact ql, by show (xs.map _).length = (xs.map _).length; rw [List.length_map, List.length_map], dn.nd, nP, fun m q' ds' h1 h2 => ?_⟩
          obtain ⟨a1, a2, a3⟩ := dn.qs q' (List.mem_of_getElem? h1)
          have hd' : ds' = [] := by
            rw [List.getElem?_map] at h2
            cases c : xs[m]? with
            | none => rw [c] at h2; cases h2
            | some _ => rw [c] at h2; cases h2; rfl
          subst hd'
          have ne : q' ≠ P := fun z => nP (z ▸ List.mem_of_getElem? h1)
          exact ⟨[], by rw [upd_ne ne]; exact a1, a2, (s.grow g1).gr.hh.free a3, .nil⟩
        have rn : RN g F2 (upd H2 P (.dK ((xs.map Sum.inr).zip (qs.map V.ref)))) (.ref P) (.nst (.k (xs.map .inr)) (xs.map fun _ => [])) := ⟨P, qs, rfl, nst⟩
        refine q _ F2 _ (s.putN g3 rn (fun a ha => ?_) i)
        rcases ha with ha | ⟨p', o', z1, z2, z3⟩
        · cases ha
          exact g2.hh.free hP
        · cases z1
          rw [nst.top] at z2
          cases z2
          exact g1.hh.free (dn.qs a (nst.kid.mp z3)).2.2
      · exact q.elim
end
section
variable {X : Cx} {g : G} {fk fv : Env → Res B}
end
section
variable {X : Cx} {g : G} {cls : Nat → Value} {k : Nat} {tab : List En} {N : List Str} {sc : Scope} {bt : Bt} {x : Str}
end
end Fn
namespace Fn
open PySem PySem.Spec PyProof.Rows L2
def pairsK : List D → Option (List (Key × D))
  | [] => some []
  | .tup [k, v] :: ds => (match keyD k, pairsK ds with
    | some q, some kvs => some ((q, v) :: kvs)
    | _, _ => none)
  | _ => none
theorem pairs_rp {g : G} {F : Hp} : ∀ {ds : List D} {kds : List (Key × D)} {xs : List V}, pairsK ds = some kds → RpAll g.K g.fa F xs ds →
    ∃ (ps : List Addr) (kvs : List (Key × V)), xs = ps.map V.ref ∧ Paired (fun p kv => F p = some (.tup [kV kv.1, kv.2])) ps kvs ∧ kvs.map (·.1) = kds.map (·.1) ∧ RpAll g.K g.fa F (kvs.map (·.2)) (kds.map (·.2))
  | [], _, _, h, r => by cases h; cases r; exact ⟨[], [], rfl, .nil, rfl, .nil⟩
  | d :: ds, kds, xs, h, r => by
    unfold pairsK at h
    split at h
    · rename_i e; cases e
    · rename_i k v ds' e
      injection e with e1 e2
      subst e1 e2
      split at h
      · rename_i q kvs hq hk
        cases h
        cases r with
        | cons r1 r2 =>
          obtain ⟨ps, kvs', rfl, h2, h3, h4⟩ := pairs_rp hk r2
          cases r1 with
          | tup f rr =>
            cases rr with
            | cons ra rb =>
              cases rb with
              | cons rv rn =>
                cases rn
                have ek := keyD_ok hq ra
                subst ek
                exact ⟨_ :: ps, (q, _) :: kvs', rfl, .cons f h2, by rw [List.map_cons, List.map_cons, h3], .cons rv h4⟩
      · cases h
    · cases h
def dctF (bs : List B) : Res B := match bs with
  | [b] => (match seqL b with
    | some ds => (match pairsK ds with
      | some kvs => if decide (kvs.map (·.1)).Nodup = true then .ok (.own (.k kvs)) else .bad
      | none => .bad)
    | none => .bad)
  | _ => .bad
def rDictP (K : PySem.W.Frag) : List V → Hp → VK → Prop := fun xs H Q => ∃ (a : Addr) (ps : List Addr) (kvs : List (Key × V)), xs = [.ref a] ∧ SqL K H a (ps.map V.ref) ∧ Paired (fun p kv => SqT K H p [kV kv.1, kv.2]) ps kvs ∧
    ∀ p, H p = none → Q (.ref p) (upd H p (.dK (mergeK [] kvs)))
theorem g_dct {g : G} {K : PySem.W.Frag} (hK : g.K = K) : CallG g (rDictP K) dctF := by
  subst hK
  intro σ F H vs bs Q s r p
  unfold dctF at p
  split at p
  · rename_i b
    obtain ⟨v, rfl, rv⟩ := paired1 r
    split at p
    · rename_i ds hd
      obtain ⟨a, xs, rfl, h1, h2⟩ := seqL_ok s rv hd
      split at p
      · rename_i kds hk
        split at p
        · rename_i hn
          have hn := of_decide_eq_true hn
          obtain ⟨ps, kvs, rfl, q2, q3, q4⟩ := pairs_rp hk h2
          refine ⟨a, ps, kvs, rfl, SqL.of h1, Paired.mapP q2 fun _ _ z => SqT.of (s.fh _ _ z), fun P hP => ?_⟩
          rw [mergeK_new (by rw [q3]; exact hn) (fun p _ => by simp), List.nil_append]
          exact p (.ref P) F _ (Grow.newH s.fh hP) ⟨P, _, rfl, hP, upd_same, s.fh.free hP, .k q3 q4⟩
        · exact p.elim
      · exact p.elim
    · exact p.elim
  · exact p.elim
section
variable {X : Cx} {g : G} {cls : Nat → Value} {k : Nat} {tab : List En} {N : List Str} {sc : Scope} {bt : Bt}
theorem CT.dct (C : CT X g cls k tab N sc bt) (hh : bt.hot = false := by rfl) : BiW X g "dict" dctF := ⟨.inr ⟨_, _, call_dictP (C.calm hh), boot_dict, g_dct C.hK⟩⟩
end
section
variable {i j : Nat} {fk fv : Env → Res B} {it : Env → Res (List D)} {ρ : Env}
end
end Fn
namespace Fn
open PySem PySem.Spec PyProof.Rows L2
section
variable {ps : List Plc} {ts : List Tie} {q : Rat} {fi ft fo : List Rat} {P Q : Str → Bool}
end
end Fn
namespace PySem
open PySem.AutoSeq1
end PySem
namespace L2
open PySem PySem.Spec PyProof.Rows
end L2
namespace Fn
open PySem PySem.Spec PyProof.Rows L2
def extW (i : Nat) (fa : Env → Res B) : Env → Out := fun ρ => match ownAt ρ i with
  | some (.l ds) => (match fa ρ with
    | .ok b => (match rd b with
      | .dat (.tup es) => if ds.length + es.length ≤ sizeLine then .nx (ρ.set i (some (.own (.l (ds ++ es))))) else .bad
      | b => (match seqL b with
        | some es => if ds.length + es.length ≤ sizeLine then .nx (ρ.set i (some (.own (.l (ds ++ es))))) else .bad
        | none => .bad))
    | .exc c => .exc c ρ
    | .bad => .bad)
  | _ => .bad
def extWK (i : Nat) (o : Option M) (r : Res B) (ρ : Env) : Out := match o with
  | some (.l ds) => (match r with
    | .ok b => (match rd b with
      | .dat (.tup es) => if ds.length + es.length ≤ sizeLine then .nx (ρ.set i (some (.own (.l (ds ++ es))))) else .bad
      | b => (match seqL b with
        | some es => if ds.length + es.length ≤ sizeLine then .nx (ρ.set i (some (.own (.l (ds ++ es))))) else .bad
        | none => .bad))
    | .exc c => .exc c ρ
    | .bad => .bad)
  | _ => .bad
section
variable {X : Cx} {g : G} {cls : Nat → Value} {k : Nat} {tab : List En} {N : List Str} {sc : Scope} {bt : Bt} {fa : Env → Res B} {e : Expr} {p1 p2 p3 p4 : Pos}
theorem e_extW {i : Nat} {ρ : Env} : extW i fa ρ = extWK i (ownOf ρ[i]?) (fa ρ) ρ := (rfl)
theorem extW_tup {i : Nat} {ρ : Env} {ds es : List D} (h : ds.length + es.length ≤ 1000) : extWK i (some (.l ds)) (.ok (.dat (.tup es))) ρ = .nx (ρ.set i (some (.own (.l (ds ++ es))))) := if_pos (le_sz h)
end
end Fn
namespace Fn
open PySem PySem.Spec PyProof.Rows L2
end Fn
namespace Fn
open PySem PySem.Spec PyProof.Rows L2
structure Js (g : G) (d : Addr) (Gd : Hp → List (List Key × V) → Prop) (F H : Hp) : Prop where
  dd : ∃ kvs, H d = some (.dT kvs) ∧ Gd F kvs
  fd : F d = none
  gd : g.G0 d = none
structure JSt (g : G) (d : Addr) (Gd : Hp → List (List Key × V) → Prop) (F H : Hp) (σ : L2.St) (ρ : Env) : Prop where
  st : St g F H σ ρ
  js : Js g d Gd F H
  no : ∀ (i : Nat) (b : B) (v : V), ρ[i]? = some (some b) → σ[i]? = some (some v) → ¬ Ft H v b d
structure JGrow (d : Addr) (F H F' H' : Hp) : Prop where
  fh : Same F F'
  hh : ∀ a o, a ≠ d → H a = some o → H' a = some o
  sub : Same F' H'
  new : ∀ a o, a ≠ d → H a = some o → (∀ xs, o ≠ .tup xs) → F a = none → F' a = none
def MonoJ (Gd : Hp → List (List Key × V) → Prop) : Prop := ∀ F F' kvs, Same F F' → Gd F kvs → Gd F' kvs
section
variable {X : Cx} {g : G} {d : Addr} {Gd : Hp → List (List Key × V) → Prop} {F H F' H' F2 H2 : Hp} {σ : L2.St} {ρ : Env}
theorem Grow.j (e : Grow F H F' H') : JGrow d F H F' H' := ⟨e.fh, fun a o _ h => e.hh a o h, e.sub, fun a o _ h n z => e.new a o h n z⟩
theorem JGrow.trans (a : JGrow d F H F' H') (b : JGrow d F' H' F2 H2) : JGrow d F H F2 H2 := ⟨a.fh.trans b.fh, fun c o n h => b.hh c o n (a.hh c o n h), b.sub, fun c o n h m z => b.new c o n (a.hh c o n h) m (a.new c o n h m z)⟩
theorem Js.keep (M : MonoJ Gd) (j : Js g d Gd F H) (e : Grow F H F' H') : Js g d Gd F' H' := by
  obtain ⟨kvs, h1, h2⟩ := j.dd
  exact ⟨⟨kvs, e.hh _ _ h1, M _ _ _ e.fh h2⟩, e.new d _ h1 (fun xs z => by cases z) j.fd, j.gd⟩
theorem JSt.keep (s : JSt g d Gd F H σ ρ) (e : JGrow d F H F' H') {i : Nat} {b : B} {v : V} (h1 : ρ[i]? = some (some b)) (h2 : σ[i]? = some (some v)) : ∀ a, Ft H v b a → H' a = H a ∧ ((∀ o, H a = some o → ∀ xs, o ≠ .tup xs) → F a = none → F' a = none) := fun a ha => by
  obtain ⟨w, hw, rn⟩ := s.st.at_ i b h1
  rw [h2] at hw
  cases hw
  obtain ⟨o, ho, _⟩ := Ft.at_ rn ha
  have ne : a ≠ d := fun z => s.no i b v h1 h2 (z ▸ ha)
  exact ⟨by rw [ho, e.hh a o ne ho], fun nt hf => e.new a o ne ho (nt o ho) hf⟩
theorem JSt.grow (s : JSt g d Gd F H σ ρ) (e : JGrow d F H F' H') (j : Js g d Gd F' H') : JSt g d Gd F' H' σ ρ := by
  refine ⟨⟨⟨s.st.gr.fh.trans e.fh, fun a o h => ?_, e.sub, fun a o h nt hf => ?_⟩, s.st.len, fun i b h => ?_, fun i j b b' v v' a hij h1 h2 h3 h4 h5 h6 => ?_⟩, j, fun i b v h1 h2 z => ?_⟩
  · have ne : a ≠ d := fun z => by rw [z, s.js.gd] at h; cases h
    exact e.hh a o ne (s.st.gr.hh a o h)
  · have ne : a ≠ d := fun z => by rw [z, s.js.gd] at h; cases h
    exact e.new a o ne (s.st.gr.hh a o h) nt (s.st.gr.new a o h nt hf)
  · obtain ⟨v, h1, h2⟩ := s.st.at_ i b h
    exact ⟨v, h1, h2.keep (s.keep e h h1) e.fh⟩
  · exact s.st.apart i j b b' v v' a hij h1 h2 h3 h4 (Ft.keep (fun a ha => (s.keep e h1 h3 a ha).1) h5) (Ft.keep (fun a ha => (s.keep e h2 h4 a ha).1) h6)
  · exact s.no i b v h1 h2 (Ft.keep (fun a ha => (s.keep e h1 h2 a ha).1) z)
theorem JSt.putD (s : JSt g d Gd F H σ ρ) {v : V} {x : D} (r : Rp g.K g.fa F v x) (i : Nat) : JSt g d Gd F H (σ.set i (some v)) (ρ.set i (some (.dat x))) := by
  refine ⟨s.st.put (b := .dat x) (Grow.refl s.st.sub) r i (by intro m z; cases z), s.js, fun j b w h1 h2 z => ?_⟩
  rcases set_some h1 with ⟨_, e, _⟩ | ⟨hij, e⟩
  · cases e
    exact z
  · rw [List.getElem?_set_ne hij] at h2
    exact s.no j b w e h2 z
abbrev G.fg (g : G) (F0 G0 : Hp) : G := { g with F0 := F0, G0 := G0 }
def okJ1 : Option B → Bool
  | none => true
  | some (.dat _) => true
  | some (.own _) => true
  | some (.err _) => true
  | _ => false
def okJ (ρ : Env) : Bool := ρ.all okJ1
theorem okJ_at (h : okJ ρ = true) {i : Nat} {b : B} (e : ρ[i]? = some (some b)) : okJ1 (some b) = true := List.all_eq_true.mp h _ (List.mem_of_getElem? e)
theorem JSt.back (M : MonoJ Gd) (s : JSt g d Gd F H σ ρ) {kvs : List (List Key × V)} (h : H d = some (.dT kvs)) {σ' : L2.St} {ρ' : Env} (ok : okJ ρ' = true) (s' : St (g.fg F (upd g.G0 d (.dT kvs))) F' H' σ' ρ') : JSt g d Gd F' H' σ' ρ' := by
  have g1 : Grow F (upd g.G0 d (.dT kvs)) F' H' := s'.gr
  have hd : upd g.G0 d (.dT kvs) d = some (.dT kvs) := upd_same
  have nog : g.G0 d = none := s.js.gd
  have up : ∀ a o, g.G0 a = some o → upd g.G0 d (.dT kvs) a = some o := fun a o e => by rw [upd_ne (fun z => by rw [z, nog] at e; cases e)]; exact e
  have dn : ∀ a, upd g.G0 d (.dT kvs) a = none → g.G0 a = none ∧ a ≠ d := fun a e => by
    have ne : a ≠ d := fun z => by rw [z, hd] at e; cases e
    rw [upd_ne ne] at e
    exact ⟨e, ne⟩
  have at_ : ∀ (i : Nat) (b : B), ρ'[i]? = some (some b) → ∃ v, σ'[i]? = some (some v) ∧ RN g F' H' v b ∧ ¬ Ft H' v b d := fun i b e => by
    obtain ⟨v, h1, h2⟩ := s'.at_ i b e
    have ob := okJ_at ok e
    refine ⟨v, h1, ?_⟩
    cases b with
    | dat x => exact ⟨h2, fun z => z⟩
    | own m =>
      obtain ⟨p, o, e1, e2, e3, e4, e5⟩ := h2
      obtain ⟨n1, n2⟩ := dn p e4
      exact ⟨⟨p, o, e1, e2, e3, n1, e5⟩, fun z => n2 (by rw [e1] at z; have z : V.ref p = V.ref d := z; cases z; rfl)⟩
    | err c => exact ⟨h2, fun z => z⟩
    | vw m => cases ob
    | bor m => cases ob
    | scr ns => cases ob
    | nst sh ls => cases ob
  obtain ⟨kvs', k1, k2⟩ := s.js.dd
  rw [h] at k1
  cases k1
  refine ⟨⟨⟨s.st.gr.fh.trans g1.fh, fun a o e => g1.hh a o (up a o e), g1.sub, fun a o e nt hf => g1.new a o (up a o e) nt (s.st.gr.new a o e nt hf)⟩, s'.len, fun i b e => let ⟨v, h1, h2, _⟩ := at_ i b e; ⟨v, h1, h2⟩, s'.apart⟩, ⟨⟨kvs, g1.hh _ _ hd, M _ _ _ g1.fh k2⟩, g1.new d _ hd (fun xs z => by cases z) s.js.fd, nog⟩, fun i b v h1 h2 z => ?_⟩
  obtain ⟨w, e1, _, e3⟩ := at_ i b h1
  rw [h2] at e1
  cases e1
  exact e3 z
def PostJ (g : G) (d : Addr) (Gd : Hp → List (List Key × V) → Prop) (F H : Hp) (r : Res B) (Q : VK) : Prop := match r with
  | .ok (.dat x) => ∀ v F' H', JGrow d F H F' H' → Js g d Gd F' H' → Rp g.K g.fa F' v x → Q v H'
  | _ => False
theorem PostJ.ok {r : Res B} {Q : VK} (p : PostJ g d Gd F H r Q) : ∃ x, r = .ok (.dat x) ∧ ∀ v F' H', JGrow d F H F' H' → Js g d Gd F' H' → Rp g.K g.fa F' v x → Q v H' := by
  unfold PostJ at p
  split at p
  · exact ⟨_, rfl, p⟩
  · exact p.elim
end
end Fn
namespace Fn
open PySem PySem.Spec PyProof.Rows L2
section
variable {X : Cx} {g : G} {d : Addr} {Gd : Hp → List (List Key × V) → Prop} {F H F' H' F2 H2 : Hp} {σ : L2.St} {ρ : Env}
theorem JSt.up {F1 H1 : Hp} (a : Grow g.F0 g.G0 F1 H1) (s : JSt (g.fl F1) d Gd F H σ ρ) : JSt g d Gd F H σ ρ := ⟨s.st.up a, ⟨s.js.dd, s.js.fd, s.js.gd⟩, s.no⟩
theorem JSt.down {F1 : Hp} (s : JSt g d Gd F H σ ρ) (e : Same g.F0 F1) (e' : Same F1 F) : JSt (g.fl F1) d Gd F H σ ρ := ⟨s.st.down e e', ⟨s.js.dd, s.js.fd, s.js.gd⟩, s.no⟩
structure SelfFld (g : G) (C p : Addr) (f : Str) (y : D) : Prop where
  fa : g.fa 2000 = some p
  cl : Cls g.K C
  no : NoAttr g.K C f
  ob : ∃ dx fs v, g.F0 p = some (.ins C dx fs) ∧ fs.lookup f = some v ∧ Rp g.K g.fa g.F0 v y
theorem SelfFld.fg {C p : Addr} {f : Str} {y : D} (h : SelfFld g C p f y) {F0 : Hp} (G0 : Hp) (e : Same g.F0 F0) : SelfFld (g.fg F0 G0) C p f y := by
  obtain ⟨dx, fs, v, h1, h2, h3⟩ := h.ob
  exact ⟨h.fa, h.cl, h.no, dx, fs, v, e _ _ h1, h2, Rp.mono e h3⟩
end
end Fn
namespace Fn
open PySem PySem.Spec PyProof.Rows L2
def PostM (K : PySem.W.Frag) (fa : Nat → Option Addr) (d : Addr) (Gd : Hp → List (List Key × V) → Prop) (F H : Hp) (r : Res B) (Q : VK) : Prop := match r with
  | .ok (.dat x) => ∀ v F' H', JGrow d F H F' H' → (∃ kvs, H' d = some (.dT kvs) ∧ Gd F' kvs) → F' d = none → Rp K fa F' v x → Q v H'
  | _ => False
def spM (K : PySem.W.Frag) (fa : Nat → Option Addr) (p d : Addr) (Gd : Hp → List (List Key × V) → Prop) (Of : Hp → Prop) (n : Nat) (Fk : List B → Res B) : Sp := fun vs H Q E =>
  vs.length = n + 1 ∧ ∃ F us ds, vs = .ref p :: us ∧ Same F H ∧ (∃ kvs, H d = some (.dT kvs) ∧ Gd F kvs) ∧ F d = none ∧ Of F ∧ RpAll K fa F us ds ∧ PostM K fa d Gd F H (Fk (ds.map .dat)) Q
section
variable {X : Cx} {g : G} {d : Addr} {Gd : Hp → List (List Key × V) → Prop} {F H F' H' F2 H2 : Hp} {σ : L2.St} {ρ : Env}
structure MthAt (X : Cx) (g : G) (d : Addr) (Gd : Hp → List (List Key × V) → Prop) (c p : Addr) (Of : Hp → Prop) (m : Str) (n : Nat) (Fk : List B → Res B) : Prop where
  ex : ∃ f fd ps lv, Meth X.K c m f ∧ FnOk X.prog X.w X.K X.mg X.base (L2.CX X.prog X.w) lv f fd ps (spM X.K g.fa p d Gd Of n Fk) ∧ Room lv X.A ∧ Binds X.K fd ps []
  cl : Cls X.K c
  sp : g.fa 2000 = some p
  ob : ∃ dx fs, g.F0 p = some (.ins c dx fs) ∧ fs.lookup m = none
  of : Of g.F0
  mo : ∀ F F', Same F F' → Of F → Of F'
end
mutual
theorem Rp.swap {K : PySem.W.Frag} {fa : Nat → Option Addr} {F F' : Hp} (e : ∀ a o, F a = some o → (∀ C dx fs, o ≠ .ins C dx fs) → F' a = some o) : ∀ {v : V} {d : D}, Rp K fa F v d → Rp K fa F' v d
  | _, _, .non => .non
  | _, _, .bl b => .bl b
  | _, _, .int i => .int i
  | _, _, .str x => .str x
  | _, _, .tup h r => .tup (e _ _ h fun _ _ _ z => by cases z) (RpAll.swap e r)
  | _, _, .ctup h r => .ctup h (RpAll.swap e r)
  | _, _, .lst h r => .lst (e _ _ h fun _ _ _ z => by cases z) (RpAll.swap e r)
  | _, _, .dk h q r => .dk (e _ _ h fun _ _ _ z => by cases z) q (RpAll.swap e r)
  | _, _, .dt h q r => .dt (e _ _ h fun _ _ _ z => by cases z) q (RpAll.swap e r)
  | _, _, .fn h => .fn h
  | _, _, .lk h q r => .lk (e _ _ h fun _ _ _ z => by cases z) q (RpAll.swap e r)
  | _, _, .lt h q r => .lt (e _ _ h fun _ _ _ z => by cases z) q (RpAll.swap e r)
theorem RpAll.swap {K : PySem.W.Frag} {fa : Nat → Option Addr} {F F' : Hp} (e : ∀ a o, F a = some o → (∀ C dx fs, o ≠ .ins C dx fs) → F' a = some o) : ∀ {vs : List V} {ds : List D}, RpAll K fa F vs ds → RpAll K fa F' vs ds
  | _, _, .nil => .nil
  | _, _, .cons h r => .cons (Rp.swap e h) (RpAll.swap e r)
end
mutual
def nofn : D → Bool
  | .fn k => decide (k ≠ 2000)
  | .tup xs => nofns xs
  | .ctup xs => nofns xs
  | .lst xs => nofns xs
  | .dk _ => false
  | .dt _ => false
  | .lk _ => false
  | .lt _ => false
  | _ => true
def nofns : List D → Bool
  | [] => true
  | x :: xs => nofn x && nofns xs
end
mutual
theorem Rp.fa {K : PySem.W.Frag} {fa fa' : Nat → Option Addr} {F : Hp} (e : ∀ k, k ≠ 2000 → fa' k = fa k) : ∀ {v : V} {d : D}, nofn d = true → Rp K fa F v d → Rp K fa' F v d
  | _, _, _, .non => .non
  | _, _, _, .bl b => .bl b
  | _, _, _, .int i => .int i
  | _, _, _, .str x => .str x
  | _, _, n, .tup h r => .tup h (RpAll.fa e (by simpa [nofn] using n) r)
  | _, _, n, .ctup h r => .ctup h (RpAll.fa e (by simpa [nofn] using n) r)
  | _, _, n, .lst h r => .lst h (RpAll.fa e (by simpa [nofn] using n) r)
  | _, _, n, .dk _ _ _ => by simp [nofn] at n
  | _, _, n, .dt _ _ _ => by simp [nofn] at n
  | _, _, n, .fn h => .fn (by rw [e _ (by simpa [nofn] using n)]; exact h)
  | _, _, n, .lk _ _ _ => by simp [nofn] at n
  | _, _, n, .lt _ _ _ => by simp [nofn] at n
theorem RpAll.fa {K : PySem.W.Frag} {fa fa' : Nat → Option Addr} {F : Hp} (e : ∀ k, k ≠ 2000 → fa' k = fa k) : ∀ {vs : List V} {ds : List D}, nofns ds = true → RpAll K fa F vs ds → RpAll K fa' F vs ds
  | _, _, _, .nil => .nil
  | _, _, n, .cons h r => by
    simp only [nofns, Bool.and_eq_true] at n
    exact .cons (Rp.fa e n.1 h) (RpAll.fa e n.2 r)
end
end Fn
namespace Fn
open PySem PySem.Spec PyProof.Rows L2
section
variable {ρ ρ' : Env} {fa fb : Env → Res B} {fs : Env → Res (List D)} {f h : Env → Out} {t : Tg} {i n : Nat} {x y : D} {en : En} {op : B → B → Res B} {ds : List D} {b : B} {m : M}
end
section
variable {X : Cx} {g : G} {cls : Nat → Value} {k : Nat} {tab : List En} {N : List Str} {sc : Scope} {bt : Bt} {d : Addr} {Gd : Hp → List (List Key × V) → Prop} {a b : Expr} {fa fb : Env → Res B} {pos : Pos}
theorem CT.fg (C : CT X g cls k tab N sc bt) (F0 G0 : Hp) : CT X (g.fg F0 G0) cls k tab N sc bt := ⟨C.hK, C.calm, C.hN, C.nd, C.hS, C.room, C.tab, C.pz, C.bi, C.hd, C.nh, C.ph, C.eh, C.ex, C.hs⟩
theorem CS.fg (C : CS X g cls k tab N sc bt) (F0 G0 : Hp) : CS X (g.fg F0 G0) cls k tab N sc bt := ⟨C.ct.fg F0 G0, C.po, C.fn, C.tk, C.stk, C.frm⟩
theorem MthAt.fg {c p : Addr} {Of : Hp → Prop} {m : Str} {n : Nat} {Fk : List B → Res B} (A : MthAt X g d Gd c p Of m n Fk) {F0 : Hp} (G0 : Hp) (e : Same g.F0 F0) : MthAt X (g.fg F0 G0) d Gd c p Of m n Fk := by
  obtain ⟨dx, fs, h1, h2⟩ := A.ob
  exact ⟨A.ex, A.cl, A.sp, ⟨dx, fs, e _ _ h1, h2⟩, A.mo _ _ e A.of, A.mo⟩
end
theorem TabW.up {P : Program} {w : World} {K : PySem.W.Frag} {mg : Str → Option Value} {base : Heap} {fa : Nat → Option Addr} {cls : Nat → Value} {lv lv' : Nat} {tab : List En} (T : TabW P w K mg base fa cls lv tab) (h : lv ≤ lv') : TabW P w K mg base fa cls lv' tab :=
  ⟨fun k en e => let ⟨f, fd, ps, a1, a2, a3, a4, a5⟩ := T.at_ k en e; ⟨f, fd, ps, a1, a2, a3, a4, a5.mono h⟩⟩
end Fn
namespace Fn
open PySem PySem.Spec PyProof.Rows L2
section
variable {top : Int} {ps : List Plc} {ts : List Tie}
def lnOf (ps : List Plc) (ts : List Tie) (S : Str → Bool) : Int × Int := (lnB ((ps.map Plc.n).filter S) ps ts, lnL ((ps.map Plc.n).filter S) ps)
def lnAt (L : Int × Int) (q : Rat) : Rat := (L.1 : Rat) + (L.2 : Rat) * q
inductive Stair (ps : List Plc) (ts : List Tie) : Rat → Rat → List (Int × Int) → List Rat → Prop
  | one {l h : Rat} {L : Int × Int} : l < h → (∃ S, lnOf ps ts S = L) → (∀ q, l ≤ q → q ≤ h → ∀ S, lnAt L q ≤ wthS S ps ts q) → Stair ps ts l h [L] []
  | cons {l h p : Rat} {L M : Int × Int} {Ls : List (Int × Int)} {Bs : List Rat} : l < p → p < h → (∃ S, lnOf ps ts S = L) → (∀ q, l ≤ q → q ≤ p → ∀ S, lnAt L q ≤ wthS S ps ts q) → M.2 < L.2 → Stair ps ts p h (M :: Ls) Bs → Stair ps ts l h (L :: M :: Ls) (p :: Bs)
theorem Stair.lt {l h : Rat} {Ls : List (Int × Int)} {Bs : List Rat} (e : Stair ps ts l h Ls Bs) : l < h := by
  induction e with
  | one a _ _ => exact a
  | cons a _ _ _ _ _ ih => grind
theorem Stair.len {l h : Rat} {Ls : List (Int × Int)} {Bs : List Rat} (e : Stair ps ts l h Ls Bs) : Ls.length = Bs.length + 1 := by
  induction e with
  | one => rfl
  | cons _ _ _ _ _ _ ih => rw [List.length_cons, ih, List.length_cons]
theorem Stair.hd {l h : Rat} {L : Int × Int} {Ls : List (Int × Int)} {Bs : List Rat} (e : Stair ps ts l h (L :: Ls) Bs) : ∃ p, l < p ∧ p ≤ h ∧ (∃ S, lnOf ps ts S = L) ∧ ∀ q, l ≤ q → q ≤ p → ∀ S, lnAt L q ≤ wthS S ps ts q := by
  cases e with
  | one a b c => exact ⟨h, a, Rat.le_refl, b, c⟩
  | cons a b c d _ f => exact ⟨_, a, Rat.le_of_lt b, c, d⟩
theorem Stair.app {l p h : Rat} {Ls Ms : List (Int × Int)} {Bs Cs : List Rat} {L M : Int × Int} (e : Stair ps ts l p Ls Bs) (hl : Ls.getLast? = some L) (hm : M.2 < L.2) (f : Stair ps ts p h (M :: Ms) Cs) : Stair ps ts l h (Ls ++ (M :: Ms)) (Bs ++ p :: Cs) := by
  induction e with
  | @one l0 m0 L0 a b c =>
    have hl : L0 = L := by simpa using hl
    subst hl
    exact .cons a f.lt b c hm f
  | cons a b c d m e ih => exact .cons a (by have := f.lt; grind) c d m (ih (by simpa using hl) f)
end
end Fn
namespace Fn
open PySem PySem.Spec PyProof.Rows L2
def insV (i : Nat) (fa fb : Env → Res B) : Env → Out := fun ρ => match ownAt ρ i with
  | some (.l ds) => (match fa ρ with
    | .ok (.dat (.int k)) => (match fb ρ with
      | .ok b => (match rd b with
        | .dat d => if ds.length < sizeLine ∧ 0 ≤ k ∧ k < 2 ^ 63 then .nx (ρ.set i (some (.own (.l (ds.take k.toNat ++ [d] ++ ds.drop k.toNat))))) else .bad
        | _ => .bad)
      | .exc c => .exc c ρ
      | .bad => .bad)
    | .exc c => .exc c ρ
    | _ => .bad)
  | _ => .bad
section
variable {X : Cx} {g : G} {fa fb : Env → Res B}
theorem fs_insert {i : Nat} {x : Str} {e e' : Expr} {p1 p2 p3 p4 : Pos} (hi : X.N[i]? = some x) (hv : Vis X.env.scope x) (hd : (x == ("__debug__" : Str)) = false) (hcd : (x == ("__classdict__" : Str)) = false) (hn : nst e = true) (hn' : nst e' = true) (hl : (p2.endLine == p3.line) = true) (he : PE X e (tF g fa)) (he' : PE X e' (tF g fb)) :
    PS X (.Expr (.Call (.Attribute (.Name x p1) "insert" p2) [e, e'] [] p3) p4) (tFS g (insV i fa fb)) := by
  refine PS.imp (ps_expr (pe_bm PySem.F.plainAttrs_list PySem.F.slot_list_insert PySem.F.type_list_insert mt_insert (pe_var hi hv hd hcd) (pa_cons he (pa_cons he' pa_nil (star_cons hn')) (star_cons hn)) (by rfl) (by cases e <;> first | exact absurd (show false = true from hn) (by decide) | (cases e' <;> first | rfl | exact absurd (show false = true from hn') (by decide))) hl (star_cons hn) (by cases e' <;> first | rfl | exact absurd (show false = true from hn') (by decide)))) fun E σ H h => ?_
  show tVar i σ H fun v H1 => tyV X.K "list" v H1 ∧ tF g fa σ H1 fun w H2 => tF g fb σ H2 fun u H3 => (∃ (l : Addr) (xs : List V) (k : Int) (y : V), v = .ref l ∧ [w, u] = [.int k, y] ∧ H3 l = some (.lst xs) ∧ xs.length < sizeLine ∧ 0 ≤ k ∧ k < 2 ^ 63 ∧ E.nx σ (upd H3 l (.lst (xs.take k.toNat ++ [y] ++ xs.drop k.toNat))))
  obtain ⟨F, ρ, s, p⟩ := h
  unfold insV at p
  split at p
  · rename_i ds ho
    obtain ⟨q, o, a1, a2, a3, a4, a5⟩ := s.own_none (ownAt_ok ho)
    cases a5 with
    | l rl =>
      refine ⟨_, a1, Or.inl ⟨rfl, _, SqL.of a2⟩, ?_⟩
      refine run1 s (fun b v F1 H1 e2 g1 r1 => ?_) (fun c e => ?_) (fun e => ?_)
      · rw [e2] at p
        split at p
        · rename_i k hk
          cases hk
          have r1 : Rp g.K g.fa F1 v (.int k) := r1
          cases r1
          have s1 := s.grow g1
          refine run1 s1 (fun b2 u F2 H2 e3 g2 r2 => ?_) (fun c e => ?_) (fun e => ?_)
          · rw [e3] at p
            dsimp only at p
            split at p
            · rename_i d hd
              rw [hd] at r2
              split at p
              · rename_i hz
                refine ⟨q, _, k, u, rfl, rfl, g2.hh _ _ (g1.hh _ _ a2), by rw [rl.len]; exact hz.1, hz.2.1, hz.2.2, ?_⟩
                have ra := (rl.mono g1.fh).mono g2.fh
                exact p σ F2 _ ((s1.grow g2).change (ownAt_ok ho) a1 (.l (((RpAll.take k.toNat ra).app (.cons r2 .nil)).app (RpAll.drop k.toNat ra))))
              · exact p.elim
            · exact p.elim
          · rw [e] at p
            exact fun F' H' g2 => p σ F' H' (s1.grow g2)
          · rw [e] at p
            exact p
        · rename_i c hc
          cases hc
        · exact p.elim
      · rw [e] at p
        exact fun F' H' g1 => p σ F' H' (s.grow g1)
      · rw [e] at p
        exact p
  · exact p.elim
end
section
variable {X : Cx} {g : G} {cls : Nat → Value} {k : Nat} {tab : List En} {N : List Str} {sc : Scope} {bt : Bt} {fa fb : Env → Res B} {x : Str}
theorem CS.ins (C : CS X g cls k tab N sc bt) (i : Nat) {e e' : Expr} {p1 p2 p3 p4 : Pos} (he : PE X e (tF g fa)) (he' : PE X e' (tF g fb)) (h : vOk N sc i x = true) (hn : (nst e && (nst e' && (p2.endLine == p3.line))) = true) : PS X (.Expr (.Call (.Attribute (.Name x p1) "insert" p2) [e, e'] [] p3) p4) (tFS g (insV i fa fb)) := by
  obtain ⟨h1, h2, h3, h4⟩ := C.ct.vo h
  rw [Bool.and_eq_true, Bool.and_eq_true] at hn
  exact fs_insert h1 h2 h3 h4 hn.1 hn.2.1 hn.2.2 he he'
end
end Fn
namespace Fn
open PySem PySem.Spec PyProof.Rows L2
section
variable {X : Cx} {g : G} {lk : Bool} {a b c : Expr} {fa fb fc : Env → Res B}
end
end Fn
namespace PySem
open PySem PySem.W PySem.Calls PyProof.Rows
section
variable {prog : Program} {w : World} {A : Around} {E : Value → Shared → Prop} {s : Shared} {z TI TO i1 i2 T : Addr} {fp1 fp2 : List Addr} {n1 n2 i : Nat} {P1 P2 : Nat → Value → Prop} {St1 St2 : Nat → Heap → Prop} {f : Bool} {oT : Obj}
end
section
variable {prog : Program} {w : World}
end
end PySem
namespace Fn
open PySem PySem.Spec PyProof.Rows L2
section
variable {X : Cx} {g : G} {cls : Nat → Value} {k : Nat} {tab : List En} {N : List Str} {sc : Scope} {bt : Bt}
end
end Fn
namespace Fn
open PySem PySem.Spec PyProof.Rows L2
section
variable {X : Cx} {g : G} {cls : Nat → Value} {k : Nat} {tab : List En} {N : List Str} {sc : Scope} {bt : Bt} {a b c : Expr} {pos : Pos}
def par3 (i j l : Nat) (fs : Env → Res (List B)) : Env → Out := fun ρ => match fs ρ with
  | .ok [.dat x, .dat y, .dat z] => .nx (((ρ.set i (some (.dat x))).set j (some (.dat y))).set l (some (.dat z)))
  | .exc c => .exc c ρ
  | _ => .bad
theorem fs_par3 {i j l : Nat} {x y z : Str} {px py pz pt : Pos} {kt k2 pt2} {fs : Env → Res (List B)} (hc : X.calm = true) (hN : X.N.Nodup) (hi : X.N[i]? = some x) (hj : X.N[j]? = some y) (hl : X.N[l]? = some z) (hij : i ≠ j) (hil : i ≠ l) (hjl : j ≠ l)
    (hx : X.env.scope.names.lookup x = some .local) (hy : X.env.scope.names.lookup y = some .local) (hz : X.env.scope.names.lookup z = some .local) (ha : PA X [a, b, c] (tFA g fs))
    (hw : swappedStores [.Tuple [.Name x px, .Name y py, .Name z pz] kt pt] (.Tuple [a, b, c] k2 pt2) X.env = pure (some [x, y, z])) (hs : swapsWithSole [.Tuple [.Name x px, .Name y py, .Name z pz] kt pt] (.Tuple [a, b, c] k2 pt2) pos.line X.env = pure false) :
    PS X (.Assign [.Tuple [.Name x px, .Name y py, .Name z pz] kt pt] (.Tuple [a, b, c] k2 pt2) pos) (tFS g (par3 i j l fs)) := by
  refine PS.imp (ps_par3 hc hN hi hj hl hij hil hjl hx hy hz ha hw hs) fun E σ H ⟨F, ρ, s, p⟩ => ?_
  unfold par3 at p
  refine ⟨F, ρ, s, ?_⟩
  cases e : fs ρ with
  | bad => rw [e] at p; exact p
  | exc c => rw [e] at p; exact fun F' H' g1 => p σ F' H' (s.grow g1)
  | ok bs =>
    rw [e] at p
    split at p
    · rename_i d1 d2 d3 hh
      cases hh
      intro vs F1 H1 g1 r
      cases r with
      | cons r1 t =>
        cases t with
        | cons r2 t =>
          cases t with
          | cons r3 t =>
            cases t
            have s1 := s.grow g1
            have q1 := s1.put (b := .dat d1) (Grow.refl s1.sub) r1 i (fun m z => nomatch z)
            have q2 := q1.put (b := .dat d2) (Grow.refl s1.sub) r2 j (fun m z => nomatch z)
            have q3 := q2.put (b := .dat d3) (Grow.refl s1.sub) r3 l (fun m z => nomatch z)
            exact ⟨_, _, _, rfl, p _ F1 H1 q3⟩
    · rename_i hh; cases hh
    · exact p.elim
def parC3 (sc : Scope) (x y z : Str) (l1 l2 l3 : Nat) (a b c : Expr) : Bool :=
  ((if sc.kind.isAnnotationScope then ScopeKind.function else sc.kind) == .function) && (nst a && nst b && nst c) && (sc.names.lookup x == some .local && sc.names.lookup y == some .local && sc.names.lookup z == some .local) && (l2 == l1 && l3 == l1) && ([x, y, z].eraseDups.length == 3) && !([a, b, c].all (foldedForSure 8)) && !([a, b, c].all (constantsAlone 8))
theorem sw_par3 {x y z : Str} {px py pz pt pt2 : Pos} {kt k2 : Nat} {env : PySem.Env} {sc : Scope} (h : env.scope = sc) (hc : parC3 sc x y z px.line py.line pz.line a b c = true) : swappedStores [.Tuple [.Name x px, .Name y py, .Name z pz] kt pt] (.Tuple [a, b, c] k2 pt2) env = pure (some [x, y, z]) := by
  subst h
  unfold parC3 at hc
  simp only [Bool.and_eq_true, Bool.not_eq_true'] at hc
  obtain ⟨⟨⟨⟨⟨⟨c1, ⟨c2, c3⟩, c3'⟩, ⟨c4, c5⟩, c5'⟩, c6, c6'⟩, c7⟩, c8⟩, c9⟩ := hc
  have nsa : ∀ {e : Expr}, nst e = true → (match e with | .Starred .. => true | _ => false) = false := fun {e} h => by cases e <;> first | rfl | cases h
  have e1 : (env.blockKind != .function) = false := by
    show (!(env.blockKind == .function)) = false
    rw [show (env.blockKind == .function) = true from c1]
    rfl
  unfold swappedStores
  have q1 : (env.kindOf x == some .local) = true := c4
  have q2 : (env.kindOf y == some .local) = true := c5
  have q3 : (env.kindOf z == some .local) = true := c5'
  have q4 : (px.line == px.line) = true := by simp
  simp only [e1, List.length_cons, List.length_nil, List.any_cons, List.any_nil, nsa c2, nsa c3, nsa c3', List.filterMap_cons, List.filterMap_nil, List.head?_cons, Option.map_some, Option.getD_some, Expr.pos, q1, q2, q3, q4, c6, c6', c8, c9]
  simp at c7 ⊢
  refine (if_neg ?_).trans (if_pos c7)
  intro h
  rcases h with h | h | h
  · cases a <;> first | (cases h; done) | (cases c2; done)
  · cases b <;> first | (cases h; done) | (cases c3; done)
  · cases c <;> first | (cases h; done) | (cases c3'; done)
theorem CS.par3 (C : CS X g cls k tab N sc bt) (i j l : Nat) {x y z : Str} {px py pz pt pt2 : Pos} {kt k2 : Nat} {fs : Env → Res (List B)} (ha : PA X [a, b, c] (tFA g fs)) (h1 : lOk N sc i x = true) (h2 : lOk N sc j y = true) (h3 : lOk N sc l z = true) (hij : i ≠ j ∧ i ≠ l ∧ j ≠ l) (hc : parC3 sc x y z px.line py.line pz.line a b c = true) (hh : bt.hot = false := by rfl) :
    PS X (.Assign [.Tuple [.Name x px, .Name y py, .Name z pz] kt pt] (.Tuple [a, b, c] k2 pt2) pos) (tFS g (Fn.par3 i j l fs)) :=
  fs_par3 (C.ct.calm hh) C.ct.nd' (C.ct.lo h1).1 (C.ct.lo h2).1 (C.ct.lo h3).1 hij.1 hij.2.1 hij.2.2 (C.ct.lo h1).2 (C.ct.lo h2).2 (C.ct.lo h3).2 ha (sw_par3 C.ct.hS hc) rfl
def disF : List ((Env → Res B) × (Env → Res B)) → Env → Res (List (Key × D))
  | [], _ => .ok []
  | p :: r, ρ => (p.1 ρ).bind fun a => (p.2 ρ).bind fun b => match keyD (datOf (rd a)), rd b with
    | some k, .dat d => (disF r ρ).bind fun m => .ok ((k, d) :: m)
    | _, _ => .bad
def mergeD (kvs more : List (Key × D)) : List (Key × D) := more.foldl (fun acc kv => putD acc kv.1 kv.2) kvs
def dispN (fps : List ((Env → Res B) × (Env → Res B))) : Env → Res B := fun ρ => (disF fps ρ).bind fun m => if m.length ≤ 15 then .ok (.own (.k (mergeD [] m))) else .bad
end
section
variable {i j l : Nat} {fs : Env → Res (List B)} {ρ : Env} {x y z : D} {fps : List ((Env → Res B) × (Env → Res B))} {p : (Env → Res B) × (Env → Res B)}
def par3K (i j l : Nat) (r : Res (List B)) (ρ : Env) : Out := match r with
  | .ok [.dat x, .dat y, .dat z] => .nx (((ρ.set i (some (.dat x))).set j (some (.dat y))).set l (some (.dat z)))
  | .exc c => .exc c ρ
  | _ => .bad
theorem e_par3 : par3 i j l fs ρ = par3K i j l (fs ρ) ρ := (rfl)
theorem par3_ok : par3K i j l (.ok [.dat x, .dat y, .dat z]) ρ = .nx (((ρ.set i (some (.dat x))).set j (some (.dat y))).set l (some (.dat z))) := (rfl)
def disK (r r' : Res B) (r2 : Res (List (Key × D))) : Res (List (Key × D)) := match r, r' with
  | .ok a, .ok b => (match keyD (datOf (rd a)), rd b with
    | some k, .dat d => r2.bind fun m => .ok ((k, d) :: m)
    | _, _ => .bad)
  | .exc c, _ => .exc c
  | .ok _, .exc c => .exc c
  | _, _ => .bad
theorem e_dis_c : disF (p :: fps) ρ = disK (p.1 ρ) (p.2 ρ) (disF fps ρ) := by
  rw [disF]
  cases p.1 ρ with
  | ok a =>
    cases p.2 ρ with
    | ok b => rfl
    | exc c => rfl
    | bad => rfl
  | exc c => rfl
  | bad => rfl
theorem e_dis_n : disF [] ρ = .ok [] := (rfl)
theorem dis_str {s : Str} {d : D} {m : List (Key × D)} : disK (.ok (.dat (.str s))) (.ok (.dat d)) (.ok m) = .ok ((.inr s, d) :: m) := (rfl)
theorem e_disN : dispN fps ρ = (disF fps ρ).bind fun m => if m.length ≤ 15 then .ok (.own (.k (mergeD [] m))) else .bad := (rfl)
end
end Fn
namespace Fn
open PySem PySem.Spec PyProof.Rows L2
theorem paired_perm {α β : Type} {R : α → β → Prop} : ∀ {l l' : List α}, l'.Perm l → ∀ {qs : List β}, Paired R l qs → ∃ qs' : List β, qs'.Perm qs ∧ Paired R l' qs' := by
  intro l l' p
  induction p with
  | nil => exact fun {qs} h => ⟨qs, .refl _, h⟩
  | cons x p ih =>
    intro qs h
    cases h with
    | cons r t => obtain ⟨q, a, b⟩ := ih t; exact ⟨_ :: q, a.cons _, .cons r b⟩
  | swap x y l =>
    intro qs h
    cases h with
    | cons r t =>
      cases t with
      | cons r' t' => exact ⟨_, .swap .., .cons r' (.cons r t')⟩
  | trans _ _ ih1 ih2 =>
    intro qs h
    obtain ⟨q2, a2, b2⟩ := ih2 h
    obtain ⟨q1, a1, b1⟩ := ih1 b2
    exact ⟨q1, a1.trans a2, b1⟩
theorem paired_snoc {α β : Type} {R : α → β → Prop} {x : α} {k : β} (r : R x k) : ∀ {l : List α} {qs : List β}, Paired R l qs → Paired R (l ++ [x]) (qs ++ [k])
  | _, _, .nil => .cons r .nil
  | _, _, .cons r' t => .cons r' (paired_snoc r t)
theorem paired_l {α β : Type} {R : α → β → Prop} : ∀ {l : List α} {qs : List β}, Paired R l qs → ∀ x ∈ l, ∃ k ∈ qs, R x k
  | _, _, .nil, x, hx => by cases hx
  | _, _, .cons r t, x, hx => by
    rcases List.mem_cons.mp hx with e | hx
    · subst e; exact ⟨_, List.mem_cons_self, r⟩
    · obtain ⟨k, a, b⟩ := paired_l t x hx
      exact ⟨k, List.mem_cons_of_mem _ a, b⟩
theorem paired_r {α β : Type} {R : α → β → Prop} : ∀ {l : List α} {qs : List β}, Paired R l qs → ∀ k ∈ qs, ∃ x ∈ l, R x k
  | _, _, .nil, x, hx => by cases hx
  | _, _, .cons r t, x, hx => by
    rcases List.mem_cons.mp hx with e | hx
    · subst e; exact ⟨_, List.mem_cons_self, r⟩
    · obtain ⟨k, a, b⟩ := paired_r t x hx
      exact ⟨k, List.mem_cons_of_mem _ a, b⟩
def addK {κ : Type} [DecidableEq κ] (ks : List κ) (k : κ) : List κ := if k ∈ ks then ks else ks ++ [k]
section
variable {κ : Type} [DecidableEq κ]
theorem addK_nd {ks : List κ} (h : ks.Nodup) (k : κ) : (addK ks k).Nodup := by
  unfold addK
  split
  · exact h
  · rename_i z
    exact List.nodup_append.mpr ⟨h, by simp, fun a ha b hb e => z (by rw [List.mem_singleton.mp hb] at e; rw [← e]; exact ha)⟩
end
inductive RowsT (K : PySem.W.Frag) (H : Hp) : List Addr → List Addr → List (List Key × V) → Prop
  | nil : RowsT K H [] [] []
  | cons {p b : Addr} {kv : List Key × V} {ps bs : List Addr} {kvs : List (List Key × V)} : SqT K H p [V.ref b, kv.2] → H b = some (.tup (kv.1.map kV)) → RowsT K H ps bs kvs → RowsT K H (p :: ps) (b :: bs) (kv :: kvs)
section
variable {X : Cx} {pins : List (Addr × Obj)} {σ : L2.St} {H : Hp} {s : Shared}
end
section
variable {X : Cx} {g : G} {cls : Nat → Value} {k : Nat} {tab : List En} {N : List Str} {sc : Scope} {bt : Bt}
end
end Fn
namespace Fn
open PySem PySem.Spec PyProof.Rows L2
section
variable {X : Cx} {g : G} {a b : Expr} {pos : Pos} {fa fb : Env → Res B}
end
section
variable {X : Cx} {g : G} {cls : Nat → Value} {k : Nat} {tab : List En} {N : List Str} {sc : Scope} {bt : Bt} {a b : Expr} {pos : Pos} {fa fb : Env → Res B}
end
section
variable {X : Cx} {g : G} {cls : Nat → Value} {k : Nat} {tab : List En} {N : List Str} {sc : Scope} {bt : Bt} {a b : Expr} {pos : Pos} {fa fb : Env → Res B}
end
end Fn
namespace Fn
open PySem PySem.Spec PyProof.Rows L2
theorem evT : ((((((((type_of% @e_par3 ∧ type_of% @par3_ok) ∧ (type_of% @e_dis_n ∧ type_of% @e_dis_c)) ∧ ((type_of% @dis_str ∧ type_of% @e_disN) ∧ (type_of% @e_zp ∧ (type_of% @zpK_ok ∧ type_of% @zpK_exc)))) ∧ (((type_of% @zip_2 ∧ type_of% @zip_3) ∧ (type_of% @zip2K_ok ∧ (type_of% @zip3K_ok ∧ type_of% @sqD_tup))) ∧ ((type_of% @sqD_ctup ∧ type_of% @sqD_lst) ∧ (type_of% @sqD_vw ∧ (type_of% @sqD_bor ∧ type_of% @sqD_scr))))) ∧ ((((type_of% @e_en ∧ type_of% @enK_ok) ∧ (type_of% @enK_exc ∧ (type_of% @en_1 ∧ type_of% @enO_ok))) ∧ ((type_of% @e_disp ∧ type_of% @disp_str) ∧ (type_of% @disp_int ∧ (type_of% @e_dget ∧ type_of% @dget_str)))) ∧ (((type_of% @dgO_some ∧ type_of% @dgO_none) ∧ (type_of% @e_closeS ∧ (type_of% @e_close ∧ type_of% @close_nst))) ∧ ((type_of% @close_own ∧ type_of% @e_try) ∧ (type_of% @tryK_nx ∧ (type_of% @tryK_rt ∧ type_of% @tryK_bk)))))) ∧ (((((type_of% @tryK_ct ∧ type_of% @tryK_exc) ∧ (type_of% @tryK_pass ∧ type_of% @hdl_none)) ∧ ((type_of% @hdl_some ∧ type_of% @leaveN_nx) ∧ (type_of% @leaveN_rt ∧ (type_of% @leaveN_ct ∧ type_of% @leaveN_bk)))) ∧ (((type_of% @leaveS_nx ∧ type_of% @leaveS_rt) ∧ (type_of% @leaveS_ct ∧ (type_of% @leaveS_bk ∧ type_of% @noErr_nil))) ∧ ((type_of% @noErr_cons ∧ type_of% @noErrO_none) ∧ (type_of% @noErrO_dat ∧ (type_of% @noErrO_own ∧ type_of% @noErrO_bor))))) ∧ ((((type_of% @noErrO_scr ∧ type_of% @noErrB_dat) ∧ (type_of% @noErrB_own ∧ (type_of% @errI_t ∧ type_of% @errI_f))) ∧ ((type_of% @errV_t ∧ type_of% @errT_t) ∧ (type_of% @errT_f ∧ (type_of% @e_rz ∧ type_of% @retB_err)))) ∧ (((type_of% @look_err ∧ type_of% @rd_err) ∧ (type_of% @arg_err ∧ (type_of% @set_err ∧ type_of% @e_count))) ∧ ((type_of% @drop_any ∧ type_of% @e_seq) ∧ (type_of% @sq_nx ∧ (type_of% @sq_rt ∧ type_of% @sq_bk))))))) ∧ ((((((type_of% @sq_ct ∧ type_of% @sq_exc) ∧ (type_of% @e_then ∧ type_of% @then_ok)) ∧ ((type_of% @then_exc ∧ type_of% @set_dat) ∧ (type_of% @set_own ∧ (type_of% @set_bor ∧ type_of% @set_scr)))) ∧ (((type_of% @setL_dat ∧ type_of% @setL_own) ∧ (type_of% @setL_bor ∧ (type_of% @ret_dat ∧ type_of% @ret_own))) ∧ ((type_of% @rd_dat ∧ type_of% @rd_own) ∧ (type_of% @rd_vw ∧ (type_of% @rd_bor ∧ type_of% @rd_scr))))) ∧ ((((type_of% @frz_l ∧ type_of% @frz_k) ∧ (type_of% @frz_t ∧ (type_of% @e_var ∧ type_of% @look_dat))) ∧ ((type_of% @look_own ∧ type_of% @look_bor) ∧ (type_of% @look_scr ∧ (type_of% @e_retN ∧ type_of% @lookN_dat)))) ∧ (((type_of% @lookN_own ∧ type_of% @e_bin2) ∧ (type_of% @bin2_ok ∧ (type_of% @bin2_exc ∧ type_of% @bin2_exc2))) ∧ ((type_of% @e_one1 ∧ type_of% @one1_ok) ∧ (type_of% @one1_exc ∧ (type_of% @e_cons ∧ type_of% @cons_okK)))))) ∧ (((((type_of% @cons_exc ∧ type_of% @cons_exc2) ∧ (type_of% @e_nil ∧ type_of% @e_call)) ∧ ((type_of% @bnd_ok ∧ type_of% @bnd_exc) ∧ (type_of% @e_own ∧ (type_of% @arg_dat ∧ type_of% @arg_vw)))) ∧ (((type_of% @arg_bor ∧ type_of% @arg_scr) ∧ (type_of% @retB_dat ∧ (type_of% @retB_own ∧ type_of% @e_tst))) ∧ ((type_of% @tst_bl ∧ type_of% @e_testV) ∧ (type_of% @test_ok ∧ (type_of% @test_exc ∧ type_of% @tru_bl))))) ∧ ((((type_of% @tru_int ∧ type_of% @tru_non) ∧ (type_of% @tru_tup ∧ (type_of% @tru_lst ∧ type_of% @tru_vw))) ∧ ((type_of% @e_notT ∧ type_of% @notK_ok) ∧ (type_of% @notK_exc ∧ (type_of% @e_and ∧ type_of% @e_or)))) ∧ (((type_of% @and_t ∧ type_of% @and_f) ∧ (type_of% @or_t ∧ (type_of% @or_f ∧ type_of% @and_exc))) ∧ ((type_of% @or_exc ∧ type_of% @e_iteV) ∧ (type_of% @iteV_t ∧ (type_of% @iteV_f ∧ type_of% @e_andV)))))))) ∧ (((((((type_of% @e_orV ∧ type_of% @andV_t) ∧ (type_of% @andV_f ∧ type_of% @andV_exc)) ∧ ((type_of% @orV_t ∧ type_of% @orV_f) ∧ (type_of% @orV_exc ∧ (type_of% @e_iteS ∧ type_of% @iteS_t)))) ∧ (((type_of% @iteS_f ∧ type_of% @iteS_exc) ∧ (type_of% @e_it ∧ (type_of% @itK_ok ∧ type_of% @itK_exc))) ∧ ((type_of% @it_tup ∧ type_of% @it_ctup) ∧ (type_of% @it_lst ∧ (type_of% @it_bor ∧ type_of% @it_vw))))) ∧ ((((type_of% @it_scr ∧ type_of% @it_str) ∧ (type_of% @e_index ∧ (type_of% @index_ok ∧ type_of% @e_mut))) ∧ ((type_of% @mut_rev ∧ type_of% @e_ext) ∧ (type_of% @ext_own ∧ (type_of% @ext_dat ∧ type_of% @e_extW)))) ∧ (((type_of% @extW_tup ∧ type_of% @e_rg) ∧ (type_of% @e_shl ∧ (type_of% @e_pow ∧ type_of% @e_noP))) ∧ ((type_of% @e_atP ∧ type_of% @part_int) ∧ (type_of% @e_slc ∧ (type_of% @slc_okK ∧ type_of% @e_comp)))))) ∧ (((((type_of% @compK_ok ∧ type_of% @compK_exc) ∧ (type_of% @wipe_nil ∧ type_of% @wipe_cons)) ∧ ((type_of% @e_for ∧ type_of% @forK_ok) ∧ (type_of% @forK_exc ∧ (type_of% @bindV_dat ∧ type_of% @bindV_own)))) ∧ (((type_of% @bindO_some ∧ type_of% @bt_one) ∧ (type_of% @bt_tup ∧ (type_of% @bt_ctup ∧ type_of% @bt_lst))) ∧ ((type_of% @pm_nil ∧ type_of% @pm_nil2) ∧ (type_of% @pm_cons ∧ (type_of% @e_par2 ∧ type_of% @par2_dd))))) ∧ ((((type_of% @par2_od ∧ type_of% @par2_do) ∧ (type_of% @par2_oo ∧ (type_of% @e_lock ∧ type_of% @lock_own))) ∧ ((type_of% @lock_dat ∧ type_of% @lock_bor) ∧ (type_of% @lock_none ∧ (type_of% @e_lockS ∧ type_of% @outR_nx)))) ∧ (((type_of% @outR_rt ∧ type_of% @outR_exc) ∧ (type_of% @e_litI ∧ (type_of% @e_litS ∧ type_of% @e_litB))) ∧ ((type_of% @e_litN ∧ type_of% @e_litD) ∧ (type_of% @e_newK ∧ (type_of% @e_newT ∧ type_of% @e_nx))))))) ∧ ((((((type_of% @e_bk ∧ type_of% @e_ct) ∧ (type_of% @e_rtN ∧ type_of% @e_yes)) ∧ ((type_of% @e_app ∧ type_of% @own_of) ∧ (type_of% @app_dat ∧ (type_of% @app_own ∧ type_of% @app_exc)))) ∧ (((type_of% @e_put ∧ type_of% @put_dat) ∧ (type_of% @put_own ∧ (type_of% @putO_some ∧ type_of% @e_forget))) ∧ ((type_of% @fg_nx ∧ type_of% @fg_bk) ∧ (type_of% @fg_ct ∧ (type_of% @fg_rt ∧ type_of% @fg_exc))))) ∧ ((((type_of% @e_chn ∧ type_of% @chn_ok) ∧ (type_of% @chnV_t ∧ (type_of% @chnV_f ∧ type_of% @e_lstB))) ∧ ((type_of% @e_tupB ∧ type_of% @dats_nil) ∧ (type_of% @dats_cons ∧ (type_of% @datsO_some ∧ type_of% @lstK_ok)))) ∧ (((type_of% @tupK_ok ∧ type_of% @len_tup) ∧ (type_of% @len_lst ∧ (type_of% @len_vw ∧ type_of% @len_bor))) ∧ ((type_of% @len_scr ∧ type_of% @len_S) ∧ (type_of% @neg_i ∧ (type_of% @not_bl ∧ type_of% @tupF_lst)))))) ∧ (((((type_of% @tupF_tup ∧ type_of% @tupF_vw) ∧ (type_of% @tupF_bor ∧ type_of% @lstF_tup)) ∧ ((type_of% @lstF_lst ∧ type_of% @lstG_dk) ∧ (type_of% @lstG_tup ∧ (type_of% @lstG_lst ∧ type_of% @lstG_vw)))) ∧ (((type_of% @lstG_bor ∧ type_of% @int_i) ∧ (type_of% @int_bl ∧ (type_of% @is_t ∧ type_of% @isn_t))) ∧ ((type_of% @is_n ∧ type_of% @isn_n) ∧ (type_of% @eq_bl ∧ (type_of% @ne_bl ∧ type_of% @isi_bl))))) ∧ ((((type_of% @add_ii ∧ type_of% @sub_ii) ∧ (type_of% @lt_ii ∧ (type_of% @gt_ii ∧ type_of% @le_ii))) ∧ ((type_of% @ge_ii ∧ type_of% @eq_ii) ∧ (type_of% @ne_ii ∧ (type_of% @min_ii ∧ type_of% @max_ii)))) ∧ (((type_of% @max3_ii ∧ type_of% @and_ii) ∧ (type_of% @slc_tup ∧ (type_of% @slc_l ∧ type_of% @slc_vw))) ∧ ((type_of% @slc_bor ∧ type_of% @back_tup) ∧ (type_of% @back_lst ∧ (type_of% @app_l ∧ type_of% @app_m))))))))) := ⟨⟨⟨⟨⟨⟨⟨⟨@e_par3, @par3_ok⟩, ⟨@e_dis_n, @e_dis_c⟩⟩, ⟨⟨@dis_str, @e_disN⟩, ⟨@e_zp, ⟨@zpK_ok, @zpK_exc⟩⟩⟩⟩, ⟨⟨⟨@zip_2, @zip_3⟩, ⟨@zip2K_ok, ⟨@zip3K_ok, @sqD_tup⟩⟩⟩, ⟨⟨@sqD_ctup, @sqD_lst⟩, ⟨@sqD_vw, ⟨@sqD_bor, @sqD_scr⟩⟩⟩⟩⟩, ⟨⟨⟨⟨@e_en, @enK_ok⟩, ⟨@enK_exc, ⟨@en_1, @enO_ok⟩⟩⟩, ⟨⟨@e_disp, @disp_str⟩, ⟨@disp_int, ⟨@e_dget, @dget_str⟩⟩⟩⟩, ⟨⟨⟨@dgO_some, @dgO_none⟩, ⟨@e_closeS, ⟨@e_close, @close_nst⟩⟩⟩, ⟨⟨@close_own, @e_try⟩, ⟨@tryK_nx, ⟨@tryK_rt, @tryK_bk⟩⟩⟩⟩⟩⟩, ⟨⟨⟨⟨⟨@tryK_ct, @tryK_exc⟩, ⟨@tryK_pass, @hdl_none⟩⟩, ⟨⟨@hdl_some, @leaveN_nx⟩, ⟨@leaveN_rt, ⟨@leaveN_ct, @leaveN_bk⟩⟩⟩⟩, ⟨⟨⟨@leaveS_nx, @leaveS_rt⟩, ⟨@leaveS_ct, ⟨@leaveS_bk, @noErr_nil⟩⟩⟩, ⟨⟨@noErr_cons, @noErrO_none⟩, ⟨@noErrO_dat, ⟨@noErrO_own, @noErrO_bor⟩⟩⟩⟩⟩, ⟨⟨⟨⟨@noErrO_scr, @noErrB_dat⟩, ⟨@noErrB_own, ⟨@errI_t, @errI_f⟩⟩⟩, ⟨⟨@errV_t, @errT_t⟩, ⟨@errT_f, ⟨@e_rz, @retB_err⟩⟩⟩⟩, ⟨⟨⟨@look_err, @rd_err⟩, ⟨@arg_err, ⟨@set_err, @e_count⟩⟩⟩, ⟨⟨@drop_any, @e_seq⟩, ⟨@sq_nx, ⟨@sq_rt, @sq_bk⟩⟩⟩⟩⟩⟩⟩, ⟨⟨⟨⟨⟨⟨@sq_ct, @sq_exc⟩, ⟨@e_then, @then_ok⟩⟩, ⟨⟨@then_exc, @set_dat⟩, ⟨@set_own, ⟨@set_bor, @set_scr⟩⟩⟩⟩, ⟨⟨⟨@setL_dat, @setL_own⟩, ⟨@setL_bor, ⟨@ret_dat, @ret_own⟩⟩⟩, ⟨⟨@rd_dat, @rd_own⟩, ⟨@rd_vw, ⟨@rd_bor, @rd_scr⟩⟩⟩⟩⟩, ⟨⟨⟨⟨@frz_l, @frz_k⟩, ⟨@frz_t, ⟨@e_var, @look_dat⟩⟩⟩, ⟨⟨@look_own, @look_bor⟩, ⟨@look_scr, ⟨@e_retN, @lookN_dat⟩⟩⟩⟩, ⟨⟨⟨@lookN_own, @e_bin2⟩, ⟨@bin2_ok, ⟨@bin2_exc, @bin2_exc2⟩⟩⟩, ⟨⟨@e_one1, @one1_ok⟩, ⟨@one1_exc, ⟨@e_cons, @cons_okK⟩⟩⟩⟩⟩⟩, ⟨⟨⟨⟨⟨@cons_exc, @cons_exc2⟩, ⟨@e_nil, @e_call⟩⟩, ⟨⟨@bnd_ok, @bnd_exc⟩, ⟨@e_own, ⟨@arg_dat, @arg_vw⟩⟩⟩⟩, ⟨⟨⟨@arg_bor, @arg_scr⟩, ⟨@retB_dat, ⟨@retB_own, @e_tst⟩⟩⟩, ⟨⟨@tst_bl, @e_testV⟩, ⟨@test_ok, ⟨@test_exc, @tru_bl⟩⟩⟩⟩⟩, ⟨⟨⟨⟨@tru_int, @tru_non⟩, ⟨@tru_tup, ⟨@tru_lst, @tru_vw⟩⟩⟩, ⟨⟨@e_notT, @notK_ok⟩, ⟨@notK_exc, ⟨@e_and, @e_or⟩⟩⟩⟩, ⟨⟨⟨@and_t, @and_f⟩, ⟨@or_t, ⟨@or_f, @and_exc⟩⟩⟩, ⟨⟨@or_exc, @e_iteV⟩, ⟨@iteV_t, ⟨@iteV_f, @e_andV⟩⟩⟩⟩⟩⟩⟩⟩, ⟨⟨⟨⟨⟨⟨⟨@e_orV, @andV_t⟩, ⟨@andV_f, @andV_exc⟩⟩, ⟨⟨@orV_t, @orV_f⟩, ⟨@orV_exc, ⟨@e_iteS, @iteS_t⟩⟩⟩⟩, ⟨⟨⟨@iteS_f, @iteS_exc⟩, ⟨@e_it, ⟨@itK_ok, @itK_exc⟩⟩⟩, ⟨⟨@it_tup, @it_ctup⟩, ⟨@it_lst, ⟨@it_bor, @it_vw⟩⟩⟩⟩⟩, ⟨⟨⟨⟨@it_scr, @it_str⟩, ⟨@e_index, ⟨@index_ok, @e_mut⟩⟩⟩, ⟨⟨@mut_rev, @e_ext⟩, ⟨@ext_own, ⟨@ext_dat, @e_extW⟩⟩⟩⟩, ⟨⟨⟨@extW_tup, @e_rg⟩, ⟨@e_shl, ⟨@e_pow, @e_noP⟩⟩⟩, ⟨⟨@e_atP, @part_int⟩, ⟨@e_slc, ⟨@slc_okK, @e_comp⟩⟩⟩⟩⟩⟩, ⟨⟨⟨⟨⟨@compK_ok, @compK_exc⟩, ⟨@wipe_nil, @wipe_cons⟩⟩, ⟨⟨@e_for, @forK_ok⟩, ⟨@forK_exc, ⟨@bindV_dat, @bindV_own⟩⟩⟩⟩, ⟨⟨⟨@bindO_some, @bt_one⟩, ⟨@bt_tup, ⟨@bt_ctup, @bt_lst⟩⟩⟩, ⟨⟨@pm_nil, @pm_nil2⟩, ⟨@pm_cons, ⟨@e_par2, @par2_dd⟩⟩⟩⟩⟩, ⟨⟨⟨⟨@par2_od, @par2_do⟩, ⟨@par2_oo, ⟨@e_lock, @lock_own⟩⟩⟩, ⟨⟨@lock_dat, @lock_bor⟩, ⟨@lock_none, ⟨@e_lockS, @outR_nx⟩⟩⟩⟩, ⟨⟨⟨@outR_rt, @outR_exc⟩, ⟨@e_litI, ⟨@e_litS, @e_litB⟩⟩⟩, ⟨⟨@e_litN, @e_litD⟩, ⟨@e_newK, ⟨@e_newT, @e_nx⟩⟩⟩⟩⟩⟩⟩, ⟨⟨⟨⟨⟨⟨@e_bk, @e_ct⟩, ⟨@e_rtN, @e_yes⟩⟩, ⟨⟨@e_app, @own_of⟩, ⟨@app_dat, ⟨@app_own, @app_exc⟩⟩⟩⟩, ⟨⟨⟨@e_put, @put_dat⟩, ⟨@put_own, ⟨@putO_some, @e_forget⟩⟩⟩, ⟨⟨@fg_nx, @fg_bk⟩, ⟨@fg_ct, ⟨@fg_rt, @fg_exc⟩⟩⟩⟩⟩, ⟨⟨⟨⟨@e_chn, @chn_ok⟩, ⟨@chnV_t, ⟨@chnV_f, @e_lstB⟩⟩⟩, ⟨⟨@e_tupB, @dats_nil⟩, ⟨@dats_cons, ⟨@datsO_some, @lstK_ok⟩⟩⟩⟩, ⟨⟨⟨@tupK_ok, @len_tup⟩, ⟨@len_lst, ⟨@len_vw, @len_bor⟩⟩⟩, ⟨⟨@len_scr, @len_S⟩, ⟨@neg_i, ⟨@not_bl, @tupF_lst⟩⟩⟩⟩⟩⟩, ⟨⟨⟨⟨⟨@tupF_tup, @tupF_vw⟩, ⟨@tupF_bor, @lstF_tup⟩⟩, ⟨⟨@lstF_lst, @lstG_dk⟩, ⟨@lstG_tup, ⟨@lstG_lst, @lstG_vw⟩⟩⟩⟩, ⟨⟨⟨@lstG_bor, @int_i⟩, ⟨@int_bl, ⟨@is_t, @isn_t⟩⟩⟩, ⟨⟨@is_n, @isn_n⟩, ⟨@eq_bl, ⟨@ne_bl, @isi_bl⟩⟩⟩⟩⟩, ⟨⟨⟨⟨@add_ii, @sub_ii⟩, ⟨@lt_ii, ⟨@gt_ii, @le_ii⟩⟩⟩, ⟨⟨@ge_ii, @eq_ii⟩, ⟨@ne_ii, ⟨@min_ii, @max_ii⟩⟩⟩⟩, ⟨⟨⟨@max3_ii, @and_ii⟩, ⟨@slc_tup, ⟨@slc_l, @slc_vw⟩⟩⟩, ⟨⟨@slc_bor, @back_tup⟩, ⟨@back_lst, ⟨@app_l, @app_m⟩⟩⟩⟩⟩⟩⟩⟩⟩
theorem evS : (((type_of% @mapC_nil ∧ (type_of% @mapC_cons ∧ type_of% @consC_ok)) ∧ ((type_of% @e_step ∧ type_of% @stepK_some) ∧ (type_of% @stepV_t ∧ type_of% @stepV_f))) ∧ (((type_of% @datR_dat ∧ type_of% @datR_own) ∧ (type_of% @loop_nil ∧ type_of% @lk_nx)) ∧ ((type_of% @lk_ct ∧ type_of% @lk_bk) ∧ (type_of% @lk_rt ∧ type_of% @lk_exc)))) := ⟨⟨⟨@mapC_nil, ⟨@mapC_cons, @consC_ok⟩⟩, ⟨⟨@e_step, @stepK_some⟩, ⟨@stepV_t, @stepV_f⟩⟩⟩, ⟨⟨⟨@datR_dat, @datR_own⟩, ⟨@loop_nil, @lk_nx⟩⟩, ⟨⟨@lk_ct, @lk_bk⟩, ⟨@lk_rt, @lk_exc⟩⟩⟩⟩
end Fn
namespace Fn
open PySem PySem.Spec PyProof.Rows L2
section
variable {P : Program} {w : World} {κ : Type} [DecidableEq κ] (kd : KeyKind P w κ)
def Ent (e : Int × Value) (k : κ) : Prop := kd.is k e.2 = true ∧ e.1 = kd.hash k ∧ e.2.scannable = true
def SetG (h : Heap) (a : Addr) (ks : List κ) : Prop :=
  ∃ o es ep t qs, h.get? a = some o ∧ o.ExactSet ∧ o.data = .set es ep t ∧ Paired (Ent kd) es.toList qs ∧ qs.Perm ks ∧ ks.Nodup ∧ es.size < scanBound ∧ t.fits es.size = true ∧ Ris t.place.toList ∧ (w.params.followText "set-order" = true ∨ t.led = true)
variable {kd}
theorem SetG.keep {h h' : Heap} {a : Addr} {ks : List κ} (R : SetG kd h a ks) (e : ∀ o, h.get? a = some o → h'.get? a = some o) : SetG kd h' a ks := by
  obtain ⟨o, es, ep, t, qs, ho, r⟩ := R
  exact ⟨o, es, ep, t, qs, e o ho, r⟩
theorem ent_elems {l : List (Int × Value)} {qs : List κ} (h : Paired (Ent kd) l qs) : ElemsOf kd l := fun e he => by
  obtain ⟨k, _, h1, h2, h3⟩ := paired_l h e he
  exact ⟨⟨k, h1, h2⟩, h3⟩
theorem SetG.new {h : Heap} {a : Addr} (e : h.get? a = some { cls := .type "set", dict := none, data := .set #[] 0 (.fresh 0 0 (!w.params.followText "set-order")) }) : SetG kd h a [] := by
  refine ⟨_, #[], 0, _, [], e, ⟨rfl, rfl, rfl⟩, rfl, .nil, .refl _, .nil, by decide, by rfl, .nil, ?_⟩
  cases z : w.params.followText "set-order" with
  | true => exact .inl rfl
  | false => exact .inr rfl
variable {A : Around} {E : Value → Shared → Prop} {s : Shared}
theorem SetG.tail {g : Bool → Sem Unit} (hg : ∀ (b : Bool) (s1 : Shared) (Z : Unit → Shared → Prop), Z () s1 → wpAny (model P w) A (g b) Z E s1) {a : Addr} {o : Obj} {es : Array (Int × Value)} {ep : Nat} {t : SetTable}
    (ho : s.heap.get? a = some o) (hex : o.ExactSet) (hd : o.data = .set es ep t) {fs : Array (Int × Value)} {tt : SetTable} {qs ks : List κ} (h1 : Paired (Ent kd) fs.toList qs) (pm : qs.Perm ks) (nd : ks.Nodup) (hb : fs.size < scanBound)
    (hf : tt.fits fs.size = true) (hr : Ris tt.place.toList) (hl : w.params.followText "set-order" = true ∨ tt.led = true) {wd : Bool} {R : Option Bool → Shared → Prop} (q : ∀ h', Heap.SameBut a s.heap h' → SetG kd h' a ks → R (some true) { s with heap := h' }) :
    wpAny (model P w) A (do
        storeSet a fs tt
        if (!wd && tt.tooFull) = true then do
            g (relayAll tt fs (SetTable.grown fs.size)).2.2
            storeSet a (relayAll tt fs (SetTable.grown fs.size)).1 (relayAll tt fs (SetTable.grown fs.size)).2.1
            pure (some true)
          else pure (some true)) R E s := by
  refine (wpAny_bind (wpAny_storeSet_of ho hd ?_ (fits_of_scanBound hb)))
  have at1 := store_at (es' := fs) (t' := tt) ho hd
  have sm := Heap.SameBut.update s.heap a (Obj.putSet fs tt)
  split
  · have pr := relayAll_perm tt fs (SetTable.grown fs.size)
    have f3 := relayAll_fits tt fs (SetTable.grown fs.size)
    have r3 := relayAll_ris tt fs (SetTable.grown fs.size)
    have l3 := relayAll_led tt fs (SetTable.grown fs.size)
    generalize relayAll tt fs (SetTable.grown fs.size) = Z at pr f3 r3 l3 ⊢
    obtain ⟨gs, u, gv⟩ := Z
    dsimp only at pr f3 r3 l3 ⊢
    obtain ⟨qs2, p2, e2⟩ := paired_perm pr h1
    have hz : gs.size = fs.size := by
      have := pr.length_eq
      simpa using this
    refine (wpAny_bind (hg _ _ _ ?_))
    refine (wpAny_bind (wpAny_storeSet_of at1 rfl ?_ (fits_of_scanBound (by rw [hz]; exact hb))))
    refine wpAny_pure (q _ (sm.trans (Heap.SameBut.update _ a _)) ⟨_, gs, _, u, qs2, store_at (es' := gs) (t' := u) at1 rfl, hex, rfl, e2, p2.trans pm, nd, by rw [hz]; exact hb, f3, r3, hl.imp id fun z => by rw [l3]; exact z⟩)
  · exact wpAny_pure (q _ sm ⟨_, fs, _, tt, qs, at1, hex, rfl, h1, pm, nd, hb, hf, hr, hl⟩)
theorem SetG.add {a : Addr} {ks : List κ} {k : κ} {x : Value} {Q : Bool → Shared → Prop} (R : SetG kd s.heap a ks) (hk : kd.is k x = true) (hs : x.scannable = true) (room : ks.length + 1 < scanBound)
    (q : ∀ h' b, Heap.SameBut a s.heap h' → SetG kd h' a (addK ks k) → Q b { s with heap := h' }) : wpAny (model P w) A (setAddHashed a x (kd.hash k)) Q E s := by
  obtain ⟨o, es, ep, t, qs, ho, hex, hd, en, pm, nd, hb, hf, hr, hl⟩ := R
  have el : ElemsOf kd es.toList := ent_elems en
  have hsz : es.size = ks.length := by rw [← pm.length_eq, ← Paired.length en, Array.length_toList]
  have gw : ∀ (b : Bool) (s1 : Shared) (Z : Unit → Shared → Prop), Z () s1 → wpAny (model P w) A (match b with | true => rule "set.scan.the-table-gave-way" | false => pure ()) Z E s1 := fun b s1 Z z => by
    cases b
    · exact wpAny_pure z
    · exact wpAny_rule z
  unfold setAddHashed setAddHashedIn
  refine wpAny_holding (wpAny_bind (wpAny_setState_of ho hd hf ?_))
  dsimp only
  rw [byScan_of (knd := kd) hs hb el, if_pos rfl]
  unfold setAddByScan
  refine wpAny_bind (wpAny_bind (wpAny_rule (wpAny_bind (wpAny_setScan_of hk ho hd hf el ?_))))
  cases hi : List.findIdx? (fun e => kd.is k e.2) es.toList with
  | some j =>
    obtain ⟨hj, pj, _⟩ := List.findIdx?_eq_some_iff_getElem.mp hi
    obtain ⟨k', hm, h1, _⟩ := paired_l en _ (List.getElem_mem hj)
    have e := kd.inj _ _ _ pj h1
    subst e
    have hin : k ∈ ks := pm.mem_iff.mp hm
    have z := q s.heap false (Heap.SameBut.refl a s.heap)
    rw [show addK ks k = ks from if_pos hin] at z
    exact wpAny_pure (wpAny_pure (z ⟨o, es, ep, t, qs, ho, hex, hd, en, pm, nd, hb, hf, hr, hl⟩))
  | none =>
    have hno : k ∉ ks := fun z => by
      obtain ⟨e, he, h1, _⟩ := paired_r en k (pm.mem_iff.mpr z)
      have c := List.findIdx?_eq_none_iff.mp hi e he
      rw [h1] at c
      cases c
    have z : ∀ h', Heap.SameBut a s.heap h' → SetG kd h' a (ks ++ [k]) → Q true { s with heap := h' } := fun h' sb r => by
      have z := q h' true sb
      rw [show addK ks k = ks ++ [k] from if_neg hno] at z
      exact z r
    dsimp only
    have p1 := layNew_perm t es (kd.hash k) x
    have f1 := layNew_fits t es (kd.hash k) x
    have r1 := layNew_ris t es (kd.hash k) x hr
    have l1 := layNew_led t es (kd.hash k) x
    generalize layNew t es (kd.hash k) x = Y at p1 f1 r1 l1 ⊢
    obtain ⟨fs, t1, wd, gv⟩ := Y
    dsimp only at p1 f1 r1 l1 ⊢
    rw [Array.toList_push] at p1
    obtain ⟨qs1, p2, e1⟩ := paired_perm p1 (paired_snoc (R := Ent kd) (k := k) ⟨hk, rfl, hs⟩ en)
    have pk : qs1.Perm (ks ++ [k]) := p2.trans (pm.append_right [k])
    have nk : (ks ++ [k]).Nodup := by
      have := addK_nd nd k
      rw [show addK ks k = ks ++ [k] from if_neg hno] at this
      exact this
    have hb1 : fs.size < scanBound := by
      have := p1.length_eq
      rw [Array.length_toList, List.length_append, Array.length_toList, List.length_singleton] at this
      omega
    have hl1 : w.params.followText "set-order" = true ∨ t1.led = true := hl.imp id fun y => by rw [l1]; exact y
    refine wpAny_bind (gw gv s _ ?_)
    split
    · refine wpAny_bind ?_
      rw [hashByValue_scannable 8 hs]
      refine wpAny_pure (SetG.tail (kd := kd) gw ho hex hd e1 pk nk hb1 ?_ ?_ ?_ fun h' sb r => wpAny_pure (z h' sb r))
      · first | exact f1 | (split <;> first | exact f1 | exact SetTable.fits_plain_off f1)
      · first | exact r1 | (split <;> exact r1)
      · first | exact hl1 | (split <;> exact hl1)
    · refine wpAny_bind (wpAny_pure ?_)
      simp only [↓reduceIte]
      exact SetG.tail (kd := kd) gw ho hex hd e1 pk nk hb1 f1 r1 hl1 fun h' sb r => wpAny_pure (z h' sb r)
end
end Fn
namespace Fn
open PySem PySem.Spec PyProof.Rows L2
section
variable {X : Cx}
end
section
variable {X : Cx} {g : G} {cls : Nat → Value} {k : Nat} {tab : List En} {N : List Str} {sc : Scope} {bt : Bt} {e : Expr} {fa : Env → Res B} {p p2 q pos : Pos}
end
end Fn
namespace Fn
open PySem PySem.Spec PyProof.Rows L2
open Sem (wp)
section
variable {prog : Program} {w : World} {K : Type} [DecidableEq K] {knd : HeapKind prog w K} {A : Around} {E : Value → Shared → Prop} {s : Shared}
end
section
variable {X : Cx} {g : G} {cls : Nat → Value} {k : Nat} {tab : List En} {N : List Str} {sc : Scope} {bt : Bt} {pos : Pos}
end
section
variable {ρ : Env} {fps : List ((Env → Res B) × (Env → Res B))} {p : (Env → Res B) × (Env → Res B)}
end
end Fn
namespace Fn
open PySem PySem.Spec PyProof.Rows L2
section
variable {X : Cx} {g : G} {cls : Nat → Value} {k : Nat} {tab : List En} {N : List Str} {sc : Scope} {bt : Bt} {x : Str} {fk fv : Env → Res B} {i : Nat} {p1 p2 p3 p4 : Pos} {ek ev : Expr}
end
end Fn
namespace Fn
open PySem PySem.Spec PyProof.Rows L2
theorem arm_eval_Call_Sub (a b : Expr) (sp : Pos) (args : List Expr) (keywords : List Keyword) (pos : Pos) (env : PySem.Env) : eval (.Call (.Subscript a b sp) args keywords pos) env = (do
    callWith pos (← eval (.Subscript a b sp) env) [] (backTo pos (starEach args env)) (backToKw pos (keywordEach keywords env))) := rfl
section
variable {X : Cx} {CX : CXT} {k1 k2 : Nat} {f1 f2 : Addr} {fd1 fd2 : FuncData} {ps1 ps2 : List Str} {sp1 sp2 : Sp} {E : L2.St → XK} {sp pos : Pos} {a b e : Expr} {es : List Expr} {tf : TE} {t : TA}
def tCallI (f1 f2 : Addr) (sp1 sp2 : Sp) (E : L2.St → XK) (tf : TE) (t : TA) : TE := fun σ H Q => tf σ H fun v H1 => (v = .ref f1 ∧ t σ H1 fun vs H2 => sp1 vs H2 Q (E σ)) ∨ (v = .ref f2 ∧ t σ H1 fun vs H2 => sp2 vs H2 Q (E σ))
theorem pe_callI (F1 : FnOk X.prog X.w X.K X.mg X.base CX k1 f1 fd1 ps1 sp1) (F2 : FnOk X.prog X.w X.K X.mg X.base CX k2 f2 fd2 ps2 sp2) (hr1 : Room k1 X.A) (hr2 : Room k2 X.A) (hk1 : PySem.W.keepIn X.K (.ref f1) = true) (hk2 : PySem.W.keepIn X.K (.ref f2) = true) (hb1 : Binds X.K fd1 ps1 []) (hb2 : Binds X.K fd2 ps2 []) (hx : ∀ σ, PassesAt CX X σ (E σ))
    (hf : PE X (.Subscript a b sp) tf) (ha : PA X (e :: es) t) (he : starEach (e :: es) X.env = (false, eval e X.env) :: starEach es X.env := by rfl) (hpl : (backTo pos (starEach es X.env)).any (·.1) = false := by rfl) :
    PE X (.Call (.Subscript a b sp) (e :: es) [] pos) (tCallI f1 f2 sp1 sp2 E tf t) := by
  refine ⟨fun pins s σ H Q I h => ?_⟩
  rw [arm_eval_Call_Sub]
  refine wpAny_bind (thn (hf.run pins s σ H _ I h) fun u s1 ⟨v, H1, I1, r, q⟩ => ?_)
  rcases q with ⟨rfl, q⟩ | ⟨rfl, q⟩
  · cases r
    refine PySem.W.callWith_K (h₀ := X.base) I1.ok.mod.kin hk1 (thn (ha.run pos pins s1 σ H1 _ I1 q) fun us s2 ⟨vs, H2, I2, r2, q2⟩ => ⟨I2.kIn, ?_⟩) he hpl
    exact run_fnS F1 hr1 hb1 (hx σ) I2 r2 q2
  · cases r
    refine PySem.W.callWith_K (h₀ := X.base) I1.ok.mod.kin hk2 (thn (ha.run pos pins s1 σ H1 _ I1 q) fun us s2 ⟨vs, H2, I2, r2, q2⟩ => ⟨I2.kIn, ?_⟩) he hpl
    exact run_fnS F2 hr2 hb2 (hx σ) I2 r2 q2
end
section
variable {g : G} {X : Cx}
def callI (e1 e2 : En) (fk : Env → Res B) (fs : Env → Res (List B)) : Env → Res B := fun ρ => (fk ρ).bind fun bk => match rd bk with
  | .dat (.int 0) => (fs ρ).bind fun bs => (lenA e1.n bs).bind (callV e1)
  | .dat (.int 1) => (fs ρ).bind fun bs => (lenA e2.n bs).bind (callV e2)
  | _ => .bad
theorem fe_callI (hu : X.A.units + 100 < cLine) (hgh : g.h = none) {lv : Nat} {tab : List En} {cls : Nat → Value} {j1 j2 : Nat} {e1 e2 : En} {x1 x2 : Str} {p1 p2 p3 p4 pos : Pos} {ek e : Expr} {es : List Expr} {fk : Env → Res B} {fs : Env → Res (List B)} (T : TabOk X g.fa cls lv tab) (hr : Room lv X.A) (hp : Pz X g cls) (ht1 : tab[j1]? = some e1) (ht2 : tab[j2]? = some e2) (hx1 : x1 = e1.name) (hx2 : x2 = e2.name) (hK : g.K = X.K) (hg1 : Gl X x1) (hg2 : Gl X x2) (hek : PE X ek (tF g fk)) (hpx : PlainIx ek)
    (ha : PA X (e :: es) (tFA g fs)) (hd1 : (x1 == ("__debug__" : Str)) = false) (hd2 : (x2 == ("__debug__" : Str)) = false) (hst : (e :: es).all nst = true) : PE X (.Call (.Subscript (.List [.Name x1 p1, .Name x2 p2] p3) ek p4) (e :: es) [] pos) (tF g (callI e1 e2 fk fs)) := by
  obtain ⟨f1, fd1, ps1, hm1, _, hkp1, hb1, F1⟩ := T.at_ j1 e1 ht1
  obtain ⟨f2, fd2, ps2, hm2, _, hkp2, hb2, F2⟩ := T.at_ j2 e2 ht2
  obtain ⟨E', hpass, hE⟩ := hp
  rw [List.all_cons, Bool.and_eq_true] at hst
  subst hx1 hx2
  have pf : PE X (.Subscript (.List [.Name e1.name p1, .Name e2.name p2] p3) ek p4) _ := pe_ix (ix_F hu) (pe_lst (pa_cons (pe_glob (v := V.ref f1) hg1 hm1 rfl hd1) (pa_cons (pe_glob (v := V.ref f2) hg2 hm2 rfl hd2) pa_nil))) hek hpx
  refine PE.imp (pe_callI F1 F2 hr hr hkp1 hkp2 hb1 hb2 hpass pf ha (star_cons hst.1) (star_none hst.2)) fun σ H Q h => ?_
  obtain ⟨F, ρ, s, p⟩ := h
  unfold callI at p
  refine ⟨by show 2 ≤ sizeLine; decide, fun q nq => ?_⟩
  have g0 : Grow F H F (upd H q (.lst [.ref f1, .ref f2])) := ⟨Same.refl F, same_upd nq, fun a o z => same_upd nq a o (s.sub a o z), fun _ _ _ _ z => z⟩
  have hq : (upd H q (.lst [.ref f1, .ref f2])) q = some (.lst [.ref f1, .ref f2]) := upd_same
  generalize upd H q (.lst [.ref f1, .ref f2]) = H0 at g0 hq
  have s1 := s.grow g0
  have p := p.later g0
  refine run1 s1 (fun bk v F1 H1 e1' g1 r1 => ?_) (fun c e => ?_) (fun e => ?_)
  · rw [e1', Res.ok_bind] at p
    have s2 := s1.grow g1
    have p := p.later g1
    have sq : SqL X.K H1 q [.ref f1, .ref f2] := .inl (Rd.of (g1.hh _ _ hq))
    have fin : ∀ (en : En) (f : Addr), tF g (fun ρ => (fs ρ).bind fun bs => (lenA en.n bs).bind (callV en)) σ H1 Q → tFA g fs σ H1 fun vs H2 => spF X.K g.fa cls en.n en.F vs H2 Q (E' σ) := fun en f h => by
      refine runA (r := fun vs H1 Q => spF X.K g.fa cls en.n en.F vs H1 Q (E' σ)) (fun F H vs bs Q s r p => ?_) h
      unfold lenA at p
      split at p
      · rename_i hn
        have := call_run hK (fun c H' => hE c σ H') F H vs bs Q hn s r p
        rw [hgh] at this
        exact this
      · exact p.elim
    split at p
    · rename_i hb
      rw [hb] at r1
      cases r1
      exact .inr (.inl ⟨q, _, _, .ref f1, rfl, rfl, sq, rfl, .inl ⟨rfl, fin e1 f1 ⟨F1, ρ, s2, p⟩⟩⟩)
    · rename_i hb
      rw [hb] at r1
      cases r1
      exact .inr (.inl ⟨q, _, _, .ref f2, rfl, rfl, sq, rfl, .inr ⟨rfl, fin e2 f2 ⟨F1, ρ, s2, p⟩⟩⟩)
    · exact p.elim
  · rw [e, Res.exc_bind] at p
    exact p
  · rw [e] at p
    exact p
theorem CT.callI {cls : Nat → Value} {k : Nat} {tab : List En} {N : List Str} {sc : Scope} {bt : Bt} (C : CT X g cls k tab N sc bt) (j1 j2 : Nat) {e1 e2 : En} {x1 x2 : Str} {p1 p2 p3 p4 pos : Pos} {ek e : Expr} {es : List Expr} {fk : Env → Res B} {fs : Env → Res (List B)} (hek : PE X ek (tF g fk)) (hp : nsl ek = true) (ha : PA X (e :: es) (tFA g fs)) (hk1 : tab[j1]? = some e1) (hk2 : tab[j2]? = some e2) (hx1 : x1 = e1.name) (hx2 : x2 = e2.name) (hg1 : dOk sc x1 = true) (hg2 : dOk sc x2 = true) (hst : (e :: es).all nst = true) (hh : bt.hot = false := by rfl) : PE X (.Call (.Subscript (.List [.Name x1 p1, .Name x2 p2] p3) ek p4) (e :: es) [] pos) (tF g (Fn.callI e1 e2 fk fs)) := by
  unfold dOk at hg1 hg2
  rw [Bool.and_eq_true, decide_eq_true_eq] at hg1 hg2
  exact fe_callI C.hu100 (C.nh hh) C.tab ⟨C.hd hh, C.room.dp, C.room.un⟩ C.pz hk1 hk2 hx1 hx2 C.hK (C.gl hg1.1) (C.gl hg2.1) hek (nsl_ix hp) ha (nmOk_ok hg1.2).1 (nmOk_ok hg2.2).1 hst
end
end Fn
namespace Fn
open PySem PySem.Spec PyProof.Rows L2
section
variable {X : Cx} {g : G} {cls : Nat → Value} {k : Nat} {tab : List En} {N : List Str} {sc : Scope} {bt : Bt} {fa fb fk fl : Env → Res B} {i j : Nat} {pos : Pos}
end
end Fn
namespace Fn
open PySem PySem.Spec PyProof.Rows L2
section
variable {X : Cx} {g : G} {cls : Nat → Value} {k : Nat} {tab : List En} {N : List Str} {sc : Scope} {bt : Bt}
end
end Fn
namespace Fn
open PySem PySem.Spec PyProof.Rows L2
section
variable {X : Cx} {g : G} {fa fk fz : Env → Res B}
def dgetTV (fa fk fz : Env → Res B) : Env → Res B := fun ρ => match fa ρ with
  | .ok a => if ((dtOf (rd a)).isSome || (ltOf (rd a)).isSome) = true then (match fk ρ with
    | .ok k => (match fz ρ with
      | .ok z => (match dgetB (rd a) (rd k), rd z with
        | some (some d), _ => .ok (.dat d)
        | some none, .dat d => .ok (.dat d)
        | _, _ => .bad)
      | .exc c => .exc c
      | .bad => .bad)
    | .exc c => .exc c
    | .bad => .bad) else .bad
  | .exc c => .exc c
  | .bad => .bad
theorem fe_dgetT {ea ek ez : Expr} {p1 p2 : Pos} (hu : X.A.units + 1 < cLine) (hb : attributeBase ea "get" X.env (eval ea X.env) = eval ea X.env) (hnk : nst ek = true) (hnz : nst ez = true) (hl : (p1.endLine == p2.line) = true) (ha : PE X ea (tF g fa)) (hk : PE X ek (tF g fk)) (hz : PE X ez (tF g fz)) : PE X (.Call (.Attribute ea "get" p1) [ek, ez] [] p2) (tF g (dgetTV fa fk fz)) := by
  refine PE.imp (pe_dget2 hu ha hk hz ⟨hb, by rw [star_cons hnk, star_cons hnz]; rfl, hl, by rw [star_cons hnk, star_cons hnz]; rfl⟩) fun σ H Q ⟨F, ρ, s, p⟩ => ?_
  show tF g fa σ H fun x H1 => _
  unfold dgetTV at p
  refine run1 s (fun a x F1 H1 e1 g1 r1 => ?_) (fun c e => ?_) (fun e => ?_)
  · rw [e1] at p
    dsimp only at p
    split at p
    · rename_i hs
      obtain ⟨q, rfl, isd⟩ : ∃ q, x = .ref q ∧ IsD H1 q := by
        cases hd : dtOf (rd a) with
        | some kds =>
          obtain ⟨q, kvs, rfl, t1, _, _⟩ := dtOf_ok (s.grow g1).sm r1 hd
          exact ⟨q, rfl, .inr ⟨_, Rd.of t1⟩⟩
        | none =>
          cases hl : ltOf (rd a) with
          | some kds =>
            obtain ⟨q, o', kvs, rfl, t1, _, _⟩ := ltOf_ok (s.grow g1).sm r1 hl
            exact ⟨q, rfl, .inr ⟨kvs, .inr ⟨o', (s.grow g1).sm.fh _ _ t1⟩⟩⟩
          | none => rw [hd, hl] at hs; cases hs
      refine ⟨q, rfl, isd, ?_⟩
      refine run1 (s.grow g1) (fun k y F2 H2 e2 g2 r2 => ?_) (fun c e => ?_) (fun e => ?_)
      · rw [e2] at p
        dsimp only at p
        refine run1 ((s.grow g1).grow g2) (fun z w F3 H3 e3 g3 r3 => ?_) (fun c e => ?_) (fun e => ?_)
        · rw [e3] at p
          dsimp only at p
          have gg := (g1.trans g2).trans g3
          have s3 := s.grow gg
          split at p
          · rename_i d o hg
            obtain ⟨q', ov, eq, dg, hr⟩ := dgetB_ok s3.sm (r1.mono (g2.trans g3)) (r2.mono g3) hg
            cases eq
            rcases hr with ⟨_, z⟩ | ⟨v, d', rfl, z, rp⟩
            · cases z
            · cases z
              exact ⟨_, dg, p v F3 H3 gg rp⟩
          · rename_i d hg hzd
            obtain ⟨q', ov, eq, dg, hr⟩ := dgetB_ok s3.sm (r1.mono (g2.trans g3)) (r2.mono g3) hg
            cases eq
            rcases hr with ⟨rfl, _⟩ | ⟨v, d', _, z, _⟩
            · rw [hzd] at r3
              exact ⟨_, dg, p w F3 H3 gg r3⟩
            · cases z
          · exact p.elim
        · rw [e] at p
          exact fun F' H' g3 => p F' H' ((g1.trans g2).trans g3)
        · rw [e] at p
          exact p
      · rw [e] at p
        exact fun F' H' g2 => p F' H' (g1.trans g2)
      · rw [e] at p
        exact p
    · exact p.elim
  · rw [e] at p
    exact fun F' H' g1 => p F' H' g1
  · rw [e] at p
    exact p
end
section
variable {X : Cx} {g : G} {cls : Nat → Value} {k : Nat} {tab : List En} {N : List Str} {sc : Scope} {bt : Bt} {fa fb fc : Env → Res B} {b c : Expr}
theorem CT.dgetT (C : CT X g cls k tab N sc bt) {x : Str} {p1 p2 p4 : Pos} (ha : PE X (.Name x p4) (tF g fa)) (hk : PE X b (tF g fb)) (hz : PE X c (tF g fc)) (hn : (nst b && (nst c && (p1.endLine == p2.line))) = true) : PE X (.Call (.Attribute (.Name x p4) "get" p1) [b, c] [] p2) (tF g (dgetTV fa fb fc)) := by
  simp only [Bool.and_eq_true] at hn
  exact fe_dgetT (by have := C.hu; omega) (by rfl) hn.1 hn.2.1 hn.2.2 ha hk hz
theorem dgetT_lt {ρ : Env} {kvs : List (List Key × D)} {kd z : D} {q : List Key} (h1 : fa ρ = .ok (.dat (.lt kvs))) (h2 : fb ρ = .ok (.dat kd)) (h3 : fc ρ = .ok (.dat z)) (hk : tkey (.dat kd) = some q) : dgetTV fa fb fc ρ = .ok (.dat ((getK kvs q).getD z)) := by
  unfold dgetTV
  rw [h1, h2, h3]
  show (match (match tkey (.dat kd) with | some q => some (getK kvs q) | none => none), B.dat z with
    | some (some d), _ => (.ok (.dat d) : Res B)
    | some none, .dat d => .ok (.dat d)
    | _, _ => .bad) = _
  rw [hk]
  dsimp only
  cases getK kvs q <;> rfl
end
end Fn
namespace P
open PySem L2 Fn
def top (i : Nat) : Stmt := PySem.Challenge.pw_cutstairs_k44_thickest_parts.main.body.getD i (.Pass ⟨0, 0, 0, 0⟩)
def bt0 : Bt := { bi := ["ValueError", "abs", "any", "bool", "enumerate", "int", "isinstance", "len", "max", "min", "range", "sorted", "tuple"], cs := [("ONE", (.ctup [.int 1, .int 1]))], ex := ["StairError", "NoText", "NoNumber", "NoCut", "NoPrice", "NoStream", "NoName", "NoFall", "NoShare", "NoPart", "NoTop", "NoPlace", "NoTie", "NoUndo", "NoWeb", "NoRow"], rs := [2, 9] }
noncomputable def bt : Bt := { bt0 with hs := [] }
noncomputable def T0 : List En := []
abbrev S_law_names : Stmt := top 38
def N_law_names : List Str := ["_law_xs", "_law_many", "_law_letters", "_law_found", "_law_k", "_law_name", "_law_middle"]
noncomputable def B_law_names_1 : Fn.Env → Out := (forget [4, 5, 6] (seqS (thenS (bin2 mulB (bin2 idxB (varB 2) (bin2 modB (bin2 addB (bin2 idxB (varB 0) (litI 0)) (bin2 mulB (litI 7) (varB 4))) (litI 26))) (bin2 addB (litI 1) (bin2 modB (bin2 addB (bin2 idxB (varB 0) (litI 2)) (bin2 mulB (litI 3) (varB 4))) (bin2 idxB (callF lstB (consA (litI 1) (consA (litI 5) nilA))) (bin2 modB (bin2 idxB (varB 0) (litI 3)) (litI 2)))))) (setL 5)) (seqS (iteS (tstF (bin2 eqB (bin2 modB (bin2 idxB (varB 0) (litI 1)) (litI 4)) (litI 1))) (thenS (bin2 addB (bin2 idxB (litS "abcdefgh") (varB 4)) (bin2 mulB (bin2 idxB (varB 2) (bin2 modB (bin2 idxB (varB 0) (litI 2)) (litI 26))) (bin2 modB (bin2 idxB (varB 0) (litI 3)) (litI 8)))) (setL 5)) nxS) (seqS (iteS (tstF (bin2 eqB (bin2 modB (bin2 idxB (varB 0) (litI 1)) (litI 4)) (litI 2))) (thenS (bin2 mulB (bin2 idxB (varB 2) (bin2 modB (bin2 idxB (varB 0) (litI 2)) (litI 26))) (bin2 addB (litI 1) (varB 4))) (setL 5)) nxS) (seqS (forget [6] (iteS (tstF (bin2 eqB (bin2 modB (bin2 idxB (varB 0) (litI 1)) (litI 4)) (litI 3))) (seqS (thenS (bin2 idxB (varB 2) (bin2 modB (bin2 addB (bin2 idxB (varB 0) (litI 3)) (bin2 mulB (litI 5) (varB 4))) (litI 26))) (setL 6)) (thenS (bin2 addB (bin2 addB (bin2 idxB (varB 2) (bin2 modB (bin2 idxB (varB 0) (litI 2)) (litI 26))) (varB 6)) (bin2 idxB (varB 2) (bin2 modB (bin2 idxB (varB 0) (litI 0)) (litI 26)))) (setL 5))) nxS)) (appV 3 (varB 5)))))))
noncomputable def B_law_names : Fn.Env → Out := (seqS (thenS (litS "abcdefghijklmnopqrstuvwxyz") (setV 2)) (seqS (thenS (callF lstB nilA) (setV 3)) (seqS (forget [4, 5, 6] (forV (.one 4) (rgF (consA (varB 1) nilA)) B_law_names_1)) (lockS 3 (thenS (callF sortG (consA (varB 3) nilA)) retV)))))
noncomputable def E_law_names : En := ⟨"_law_names", 2, defF 7 B_law_names⟩
theorem c_law_names {a0 a1 : B} : callE E_law_names [a0, a1] = (E_law_names.F [toArg a0, toArg a1]).bind retB := (rfl)
theorem d_law_names {a0 a1 : B} (h : [a0, a1].all okArg = true) : E_law_names.F [a0, a1] = outR (B_law_names [some a0, some a1, none, none, none, none, none]) := def_rt h rfl
noncomputable def T1 : List En := T0 ++ [E_law_names]
theorem sc_law_names : FnScope N_law_names ["_law_xs", "_law_many"] (defScope S_law_names) := ⟨rfl, rfl, rfl, by decide +kernel, rfl, by decide +kernel, by decide +kernel⟩
theorem ok_law_names {X : Cx} {g : G} {cls : Nat → Value} (C : CS X g cls 0 T0 N_law_names (defScope S_law_names) bt) : PSs X (defBody S_law_names) (tFS g B_law_names) :=
  (fs_cons (C.asg 2 fe_str (by decide +kernel) rfl) (fs_cons (C.asg 3 (fe_lst fa_nil) (by decide +kernel) rfl) (fs_cons (fs_forget [4, 5, 6] (C.fo (C.ct.rg1 (C.ct.var 1 (by decide +kernel)) (by decide +kernel) rfl) (C.g1 4 (by decide +kernel)) (fun _ C => (fs_forgets [4, 5, 6] (fs_cons (fs_setL (C.asg 5 (C.ct.mul (C.ct.idx (C.ct.var 2 (by decide +kernel)) (C.ct.mod (C.ct.add (C.ct.idx (C.ct.var 0 (by decide +kernel)) fe_int rfl) (C.ct.mul fe_int (C.ct.var 4 (by decide +kernel)))) fe_int) rfl) (C.ct.add fe_int (C.ct.mod (C.ct.add (C.ct.idx (C.ct.var 0 (by decide +kernel)) fe_int rfl) (C.ct.mul fe_int (C.ct.var 4 (by decide +kernel)))) (C.ct.idx (fe_lst (fa_cons rfl fe_int (fa_cons rfl fe_int fa_nil))) (C.ct.mod (C.ct.idx (C.ct.var 0 (by decide +kernel)) fe_int rfl) fe_int) rfl)))) (by decide +kernel) rfl)) (fs_cons (fs_if (cmpT C.ct.eq (C.ct.mod (C.ct.idx (C.ct.var 0 (by decide +kernel)) fe_int rfl) fe_int) fe_int rfl) (fs_one (fs_setL (C.asg 5 (C.ct.add (C.ct.idx fe_str (C.ct.var 4 (by decide +kernel)) rfl) (C.ct.mul (C.ct.idx (C.ct.var 2 (by decide +kernel)) (C.ct.mod (C.ct.idx (C.ct.var 0 (by decide +kernel)) fe_int rfl) fe_int) rfl) (C.ct.mod (C.ct.idx (C.ct.var 0 (by decide +kernel)) fe_int rfl) fe_int))) (by decide +kernel) rfl))) fs_nil) (fs_cons (fs_if (cmpT C.ct.eq (C.ct.mod (C.ct.idx (C.ct.var 0 (by decide +kernel)) fe_int rfl) fe_int) fe_int rfl) (fs_one (fs_setL (C.asg 5 (C.ct.mul (C.ct.idx (C.ct.var 2 (by decide +kernel)) (C.ct.mod (C.ct.idx (C.ct.var 0 (by decide +kernel)) fe_int rfl) fe_int) rfl) (C.ct.add fe_int (C.ct.var 4 (by decide +kernel)))) (by decide +kernel) rfl))) fs_nil) (fs_cons (fs_forget [6] (fs_if (cmpT C.ct.eq (C.ct.mod (C.ct.idx (C.ct.var 0 (by decide +kernel)) fe_int rfl) fe_int) fe_int rfl) (fs_cons (fs_setL (C.asg 6 (C.ct.idx (C.ct.var 2 (by decide +kernel)) (C.ct.mod (C.ct.add (C.ct.idx (C.ct.var 0 (by decide +kernel)) fe_int rfl) (C.ct.mul fe_int (C.ct.var 4 (by decide +kernel)))) fe_int) rfl) (by decide +kernel) rfl)) (fs_one (fs_setL (C.asg 5 (C.ct.add (C.ct.add (C.ct.idx (C.ct.var 2 (by decide +kernel)) (C.ct.mod (C.ct.idx (C.ct.var 0 (by decide +kernel)) fe_int rfl) fe_int) rfl) (C.ct.var 6 (by decide +kernel))) (C.ct.idx (C.ct.var 2 (by decide +kernel)) (C.ct.mod (C.ct.idx (C.ct.var 0 (by decide +kernel)) fe_int rfl) fe_int) rfl)) (by decide +kernel) rfl)))) fs_nil)) (fs_one (C.app 3 (C.ct.var 5 (by decide +kernel)) (by decide +kernel) rfl)))))))) rfl)) (fs_lock 3 (fs_one (fs_ret (C.ct.call C.ct.sortG (fa_cons rfl (C.ct.var 3 (by decide +kernel)) fa_nil) (by decide +kernel) (by decide +kernel) rfl)))))))
abbrev S_law_graph : Stmt := top 41
def N_law_graph : List Str := ["_law_xs", "_law_most", "_law_many", "_law_names_here", "_law_pairs", "_law_k", "_law_one", "_law_other"]
noncomputable def B_law_graph_1 : Fn.Env → Out := (forget [5, 6, 7] (seqS (par2 6 7 (bin2 modB (bin2 idxB (varB 0) (bin2 addB (litI 6) (varB 5))) (varB 2)) (bin2 modB (bin2 divB (bin2 idxB (varB 0) (bin2 addB (litI 6) (varB 5))) (litI 8)) (varB 2))) (iteS (tstF (bin2 neB (varB 6) (varB 7))) (putS 4 (callF tupB (consA (bin2 idxB (varB 3) (callF minF (consA (varB 6) (consA (varB 7) nilA)))) (consA (bin2 idxB (varB 3) (callF maxF (consA (varB 6) (consA (varB 7) nilA)))) nilA))) (litB true)) nxS)))
noncomputable def B_law_graph : Fn.Env → Out := (seqS (thenS (bin2 addB (litI 1) (bin2 modB (bin2 idxB (varB 0) (litI 0)) (varB 1))) (setL 2)) (seqS (thenS (ownF E_law_names (consA (slcV (varB 0) (atP (litI 1)) noP) (consA (varB 2) nilA))) (setL 3)) (seqS (thenS newT (setV 4)) (seqS (forget [5, 6, 7] (forV (.one 5) (rgF (consA (bin2 modB (bin2 idxB (varB 0) (litI 5)) (litI 13)) nilA)) B_law_graph_1)) (lockS 4 (thenS (callF tupB (consA (callF tupF (consA (varB 3) nilA)) (consA (callF tupF (consA (callF sortG (consA (varB 4) nilA)) nilA)) nilA))) retV))))))
noncomputable def E_law_graph : En := ⟨"_law_graph", 2, defF 8 B_law_graph⟩
theorem c_law_graph {a0 a1 : B} : callE E_law_graph [a0, a1] = (E_law_graph.F [toArg a0, toArg a1]).bind retB := (rfl)
theorem d_law_graph {a0 a1 : B} (h : [a0, a1].all okArg = true) : E_law_graph.F [a0, a1] = outR (B_law_graph [some a0, some a1, none, none, none, none, none, none]) := def_rt h rfl
noncomputable def T2 : List En := T1 ++ [E_law_graph]
theorem sc_law_graph : FnScope N_law_graph ["_law_xs", "_law_most"] (defScope S_law_graph) := ⟨rfl, rfl, rfl, by decide +kernel, rfl, by decide +kernel, by decide +kernel⟩
theorem ok_law_graph {X : Cx} {g : G} {cls : Nat → Value} (C : CS X g cls 1 T1 N_law_graph (defScope S_law_graph) bt) : PSs X (defBody S_law_graph) (tFS g B_law_graph) :=
  (fs_cons (fs_setL (C.asg 2 (C.ct.add fe_int (C.ct.mod (C.ct.idx (C.ct.var 0 (by decide +kernel)) fe_int rfl) (C.ct.var 1 (by decide +kernel)))) (by decide +kernel) rfl)) (fs_cons (fs_setL (C.asg 3 (C.ct.own 0 (fa_cons rfl (C.ct.slc (C.ct.var 0 (by decide +kernel)) (fo_some fe_int) fo_none) (fa_cons rfl (C.ct.var 2 (by decide +kernel)) fa_nil)) rfl rfl (by decide +kernel) rfl) (by decide +kernel) rfl)) (fs_cons (C.asg 4 fe_dicT (by decide +kernel) rfl) (fs_cons (fs_forget [5, 6, 7] (C.fo (C.ct.rg1 (C.ct.mod (C.ct.idx (C.ct.var 0 (by decide +kernel)) fe_int rfl) fe_int) (by decide +kernel) rfl) (C.g1 5 (by decide +kernel)) (fun _ C => (fs_forgets [5, 6, 7] (fs_cons (C.par2 6 7 (C.ct.mod (C.ct.idx (C.ct.var 0 (by decide +kernel)) (C.ct.add fe_int (C.ct.var 5 (by decide +kernel))) rfl) (C.ct.var 2 (by decide +kernel))) (C.ct.mod (C.ct.div (C.ct.idx (C.ct.var 0 (by decide +kernel)) (C.ct.add fe_int (C.ct.var 5 (by decide +kernel))) rfl) fe_int) (C.ct.var 2 (by decide +kernel))) (by decide +kernel) (by decide +kernel) (by decide) (by decide +kernel)) (fs_one (fs_if (cmpT C.ct.ne (C.ct.var 6 (by decide +kernel)) (C.ct.var 7 (by decide +kernel)) rfl) (fs_one (C.sto 4 (fe_tup (fa_cons rfl (C.ct.idx (C.ct.var 3 (by decide +kernel)) (C.ct.call C.ct.min (fa_cons rfl (C.ct.var 6 (by decide +kernel)) (fa_cons rfl (C.ct.var 7 (by decide +kernel)) fa_nil)) (by decide +kernel) (by decide +kernel) rfl) rfl) (fa_cons rfl (C.ct.idx (C.ct.var 3 (by decide +kernel)) (C.ct.call C.ct.max (fa_cons rfl (C.ct.var 6 (by decide +kernel)) (fa_cons rfl (C.ct.var 7 (by decide +kernel)) fa_nil)) (by decide +kernel) (by decide +kernel) rfl) rfl) fa_nil))) fe_bl (by decide +kernel) rfl)) fs_nil))))) rfl)) (fs_lock 4 (fs_one (fs_ret (fe_tup (fa_cons rfl (C.ct.call C.ct.tup (fa_cons rfl (C.ct.var 3 (by decide +kernel)) fa_nil) (by decide +kernel) (by decide +kernel) rfl) (fa_cons rfl (C.ct.call C.ct.tup (fa_cons rfl (C.ct.call C.ct.sortG (fa_cons rfl (C.ct.var 4 (by decide +kernel)) fa_nil) (by decide +kernel) (by decide +kernel) rfl) fa_nil) (by decide +kernel) (by decide +kernel) rfl) fa_nil))))))))))
abbrev S_law_numbers : Stmt := top 37
def N_law_numbers : List Str := ["_law_cell_here", "_law_many", "_law_found", "_law_state", "_law_digits", "_law_k"]
noncomputable def B_law_numbers_1 : Fn.Env → Out := (forget [5] (seqS (thenS (bin2 modB (bin2 addB (bin2 addB (bin2 mulB (varB 3) (bin2 addB (bin2 modB (varB 3) (litI 65521)) (litI 40487))) (bin2 mulB (litI 7) (varB 5))) (litI 5)) (litI 1999999973)) (setL 3)) (seqS (appV 2 (bin2 idxB (callF lstB (consA (varB 3) (consA (bin2 modB (varB 4) (litI 1000000)) nilA))) (callF intF (consA (bin2 gtF (varB 4) (litI 0)) nilA)))) (thenS (bin2 divB (varB 4) (litI 1000000)) (setL 4)))))
noncomputable def B_law_numbers : Fn.Env → Out := (seqS (thenS (callF lstB nilA) (setV 2)) (seqS (thenS (bin2 modB (bin2 mulB (bin2 addB (bin2 modB (varB 0) (litI 1999999973)) (litI 31)) (litI 765432101)) (litI 1999999973)) (setL 3)) (seqS (thenS (litI 0) (setV 4)) (seqS (iteS (orT (tstF (bin2 ltB (varB 0) (litI 0))) (tstF (bin2 geF (varB 0) (bin2 powB (litI 10) (litI 18))))) (thenS (callF absF (consA (varB 0) nilA)) (setV 4)) nxS) (seqS (forget [3, 4, 5] (forV (.one 5) (rgF (consA (varB 1) nilA)) B_law_numbers_1)) (retN 2))))))
noncomputable def E_law_numbers : En := ⟨"_law_numbers", 2, defF 6 B_law_numbers⟩
theorem c_law_numbers {a0 a1 : B} : callE E_law_numbers [a0, a1] = (E_law_numbers.F [toArg a0, toArg a1]).bind retB := (rfl)
theorem d_law_numbers {a0 a1 : B} (h : [a0, a1].all okArg = true) : E_law_numbers.F [a0, a1] = outR (B_law_numbers [some a0, some a1, none, none, none, none]) := def_rt h rfl
noncomputable def T3 : List En := T2 ++ [E_law_numbers]
theorem sc_law_numbers : FnScope N_law_numbers ["_law_cell_here", "_law_many"] (defScope S_law_numbers) := ⟨rfl, rfl, rfl, by decide +kernel, rfl, by decide +kernel, by decide +kernel⟩
theorem ok_law_numbers {X : Cx} {g : G} {cls : Nat → Value} (C : CS X g cls 2 T2 N_law_numbers (defScope S_law_numbers) bt) : PSs X (defBody S_law_numbers) (tFS g B_law_numbers) :=
  (fs_cons (C.asg 2 (fe_lst fa_nil) (by decide +kernel) rfl) (fs_cons (fs_setL (C.asg 3 (C.ct.mod (C.ct.mul (C.ct.add (C.ct.mod (C.ct.var 0 (by decide +kernel)) fe_int) fe_int) fe_int) fe_int) (by decide +kernel) rfl)) (fs_cons (C.asg 4 fe_int (by decide +kernel) rfl) (fs_cons (fs_if (ft_or (cmpT C.ct.lt (C.ct.var 0 (by decide +kernel)) fe_int rfl) (pw_or1 (cmpT C.ct.ge (C.ct.var 0 (by decide +kernel)) (C.ct.pow fe_int fe_int) rfl))).pt (fs_one (C.asg 4 (C.ct.call C.ct.abs (fa_cons rfl (C.ct.var 0 (by decide +kernel)) fa_nil) (by decide +kernel) (by decide +kernel) rfl) (by decide +kernel) rfl)) fs_nil) (fs_cons (fs_forget [3, 4, 5] (C.fo (C.ct.rg1 (C.ct.var 1 (by decide +kernel)) (by decide +kernel) rfl) (C.g1 5 (by decide +kernel)) (fun _ C => (fs_forgets [5] (fs_cons (fs_setL (C.asg 3 (C.ct.mod (C.ct.add (C.ct.add (C.ct.mul (C.ct.var 3 (by decide +kernel)) (C.ct.add (C.ct.mod (C.ct.var 3 (by decide +kernel)) fe_int) fe_int)) (C.ct.mul fe_int (C.ct.var 5 (by decide +kernel)))) fe_int) fe_int) (by decide +kernel) rfl)) (fs_cons (C.app 2 (C.ct.idx (fe_lst (fa_cons rfl (C.ct.var 3 (by decide +kernel)) (fa_cons rfl (C.ct.mod (C.ct.var 4 (by decide +kernel)) fe_int) fa_nil))) (C.ct.call C.ct.int (fa_cons rfl (cmpE C.ct.gt (C.ct.var 4 (by decide +kernel)) fe_int rfl) fa_nil) (by decide +kernel) (by decide +kernel) rfl) rfl) (by decide +kernel) rfl) (fs_one (fs_setL (C.asg 4 (C.ct.div (C.ct.var 4 (by decide +kernel)) fe_int) (by decide +kernel) rfl))))))) rfl)) (fs_one (C.rn 2 (by decide +kernel))))))))
abbrev S_law_cell : Stmt := top 36
def N_law_cell : List Str := ["_law_script", "_law_k", "_law_state", "_law_cell_here"]
noncomputable def B_law_cell_1 : Fn.Env → Out := (forget [3] (thenS (bin2 modB (bin2 addB (bin2 mulB (varB 2) (litI 69621)) (varB 3)) (litI 2147483647)) (setL 2)))
noncomputable def B_law_cell : Fn.Env → Out := (seqS (iteS (tstF (bin2 ltB (varB 1) (callF lenB (consA (varB 0) nilA)))) (thenS (bin2 idxB (varB 0) (varB 1)) retV) nxS) (seqS (thenS (bin2 modB (bin2 mulB (litI 48271) (bin2 addB (bin2 addB (bin2 mulB (varB 1) (varB 1)) (bin2 mulB (litI 7) (varB 1))) (litI 11))) (litI 2147483647)) (setL 2)) (seqS (forget [3] (forV (.one 3) (itF false (slcV (varB 0) noP (atP (litI 3)))) B_law_cell_1)) (retN 2))))
noncomputable def E_law_cell : En := ⟨"_law_cell", 2, defF 4 B_law_cell⟩
theorem c_law_cell {a0 a1 : B} : callE E_law_cell [a0, a1] = (E_law_cell.F [toArg a0, toArg a1]).bind retB := (rfl)
theorem d_law_cell {a0 a1 : B} (h : [a0, a1].all okArg = true) : E_law_cell.F [a0, a1] = outR (B_law_cell [some a0, some a1, none, none]) := def_rt h rfl
noncomputable def T4 : List En := T3 ++ [E_law_cell]
theorem sc_law_cell : FnScope N_law_cell ["_law_script", "_law_k"] (defScope S_law_cell) := ⟨rfl, rfl, rfl, by decide +kernel, rfl, by decide +kernel, by decide +kernel⟩
theorem ok_law_cell {X : Cx} {g : G} {cls : Nat → Value} (C : CS X g cls 3 T3 N_law_cell (defScope S_law_cell) bt) : PSs X (defBody S_law_cell) (tFS g B_law_cell) :=
  (fs_cons (fs_if (cmpT C.ct.lt (C.ct.var 1 (by decide +kernel)) (C.ct.call C.ct.len (fa_cons rfl (C.ct.var 0 (by decide +kernel)) fa_nil) (by decide +kernel) (by decide +kernel) rfl) rfl) (fs_one (fs_ret (C.ct.idx (C.ct.var 0 (by decide +kernel)) (C.ct.var 1 (by decide +kernel)) rfl))) fs_nil) (fs_cons (fs_setL (C.asg 2 (C.ct.mod (C.ct.mul fe_int (C.ct.add (C.ct.add (C.ct.mul (C.ct.var 1 (by decide +kernel)) (C.ct.var 1 (by decide +kernel))) (C.ct.mul fe_int (C.ct.var 1 (by decide +kernel)))) fe_int)) fe_int) (by decide +kernel) rfl)) (fs_cons (fs_forget [3] (C.fo (C.ct.it (C.ct.slc (C.ct.var 0 (by decide +kernel)) fo_none (fo_some fe_int))) (C.g1 3 (by decide +kernel)) (fun _ C => (fs_forgets [3] (fs_one (fs_setL (C.asg 2 (C.ct.mod (C.ct.add (C.ct.mul (C.ct.var 2 (by decide +kernel)) fe_int) (C.ct.var 3 (by decide +kernel))) fe_int) (by decide +kernel) rfl))))) rfl)) (fs_one (C.rn 2 (by decide +kernel))))))
abbrev S_parts_of : Stmt := top 24
def N_parts_of : List Str := ["graph", "found", "name", "pairs", "part", "pair"]
noncomputable def B_parts_of_1 : Fn.Env → Out := (forget [2] (thenS (bin2 addB (varB 1) (compV (.one 4) (itF true (varB 1)) yesF (bin2 addB (varB 4) (callF tupB (consA (varB 2) nilA))) [4])) (setL 1)))
noncomputable def B_parts_of : Fn.Env → Out := (seqS (thenS (callF lstB (consA (callF tupB nilA) nilA)) (setL 1)) (seqS (forget [2] (forV (.one 2) (itF false (bin2 idxB (varB 0) (litI 0))) B_parts_of_1)) (seqS (thenS (callF sortG (consA (compV (.one 4) (itF true (varB 1)) (tstF (bin2 neB (varB 4) (callF tupB nilA))) (callF tupB (consA (callF lenB (consA (varB 4) nilA)) (consA (varB 4) nilA))) [4]) nilA)) (setL 3)) (thenS (compV (.one 5) (itF true (varB 3)) yesF (bin2 idxB (varB 5) (litI 1)) [5]) retV))))
noncomputable def E_parts_of : En := ⟨"parts_of", 1, defF 6 B_parts_of⟩
theorem c_parts_of {a0 : B} : callE E_parts_of [a0] = (E_parts_of.F [toArg a0]).bind retB := (rfl)
theorem d_parts_of {a0 : B} (h : [a0].all okArg = true) : E_parts_of.F [a0] = outR (B_parts_of [some a0, none, none, none, none, none]) := def_rt h rfl
noncomputable def T5 : List En := T4 ++ [E_parts_of]
theorem sc_parts_of : FnScope N_parts_of ["graph"] (defScope S_parts_of) := ⟨rfl, rfl, rfl, by decide +kernel, rfl, by decide +kernel, by decide +kernel⟩
theorem ok_parts_of {X : Cx} {g : G} {cls : Nat → Value} (C : CS X g cls 4 T4 N_parts_of (defScope S_parts_of) bt) : PSs X (defBody S_parts_of) (tFS g B_parts_of) :=
  (fs_cons (fs_setL (C.asg 1 (fe_lst (fa_cons rfl (fe_tup fa_nil) fa_nil)) (by decide +kernel) rfl)) (fs_cons (fs_forget [2] (C.fo (C.ct.it (C.ct.idx (C.ct.var 0 (by decide +kernel)) fe_int rfl)) (C.g1 2 (by decide +kernel)) (fun _ C => (fs_forgets [2] (fs_one (fs_setL (C.asg 1 (C.ct.add (C.ct.var 1 (by decide +kernel)) (C.ct.lc [("part", 4)] (C.ct.it (C.ct.var 1 (by decide +kernel))) (fun C1 => ⟨(C1.g1 4 (by decide +kernel)), ifs0, (C1.add (C1.var 4 (by decide +kernel)) (fe_tup (fa_cons rfl (C1.var 2 (by decide +kernel)) fa_nil)))⟩) (by decide +kernel))) (by decide +kernel) rfl))))) rfl)) (fs_cons (fs_setL (C.asg 3 (C.ct.call C.ct.sortG (fa_cons rfl (C.ct.lc [("part", 4)] (C.ct.it (C.ct.var 1 (by decide +kernel))) (fun C2 => ⟨(C2.g1 4 (by decide +kernel)), (ifs1 (cmpT C2.ne (C2.var 4 (by decide +kernel)) (fe_tup fa_nil) rfl)), (fe_tup (fa_cons rfl (C2.call C2.len (fa_cons rfl (C2.var 4 (by decide +kernel)) fa_nil) (by decide +kernel) (by decide +kernel) rfl) (fa_cons rfl (C2.var 4 (by decide +kernel)) fa_nil)))⟩) (by decide +kernel)) fa_nil) (by decide +kernel) (by decide +kernel) rfl) (by decide +kernel) rfl)) (fs_one (fs_ret (C.ct.lc [("pair", 5)] (C.ct.it (C.ct.var 3 (by decide +kernel))) (fun C3 => ⟨(C3.g1 5 (by decide +kernel)), ifs0, (C3.idx (C3.var 5 (by decide +kernel)) fe_int rfl)⟩) (by decide +kernel)))))))
abbrev S_shared_part : Stmt := top 18
def N_shared_part : List Str := ["one", "other", "high", "low"]
noncomputable def B_shared_part_1 : Fn.Env → Res Bool := (tstF (bin2 gtF (varB 3) (litI 0)))
noncomputable def B_shared_part_2 : Fn.Env → Out := (par2 2 3 (varB 3) (bin2 modB (varB 2) (varB 3)))
noncomputable def B_shared_part : Fn.Env → Out := (seqS (par2 2 3 (callF absF (consA (varB 0) nilA)) (callF absF (consA (varB 1) nilA))) (seqS (forget [3] (whileC B_shared_part_1 B_shared_part_2)) (retN 2)))
noncomputable def E_shared_part : En := ⟨"shared_part", 2, defF 4 B_shared_part⟩
theorem c_shared_part {a0 a1 : B} : callE E_shared_part [a0, a1] = (E_shared_part.F [toArg a0, toArg a1]).bind retB := (rfl)
theorem d_shared_part {a0 a1 : B} (h : [a0, a1].all okArg = true) : E_shared_part.F [a0, a1] = outR (B_shared_part [some a0, some a1, none, none]) := def_rt h rfl
noncomputable def T6 : List En := T5 ++ [E_shared_part]
theorem sc_shared_part : FnScope N_shared_part ["one", "other"] (defScope S_shared_part) := ⟨rfl, rfl, rfl, by decide +kernel, rfl, by decide +kernel, by decide +kernel⟩
theorem ok_shared_part {X : Cx} {g : G} {cls : Nat → Value} (C : CS X g cls 5 T5 N_shared_part (defScope S_shared_part) bt) : PSs X (defBody S_shared_part) (tFS g B_shared_part) :=
  (fs_cons (C.par2 2 3 (C.ct.call C.ct.abs (fa_cons rfl (C.ct.var 0 (by decide +kernel)) fa_nil) (by decide +kernel) (by decide +kernel) rfl) (C.ct.call C.ct.abs (fa_cons rfl (C.ct.var 1 (by decide +kernel)) fa_nil) (by decide +kernel) (by decide +kernel) rfl) (by decide +kernel) (by decide +kernel) (by decide) (by decide +kernel)) (fs_cons (fs_forget [3] (C.wc (cmpT C.ct.gt (C.ct.var 3 (by decide +kernel)) fe_int rfl) (fs_one (C.par2 2 3 (C.ct.var 3 (by decide +kernel)) (C.ct.mod (C.ct.var 2 (by decide +kernel)) (C.ct.var 3 (by decide +kernel))) (by decide +kernel) (by decide +kernel) (by decide) (by decide +kernel))))) (fs_one (C.rn 2 (by decide +kernel)))))
abbrev S_fraction : Stmt := top 19
def N_fraction : List Str := ["top", "bottom", "part"]
noncomputable def B_fraction : Fn.Env → Out := (seqS (iteS (tstF (bin2 eqB (varB 1) (litI 0))) (rzS 2) nxS) (seqS (thenS (ownF E_shared_part (consA (varB 0) (consA (varB 1) nilA))) (setL 2)) (seqS (iteS (tstF (bin2 ltB (varB 1) (litI 0))) (thenS (bin2 subB (litI 0) (varB 2)) (setL 2)) nxS) (thenS (callF tupB (consA (bin2 divB (varB 0) (varB 2)) (consA (bin2 divB (varB 1) (varB 2)) nilA))) retV))))
noncomputable def E_fraction : En := ⟨"fraction", 2, defF 3 B_fraction⟩
theorem c_fraction {a0 a1 : B} : callE E_fraction [a0, a1] = (E_fraction.F [toArg a0, toArg a1]).bind retB := (rfl)
theorem d_fraction {a0 a1 : B} (h : [a0, a1].all okArg = true) : E_fraction.F [a0, a1] = outR (B_fraction [some a0, some a1, none]) := def_rt h rfl
noncomputable def T7 : List En := T6 ++ [E_fraction]
theorem sc_fraction : FnScope N_fraction ["top", "bottom"] (defScope S_fraction) := ⟨rfl, rfl, rfl, by decide +kernel, rfl, by decide +kernel, by decide +kernel⟩
theorem ok_fraction {X : Cx} {g : G} {cls : Nat → Value} (C : CS X g cls 6 T6 N_fraction (defScope S_fraction) bt) : PSs X (defBody S_fraction) (tFS g B_fraction) :=
  (fs_cons (fs_if (cmpT C.ct.eq (C.ct.var 1 (by decide +kernel)) fe_int rfl) (fs_one (C.rz 2 rfl (by decide +kernel) (by decide +kernel))) fs_nil) (fs_cons (fs_setL (C.asg 2 (C.ct.own 5 (fa_cons rfl (C.ct.var 0 (by decide +kernel)) (fa_cons rfl (C.ct.var 1 (by decide +kernel)) fa_nil)) rfl rfl (by decide +kernel) rfl) (by decide +kernel) rfl)) (fs_cons (fs_if (cmpT C.ct.lt (C.ct.var 1 (by decide +kernel)) fe_int rfl) (fs_one (fs_setL (C.asg 2 (C.ct.sub fe_int (C.ct.var 2 (by decide +kernel))) (by decide +kernel) rfl))) fs_nil) (fs_one (fs_ret (fe_tup (fa_cons rfl (C.ct.div (C.ct.var 0 (by decide +kernel)) (C.ct.var 2 (by decide +kernel))) (fa_cons rfl (C.ct.div (C.ct.var 1 (by decide +kernel)) (C.ct.var 2 (by decide +kernel))) fa_nil))))))))
abbrev S_within : Stmt := top 23
def N_within : List Str := ["graph", "part", "pair"]
noncomputable def B_within : Fn.Env → Out := (thenS (callF lenB (consA (compV (.one 2) (itF true (bin2 idxB (varB 0) (litI 1))) (andT (tstF (bin2 (inB false) (bin2 idxB (varB 2) (litI 0)) (varB 1))) (tstF (bin2 (inB false) (bin2 idxB (varB 2) (litI 1)) (varB 1)))) (varB 2) [2]) nilA)) retV)
noncomputable def E_within : En := ⟨"within", 2, defF 3 B_within⟩
theorem c_within {a0 a1 : B} : callE E_within [a0, a1] = (E_within.F [toArg a0, toArg a1]).bind retB := (rfl)
theorem d_within {a0 a1 : B} (h : [a0, a1].all okArg = true) : E_within.F [a0, a1] = outR (B_within [some a0, some a1, none]) := def_rt h rfl
noncomputable def T8 : List En := T7 ++ [E_within]
theorem sc_within : FnScope N_within ["graph", "part"] (defScope S_within) := ⟨rfl, rfl, rfl, by decide +kernel, rfl, by decide +kernel, by decide +kernel⟩
theorem ok_within {X : Cx} {g : G} {cls : Nat → Value} (C : CS X g cls 7 T7 N_within (defScope S_within) bt) : PSs X (defBody S_within) (tFS g B_within) :=
  (fs_one (fs_ret (C.ct.call C.ct.len (fa_cons rfl (C.ct.lc [("pair", 2)] (C.ct.it (C.ct.idx (C.ct.var 0 (by decide +kernel)) fe_int rfl)) (fun C1 => ⟨(C1.g1 2 (by decide +kernel)), (ifs1 (ft_and (cmpT C1.inn (C1.idx (C1.var 2 (by decide +kernel)) fe_int rfl) (C1.var 1 (by decide +kernel)) rfl) (pw_and1 (cmpT C1.inn (C1.idx (C1.var 2 (by decide +kernel)) fe_int rfl) (C1.var 1 (by decide +kernel)) rfl))).pt), (C1.var 2 (by decide +kernel))⟩) (by decide +kernel)) fa_nil) (by decide +kernel) (by decide +kernel) rfl)))
abbrev S_below : Stmt := top 21
def N_below : List Str := ["a", "b"]
noncomputable def B_below : Fn.Env → Out := (thenS (bin2 ltB (bin2 mulB (bin2 idxB (varB 0) (litI 0)) (bin2 idxB (varB 1) (litI 1))) (bin2 mulB (bin2 idxB (varB 1) (litI 0)) (bin2 idxB (varB 0) (litI 1)))) retV)
noncomputable def E_below : En := ⟨"below", 2, defF 2 B_below⟩
theorem c_below {a0 a1 : B} : callE E_below [a0, a1] = (E_below.F [toArg a0, toArg a1]).bind retB := (rfl)
theorem d_below {a0 a1 : B} (h : [a0, a1].all okArg = true) : E_below.F [a0, a1] = outR (B_below [some a0, some a1]) := def_rt h rfl
noncomputable def T9 : List En := T8 ++ [E_below]
theorem sc_below : FnScope N_below ["a", "b"] (defScope S_below) := ⟨rfl, rfl, rfl, by decide +kernel, rfl, by decide +kernel, by decide +kernel⟩
theorem ok_below {X : Cx} {g : G} {cls : Nat → Value} (C : CS X g cls 8 T8 N_below (defScope S_below) bt) : PSs X (defBody S_below) (tFS g B_below) :=
  (fs_one (fs_ret (cmpE C.ct.lt (C.ct.mul (C.ct.idx (C.ct.var 0 (by decide +kernel)) fe_int rfl) (C.ct.idx (C.ct.var 1 (by decide +kernel)) fe_int rfl)) (C.ct.mul (C.ct.idx (C.ct.var 1 (by decide +kernel)) fe_int rfl) (C.ct.idx (C.ct.var 0 (by decide +kernel)) fe_int rfl)) rfl)))
abbrev S_thickest : Stmt := top 32
def N_thickest : List Str := ["graph", "best", "part", "worth"]
noncomputable def B_thickest_1 : Fn.Env → Out := (forget [2, 3] (forget [3] (iteS (tstF (bin2 gtF (callF lenB (consA (varB 2) nilA)) (litI 1))) (seqS (thenS (ownF E_fraction (consA (ownF E_within (consA (varB 0) (consA (varB 2) nilA))) (consA (bin2 subB (callF lenB (consA (varB 2) nilA)) (litI 1)) nilA))) (setL 3)) (iteS (orT (tstF (bin2 (isB false) (varB 1) litN)) (testV (ownF E_below (consA (bin2 idxB (varB 1) (litI 0)) (consA (varB 3) nilA))))) (thenS (callF tupB (consA (varB 3) (consA (varB 2) nilA))) (setV 1)) nxS)) nxS)))
noncomputable def B_thickest : Fn.Env → Out := (seqS (iteS (tstF (bin2 ltB (callF lenB (consA (bin2 idxB (varB 0) (litI 0)) nilA)) (litI 2))) (rzS 9) nxS) (seqS (thenS litN (setV 1)) (seqS (forget [2, 3] (forV (.one 2) (itF false (ownF E_parts_of (consA (varB 0) nilA))) B_thickest_1)) (retN 1))))
noncomputable def E_thickest : En := ⟨"thickest", 1, defF 4 B_thickest⟩
theorem c_thickest {a0 : B} : callE E_thickest [a0] = (E_thickest.F [toArg a0]).bind retB := (rfl)
theorem d_thickest {a0 : B} (h : [a0].all okArg = true) : E_thickest.F [a0] = outR (B_thickest [some a0, none, none, none]) := def_rt h rfl
noncomputable def T10 : List En := T9 ++ [E_thickest]
theorem sc_thickest : FnScope N_thickest ["graph"] (defScope S_thickest) := ⟨rfl, rfl, rfl, by decide +kernel, rfl, by decide +kernel, by decide +kernel⟩
theorem ok_thickest {X : Cx} {g : G} {cls : Nat → Value} (C : CS X g cls 9 T9 N_thickest (defScope S_thickest) bt) : PSs X (defBody S_thickest) (tFS g B_thickest) :=
  (fs_cons (fs_if (cmpT C.ct.lt (C.ct.call C.ct.len (fa_cons rfl (C.ct.idx (C.ct.var 0 (by decide +kernel)) fe_int rfl) fa_nil) (by decide +kernel) (by decide +kernel) rfl) fe_int rfl) (fs_one (C.rz 9 rfl (by decide +kernel) (by decide +kernel))) fs_nil) (fs_cons (C.asg 1 fe_non (by decide +kernel) rfl) (fs_cons (fs_forget [2, 3] (C.fo (C.ct.it (C.ct.own 4 (fa_cons rfl (C.ct.var 0 (by decide +kernel)) fa_nil) rfl rfl (by decide +kernel) rfl)) (C.g1 2 (by decide +kernel)) (fun _ C => (fs_forgets [2, 3] (fs_one (fs_forget [3] (fs_if (cmpT C.ct.gt (C.ct.call C.ct.len (fa_cons rfl (C.ct.var 2 (by decide +kernel)) fa_nil) (by decide +kernel) (by decide +kernel) rfl) fe_int rfl) (fs_cons (fs_setL (C.asg 3 (C.ct.own 6 (fa_cons rfl (C.ct.own 7 (fa_cons rfl (C.ct.var 0 (by decide +kernel)) (fa_cons rfl (C.ct.var 2 (by decide +kernel)) fa_nil)) rfl rfl (by decide +kernel) rfl) (fa_cons rfl (C.ct.sub (C.ct.call C.ct.len (fa_cons rfl (C.ct.var 2 (by decide +kernel)) fa_nil) (by decide +kernel) (by decide +kernel) rfl) fe_int) fa_nil)) rfl rfl (by decide +kernel) rfl) (by decide +kernel) rfl)) (fs_one (fs_if (ft_or (cmpT C.ct.is (C.ct.var 1 (by decide +kernel)) fe_non rfl) (pw_or1 (C.ct.val (C.ct.own 8 (fa_cons rfl (C.ct.idx (C.ct.var 1 (by decide +kernel)) fe_int rfl) (fa_cons rfl (C.ct.var 3 (by decide +kernel)) fa_nil)) rfl rfl (by decide +kernel) rfl) rfl))).pt (fs_one (C.asg 1 (fe_tup (fa_cons rfl (C.ct.var 3 (by decide +kernel)) (fa_cons rfl (C.ct.var 2 (by decide +kernel)) fa_nil))) (by decide +kernel) rfl)) fs_nil))) fs_nil))))) rfl)) (fs_one (C.rn 1 (by decide +kernel))))))
abbrev S_minus : Stmt := top 20
def N_minus : List Str := ["a", "b"]
noncomputable def B_minus : Fn.Env → Out := (thenS (ownF E_fraction (consA (bin2 subB (bin2 mulB (bin2 idxB (varB 0) (litI 0)) (bin2 idxB (varB 1) (litI 1))) (bin2 mulB (bin2 idxB (varB 1) (litI 0)) (bin2 idxB (varB 0) (litI 1)))) (consA (bin2 mulB (bin2 idxB (varB 0) (litI 1)) (bin2 idxB (varB 1) (litI 1))) nilA))) retV)
noncomputable def E_minus : En := ⟨"minus", 2, defF 2 B_minus⟩
noncomputable def T11 : List En := T10 ++ [E_minus]
theorem sc_minus : FnScope N_minus ["a", "b"] (defScope S_minus) := ⟨rfl, rfl, rfl, by decide +kernel, rfl, by decide +kernel, by decide +kernel⟩
theorem ok_minus {X : Cx} {g : G} {cls : Nat → Value} (C : CS X g cls 10 T10 N_minus (defScope S_minus) bt) : PSs X (defBody S_minus) (tFS g B_minus) :=
  (fs_one (fs_ret (C.ct.own 6 (fa_cons rfl (C.ct.sub (C.ct.mul (C.ct.idx (C.ct.var 0 (by decide +kernel)) fe_int rfl) (C.ct.idx (C.ct.var 1 (by decide +kernel)) fe_int rfl)) (C.ct.mul (C.ct.idx (C.ct.var 1 (by decide +kernel)) fe_int rfl) (C.ct.idx (C.ct.var 0 (by decide +kernel)) fe_int rfl))) (fa_cons rfl (C.ct.mul (C.ct.idx (C.ct.var 0 (by decide +kernel)) fe_int rfl) (C.ct.idx (C.ct.var 1 (by decide +kernel)) fe_int rfl)) fa_nil)) rfl rfl (by decide +kernel) rfl)))
abbrev S_shared_bottom : Stmt := top 26
def N_shared_bottom : List Str := ["sizes", "found", "size"]
noncomputable def B_shared_bottom_1 : Fn.Env → Out := (forget [2] (thenS (bin2 mulB (varB 1) (bin2 idxB (ownF E_fraction (consA (bin2 idxB (varB 2) (litI 1)) (consA (varB 1) nilA))) (litI 0))) (setL 1)))
noncomputable def B_shared_bottom : Fn.Env → Out := (seqS (thenS (litI 1) (setV 1)) (seqS (forget [2] (forV (.one 2) (itF false (varB 0)) B_shared_bottom_1)) (retN 1)))
noncomputable def E_shared_bottom : En := ⟨"shared_bottom", 1, defF 3 B_shared_bottom⟩
noncomputable def T12 : List En := T11 ++ [E_shared_bottom]
theorem sc_shared_bottom : FnScope N_shared_bottom ["sizes"] (defScope S_shared_bottom) := ⟨rfl, rfl, rfl, by decide +kernel, rfl, by decide +kernel, by decide +kernel⟩
theorem ok_shared_bottom {X : Cx} {g : G} {cls : Nat → Value} (C : CS X g cls 11 T11 N_shared_bottom (defScope S_shared_bottom) bt) : PSs X (defBody S_shared_bottom) (tFS g B_shared_bottom) :=
  (fs_cons (C.asg 1 fe_int (by decide +kernel) rfl) (fs_cons (fs_forget [2] (C.fo (C.ct.it (C.ct.var 0 (by decide +kernel))) (C.g1 2 (by decide +kernel)) (fun _ C => (fs_forgets [2] (fs_one (fs_setL (C.asg 1 (C.ct.mul (C.ct.var 1 (by decide +kernel)) (C.ct.idx (C.ct.own 6 (fa_cons rfl (C.ct.idx (C.ct.var 2 (by decide +kernel)) fe_int rfl) (fa_cons rfl (C.ct.var 1 (by decide +kernel)) fa_nil)) rfl rfl (by decide +kernel) rfl) fe_int rfl)) (by decide +kernel) rfl))))) rfl)) (fs_one (C.rn 1 (by decide +kernel)))))
abbrev S_road : Stmt := top 28
def N_road : List Str := ["rests", "start", "end", "came", "waiting", "at", "step", "found", "here"]
noncomputable def B_road_1 : Fn.Env → Out := (forget [6] (iteS (tstF (bin2 (inB true) (bin2 idxB (varB 6) (litI 0)) (varB 3))) (seqS (putS 3 (bin2 idxB (varB 6) (litI 0)) (callF tupB (consA (bin2 idxB (varB 4) (varB 5)) (consA (varB 6) nilA)))) (appV 4 (bin2 idxB (varB 6) (litI 0)))) nxS))
noncomputable def B_road_2 : Fn.Env → Res Bool := (tstF (bin2 ltB (varB 5) (callF lenB (consA (varB 4) nilA))))
noncomputable def B_road_3 : Fn.Env → Out := (forget [6] (seqS (forget [6] (forV (.one 6) (itF false (dget2V (varB 0) (bin2 idxB (varB 4) (varB 5)) (callF lstB nilA))) B_road_1)) (thenS (bin2 addB (varB 5) (litI 1)) (setL 5))))
noncomputable def B_road_4 : Fn.Env → Res Bool := (tstF (bin2 neB (varB 8) (varB 1)))
noncomputable def B_road_5 : Fn.Env → Out := (forget [6] (seqS (thenS (bin2 idxB (varB 3) (varB 8)) (bindV (.many [8, 6]))) (appV 7 (varB 6))))
noncomputable def B_road : Fn.Env → Out := (seqS (thenS (dispV (varB 1) litN) (setV 3)) (seqS (thenS (callF lstB (consA (varB 1) nilA)) (setV 4)) (seqS (thenS (litI 0) (setV 5)) (seqS (forget [5, 6] (whileC B_road_2 B_road_3)) (lockS 3 (seqS (iteS (tstF (bin2 (inB true) (varB 2) (varB 3))) (thenS litN retV) nxS) (seqS (thenS (callF lstB nilA) (setV 7)) (seqS (thenS (varB 2) (setV 8)) (seqS (forget [6, 8] (whileC B_road_4 B_road_5)) (retN 7))))))))))
noncomputable def E_road : En := ⟨"road", 3, defF 9 B_road⟩
noncomputable def T13 : List En := T12 ++ [E_road]
theorem sc_road : FnScope N_road ["rests", "start", "end"] (defScope S_road) := ⟨rfl, rfl, rfl, by decide +kernel, rfl, by decide +kernel, by decide +kernel⟩
theorem ok_road {X : Cx} {g : G} {cls : Nat → Value} (C : CS X g cls 12 T12 N_road (defScope S_road) bt) : PSs X (defBody S_road) (tFS g B_road) :=
  (fs_cons (C.asg 3 (C.ct.dis (C.ct.var 1 (by decide +kernel)) fe_non) (by decide +kernel) rfl) (fs_cons (C.asg 4 (fe_lst (fa_cons rfl (C.ct.var 1 (by decide +kernel)) fa_nil)) (by decide +kernel) rfl) (fs_cons (C.asg 5 fe_int (by decide +kernel) rfl) (fs_cons (fs_forget [5, 6] (C.wc (cmpT C.ct.lt (C.ct.var 5 (by decide +kernel)) (C.ct.call C.ct.len (fa_cons rfl (C.ct.var 4 (by decide +kernel)) fa_nil) (by decide +kernel) (by decide +kernel) rfl) rfl) (fs_forgets [6] (fs_cons (fs_forget [6] (C.fo (C.ct.it (C.ct.dget (C.ct.var 0 (by decide +kernel)) (C.ct.idx (C.ct.var 4 (by decide +kernel)) (C.ct.var 5 (by decide +kernel)) rfl) (fe_lst fa_nil) rfl)) (C.g1 6 (by decide +kernel)) (fun _ C => (fs_forgets [6] (fs_one (fs_if (cmpT C.ct.nin (C.ct.idx (C.ct.var 6 (by decide +kernel)) fe_int rfl) (C.ct.var 3 (by decide +kernel)) rfl) (fs_cons (C.sto 3 (C.ct.idx (C.ct.var 6 (by decide +kernel)) fe_int rfl) (fe_tup (fa_cons rfl (C.ct.idx (C.ct.var 4 (by decide +kernel)) (C.ct.var 5 (by decide +kernel)) rfl) (fa_cons rfl (C.ct.var 6 (by decide +kernel)) fa_nil))) (by decide +kernel) rfl) (fs_one (C.app 4 (C.ct.idx (C.ct.var 6 (by decide +kernel)) fe_int rfl) (by decide +kernel) rfl))) fs_nil)))) rfl)) (fs_one (fs_setL (C.asg 5 (C.ct.add (C.ct.var 5 (by decide +kernel)) fe_int) (by decide +kernel) rfl))))))) (fs_lock 3 (fs_cons (fs_if (cmpT C.ct.nin (C.ct.var 2 (by decide +kernel)) (C.ct.var 3 (by decide +kernel)) rfl) (fs_one (fs_ret fe_non)) fs_nil) (fs_cons (C.asg 7 (fe_lst fa_nil) (by decide +kernel) rfl) (fs_cons (C.asg 8 (C.ct.var 2 (by decide +kernel)) (by decide +kernel) rfl) (fs_cons (fs_forget [6, 8] (C.wc (cmpT C.ct.ne (C.ct.var 8 (by decide +kernel)) (C.ct.var 1 (by decide +kernel)) rfl) (fs_forgets [6] (fs_cons (C.asgT (C.ct.idx (C.ct.var 3 (by decide +kernel)) (C.ct.var 8 (by decide +kernel)) rfl) (C.gm [8, 6] (by decide +kernel)) rfl rfl) (fs_one (C.app 7 (C.ct.var 6 (by decide +kernel)) (by decide +kernel) rfl)))))) (fs_one (C.rn 7 (by decide +kernel))))))))))))
abbrev S_rests_of : Stmt := top 27
def N_rests_of : List Str := ["arcs", "wholes", "goes", "found", "number", "one", "other", "size"]
noncomputable def B_rests_of_1 : Fn.Env → Out := (forget [4, 5, 6, 7] (seqS (iteS (tstF (bin2 ltB (bin2 idxB (varB 2) (varB 4)) (bin2 idxB (varB 1) (varB 4)))) (sdS 3 (varB 5) (callF tupB (consA (varB 6) (consA (varB 4) (consA (litB true) (consA (bin2 subB (bin2 idxB (varB 1) (varB 4)) (bin2 idxB (varB 2) (varB 4))) nilA)))))) nxS) (iteS (tstF (bin2 gtF (bin2 idxB (varB 2) (varB 4)) (litI 0))) (sdS 3 (varB 6) (callF tupB (consA (varB 5) (consA (varB 4) (consA (litB false) (consA (bin2 idxB (varB 2) (varB 4)) nilA)))))) nxS)))
noncomputable def B_rests_of : Fn.Env → Out := (seqS (thenS newK (setV 3)) (seqS (forget [4, 5, 6, 7] (forV (.pr 4 [5, 6, 7]) (enF false (consA (varB 0) nilA)) B_rests_of_1)) (closeS 3 (retN 3))))
noncomputable def E_rests_of : En := ⟨"rests_of", 3, defF 8 B_rests_of⟩
noncomputable def T14 : List En := T13 ++ [E_rests_of]
theorem sc_rests_of : FnScope N_rests_of ["arcs", "wholes", "goes"] (defScope S_rests_of) := ⟨rfl, rfl, rfl, by decide +kernel, rfl, by decide +kernel, by decide +kernel⟩
theorem ok_rests_of {X : Cx} {g : G} {cls : Nat → Value} (C : CS X g cls 13 T13 N_rests_of (defScope S_rests_of) bt) : PSs X (defBody S_rests_of) (tFS g B_rests_of) :=
  (fs_cons (C.asg 3 fe_dicK (by decide +kernel) rfl) (fs_cons (fs_forget [4, 5, 6, 7] (C.fo (C.ct.enu (C.ct.var 0 (by decide +kernel)) (by decide +kernel) rfl) (C.gp 4 [5, 6, 7] (by decide +kernel)) (fun _ C => (fs_forgets [4, 5, 6, 7] (fs_cons (fs_if (cmpT C.ct.lt (C.ct.idx (C.ct.var 2 (by decide +kernel)) (C.ct.var 4 (by decide +kernel)) rfl) (C.ct.idx (C.ct.var 1 (by decide +kernel)) (C.ct.var 4 (by decide +kernel)) rfl) rfl) (fs_one (C.sd 3 (C.ct.var 5 (by decide +kernel)) (fe_tup (fa_cons rfl (C.ct.var 6 (by decide +kernel)) (fa_cons rfl (C.ct.var 4 (by decide +kernel)) (fa_cons rfl fe_bl (fa_cons rfl (C.ct.sub (C.ct.idx (C.ct.var 1 (by decide +kernel)) (C.ct.var 4 (by decide +kernel)) rfl) (C.ct.idx (C.ct.var 2 (by decide +kernel)) (C.ct.var 4 (by decide +kernel)) rfl)) fa_nil))))) (by decide +kernel) rfl)) fs_nil) (fs_one (fs_if (cmpT C.ct.gt (C.ct.idx (C.ct.var 2 (by decide +kernel)) (C.ct.var 4 (by decide +kernel)) rfl) fe_int rfl) (fs_one (C.sd 3 (C.ct.var 6 (by decide +kernel)) (fe_tup (fa_cons rfl (C.ct.var 5 (by decide +kernel)) (fa_cons rfl (C.ct.var 4 (by decide +kernel)) (fa_cons rfl fe_bl (fa_cons rfl (C.ct.idx (C.ct.var 2 (by decide +kernel)) (C.ct.var 4 (by decide +kernel)) rfl) fa_nil))))) (by decide +kernel) rfl)) fs_nil))))) rfl)) (fs_close 3 (fs_one (C.rn 3 (by decide +kernel))))))
abbrev S_greatest : Stmt := top 29
def N_greatest : List Str := ["arcs", "start", "end", "bottom", "wholes", "goes", "steps", "more", "knot", "number", "along", "rest", "one", "other", "size", "arc", "many"]
noncomputable def B_greatest_1 : Fn.Env → Out := (forget [8, 9, 10] (putS 5 (varB 9) (iteV (testV (varB 10)) (bin2 addB (bin2 idxB (varB 5) (varB 9)) (varB 7)) (bin2 subB (bin2 idxB (varB 5) (varB 9)) (varB 7)))))
noncomputable def B_greatest_2 : Fn.Env → Res Bool := (tstF (bin2 (isB true) (varB 6) litN))
noncomputable def B_greatest_3 : Fn.Env → Out := (forget [7, 8, 9, 10] (seqS (thenS (callF Fn.minG (consA (compV (.many [8, 9, 10, 11]) (itF true (varB 6)) yesF (varB 11) [8, 9, 10, 11]) nilA)) (setV 7)) (seqS (forget [8, 9, 10] (forV (.many [8, 9, 10, 11]) (itF false (varB 6)) B_greatest_1)) (thenS (ownF E_road (consA (ownF E_rests_of (consA (varB 0) (consA (varB 4) (consA (varB 5) nilA)))) (consA (varB 1) (consA (varB 2) nilA)))) (setL 6)))))
noncomputable def B_greatest : Fn.Env → Out := (seqS (thenS (ownF E_shared_bottom (consA (compV (.many [12, 13, 14]) (itF true (varB 0)) yesF (varB 14) [12, 13, 14]) nilA)) (setL 3)) (seqS (thenS (compV (.many [12, 13, 14]) (itF true (varB 0)) yesF (bin2 mulB (bin2 idxB (varB 14) (litI 0)) (bin2 divB (varB 3) (bin2 idxB (varB 14) (litI 1)))) [12, 13, 14]) (setL 4)) (seqS (thenS (compV (.one 15) (itF true (varB 0)) yesF (litI 0) [15]) (setV 5)) (seqS (thenS (ownF E_road (consA (ownF E_rests_of (consA (varB 0) (consA (varB 4) (consA (varB 5) nilA)))) (consA (varB 1) (consA (varB 2) nilA)))) (setL 6)) (seqS (forget [6, 7, 8, 9, 10, 11] (whileC B_greatest_2 B_greatest_3)) (lockS 5 (thenS (compV (.one 16) (itF true (varB 5)) yesF (ownF E_fraction (consA (varB 16) (consA (varB 3) nilA))) [16]) retV)))))))
noncomputable def E_greatest : En := ⟨"greatest", 3, defF 17 B_greatest⟩
noncomputable def T15 : List En := T14 ++ [E_greatest]
theorem sc_greatest : FnScope N_greatest ["arcs", "start", "end"] (defScope S_greatest) := ⟨rfl, rfl, rfl, by decide +kernel, rfl, by decide +kernel, by decide +kernel⟩
theorem ok_greatest {X : Cx} {g : G} {cls : Nat → Value} (C : CS X g cls 14 T14 N_greatest (defScope S_greatest) bt) : PSs X (defBody S_greatest) (tFS g B_greatest) :=
  (fs_cons (fs_setL (C.asg 3 (C.ct.own 11 (fa_cons rfl (C.ct.lc [("one", 12), ("other", 13), ("size", 14)] (C.ct.it (C.ct.var 0 (by decide +kernel))) (fun C1 => ⟨(C1.gm [12, 13, 14] (by decide +kernel)), ifs0, (C1.var 14 (by decide +kernel))⟩) (by decide +kernel)) fa_nil) rfl rfl (by decide +kernel) rfl) (by decide +kernel) rfl)) (fs_cons (fs_setL (C.asgLc 4 [("one", 12), ("other", 13), ("size", 14)] (C.ct.it (C.ct.var 0 (by decide +kernel))) (fun C2 => ⟨(C2.gm [12, 13, 14] (by decide +kernel)), ifs0, (C2.mul (C2.idx (C2.var 14 (by decide +kernel)) fe_int rfl) (C2.div (C2.var 3 (by decide +kernel)) (C2.idx (C2.var 14 (by decide +kernel)) fe_int rfl)))⟩) (by decide +kernel) (by decide +kernel))) (fs_cons (C.asgLc 5 [("arc", 15)] (C.ct.it (C.ct.var 0 (by decide +kernel))) (fun C3 => ⟨(C3.g1 15 (by decide +kernel)), ifs0, fe_int⟩) (by decide +kernel) (by decide +kernel)) (fs_cons (fs_setL (C.asg 6 (C.ct.own 12 (fa_cons rfl (C.ct.own 13 (fa_cons rfl (C.ct.var 0 (by decide +kernel)) (fa_cons rfl (C.ct.var 4 (by decide +kernel)) (fa_cons rfl (C.ct.var 5 (by decide +kernel)) fa_nil))) rfl rfl (by decide +kernel) rfl) (fa_cons rfl (C.ct.var 1 (by decide +kernel)) (fa_cons rfl (C.ct.var 2 (by decide +kernel)) fa_nil))) rfl rfl (by decide +kernel) rfl) (by decide +kernel) rfl)) (fs_cons (fs_forget [6, 7, 8, 9, 10, 11] (C.wc (cmpT C.ct.isn (C.ct.var 6 (by decide +kernel)) fe_non rfl) (fs_forgets [7, 8, 9, 10] (fs_cons (C.asg 7 (C.ct.call C.ct.minG (fa_cons rfl (C.ct.lc [("knot", 8), ("number", 9), ("along", 10), ("rest", 11)] (C.ct.it (C.ct.var 6 (by decide +kernel))) (fun C4 => ⟨(C4.gm [8, 9, 10, 11] (by decide +kernel)), ifs0, (C4.var 11 (by decide +kernel))⟩) (by decide +kernel)) fa_nil) (by decide +kernel) (by decide +kernel) rfl) (by decide +kernel) rfl) (fs_cons (fs_forget [8, 9, 10] (C.fo (C.ct.it (C.ct.var 6 (by decide +kernel))) (C.gm [8, 9, 10, 11] (by decide +kernel)) (fun _ C => (fs_forgets [8, 9, 10] (fs_one (C.sto 5 (C.ct.var 9 (by decide +kernel)) (fe_ite (C.ct.val (C.ct.var 10 (by decide +kernel)) rfl) (C.ct.add (C.ct.idx (C.ct.var 5 (by decide +kernel)) (C.ct.var 9 (by decide +kernel)) rfl) (C.ct.var 7 (by decide +kernel))) (C.ct.sub (C.ct.idx (C.ct.var 5 (by decide +kernel)) (C.ct.var 9 (by decide +kernel)) rfl) (C.ct.var 7 (by decide +kernel)))) (by decide +kernel) rfl)))) rfl)) (fs_one (fs_setL (C.asg 6 (C.ct.own 12 (fa_cons rfl (C.ct.own 13 (fa_cons rfl (C.ct.var 0 (by decide +kernel)) (fa_cons rfl (C.ct.var 4 (by decide +kernel)) (fa_cons rfl (C.ct.var 5 (by decide +kernel)) fa_nil))) rfl rfl (by decide +kernel) rfl) (fa_cons rfl (C.ct.var 1 (by decide +kernel)) (fa_cons rfl (C.ct.var 2 (by decide +kernel)) fa_nil))) rfl rfl (by decide +kernel) rfl) (by decide +kernel) rfl)))))))) (fs_lock 5 (fs_one (fs_ret (C.ct.lc [("many", 16)] (C.ct.it (C.ct.var 5 (by decide +kernel))) (fun C5 => ⟨(C5.g1 16 (by decide +kernel)), ifs0, (C5.own 6 (fa_cons rfl (C5.var 16 (by decide +kernel)) (fa_cons rfl (C5.var 3 (by decide +kernel)) fa_nil)) rfl rfl (by decide +kernel) rfl)⟩) (by decide +kernel))))))))))
abbrev S_leans_by : Stmt := top 33
def N_leans_by : List Str := ["graph", "most", "arcs", "pair", "goes", "many", "name", "size", "k"]
noncomputable def B_leans_by_1 : Fn.Env → Out := (forget [3] (extV 2 (callF lstB (consA (callF tupB (consA (varB 3) (consA (bin2 idxB (varB 3) (litI 0)) (consA (litD (.ctup [.int 1, .int 1])) nilA)))) (consA (callF tupB (consA (varB 3) (consA (bin2 idxB (varB 3) (litI 1)) (consA (litD (.ctup [.int 1, .int 1])) nilA)))) nilA)))))
noncomputable def B_leans_by : Fn.Env → Out := (seqS (thenS (compV (.one 3) (itF true (bin2 idxB (varB 0) (litI 1))) yesF (callF tupB (consA (litS "+") (consA (varB 3) (consA (litD (.ctup [.int 1, .int 1])) nilA)))) [3]) (setV 2)) (seqS (forget [3] (forV (.one 3) (itF false (bin2 idxB (varB 0) (litI 1))) B_leans_by_1)) (seqS (extV 2 (compV (.many [6, 7]) (itF true (varB 1)) yesF (callF tupB (consA (varB 6) (consA (litS "-") (consA (varB 7) nilA)))) [6, 7])) (lockS 2 (seqS (thenS (ownF E_greatest (consA (varB 2) (consA (litS "+") (consA (litS "-") nilA)))) (setL 4)) (seqS (thenS (callF lenB (consA (bin2 idxB (varB 0) (litI 1)) nilA)) (setV 5)) (thenS (callF tupF (consA (compV (.one 8) (rgF (consA (varB 5) nilA)) yesF (bin2 idxB (varB 4) (bin2 addB (varB 5) (bin2 mulB (litI 2) (varB 8)))) [8]) nilA)) retV)))))))
noncomputable def E_leans_by : En := ⟨"leans_by", 2, defF 9 B_leans_by⟩
noncomputable def T16 : List En := T15 ++ [E_leans_by]
theorem sc_leans_by : FnScope N_leans_by ["graph", "most"] (defScope S_leans_by) := ⟨rfl, rfl, rfl, by decide +kernel, rfl, by decide +kernel, by decide +kernel⟩
theorem ok_leans_by {X : Cx} {g : G} {cls : Nat → Value} (C : CS X g cls 15 T15 N_leans_by (defScope S_leans_by) bt) : PSs X (defBody S_leans_by) (tFS g B_leans_by) :=
  (fs_cons (C.asgLc 2 [("pair", 3)] (C.ct.it (C.ct.idx (C.ct.var 0 (by decide +kernel)) fe_int rfl)) (fun C1 => ⟨(C1.g1 3 (by decide +kernel)), ifs0, (fe_tup (fa_cons rfl fe_str (fa_cons rfl (C1.var 3 (by decide +kernel)) (fa_cons rfl (C1.con 0 rfl (by decide +kernel)) fa_nil))))⟩) (by decide +kernel) (by decide +kernel)) (fs_cons (fs_forget [3] (C.fo (C.ct.it (C.ct.idx (C.ct.var 0 (by decide +kernel)) fe_int rfl)) (C.g1 3 (by decide +kernel)) (fun _ C => (fs_forgets [3] (fs_one (C.ext 2 (fe_lst (fa_cons rfl (fe_tup (fa_cons rfl (C.ct.var 3 (by decide +kernel)) (fa_cons rfl (C.ct.idx (C.ct.var 3 (by decide +kernel)) fe_int rfl) (fa_cons rfl (C.ct.con 0 rfl (by decide +kernel)) fa_nil)))) (fa_cons rfl (fe_tup (fa_cons rfl (C.ct.var 3 (by decide +kernel)) (fa_cons rfl (C.ct.idx (C.ct.var 3 (by decide +kernel)) fe_int rfl) (fa_cons rfl (C.ct.con 0 rfl (by decide +kernel)) fa_nil)))) fa_nil))) (by decide +kernel) rfl)))) rfl)) (fs_cons (C.ext 2 (C.ct.lc [("name", 6), ("size", 7)] (C.ct.it (C.ct.var 1 (by decide +kernel))) (fun C2 => ⟨(C2.gm [6, 7] (by decide +kernel)), ifs0, (fe_tup (fa_cons rfl (C2.var 6 (by decide +kernel)) (fa_cons rfl fe_str (fa_cons rfl (C2.var 7 (by decide +kernel)) fa_nil))))⟩) (by decide +kernel)) (by decide +kernel) rfl) (fs_lock 2 (fs_cons (fs_setL (C.asg 4 (C.ct.own 14 (fa_cons rfl (C.ct.var 2 (by decide +kernel)) (fa_cons rfl fe_str (fa_cons rfl fe_str fa_nil))) rfl rfl (by decide +kernel) rfl) (by decide +kernel) rfl)) (fs_cons (C.asg 5 (C.ct.call C.ct.len (fa_cons rfl (C.ct.idx (C.ct.var 0 (by decide +kernel)) fe_int rfl) fa_nil) (by decide +kernel) (by decide +kernel) rfl) (by decide +kernel) rfl) (fs_one (fs_ret (C.ct.call C.ct.tup (fa_cons rfl (C.ct.lc [("k", 8)] (C.ct.rg1 (C.ct.var 5 (by decide +kernel)) (by decide +kernel) rfl) (fun C3 => ⟨(C3.g1 8 (by decide +kernel)), ifs0, (C3.idx (C3.var 4 (by decide +kernel)) (C3.add (C3.var 5 (by decide +kernel)) (C3.mul fe_int (C3.var 8 (by decide +kernel)))) rfl)⟩) (by decide +kernel)) fa_nil) (by decide +kernel) (by decide +kernel) rfl)))))))))
abbrev S_thickness_leans : Stmt := top 34
def N_thickness_leans : List Str := ["graph", "worth", "found", "root", "most", "name"]
noncomputable def B_thickness_leans_1 : Fn.Env → Out := (forget [3, 4] (seqS (thenS (compV (.one 5) (itF true (bin2 idxB (varB 0) (litI 0))) yesF (callF tupB (consA (varB 5) (consA (iteV (tstF (bin2 eqB (varB 5) (varB 3))) (ownF E_minus (consA (varB 1) (consA (varB 1) nilA))) (varB 1)) nilA))) [5]) (setL 4)) (appV 2 (ownF E_leans_by (consA (varB 0) (consA (varB 4) nilA))))))
noncomputable def B_thickness_leans : Fn.Env → Out := (seqS (thenS (bin2 idxB (ownF E_thickest (consA (varB 0) nilA)) (litI 0)) (setL 1)) (seqS (thenS (callF lstB nilA) (setV 2)) (seqS (forget [3, 4] (forV (.one 3) (itF false (bin2 idxB (varB 0) (litI 0))) B_thickness_leans_1)) (lockS 2 (thenS (callF tupF (consA (varB 2) nilA)) retV)))))
noncomputable def E_thickness_leans : En := ⟨"thickness_leans", 1, defF 6 B_thickness_leans⟩
theorem c_thickness_leans {a0 : B} : callE E_thickness_leans [a0] = (E_thickness_leans.F [toArg a0]).bind retB := (rfl)
theorem d_thickness_leans {a0 : B} (h : [a0].all okArg = true) : E_thickness_leans.F [a0] = outR (B_thickness_leans [some a0, none, none, none, none, none]) := def_rt h rfl
noncomputable def T17 : List En := T16 ++ [E_thickness_leans]
theorem sc_thickness_leans : FnScope N_thickness_leans ["graph"] (defScope S_thickness_leans) := ⟨rfl, rfl, rfl, by decide +kernel, rfl, by decide +kernel, by decide +kernel⟩
theorem ok_thickness_leans {X : Cx} {g : G} {cls : Nat → Value} (C : CS X g cls 16 T16 N_thickness_leans (defScope S_thickness_leans) bt) : PSs X (defBody S_thickness_leans) (tFS g B_thickness_leans) :=
  (fs_cons (fs_setL (C.asg 1 (C.ct.idx (C.ct.own 9 (fa_cons rfl (C.ct.var 0 (by decide +kernel)) fa_nil) rfl rfl (by decide +kernel) rfl) fe_int rfl) (by decide +kernel) rfl)) (fs_cons (C.asg 2 (fe_lst fa_nil) (by decide +kernel) rfl) (fs_cons (fs_forget [3, 4] (C.fo (C.ct.it (C.ct.idx (C.ct.var 0 (by decide +kernel)) fe_int rfl)) (C.g1 3 (by decide +kernel)) (fun _ C => (fs_forgets [3, 4] (fs_cons (fs_setL (C.asgLc 4 [("name", 5)] (C.ct.it (C.ct.idx (C.ct.var 0 (by decide +kernel)) fe_int rfl)) (fun C1 => ⟨(C1.g1 5 (by decide +kernel)), ifs0, (fe_tup (fa_cons rfl (C1.var 5 (by decide +kernel)) (fa_cons rfl (fe_ite (cmpT C1.eq (C1.var 5 (by decide +kernel)) (C1.var 3 (by decide +kernel)) rfl) (C1.own 10 (fa_cons rfl (C1.var 1 (by decide +kernel)) (fa_cons rfl (C1.var 1 (by decide +kernel)) fa_nil)) rfl rfl (by decide +kernel) rfl) (C1.var 1 (by decide +kernel))) fa_nil)))⟩) (by decide +kernel) (by decide +kernel))) (fs_one (C.app 2 (C.ct.own 15 (fa_cons rfl (C.ct.var 0 (by decide +kernel)) (fa_cons rfl (C.ct.var 4 (by decide +kernel)) fa_nil)) rfl rfl (by decide +kernel) rfl) (by decide +kernel) rfl))))) rfl)) (fs_lock 2 (fs_one (fs_ret (C.ct.call C.ct.tup (fa_cons rfl (C.ct.var 2 (by decide +kernel)) fa_nil) (by decide +kernel) (by decide +kernel) rfl)))))))
abbrev S_law_refused_v6 : Stmt := top 44
def N_law_refused_v6 : List Str := ["_law_which", "_law_graph_here", "_law_refused_here", "e", "_law_others"]
noncomputable def B_law_refused_v6_1 : Fn.Env → Out := (thenS (callI E_thickest E_thickness_leans (varB 0) (consA (varB 1) nilA)) dropS)
noncomputable def B_law_refused_v6_2 : Fn.Env → Out := (seqS (thenS (one1 (errT [2, 9] [3, 7, 6, 2, 11, 4, 15]) (varB 3)) (setV 4)) (seqS (thenS (orV (varB 4) (one1 (errT [2, 9] [8, 5, 1, 12, 10, 13, 14]) (varB 3))) (setL 4)) (thenS (andV (one1 (errI [2, 9] 9) (varB 3)) (andV (one1 (errV [2, 9]) (varB 3)) (one1 notB (varB 4)))) (setL 2))))
noncomputable def B_law_refused_v6 : Fn.Env → Out := (seqS (thenS (litB false) (setV 2)) (seqS (forget [3, 4] (tryS [2, 9] 0 (some 3) B_law_refused_v6_1 B_law_refused_v6_2)) (retN 2)))
noncomputable def E_law_refused_v6 : En := ⟨"_law_refused", 2, defF 5 B_law_refused_v6⟩
theorem c_law_refused_v6 {a0 a1 : B} : callE E_law_refused_v6 [a0, a1] = (E_law_refused_v6.F [toArg a0, toArg a1]).bind retB := (rfl)
theorem d_law_refused_v6 {a0 a1 : B} (h : [a0, a1].all okArg = true) : E_law_refused_v6.F [a0, a1] = outR (B_law_refused_v6 [some a0, some a1, none, none, none]) := def_rt h rfl
noncomputable def T18 : List En := T17 ++ [E_law_refused_v6]
theorem sc_law_refused_v6 : FnScope N_law_refused_v6 ["_law_which", "_law_graph_here"] (defScope S_law_refused_v6) := ⟨rfl, rfl, rfl, by decide +kernel, rfl, by decide +kernel, by decide +kernel⟩
theorem ok_law_refused_v6 {X : Cx} {g : G} {cls : Nat → Value} (C : CS X g cls 17 T17 N_law_refused_v6 (defScope S_law_refused_v6) bt) : PSs X (defBody S_law_refused_v6) (tFS g B_law_refused_v6) :=
  (fs_cons (C.asg 2 fe_bl (by decide +kernel) rfl) (fs_cons (fs_forget [3, 4] (C.tra 0 3 rfl (by decide +kernel) (by decide +kernel) (fun C => (fs_one (C.ex (C.ct.callI 9 16 (C.ct.var 0 (by decide +kernel)) rfl (fa_cons rfl (C.ct.var 1 (by decide +kernel)) fa_nil) rfl rfl rfl rfl (by decide +kernel) (by decide +kernel) rfl) rfl))) (fun C => (fs_cons (C.asg 4 (C.ct.isET [3, 7, 6, 2, 11, 4, 15] (C.ct.var 3 (by decide +kernel)) (by decide +kernel) rfl (by decide +kernel) rfl) (by decide +kernel) rfl) (fs_cons (fs_setL (C.asg 4 (fe_or (C.ct.var 4 (by decide +kernel)) (pe_one (C.ct.isET [8, 5, 1, 12, 10, 13, 14] (C.ct.var 3 (by decide +kernel)) (by decide +kernel) rfl (by decide +kernel) rfl))) (by decide +kernel) rfl)) (fs_one (fs_setL (C.asg 2 (fe_and (C.ct.isE 9 (C.ct.var 3 (by decide +kernel)) rfl (by decide +kernel) (by decide +kernel) rfl) (fe_and (C.ct.isEV (C.ct.var 3 (by decide +kernel)) (by decide +kernel) (by decide +kernel) rfl) (pe_one (fe_not (C.ct.var 4 (by decide +kernel)))))) (by decide +kernel) rfl)))))))) (fs_one (C.rn 2 (by decide +kernel)))))
abbrev S_law_parts : Stmt := top 42
def N_law_parts : List Str := ["_law_graph_here", "_law_found", "_law_mask", "_law_k"]
noncomputable def B_law_parts_1 : Fn.Env → Out := (forget [2] (appV 1 (callF tupF (consA (compV (.one 3) (rgF (consA (callF lenB (consA (bin2 idxB (varB 0) (litI 0)) nilA)) nilA)) (tstF (bin2 eqB (bin2 andB (bin2 shrB (varB 2) (varB 3)) (litI 1)) (litI 1))) (bin2 idxB (bin2 idxB (varB 0) (litI 0)) (varB 3)) [3]) nilA))))
noncomputable def B_law_parts : Fn.Env → Out := (seqS (thenS (callF lstB nilA) (setV 1)) (seqS (forget [2] (forV (.one 2) (rgF (consA (litI 1) (consA (bin2 shlB (litI 1) (callF lenB (consA (bin2 idxB (varB 0) (litI 0)) nilA))) nilA))) B_law_parts_1)) (retN 1)))
noncomputable def E_law_parts : En := ⟨"_law_parts", 1, defF 4 B_law_parts⟩
theorem c_law_parts {a0 : B} : callE E_law_parts [a0] = (E_law_parts.F [toArg a0]).bind retB := (rfl)
theorem d_law_parts {a0 : B} (h : [a0].all okArg = true) : E_law_parts.F [a0] = outR (B_law_parts [some a0, none, none, none]) := def_rt h rfl
noncomputable def T19 : List En := T18 ++ [E_law_parts]
theorem sc_law_parts : FnScope N_law_parts ["_law_graph_here"] (defScope S_law_parts) := ⟨rfl, rfl, rfl, by decide +kernel, rfl, by decide +kernel, by decide +kernel⟩
theorem ok_law_parts {X : Cx} {g : G} {cls : Nat → Value} (C : CS X g cls 18 T18 N_law_parts (defScope S_law_parts) bt) : PSs X (defBody S_law_parts) (tFS g B_law_parts) :=
  (fs_cons (C.asg 1 (fe_lst fa_nil) (by decide +kernel) rfl) (fs_cons (fs_forget [2] (C.fo (C.ct.rg2 fe_int (C.ct.shl fe_int (C.ct.call C.ct.len (fa_cons rfl (C.ct.idx (C.ct.var 0 (by decide +kernel)) fe_int rfl) fa_nil) (by decide +kernel) (by decide +kernel) rfl)) (by decide +kernel) rfl rfl) (C.g1 2 (by decide +kernel)) (fun _ C => (fs_forgets [2] (fs_one (C.app 1 (C.ct.call C.ct.tup (fa_cons rfl (C.ct.lc [("_law_k", 3)] (C.ct.rg1 (C.ct.call C.ct.len (fa_cons rfl (C.ct.idx (C.ct.var 0 (by decide +kernel)) fe_int rfl) fa_nil) (by decide +kernel) (by decide +kernel) rfl) (by decide +kernel) rfl) (fun C1 => ⟨(C1.g1 3 (by decide +kernel)), (ifs1 (cmpT C1.eq (C1.band (C1.shr (C1.var 2 (by decide +kernel)) (C1.var 3 (by decide +kernel))) fe_int) fe_int rfl)), (C1.idx (C1.idx (C1.var 0 (by decide +kernel)) fe_int rfl) (C1.var 3 (by decide +kernel)) rfl)⟩) (by decide +kernel)) fa_nil) (by decide +kernel) (by decide +kernel) rfl) (by decide +kernel) rfl)))) rfl)) (fs_one (C.rn 1 (by decide +kernel)))))
abbrev S_law_low : Stmt := top 39
def N_law_low : List Str := ["_law_top", "_law_bottom", "_law_high", "_law_low_here"]
noncomputable def B_law_low_1 : Fn.Env → Res Bool := (tstF (bin2 gtF (varB 3) (litI 0)))
noncomputable def B_law_low_2 : Fn.Env → Out := (par2 2 3 (varB 3) (bin2 modB (varB 2) (varB 3)))
noncomputable def B_law_low : Fn.Env → Out := (seqS (par2 2 3 (callF absF (consA (varB 0) nilA)) (callF absF (consA (varB 1) nilA))) (seqS (forget [3] (whileC B_law_low_1 B_law_low_2)) (seqS (iteS (tstF (bin2 ltB (varB 1) (litI 0))) (thenS (bin2 subB (litI 0) (varB 2)) (setL 2)) nxS) (thenS (callF tupB (consA (bin2 divB (varB 0) (varB 2)) (consA (bin2 divB (varB 1) (varB 2)) nilA))) retV))))
noncomputable def E_law_low : En := ⟨"_law_low", 2, defF 4 B_law_low⟩
theorem c_law_low {a0 a1 : B} : callE E_law_low [a0, a1] = (E_law_low.F [toArg a0, toArg a1]).bind retB := (rfl)
theorem d_law_low {a0 a1 : B} (h : [a0, a1].all okArg = true) : E_law_low.F [a0, a1] = outR (B_law_low [some a0, some a1, none, none]) := def_rt h rfl
noncomputable def T20 : List En := T19 ++ [E_law_low]
theorem sc_law_low : FnScope N_law_low ["_law_top", "_law_bottom"] (defScope S_law_low) := ⟨rfl, rfl, rfl, by decide +kernel, rfl, by decide +kernel, by decide +kernel⟩
theorem ok_law_low {X : Cx} {g : G} {cls : Nat → Value} (C : CS X g cls 19 T19 N_law_low (defScope S_law_low) bt) : PSs X (defBody S_law_low) (tFS g B_law_low) :=
  (fs_cons (C.par2 2 3 (C.ct.call C.ct.abs (fa_cons rfl (C.ct.var 0 (by decide +kernel)) fa_nil) (by decide +kernel) (by decide +kernel) rfl) (C.ct.call C.ct.abs (fa_cons rfl (C.ct.var 1 (by decide +kernel)) fa_nil) (by decide +kernel) (by decide +kernel) rfl) (by decide +kernel) (by decide +kernel) (by decide) (by decide +kernel)) (fs_cons (fs_forget [3] (C.wc (cmpT C.ct.gt (C.ct.var 3 (by decide +kernel)) fe_int rfl) (fs_one (C.par2 2 3 (C.ct.var 3 (by decide +kernel)) (C.ct.mod (C.ct.var 2 (by decide +kernel)) (C.ct.var 3 (by decide +kernel))) (by decide +kernel) (by decide +kernel) (by decide) (by decide +kernel))))) (fs_cons (fs_if (cmpT C.ct.lt (C.ct.var 1 (by decide +kernel)) fe_int rfl) (fs_one (fs_setL (C.asg 2 (C.ct.sub fe_int (C.ct.var 2 (by decide +kernel))) (by decide +kernel) rfl))) fs_nil) (fs_one (fs_ret (fe_tup (fa_cons rfl (C.ct.div (C.ct.var 0 (by decide +kernel)) (C.ct.var 2 (by decide +kernel))) (fa_cons rfl (C.ct.div (C.ct.var 1 (by decide +kernel)) (C.ct.var 2 (by decide +kernel))) fa_nil))))))))
abbrev S_law_within : Stmt := top 43
def N_law_within : List Str := ["_law_graph_here", "_law_part", "_law_pair"]
noncomputable def B_law_within : Fn.Env → Out := (thenS (callF lenB (consA (compV (.one 2) (itF true (bin2 idxB (varB 0) (litI 1))) (andT (tstF (bin2 (inB false) (bin2 idxB (varB 2) (litI 0)) (varB 1))) (tstF (bin2 (inB false) (bin2 idxB (varB 2) (litI 1)) (varB 1)))) (varB 2) [2]) nilA)) retV)
noncomputable def E_law_within : En := ⟨"_law_within", 2, defF 3 B_law_within⟩
theorem c_law_within {a0 a1 : B} : callE E_law_within [a0, a1] = (E_law_within.F [toArg a0, toArg a1]).bind retB := (rfl)
theorem d_law_within {a0 a1 : B} (h : [a0, a1].all okArg = true) : E_law_within.F [a0, a1] = outR (B_law_within [some a0, some a1, none]) := def_rt h rfl
noncomputable def T21 : List En := T20 ++ [E_law_within]
theorem sc_law_within : FnScope N_law_within ["_law_graph_here", "_law_part"] (defScope S_law_within) := ⟨rfl, rfl, rfl, by decide +kernel, rfl, by decide +kernel, by decide +kernel⟩
theorem ok_law_within {X : Cx} {g : G} {cls : Nat → Value} (C : CS X g cls 20 T20 N_law_within (defScope S_law_within) bt) : PSs X (defBody S_law_within) (tFS g B_law_within) :=
  (fs_one (fs_ret (C.ct.call C.ct.len (fa_cons rfl (C.ct.lc [("_law_pair", 2)] (C.ct.it (C.ct.idx (C.ct.var 0 (by decide +kernel)) fe_int rfl)) (fun C1 => ⟨(C1.g1 2 (by decide +kernel)), (ifs1 (ft_and (cmpT C1.inn (C1.idx (C1.var 2 (by decide +kernel)) fe_int rfl) (C1.var 1 (by decide +kernel)) rfl) (pw_and1 (cmpT C1.inn (C1.idx (C1.var 2 (by decide +kernel)) fe_int rfl) (C1.var 1 (by decide +kernel)) rfl))).pt), (C1.var 2 (by decide +kernel))⟩) (by decide +kernel)) fa_nil) (by decide +kernel) (by decide +kernel) rfl)))
abbrev S_law_is_less : Stmt := top 40
def N_law_is_less : List Str := ["_law_one", "_law_other"]
noncomputable def B_law_is_less : Fn.Env → Out := (thenS (bin2 ltB (bin2 mulB (bin2 idxB (varB 0) (litI 0)) (bin2 idxB (varB 1) (litI 1))) (bin2 mulB (bin2 idxB (varB 1) (litI 0)) (bin2 idxB (varB 0) (litI 1)))) retV)
noncomputable def E_law_is_less : En := ⟨"_law_is_less", 2, defF 2 B_law_is_less⟩
theorem c_law_is_less {a0 a1 : B} : callE E_law_is_less [a0, a1] = (E_law_is_less.F [toArg a0, toArg a1]).bind retB := (rfl)
theorem d_law_is_less {a0 a1 : B} (h : [a0, a1].all okArg = true) : E_law_is_less.F [a0, a1] = outR (B_law_is_less [some a0, some a1]) := def_rt h rfl
noncomputable def T22 : List En := T21 ++ [E_law_is_less]
theorem sc_law_is_less : FnScope N_law_is_less ["_law_one", "_law_other"] (defScope S_law_is_less) := ⟨rfl, rfl, rfl, by decide +kernel, rfl, by decide +kernel, by decide +kernel⟩
theorem ok_law_is_less {X : Cx} {g : G} {cls : Nat → Value} (C : CS X g cls 21 T21 N_law_is_less (defScope S_law_is_less) bt) : PSs X (defBody S_law_is_less) (tFS g B_law_is_less) :=
  (fs_one (fs_ret (cmpE C.ct.lt (C.ct.mul (C.ct.idx (C.ct.var 0 (by decide +kernel)) fe_int rfl) (C.ct.idx (C.ct.var 1 (by decide +kernel)) fe_int rfl)) (C.ct.mul (C.ct.idx (C.ct.var 1 (by decide +kernel)) fe_int rfl) (C.ct.idx (C.ct.var 0 (by decide +kernel)) fe_int rfl)) rfl)))
abbrev S_law : Stmt := top 45
def N_law : List Str := ["_law_script", "_law_k", "_law_graph_here", "_law_worths", "_law_part", "_law_found", "_law_number"]
noncomputable def B_law_1 : Fn.Env → Out := (iteS (tstF (bin2 gtF (callF lenB (consA (varB 4) nilA)) (litI 1))) (putS 3 (varB 4) (ownF E_law_low (consA (ownF E_law_within (consA (varB 2) (consA (varB 4) nilA))) (consA (bin2 subB (callF lenB (consA (varB 4) nilA)) (litI 1)) nilA)))) nxS)
noncomputable def B_law_2 : Fn.Env → Out := (forget [1, 2, 3, 5] (seqS (thenS (ownF E_law_graph (consA (ownF E_law_numbers (consA (ownF E_law_cell (consA (varB 0) (consA (varB 1) nilA))) (consA (litI 20) nilA))) (consA (litI 7) nilA))) (setL 2)) (forget [3, 5] (iteS (tstF (bin2 eqB (callF lenB (consA (bin2 idxB (varB 2) (litI 0)) nilA)) (litI 1))) (iteS (orT (notT (testV (ownF E_law_refused_v6 (consA (litI 0) (consA (varB 2) nilA))))) (notT (testV (ownF E_law_refused_v6 (consA (litI 1) (consA (varB 2) nilA)))))) (thenS (litB false) retV) nxS) (seqS (thenS newT (setV 3)) (seqS (forV (.one 4) (itF false (ownF E_law_parts (consA (varB 2) nilA))) B_law_1) (lkS 3 (seqS (thenS (ownF E_thickest (consA (varB 2) nilA)) (setL 5)) (seqS (iteS (orT (notT (testV (one1 (isiB .tuple) (varB 5)))) (orT (tstF (bin2 neB (callF lenB (consA (varB 5) nilA)) (litI 2))) (tstF (bin2 neB (dgetTV (varB 3) (bin2 idxB (varB 5) (litI 1)) litN) (bin2 idxB (varB 5) (litI 0)))))) (thenS (litB false) retV) nxS) (seqS (iteS (testV (callF anyF (consA (compV (.one 4) (itD (varB 3)) yesF (ownF E_law_is_less (consA (bin2 idxB (varB 5) (litI 0)) (consA (bin2 idxB (varB 3) (varB 4)) nilA))) [4]) nilA))) (thenS (litB false) retV) nxS) (iteS (testV (callF anyF (consA (compV (.one 6) (itF true (bin2 idxB (varB 5) (litI 0))) yesF (one1 (isiB .bool) (varB 6)) [6]) nilA))) (thenS (litB false) retV) nxS)))))))))))
noncomputable def B_law : Fn.Env → Out := (seqS (forget [1, 2, 3, 4, 5] (forV (.one 1) (rgF (consA (callF maxF (consA (litI 3) (consA (callF minF (consA (callF lenB (consA (varB 0) nilA)) (consA (litI 6) nilA))) nilA))) nilA)) B_law_2)) (thenS (litB true) retV))
noncomputable def E_law : En := ⟨"law", 1, defF 7 B_law⟩
theorem d_law {a0 : B} (h : [a0].all okArg = true) : E_law.F [a0] = outR (B_law [some a0, none, none, none, none, none, none]) := def_rt h rfl
theorem sc_law : FnScope N_law ["_law_script"] (defScope S_law) := ⟨rfl, rfl, rfl, by decide +kernel, rfl, by decide +kernel, by decide +kernel⟩
theorem ok_law {X : Cx} {g : G} {cls : Nat → Value} (C : CS X g cls 22 T22 N_law (defScope S_law) bt) : PSs X (defBody S_law) (tFS g B_law) :=
  (fs_cons (fs_forget [1, 2, 3, 4, 5] (C.fo (C.ct.rg1 (C.ct.call C.ct.max (fa_cons rfl fe_int (fa_cons rfl (C.ct.call C.ct.min (fa_cons rfl (C.ct.call C.ct.len (fa_cons rfl (C.ct.var 0 (by decide +kernel)) fa_nil) (by decide +kernel) (by decide +kernel) rfl) (fa_cons rfl fe_int fa_nil)) (by decide +kernel) (by decide +kernel) rfl) fa_nil)) (by decide +kernel) (by decide +kernel) rfl) (by decide +kernel) rfl) (C.g1 1 (by decide +kernel)) (fun _ C => (fs_forgets [1, 2, 3, 5] (fs_cons (fs_setL (C.asg 2 (C.ct.own 1 (fa_cons rfl (C.ct.own 2 (fa_cons rfl (C.ct.own 3 (fa_cons rfl (C.ct.var 0 (by decide +kernel)) (fa_cons rfl (C.ct.var 1 (by decide +kernel)) fa_nil)) rfl rfl (by decide +kernel) rfl) (fa_cons rfl fe_int fa_nil)) rfl rfl (by decide +kernel) rfl) (fa_cons rfl fe_int fa_nil)) rfl rfl (by decide +kernel) rfl) (by decide +kernel) rfl)) (fs_one (fs_forget [3, 5] (fs_if (cmpT C.ct.eq (C.ct.call C.ct.len (fa_cons rfl (C.ct.idx (C.ct.var 2 (by decide +kernel)) fe_int rfl) fa_nil) (by decide +kernel) (by decide +kernel) rfl) fe_int rfl) (fs_one (fs_if (ft_or (ft_not (C.ct.val (C.ct.own 17 (fa_cons rfl fe_int (fa_cons rfl (C.ct.var 2 (by decide +kernel)) fa_nil)) rfl rfl (by decide +kernel) rfl) rfl)) (pw_or1 (ft_not (C.ct.val (C.ct.own 17 (fa_cons rfl fe_int (fa_cons rfl (C.ct.var 2 (by decide +kernel)) fa_nil)) rfl rfl (by decide +kernel) rfl) rfl)))).pt (fs_one (fs_ret fe_bl)) fs_nil)) (fs_cons (C.asg 3 fe_dicT (by decide +kernel) rfl) (fs_cons (C.fo (C.ct.it (C.ct.own 18 (fa_cons rfl (C.ct.var 2 (by decide +kernel)) fa_nil) rfl rfl (by decide +kernel) rfl)) (C.g1 4 (by decide +kernel)) (fun _ C => (fs_one (fs_if (cmpT C.ct.gt (C.ct.call C.ct.len (fa_cons rfl (C.ct.var 4 (by decide +kernel)) fa_nil) (by decide +kernel) (by decide +kernel) rfl) fe_int rfl) (fs_one (C.sto 3 (C.ct.var 4 (by decide +kernel)) (C.ct.own 19 (fa_cons rfl (C.ct.own 20 (fa_cons rfl (C.ct.var 2 (by decide +kernel)) (fa_cons rfl (C.ct.var 4 (by decide +kernel)) fa_nil)) rfl rfl (by decide +kernel) rfl) (fa_cons rfl (C.ct.sub (C.ct.call C.ct.len (fa_cons rfl (C.ct.var 4 (by decide +kernel)) fa_nil) (by decide +kernel) (by decide +kernel) rfl) fe_int) fa_nil)) rfl rfl (by decide +kernel) rfl) (by decide +kernel) rfl)) fs_nil))) rfl) (fs_lk 3 (fs_cons (fs_setL (C.asg 5 (C.ct.own 9 (fa_cons rfl (C.ct.var 2 (by decide +kernel)) fa_nil) rfl rfl (by decide +kernel) rfl) (by decide +kernel) rfl)) (fs_cons (fs_if (ft_or (ft_not (C.ct.val (C.ct.isi .tuple (C.ct.var 5 (by decide +kernel)) rfl (by decide +kernel) (by decide +kernel) boot_tuple rfl) rfl)) (ft_or (cmpT C.ct.ne (C.ct.call C.ct.len (fa_cons rfl (C.ct.var 5 (by decide +kernel)) fa_nil) (by decide +kernel) (by decide +kernel) rfl) fe_int rfl) (pw_or1 (cmpT C.ct.ne (C.ct.dgetT (C.ct.var 3 (by decide +kernel)) (C.ct.idx (C.ct.var 5 (by decide +kernel)) fe_int rfl) fe_non rfl) (C.ct.idx (C.ct.var 5 (by decide +kernel)) fe_int rfl) rfl)))).pt (fs_one (fs_ret fe_bl)) fs_nil) (fs_cons (fs_if (C.ct.val (C.ct.call C.ct.any (fa_cons rfl (C.ct.lc [("_law_part", 4)] (fi_keys (C.ct.var 3 (by decide +kernel))) (fun C1 => ⟨(C1.g1 4 (by decide +kernel)), ifs0, (C1.own 21 (fa_cons rfl (C1.idx (C1.var 5 (by decide +kernel)) fe_int rfl) (fa_cons rfl (C1.idx (C1.var 3 (by decide +kernel)) (C1.var 4 (by decide +kernel)) rfl) fa_nil)) rfl rfl (by decide +kernel) rfl)⟩) (by decide +kernel)) fa_nil) (by decide +kernel) (by decide +kernel) rfl) rfl) (fs_one (fs_ret fe_bl)) fs_nil) (fs_one (fs_if (C.ct.val (C.ct.call C.ct.any (fa_cons rfl (C.ct.lc [("_law_number", 6)] (C.ct.it (C.ct.idx (C.ct.var 5 (by decide +kernel)) fe_int rfl)) (fun C2 => ⟨(C2.g1 6 (by decide +kernel)), ifs0, (C2.isi .bool (C2.var 6 (by decide +kernel)) rfl (by decide +kernel) (by decide +kernel) boot_bool rfl)⟩) (by decide +kernel)) fa_nil) (by decide +kernel) (by decide +kernel) rfl) rfl) (fs_one (fs_ret fe_bl)) fs_nil)))))))))))))) rfl)) (fs_one (fs_ret fe_bl)))
end P
namespace P
open PySem PySem.Spec PyProof.Rows L2 Fn
theorem cell_spec (ns : List Int) (k : Int) (h0 : 0 ≤ k) (h1 : k < 64) : ∃ c : Int, E_law_cell.F [.scr ns, .dat (.int k)] = .ok (.dat (.int c)) := by
  rw [d_law_cell (by rfl)]
  by_cases hl : k < (ns.length : Int)
  · refine ⟨ns[k.toNat]'(by omega), ?_⟩
    have hi := idx_scr (ns := ns) (k := k) (atI_lt h0 hl)
    simp only [B_law_cell, Fn.evT, List.getElem?_cons_zero, List.getElem?_cons_succ, List.set_cons_zero, List.set_cons_succ, List.length_cons, List.length_nil, Nat.reduceAdd, Nat.reduceLT, Bool.not_true, Bool.not_false, Nat.reduceLeDiff, Int.cast_ofNat_Int, Int.natCast_zero, Int.natCast_one, Int.reduceEq, eq_self, Int.reduceLE, Int.reduceLT, Int.reduceNeg, Int.reduceToNat, Int.toNat_natCast, Int.reduceAdd, Int.reduceSub, Int.reduceMul, Nat.reduceMul, Nat.reduceSub, decide_true, decide_false, Bool.true_and, Bool.false_and, Bool.and_true, Bool.true_or, Bool.false_or, Bool.or_false, not_true_eq_false, not_false_eq_true, if_true, if_false, Bool.false_eq_true, reduceCtorEq, hl, hi]
  · haveI : ISz k 6 := isz_of (by omega) (by omega)
    have sl : sliceB (.scr ns) none (some 3) = .ok (.own (.l ((ns.take 3).map .int))) := by
      show Res.ok (B.own (.l (cutL (ns.map D.int) none (some 3)))) = _
      rw [cut_tak (by decide), List.map_take]; rfl
    have st : ∀ s : Int, 0 ≤ s → s < 2147483647 → ∃ z, loopF (.one 3) B_law_cell_1 ((ns.take 3).map .int) [some (.scr ns), some (.dat (.int k)), some (.dat (.int s)), none] = .nx [some (.scr ns), some (.dat (.int k)), some (.dat (.int z)), none] := fun s hs0 hs1 => by
      refine ⟨_, (loop_fold (fun s : Int => [some (.scr ns), some (.dat (.int k)), some (.dat (.int s)), none]) (fun s a => (s * 69621 + a) % 2147483647) (fun _ s => 0 ≤ s ∧ s < 2147483647) (s := s) ⟨hs0, hs1⟩ ?_).1⟩
      rintro a as s ⟨h2, h3⟩
      haveI : ISz s 31 := isz_of (by omega) (by omega)
      exact ⟨⟨by omega, by omega⟩, _, bt_one, .inl (by simp (decide := true) only [B_law_cell_1, Fn.evT, List.getElem?_cons_zero, List.getElem?_cons_succ, List.set_cons_zero, List.set_cons_succ, List.length_cons, List.length_nil, Nat.reduceAdd, Nat.reduceLT, Bool.not_true, Bool.not_false, Nat.reduceLeDiff, Int.cast_ofNat_Int, Int.natCast_zero, Int.natCast_one, Int.reduceEq, eq_self, Int.reduceLE, Int.reduceLT, Int.reduceNeg, Int.reduceToNat, Int.toNat_natCast, Int.reduceAdd, Int.reduceSub, Int.reduceMul, Nat.reduceMul, Nat.reduceSub, decide_true, decide_false, Bool.true_and, Bool.false_and, Bool.and_true, Bool.true_or, Bool.false_or, Bool.or_false, not_true_eq_false, not_false_eq_true, if_true, if_false, Bool.false_eq_true, reduceCtorEq, mul_z, mod_pos])⟩
    obtain ⟨z, hz⟩ := st (48271 * (k * k + 7 * k + 11) % 2147483647) (by omega) (by omega)
    exact ⟨z, by simp (decide := true) only [B_law_cell, Fn.evT, List.getElem?_cons_zero, List.getElem?_cons_succ, List.set_cons_zero, List.set_cons_succ, List.length_cons, List.length_nil, Nat.reduceAdd, Nat.reduceLT, Bool.not_true, Bool.not_false, Nat.reduceLeDiff, Int.cast_ofNat_Int, Int.natCast_zero, Int.natCast_one, Int.reduceEq, eq_self, Int.reduceLE, Int.reduceLT, Int.reduceNeg, Int.reduceToNat, Int.toNat_natCast, Int.reduceAdd, Int.reduceSub, Int.reduceMul, Nat.reduceMul, Nat.reduceSub, decide_true, decide_false, Bool.true_and, Bool.false_and, Bool.and_true, Bool.true_or, Bool.false_or, Bool.or_false, not_true_eq_false, not_false_eq_true, if_true, if_false, Bool.false_eq_true, reduceCtorEq, hl, mul_z, mod_pos, sl, hz]⟩
def numF (q : List Int × Int × Int) (i : Nat) : List Int × Int × Int :=
  (q.1 ++ [if 0 < q.2.2 then q.2.2 % 1000000 else (q.2.1 * (q.2.1 % 65521 + 40487) + 7 * i + 5) % 1999999973], (q.2.1 * (q.2.1 % 65521 + 40487) + 7 * i + 5) % 1999999973, q.2.2 / 1000000)
theorem numbers_spec (c n : Int) (h0 : 0 ≤ n) (hn : n ≤ 300) : ∃ xs : List Int, (xs.length : Int) = n ∧ (∀ x ∈ xs, 0 ≤ x ∧ x < 2000000000) ∧ E_law_numbers.F [.dat (.int c), .dat (.int n)] = .ok (.own (.l (xs.map .int))) := by
  have st : ∀ s d : Int, 0 ≤ s → s < 1999999973 → ∃ (xs : List Int) (s2 d2 : Int), (xs.length : Int) = n ∧ (∀ x ∈ xs, 0 ≤ x ∧ x < 2000000000) ∧ loopF (.one 5) B_law_numbers_1 ((List.range n.toNat).map fun (i : Nat) => D.int i) [some (.dat (.int c)), some (.dat (.int n)), some (.own (.l [])), some (.dat (.int s)), some (.dat (.int d)), none] =
      .nx [some (.dat (.int c)), some (.dat (.int n)), some (.own (.l (xs.map .int))), some (.dat (.int s2)), some (.dat (.int d2)), none] := fun s d hs0 hs1 => by
    have := loop_fold (as := List.range n.toNat) (tg := .one 5) (f := B_law_numbers_1) (e := fun (i : Nat) => D.int i) (fun q : List Int × Int × Int => [some (.dat (.int c)), some (.dat (.int n)), some (.own (.l (q.1.map .int))), some (.dat (.int q.2.1)), some (.dat (.int q.2.2)), none]) numF
      (fun as q => q.1.length + as.length = n.toNat ∧ (∀ a ∈ as, a < 300) ∧ (∀ x ∈ q.1, 0 ≤ x ∧ x < 2000000000) ∧ 0 ≤ q.2.1 ∧ q.2.1 < 1999999973) (s := ([], s, d)) ⟨by simp, fun a ha => (by have := List.mem_range.mp ha; omega), fun x hx => (by cases hx), hs0, hs1⟩ ?_
    · obtain ⟨e, h1, _, h3, _⟩ := this
      exact ⟨_, _, _, by rw [List.length_nil, Nat.add_zero] at h1; omega, h3, e⟩
    · rintro a as ⟨xs, s, d⟩ ⟨h1, h2, h3, h4, h5⟩
      have ha := h2 a List.mem_cons_self
      dsimp only at h1 h3 h4 h5
      rw [List.length_cons] at h1
      haveI : ISz s 31 := isz_of (by omega) (by omega)
      haveI : ISz (a : Int) 9 := isz_of (by omega) (by omega)
      refine ⟨⟨?_, fun b hb => h2 b (List.mem_cons_of_mem _ hb), ?_, ?_, ?_⟩, _, bt_one, .inl ?_⟩
      · show (xs ++ _).length + as.length = _
        rw [List.length_append]; show xs.length + 1 + _ = _; omega
      · intro x hx
        rcases List.mem_append.mp hx with h | h
        · exact h3 x h
        · rw [List.mem_singleton.mp h]
          dsimp only
          split <;> omega
      · show 0 ≤ _ % _; omega
      · show _ % _ < _; omega
      · have x1 : ∀ u v : Int, idxB (.dat (.lst [.int u, .int v])) (.dat (.int (if decide (0 < d) = true then 1 else 0))) = .ok (.dat (.int (if 0 < d then v else u))) := by
          intro u v
          by_cases z : 0 < d
          · rw [if_pos (decide_eq_true z), if_pos z]; rfl
          · rw [if_neg (by rw [decide_eq_false z]; decide), if_neg z]; rfl
        have hz : (xs.map D.int).length < 1000 := by rw [List.length_map]; omega
        simp (decide := true) only [B_law_numbers_1, numF, Fn.evT, List.getElem?_cons_zero, List.getElem?_cons_succ, List.set_cons_zero, List.set_cons_succ, List.length_cons, List.length_nil, Nat.reduceAdd, Nat.reduceLT, Bool.not_true, Bool.not_false, Nat.reduceLeDiff, Int.cast_ofNat_Int, Int.natCast_zero, Int.natCast_one, Int.reduceEq, eq_self, Int.reduceLE, Int.reduceLT, Int.reduceNeg, Int.reduceToNat, Int.toNat_natCast, Int.reduceAdd, Int.reduceSub, Int.reduceMul, Nat.reduceMul, Nat.reduceSub, decide_true, decide_false, Bool.true_and, Bool.false_and, Bool.and_true, Bool.true_or, Bool.false_or, Bool.or_false, not_true_eq_false, not_false_eq_true, if_true, if_false, Bool.false_eq_true, reduceCtorEq, mul_z, mod_pos, div_z, x1, hz, List.map_append, List.map_cons, List.map_nil]
  haveI h31 : ISz (c % 1999999973) 31 := isz_of (by omega) (by omega)
  have fin : ∀ d : Int, ∃ xs : List Int, (xs.length : Int) = n ∧ (∀ x ∈ xs, 0 ≤ x ∧ x < 2000000000) ∧ outR (Out.sq (fgK [3, 4, 5] (loopF (.one 5) B_law_numbers_1 ((List.range n.toNat).map fun (i : Nat) => D.int i) [some (.dat (.int c)), some (.dat (.int n)), some (.own (.l [])), some (.dat (.int ((c % 1999999973 + 31) * 765432101 % 1999999973))), some (.dat (.int d)), none])) (retN 2)) = .ok (.own (.l (xs.map .int))) := fun d => by
    obtain ⟨xs, s2, d2, h1, h2, h3⟩ := st ((c % 1999999973 + 31) * 765432101 % 1999999973) d (by omega) (by omega)
    exact ⟨xs, h1, h2, by rw [h3]; rfl⟩
  obtain ⟨big, pw⟩ : ∃ big : Int, powZ (.dat (.int 10)) (.dat (.int 18)) = .ok (.dat (.int big)) := ⟨_, pow_z (by omega) (by omega) (by decide)⟩
  rw [d_law_numbers (by rfl)]
  have r1 := rg1 (k := n) (by omega) (by omega)
  have m1 : ISz (c % 1999999973 + 31) 32 := isz_of (by omega) (by omega)
  cases e1 : decide (c < 0) with
  | true =>
    obtain ⟨xs, h1, h2, h3⟩ := fin (c.natAbs : Int)
    refine ⟨xs, h1, h2, ?_⟩
    rw [← h3]
    simp (decide := true) only [B_law_numbers, Fn.evT, List.getElem?_cons_zero, List.getElem?_cons_succ, List.set_cons_zero, List.set_cons_succ, List.length_cons, List.length_nil, Nat.reduceAdd, Nat.reduceLT, Bool.not_true, Bool.not_false, Nat.reduceLeDiff, Int.cast_ofNat_Int, Int.natCast_zero, Int.natCast_one, Int.reduceEq, eq_self, Int.reduceLE, Int.reduceLT, Int.reduceNeg, Int.reduceToNat, Int.toNat_natCast, Int.reduceAdd, Int.reduceSub, Int.reduceMul, Nat.reduceMul, Nat.reduceSub, decide_true, decide_false, Bool.true_and, Bool.false_and, Bool.and_true, Bool.true_or, Bool.false_or, Bool.or_false, not_true_eq_false, not_false_eq_true, if_true, if_false, Bool.false_eq_true, reduceCtorEq, e1, mul_z, mod_pos, abs_i, r1]
  | false =>
    cases e2 : decide (big ≤ c) with
    | true =>
      obtain ⟨xs, h1, h2, h3⟩ := fin (c.natAbs : Int)
      refine ⟨xs, h1, h2, ?_⟩
      rw [← h3]
      simp (decide := true) only [B_law_numbers, Fn.evT, List.getElem?_cons_zero, List.getElem?_cons_succ, List.set_cons_zero, List.set_cons_succ, List.length_cons, List.length_nil, Nat.reduceAdd, Nat.reduceLT, Bool.not_true, Bool.not_false, Nat.reduceLeDiff, Int.cast_ofNat_Int, Int.natCast_zero, Int.natCast_one, Int.reduceEq, eq_self, Int.reduceLE, Int.reduceLT, Int.reduceNeg, Int.reduceToNat, Int.toNat_natCast, Int.reduceAdd, Int.reduceSub, Int.reduceMul, Nat.reduceMul, Nat.reduceSub, decide_true, decide_false, Bool.true_and, Bool.false_and, Bool.and_true, Bool.true_or, Bool.false_or, Bool.or_false, not_true_eq_false, not_false_eq_true, if_true, if_false, Bool.false_eq_true, reduceCtorEq, e1, e2, pw, mul_z, mod_pos, abs_i, r1]
    | false =>
      obtain ⟨xs, h1, h2, h3⟩ := fin 0
      refine ⟨xs, h1, h2, ?_⟩
      rw [← h3]
      simp (decide := true) only [B_law_numbers, Fn.evT, List.getElem?_cons_zero, List.getElem?_cons_succ, List.set_cons_zero, List.set_cons_succ, List.length_cons, List.length_nil, Nat.reduceAdd, Nat.reduceLT, Bool.not_true, Bool.not_false, Nat.reduceLeDiff, Int.cast_ofNat_Int, Int.natCast_zero, Int.natCast_one, Int.reduceEq, eq_self, Int.reduceLE, Int.reduceLT, Int.reduceNeg, Int.reduceToNat, Int.toNat_natCast, Int.reduceAdd, Int.reduceSub, Int.reduceMul, Nat.reduceMul, Nat.reduceSub, decide_true, decide_false, Bool.true_and, Bool.false_and, Bool.and_true, Bool.true_or, Bool.false_or, Bool.or_false, not_true_eq_false, not_false_eq_true, if_true, if_false, Bool.false_eq_true, reduceCtorEq, e1, e2, pw, mul_z, mod_pos, abs_i, r1]
end P
namespace P
open PySem PySem.Spec PyProof.Rows L2 Fn
theorem name_step (xs : List Int) (hx : 4 ≤ xs.length) (n : Int) (found : List D) (hf : found.length < 1000) (k : Nat) (hk : k < 8) : B_law_names_1 [some (.dat (.lst (xs.map .int))), some (.dat (.int n)), some (.dat (.str "abcdefghijklmnopqrstuvwxyz")), some (.own (.l found)), some (.dat (.int (k : Int))), none, none] =
    .nx [some (.dat (.lst (xs.map .int))), some (.dat (.int n)), some (.dat (.str "abcdefghijklmnopqrstuvwxyz")), some (.own (.l (found ++ [.str (sC (nmC (xs.getD 0 0) (xs.getD 1 0) (xs.getD 2 0) (xs.getD 3 0) k))]))), none, none, none] := by
  have i0 := ixI (l := xs) (k := 0) (by omega) (by omega)
  have i1 := ixI (l := xs) (k := 1) (by omega) (by omega)
  have i2 := ixI (l := xs) (k := 2) (by omega) (by omega)
  have i3 := ixI (l := xs) (k := 3) (by omega) (by omega)
  simp only [Int.reduceToNat] at i0 i1 i2 i3
  generalize xs.getD 0 0 = x0 at *
  generalize xs.getD 1 0 = x1 at *
  generalize xs.getD 2 0 = x2 at *
  generalize xs.getD 3 0 = x3 at *
  have mm : ∀ z w : Int, modB (.dat (.int z)) (.dat (.int (if w % 2 = 0 then 1 else 5))) = .ok (.dat (.int (z % (if w % 2 = 0 then 1 else 5)))) := fun z w => mod_pos (by split <;> omega)
  have l5 : ∀ w : Int, idxB (.dat (.lst [.int 1, .int 5])) (.dat (.int (w % 2))) = .ok (.dat (.int (if w % 2 = 0 then 1 else 5))) := by
    intro w
    by_cases z : w % 2 = 0
    · rw [z, if_pos rfl]; exact idxL (n := 0) _ rfl rfl
    · rw [show w % 2 = 1 by omega, if_neg (by decide)]; exact idxL (n := 1) _ rfl rfl
  haveI : ISz (k : Int) 4 := isz_of (by omega) (by omega)
  have r0 : mulB (.dat (.str (sC [97 + ((x0 + 7 * (k : Int)) % 26).toNat]))) (.dat (.int (1 + (x2 + 3 * (k : Int)) % (if x3 % 2 = 0 then 1 else 5)))) = .ok (.dat (.str (sC (List.replicate (1 + (x2 + 3 * (k : Int)) % (if x3 % 2 = 0 then 1 else 5)).toNat (97 + ((x0 + 7 * (k : Int)) % 26).toNat))))) := rep_ok (by split <;> omega) (by split <;> omega)
  have r1 : mulB (.dat (.str (sC [97 + (x2 % 26).toNat]))) (.dat (.int (x3 % 8))) = .ok (.dat (.str (sC (List.replicate (x3 % 8).toNat (97 + (x2 % 26).toNat))))) := rep_ok (by omega) (by omega)
  have r2 : mulB (.dat (.str (sC [97 + (x2 % 26).toNat]))) (.dat (.int (1 + (k : Int)))) = .ok (.dat (.str (sC (List.replicate (1 + (k : Int)).toNat (97 + (x2 % 26).toNat))))) := rep_ok (by omega) (by omega)
  have c1 := cat_ok (a := [97 + k]) (b := List.replicate (x3 % 8).toNat (97 + (x2 % 26).toNat)) (by rw [List.length_replicate]; show 1 + _ ≤ 1000; omega)
  have c3 : ∀ a b c : Nat, addB (.dat (.str (sC [a]))) (.dat (.str (sC [b]))) = .ok (.dat (.str (sC [a, b]))) := fun a b c => cat_ok (by show 2 ≤ 1000; decide)
  have c4 : ∀ a b c : Nat, addB (.dat (.str (sC [a, b]))) (.dat (.str (sC [c]))) = .ok (.dat (.str (sC [a, b, c]))) := fun a b c => cat_ok (by show 3 ≤ 1000; decide)
  have c3' := fun a b => c3 a b 0
  have l8 : idxB (.dat (.str "abcdefgh")) (.dat (.int (k : Int))) = .ok (.dat (.str (sC [97 + k]))) := letter8 hk
  unfold nmC
  by_cases h1 : x1 % 4 = 1
  · have d1 : decide (x1 % 4 = 1) = true := decide_eq_true h1
    have d2 : decide (x1 % 4 = 2) = false := decide_eq_false (by omega)
    have d3 : decide (x1 % 4 = 3) = false := decide_eq_false (by omega)
    rw [if_pos h1]
    simp (decide := true) only [B_law_names_1, Fn.evT, List.getElem?_cons_zero, List.getElem?_cons_succ, List.set_cons_zero, List.set_cons_succ, List.length_cons, List.length_nil, Nat.reduceAdd, Nat.reduceLT, Bool.not_true, Bool.not_false, Nat.reduceLeDiff, Int.cast_ofNat_Int, Int.natCast_zero, Int.natCast_one, Int.reduceEq, eq_self, Int.reduceLE, Int.reduceLT, Int.reduceNeg, Int.reduceToNat, Int.toNat_natCast, Int.reduceAdd, Int.reduceSub, Int.reduceMul, Nat.reduceMul, Nat.reduceSub, decide_true, decide_false, Bool.true_and, Bool.false_and, Bool.and_true, Bool.true_or, Bool.false_or, Bool.or_false, not_true_eq_false, not_false_eq_true, if_true, if_false, Bool.false_eq_true, reduceCtorEq, mod_pos, mul_z, i0, i1, i2, i3, l5, mm, idx_26, r0, d1, d2, d3, r1, l8, c1, hf, List.cons_append, List.nil_append]
  · rw [if_neg h1]
    have d1 : decide (x1 % 4 = 1) = false := decide_eq_false h1
    by_cases h2 : x1 % 4 = 2
    · have d2 : decide (x1 % 4 = 2) = true := decide_eq_true h2
      have d3 : decide (x1 % 4 = 3) = false := decide_eq_false (by omega)
      rw [if_pos h2]
      have ek : (1 + (k : Int)).toNat = 1 + k := by omega
      rw [ek] at r2
      simp (decide := true) only [B_law_names_1, Fn.evT, List.getElem?_cons_zero, List.getElem?_cons_succ, List.set_cons_zero, List.set_cons_succ, List.length_cons, List.length_nil, Nat.reduceAdd, Nat.reduceLT, Bool.not_true, Bool.not_false, Nat.reduceLeDiff, Int.cast_ofNat_Int, Int.natCast_zero, Int.natCast_one, Int.reduceEq, eq_self, Int.reduceLE, Int.reduceLT, Int.reduceNeg, Int.reduceToNat, Int.toNat_natCast, Int.reduceAdd, Int.reduceSub, Int.reduceMul, Nat.reduceMul, Nat.reduceSub, decide_true, decide_false, Bool.true_and, Bool.false_and, Bool.and_true, Bool.true_or, Bool.false_or, Bool.or_false, not_true_eq_false, not_false_eq_true, if_true, if_false, Bool.false_eq_true, reduceCtorEq, mod_pos, mul_z, i0, i1, i2, i3, l5, mm, idx_26, r0, d1, d2, d3, r2, hf]
    · rw [if_neg h2]
      have d2 : decide (x1 % 4 = 2) = false := decide_eq_false h2
      by_cases h3 : x1 % 4 = 3
      · have d3 : decide (x1 % 4 = 3) = true := decide_eq_true h3
        rw [if_pos h3]
        simp (decide := true) only [B_law_names_1, Fn.evT, List.getElem?_cons_zero, List.getElem?_cons_succ, List.set_cons_zero, List.set_cons_succ, List.length_cons, List.length_nil, Nat.reduceAdd, Nat.reduceLT, Bool.not_true, Bool.not_false, Nat.reduceLeDiff, Int.cast_ofNat_Int, Int.natCast_zero, Int.natCast_one, Int.reduceEq, eq_self, Int.reduceLE, Int.reduceLT, Int.reduceNeg, Int.reduceToNat, Int.toNat_natCast, Int.reduceAdd, Int.reduceSub, Int.reduceMul, Nat.reduceMul, Nat.reduceSub, decide_true, decide_false, Bool.true_and, Bool.false_and, Bool.and_true, Bool.true_or, Bool.false_or, Bool.or_false, not_true_eq_false, not_false_eq_true, if_true, if_false, Bool.false_eq_true, reduceCtorEq, mod_pos, mul_z, i0, i1, i2, i3, l5, mm, idx_26, r0, d1, d2, d3, c3', c4, hf]
      · have d3 : decide (x1 % 4 = 3) = false := decide_eq_false h3
        rw [if_neg h3]
        simp (decide := true) only [B_law_names_1, Fn.evT, List.getElem?_cons_zero, List.getElem?_cons_succ, List.set_cons_zero, List.set_cons_succ, List.length_cons, List.length_nil, Nat.reduceAdd, Nat.reduceLT, Bool.not_true, Bool.not_false, Nat.reduceLeDiff, Int.cast_ofNat_Int, Int.natCast_zero, Int.natCast_one, Int.reduceEq, eq_self, Int.reduceLE, Int.reduceLT, Int.reduceNeg, Int.reduceToNat, Int.toNat_natCast, Int.reduceAdd, Int.reduceSub, Int.reduceMul, Nat.reduceMul, Nat.reduceSub, decide_true, decide_false, Bool.true_and, Bool.false_and, Bool.and_true, Bool.true_or, Bool.false_or, Bool.or_false, not_true_eq_false, not_false_eq_true, if_true, if_false, Bool.false_eq_true, reduceCtorEq, mod_pos, mul_z, i0, i1, i2, i3, l5, mm, idx_26, r0, d1, d2, d3, hf]
theorem names_of_sort (xs : List Int) (hx : 4 ≤ xs.length) (n : Int) (h0 : 0 ≤ n) (hn : n ≤ 8) {ns : List Str} (h2 : sortG [.dat (.lst ((List.range n.toNat).map fun k => D.str (sC (nmC (xs.getD 0 0) (xs.getD 1 0) (xs.getD 2 0) (xs.getD 3 0) k))))] = .ok (.own (.l (txs ns)))) : E_law_names.F [.dat (.lst (xs.map .int)), .dat (.int n)] = .ok (.own (.l (txs ns))) := by
  have lp : ∀ (j k : Nat), j + k = n.toNat → loopF (.one 4) B_law_names_1 ((List.range' j k).map fun (i : Nat) => D.int i) [some (.dat (.lst (xs.map .int))), some (.dat (.int n)), some (.dat (.str "abcdefghijklmnopqrstuvwxyz")), some (.own (.l ((List.range j).map fun k => D.str (sC (nmC (xs.getD 0 0) (xs.getD 1 0) (xs.getD 2 0) (xs.getD 3 0) k))))), none, none, none] =
      .nx [some (.dat (.lst (xs.map .int))), some (.dat (.int n)), some (.dat (.str "abcdefghijklmnopqrstuvwxyz")), some (.own (.l ((List.range n.toNat).map fun k => D.str (sC (nmC (xs.getD 0 0) (xs.getD 1 0) (xs.getD 2 0) (xs.getD 3 0) k))))), none, none, none] := by
    intro j k
    induction k generalizing j with
    | zero => intro e; rw [Nat.add_zero] at e; subst e; rfl
    | succ k ih =>
      intro e
      rw [List.range'_succ, List.map_cons, loop_one bt_one]
      simp only [List.set_cons_zero, List.set_cons_succ]
      rw [name_step xs hx n _ (by rw [List.length_map, List.length_range]; omega) j (by omega), lk_nx]
      have := ih (j + 1) (by omega)
      rw [List.range_succ, List.map_append] at this
      exact this
  have lp0 := lp 0 n.toNat (by omega)
  rw [← List.range_eq_range'] at lp0
  rw [d_law_names (by rfl)]
  have r1 := rg1 (k := n) (by omega) (by omega)
  have lp1 : (loopF (.one 4) B_law_names_1 ((List.range n.toNat).map fun (i : Nat) => D.int i) [some (.dat (.lst (xs.map .int))), some (.dat (.int n)), some (.dat (.str "abcdefghijklmnopqrstuvwxyz")), some (.own (.l [])), none, none, none]) = _ := lp0
  simp (decide := true) only [B_law_names, Fn.evT, List.getElem?_cons_zero, List.getElem?_cons_succ, List.set_cons_zero, List.set_cons_succ, List.length_cons, List.length_nil, Nat.reduceAdd, Nat.reduceLT, Bool.not_true, Bool.not_false, Nat.reduceLeDiff, Int.cast_ofNat_Int, Int.natCast_zero, Int.natCast_one, Int.reduceEq, eq_self, Int.reduceLE, Int.reduceLT, Int.reduceNeg, Int.reduceToNat, Int.toNat_natCast, Int.reduceAdd, Int.reduceSub, Int.reduceMul, Nat.reduceMul, Nat.reduceSub, decide_true, decide_false, Bool.true_and, Bool.false_and, Bool.and_true, Bool.true_or, Bool.false_or, Bool.or_false, not_true_eq_false, not_false_eq_true, if_true, if_false, Bool.false_eq_true, reduceCtorEq, r1, lp1, h2]
theorem names_spec (xs : List Int) (hx : 4 ≤ xs.length) (n : Int) (h0 : 0 ≤ n) (hn : n ≤ 8) : ∃ ns : List Str, Nms ns n.toNat ∧ E_law_names.F [.dat (.lst (xs.map .int)), .dat (.int n)] = .ok (.own (.l (txs ns))) := by
  obtain ⟨ns, h1, h2⟩ := nms_draw (xs.getD 0 0) (xs.getD 1 0) (xs.getD 2 0) (xs.getD 3 0) (n := n.toNat) (by omega)
  exact ⟨ns, h1, names_of_sort xs hx n h0 hn h2⟩
end P
namespace P
open PySem PySem.Spec PyProof.Rows L2 Fn
theorem graph_spec (xs : List Int) (hx : 19 ≤ xs.length) (m : Int) (m0 : 2 ≤ m) (m1 : m ≤ 7) : ∃ ns ps, Gph ns ps ∧ (ns.length : Int) ≤ m ∧ E_law_graph.F [.dat (.lst (xs.map .int)), .dat (.int m)] = .ok (.dat (gD ns ps)) := by
  have i0 := ixI (l := xs) (k := 0) (by omega) (by omega)
  have i5 := ixI (l := xs) (k := 5) (by omega) (by omega)
  generalize xs.getD (Int.toNat 0) 0 = x0 at *
  generalize xs.getD (Int.toNat 5) 0 = x5 at *
  have k0 : 0 ≤ x0 % m := Int.emod_nonneg _ (by omega)
  have k1 : x0 % m < m := Int.emod_lt_of_pos _ (by omega)
  obtain ⟨ns, hN, e0⟩ := names_spec (xs.drop 1) (by rw [List.length_drop]; omega) (1 + x0 % m) (by omega) (by omega)
  have hN' : Nms ns ns.length := by rw [hN.len]; exact hN
  have hl := hN.len
  obtain ⟨ρ', q1, ps, rfl, hP, hl2⟩ := loop_inv (tg := .one 5) (f := B_law_graph_1) (e := fun (i : Nat) => D.int i) (as := List.range (x5 % 13).toNat) (fun as ρ => ∃ (ps : List (Str × Str)), (ρ = [some (.dat (.lst (xs.map .int))), some (.dat (.int m)), some (.dat (.int (1 + x0 % m))), some (.dat (.lst (txs ns))), some (.own (.t (ps.map pKv))), none, none, none] ∧ Prs ns ps ∧ ps.length + as.length ≤ 12 ∧ ∀ a ∈ as, a < 13))
    (ρ := [some (.dat (.lst (xs.map .int))), some (.dat (.int m)), some (.dat (.int (1 + x0 % m))), some (.dat (.lst (txs ns))), some (.own (.t [])), none, none, none]) ⟨[], rfl, ⟨(fun p hp => by cases hp), (fun p hp => by cases hp)⟩, by rw [List.length_range, List.length_nil]; omega, fun a ha => by have := List.mem_range.mp ha; omega⟩ (by
    rintro a as ρ ⟨ps, rfl, hP, hl2, ha⟩
    have ha0 := ha a List.mem_cons_self
    rw [List.length_cons] at hl2
    have ia := ixI (l := xs) (k := 6 + (a : Int)) (by omega) (by omega)
    generalize xs.getD (Int.toNat (6 + (a : Int))) 0 = z at *
    have mm : ∀ z : Int, modB (.dat (.int z)) (.dat (.int (1 + x0 % m))) = .ok (.dat (.int (z % (1 + x0 % m)))) := fun z => mod_pos (by omega)
    generalize hn : 1 + x0 % m = n at *
    have em : ∀ w : Int, 0 ≤ w % n ∧ w % n < n := fun w => ⟨Int.emod_nonneg _ (by omega), Int.emod_lt_of_pos _ (by omega)⟩
    have em1 := em z
    have em2 := em (z / 8)
    have j1 := ixS (l := ns) (k := min (z % n) (z / 8 % n)) (by omega) (by omega)
    have j2 := ixS (l := ns) (k := max (z % n) (z / 8 % n)) (by omega) (by omega)
    have s1 : ns.getD (min (z % n) (z / 8 % n)).toNat Str.empty ∈ ns := by
      rw [List.getD_eq_getElem?_getD, List.getElem?_eq_getElem (by omega : (min (z % n) (z / 8 % n)).toNat < ns.length)]; exact List.getElem_mem _
    have s2 : ns.getD (max (z % n) (z / 8 % n)).toNat Str.empty ∈ ns := by
      rw [List.getD_eq_getElem?_getD, List.getElem?_eq_getElem (by omega : (max (z % n) (z / 8 % n)).toNat < ns.length)]; exact List.getElem_mem _
    generalize ns.getD (min (z % n) (z / 8 % n)).toNat Str.empty = s at *
    generalize ns.getD (max (z % n) (z / 8 % n)).toNat Str.empty = t at *
    by_cases e : z % n = z / 8 % n
    · refine ⟨_, _, bt_one, .inl ?_, ps, rfl, hP, by omega, fun b hb => ha b (List.mem_cons_of_mem _ hb)⟩
      simp (decide := true) only [B_law_graph_1, Fn.evT, List.getElem?_cons_zero, List.getElem?_cons_succ, List.set_cons_zero, List.set_cons_succ, List.length_cons, List.length_nil, Nat.reduceAdd, Nat.reduceLT, Bool.not_true, Bool.not_false, Nat.reduceLeDiff, Int.cast_ofNat_Int, Int.natCast_zero, Int.natCast_one, Int.reduceEq, eq_self, Int.reduceLE, Int.reduceLT, Int.reduceNeg, Int.reduceToNat, Int.toNat_natCast, Int.reduceAdd, Int.reduceSub, Int.reduceMul, Nat.reduceMul, Nat.reduceSub, decide_true, decide_false, Bool.true_and, Bool.false_and, Bool.and_true, Bool.true_or, Bool.false_or, Bool.or_false, not_true_eq_false, not_false_eq_true, if_true, if_false, Bool.false_eq_true, reduceCtorEq, ia, mm, div_z, decide_eq_true e]
    · refine ⟨_, _, bt_one, .inl ?_, if (s, t) ∈ ps then ps else ps ++ [(s, t)], rfl, ?_, ?_, fun b hb => ha b (List.mem_cons_of_mem _ hb)⟩
      · simp (decide := true) only [B_law_graph_1, Fn.evT, List.getElem?_cons_zero, List.getElem?_cons_succ, List.set_cons_zero, List.set_cons_succ, List.length_cons, List.length_nil, Nat.reduceAdd, Nat.reduceLT, Bool.not_true, Bool.not_false, Nat.reduceLeDiff, Int.cast_ofNat_Int, Int.natCast_zero, Int.natCast_one, Int.reduceEq, eq_self, Int.reduceLE, Int.reduceLT, Int.reduceNeg, Int.reduceToNat, Int.toNat_natCast, Int.reduceAdd, Int.reduceSub, Int.reduceMul, Nat.reduceMul, Nat.reduceSub, decide_true, decide_false, Bool.true_and, Bool.false_and, Bool.and_true, Bool.true_or, Bool.false_or, Bool.or_false, not_true_eq_false, not_false_eq_true, if_true, if_false, Bool.false_eq_true, reduceCtorEq, ia, mm, div_z, decide_eq_false e, j1, j2, sto_pair (show ps.length < 900 by omega)]
      · constructor <;> (intro p hp; split at hp)
        · exact hP.l p hp
        · rcases List.mem_append.mp hp with q | q
          · exact hP.l p q
          · rw [List.mem_singleton.mp q]; exact s1
        · exact hP.r p hp
        · rcases List.mem_append.mp hp with q | q
          · exact hP.r p q
          · rw [List.mem_singleton.mp q]; exact s2
      · split
        · omega
        · rw [List.length_append]; show ps.length + 1 + _ ≤ _; omega)
  obtain ⟨qs, hq, so⟩ := sort_pairs hN ps hP
  refine ⟨ns, qs, ⟨hN', by omega, by omega, ⟨fun p hp => hP.l p (hq.mem_iff.mp hp), fun p hp => hP.r p (hq.mem_iff.mp hp)⟩, by rw [hq.length_eq]; rw [List.length_nil] at hl2; omega⟩, by omega, ?_⟩
  rw [d_law_graph (by rfl)]
  have mm : modB (.dat (.int x0)) (.dat (.int m)) = .ok (.dat (.int (x0 % m))) := mod_pos (by omega)
  have r1 := rg1 (k := x5 % 13) (by omega) (by omega)
  have cd : cutL (xs.map D.int) (some 1) none = (xs.drop 1).map D.int := by rw [cut_drop (by decide), List.map_drop]; rfl
  simp (decide := true) only [B_law_graph, Fn.evT, List.getElem?_cons_zero, List.getElem?_cons_succ, List.set_cons_zero, List.set_cons_succ, List.length_cons, List.length_nil, Nat.reduceAdd, Nat.reduceLT, Bool.not_true, Bool.not_false, Nat.reduceLeDiff, Int.cast_ofNat_Int, Int.natCast_zero, Int.natCast_one, Int.reduceEq, eq_self, Int.reduceLE, Int.reduceLT, Int.reduceNeg, Int.reduceToNat, Int.toNat_natCast, Int.reduceAdd, Int.reduceSub, Int.reduceMul, Nat.reduceMul, Nat.reduceSub, decide_true, decide_false, Bool.true_and, Bool.false_and, Bool.and_true, Bool.true_or, Bool.false_or, Bool.or_false, not_true_eq_false, not_false_eq_true, if_true, if_false, Bool.false_eq_true, reduceCtorEq, i0, i5, mm, c_law_names, cd, e0, mod_pos, r1, q1, so]
end P
namespace P
open PySem PySem.Spec PyProof.Rows L2 Fn
theorem gcd_loop (r0 r1 : Option B) : ∀ (b a : Nat), whileC B_shared_part_1 B_shared_part_2 [r0, r1, some (.dat (.int (a : Int))), some (.dat (.int (b : Int)))] = .nx [r0, r1, some (.dat (.int (Nat.gcd a b : Nat))), some (.dat (.int 0))] := by
  intro b
  induction b using Nat.strongRecOn with
  | ind b ih =>
    intro a
    by_cases hb : b = 0
    · subst hb
      rw [Nat.gcd_zero_right]
      exact whileC_stop (by simp (decide := true) only [B_shared_part_1, Fn.evT, List.getElem?_cons_zero, List.getElem?_cons_succ, List.set_cons_zero, List.set_cons_succ, List.length_cons, List.length_nil, Nat.reduceAdd, Nat.reduceLT, Bool.not_true, Bool.not_false, Nat.reduceLeDiff, Int.cast_ofNat_Int, Int.natCast_zero, Int.natCast_one, Int.reduceEq, eq_self, Int.reduceLE, Int.reduceLT, Int.reduceNeg, Int.reduceToNat, Int.toNat_natCast, Int.reduceAdd, Int.reduceSub, Int.reduceMul, Nat.reduceMul, Nat.reduceSub, decide_true, decide_false, Bool.true_and, Bool.false_and, Bool.and_true, Bool.true_or, Bool.false_or, Bool.or_false, not_true_eq_false, not_false_eq_true, if_true, if_false, Bool.false_eq_true, reduceCtorEq])
    · have c : (0 : Int) < (b : Int) := by omega
      have h1 : B_shared_part_1 [r0, r1, some (.dat (.int (a : Int))), some (.dat (.int (b : Int)))] = .ok true := by simp only [B_shared_part_1, Fn.evT, List.getElem?_cons_zero, List.getElem?_cons_succ, List.set_cons_zero, List.set_cons_succ, List.length_cons, List.length_nil, Nat.reduceAdd, Nat.reduceLT, Bool.not_true, Bool.not_false, Nat.reduceLeDiff, Int.cast_ofNat_Int, Int.natCast_zero, Int.natCast_one, Int.reduceEq, eq_self, Int.reduceLE, Int.reduceLT, Int.reduceNeg, Int.reduceToNat, Int.toNat_natCast, Int.reduceAdd, Int.reduceSub, Int.reduceMul, Nat.reduceMul, Nat.reduceSub, decide_true, decide_false, Bool.true_and, Bool.false_and, Bool.and_true, Bool.true_or, Bool.false_or, Bool.or_false, not_true_eq_false, not_false_eq_true, if_true, if_false, Bool.false_eq_true, reduceCtorEq, c]
      have h2 : B_shared_part_2 [r0, r1, some (.dat (.int (a : Int))), some (.dat (.int (b : Int)))] = .nx [r0, r1, some (.dat (.int (b : Int))), some (.dat (.int ((a % b : Nat) : Int)))] := by
        rw [Int.natCast_emod]
        simp only [B_shared_part_2, Fn.evT, List.getElem?_cons_zero, List.getElem?_cons_succ, List.set_cons_zero, List.set_cons_succ, List.length_cons, List.length_nil, Nat.reduceAdd, Nat.reduceLT, Bool.not_true, Bool.not_false, Nat.reduceLeDiff, Int.cast_ofNat_Int, Int.natCast_zero, Int.natCast_one, Int.reduceEq, eq_self, Int.reduceLE, Int.reduceLT, Int.reduceNeg, Int.reduceToNat, Int.toNat_natCast, Int.reduceAdd, Int.reduceSub, Int.reduceMul, Nat.reduceMul, Nat.reduceSub, decide_true, decide_false, Bool.true_and, Bool.false_and, Bool.and_true, Bool.true_or, Bool.false_or, Bool.or_false, not_true_eq_false, not_false_eq_true, if_true, if_false, Bool.false_eq_true, reduceCtorEq, mod_pos c]
      rw [whileC_nx h1 h2, ih (a % b) (Nat.mod_lt _ (by omega)) b]
      rw [Nat.gcd_comm b, ← Nat.gcd_rec, Nat.gcd_comm b a]
theorem shared_spec (a b : Int) : E_shared_part.F [.dat (.int a), .dat (.int b)] = .ok (.dat (.int (Int.gcd a b : Nat))) := by
  rw [d_shared_part (by rfl)]
  have lp := gcd_loop (some (.dat (.int a))) (some (.dat (.int b))) b.natAbs a.natAbs
  simp only [B_shared_part, Fn.evT, List.getElem?_cons_zero, List.getElem?_cons_succ, List.set_cons_zero, List.set_cons_succ, List.length_cons, List.length_nil, Nat.reduceAdd, Nat.reduceLT, Bool.not_true, Bool.not_false, Nat.reduceLeDiff, Int.cast_ofNat_Int, Int.natCast_zero, Int.natCast_one, Int.reduceEq, eq_self, Int.reduceLE, Int.reduceLT, Int.reduceNeg, Int.reduceToNat, Int.toNat_natCast, Int.reduceAdd, Int.reduceSub, Int.reduceMul, Nat.reduceMul, Nat.reduceSub, decide_true, decide_false, Bool.true_and, Bool.false_and, Bool.and_true, Bool.true_or, Bool.false_or, Bool.or_false, not_true_eq_false, not_false_eq_true, if_true, if_false, Bool.false_eq_true, reduceCtorEq, abs_i, lp]
  rfl
theorem fraction_spec (t b : Int) (hb : b ≠ 0) (hz : b.natAbs < 2 ^ 8000) : E_fraction.F [.dat (.int t), .dat (.int b)] = .ok (.dat (frD (Rat.divInt t b))) := by
  rw [d_fraction (by rfl)]
  obtain ⟨g1, g2⟩ := gcd_small (t := t) hb hz
  obtain ⟨f1, f2⟩ := fr_low (t := t) hb
  have d1 := div_f (t := t) g1 g2
  have d2 := div_f (t := b) g1 g2
  rw [f1] at d1
  rw [f2] at d2
  by_cases c : b < 0
  · rw [if_pos c, show -((Int.gcd t b : Nat) : Int) = 0 - ((Int.gcd t b : Nat) : Int) by omega] at d1 d2
    simp only [B_fraction, Fn.evT, List.getElem?_cons_zero, List.getElem?_cons_succ, List.set_cons_zero, List.set_cons_succ, List.length_cons, List.length_nil, Nat.reduceAdd, Nat.reduceLT, Bool.not_true, Bool.not_false, Nat.reduceLeDiff, Int.cast_ofNat_Int, Int.natCast_zero, Int.natCast_one, Int.reduceEq, eq_self, Int.reduceLE, Int.reduceLT, Int.reduceNeg, Int.reduceToNat, Int.toNat_natCast, Int.reduceAdd, Int.reduceSub, Int.reduceMul, Nat.reduceMul, Nat.reduceSub, decide_true, decide_false, Bool.true_and, Bool.false_and, Bool.and_true, Bool.true_or, Bool.false_or, Bool.or_false, not_true_eq_false, not_false_eq_true, if_true, if_false, Bool.false_eq_true, reduceCtorEq, hb, c_shared_part, shared_spec, c, d1, d2]
    rfl
  · rw [if_neg c] at d1 d2
    simp only [B_fraction, Fn.evT, List.getElem?_cons_zero, List.getElem?_cons_succ, List.set_cons_zero, List.set_cons_succ, List.length_cons, List.length_nil, Nat.reduceAdd, Nat.reduceLT, Bool.not_true, Bool.not_false, Nat.reduceLeDiff, Int.cast_ofNat_Int, Int.natCast_zero, Int.natCast_one, Int.reduceEq, eq_self, Int.reduceLE, Int.reduceLT, Int.reduceNeg, Int.reduceToNat, Int.toNat_natCast, Int.reduceAdd, Int.reduceSub, Int.reduceMul, Nat.reduceMul, Nat.reduceSub, decide_true, decide_false, Bool.true_and, Bool.false_and, Bool.and_true, Bool.true_or, Bool.false_or, Bool.or_false, not_true_eq_false, not_false_eq_true, if_true, if_false, Bool.false_eq_true, reduceCtorEq, hb, c_shared_part, shared_spec, c, d1, d2]
    rfl
end P
namespace P
open PySem PySem.Spec PyProof.Rows L2 Fn
theorem below_pair {x y : B} {a b c d : Int} {n m k l : Nat} [ISz a n] [ISz b m] [ISz c k] [ISz d l] (hx : okArg x = true) (hy : okArg y = true) (h1 : n + l < 1000000) (h2 : k + m < 1000000)
    (x0 : idxB x (.dat (.int 0)) = .ok (.dat (.int a))) (x1 : idxB x (.dat (.int 1)) = .ok (.dat (.int b))) (y0 : idxB y (.dat (.int 0)) = .ok (.dat (.int c))) (y1 : idxB y (.dat (.int 1)) = .ok (.dat (.int d)))
    (ax : look (some (some x)) = .ok x) (ay : look (some (some y)) = .ok y) (rx : rd x = x) (ry : rd y = y) : E_below.F [x, y] = .ok (.dat (.bl (decide (a * d < c * b)))) := by
  rw [d_below (by rw [List.all_cons, List.all_cons, hx, hy]; rfl)]
  have m1 := mul_z (i := a) (j := d) h1
  have m2 := mul_z (i := c) (j := b) h2
  simp only [B_below, Fn.evT, List.getElem?_cons_zero, List.getElem?_cons_succ, List.set_cons_zero, List.set_cons_succ, List.length_cons, List.length_nil, Nat.reduceAdd, Nat.reduceLT, Bool.not_true, Bool.not_false, Nat.reduceLeDiff, Int.cast_ofNat_Int, Int.natCast_zero, Int.natCast_one, Int.reduceEq, eq_self, Int.reduceLE, Int.reduceLT, Int.reduceNeg, Int.reduceToNat, Int.toNat_natCast, Int.reduceAdd, Int.reduceSub, Int.reduceMul, Nat.reduceMul, Nat.reduceSub, decide_true, decide_false, Bool.true_and, Bool.false_and, Bool.and_true, Bool.true_or, Bool.false_or, Bool.or_false, not_true_eq_false, not_false_eq_true, if_true, if_false, Bool.false_eq_true, reduceCtorEq, ax, ay, rx, ry, x0, x1, y0, y1, m1, m2]
theorem below_spec {p q : Rat} {n m : Nat} (a : FrB p n) (b : FrB q m) (h : n + m ≤ 8000) : E_below.F [.dat (frD p), .dat (frD q)] = .ok (.dat (.bl (decide (p < q)))) := by
  haveI := a.zn
  haveI := a.zd
  haveI := b.zn
  haveI := b.zd
  rw [below_pair (a := p.num) (b := p.den) (c := q.num) (d := q.den) rfl rfl (by omega) (by omega) fr_0 fr_1 fr_0 fr_1 rfl rfl rfl rfl, decide_eq_decide.mpr (Rat.lt_iff p q).symm]
end P
namespace P
open PySem PySem.Spec PyProof.Rows L2 Fn
theorem law_gcd_loop (r0 r1 : Option B) : ∀ (b a : Nat), whileC B_law_low_1 B_law_low_2 [r0, r1, some (.dat (.int (a : Int))), some (.dat (.int (b : Int)))] = .nx [r0, r1, some (.dat (.int (Nat.gcd a b : Nat))), some (.dat (.int 0))] := by
  intro b
  induction b using Nat.strongRecOn with
  | ind b ih =>
    intro a
    by_cases hb : b = 0
    · subst hb
      rw [Nat.gcd_zero_right]
      exact whileC_stop (by simp (decide := true) only [B_law_low_1, Fn.evT, List.getElem?_cons_zero, List.getElem?_cons_succ, List.set_cons_zero, List.set_cons_succ, List.length_cons, List.length_nil, Nat.reduceAdd, Nat.reduceLT, Bool.not_true, Bool.not_false, Nat.reduceLeDiff, Int.cast_ofNat_Int, Int.natCast_zero, Int.natCast_one, Int.reduceEq, eq_self, Int.reduceLE, Int.reduceLT, Int.reduceNeg, Int.reduceToNat, Int.toNat_natCast, Int.reduceAdd, Int.reduceSub, Int.reduceMul, Nat.reduceMul, Nat.reduceSub, decide_true, decide_false, Bool.true_and, Bool.false_and, Bool.and_true, Bool.true_or, Bool.false_or, Bool.or_false, not_true_eq_false, not_false_eq_true, if_true, if_false, Bool.false_eq_true, reduceCtorEq])
    · have c : (0 : Int) < (b : Int) := by omega
      have h1 : B_law_low_1 [r0, r1, some (.dat (.int (a : Int))), some (.dat (.int (b : Int)))] = .ok true := by simp only [B_law_low_1, Fn.evT, List.getElem?_cons_zero, List.getElem?_cons_succ, List.set_cons_zero, List.set_cons_succ, List.length_cons, List.length_nil, Nat.reduceAdd, Nat.reduceLT, Bool.not_true, Bool.not_false, Nat.reduceLeDiff, Int.cast_ofNat_Int, Int.natCast_zero, Int.natCast_one, Int.reduceEq, eq_self, Int.reduceLE, Int.reduceLT, Int.reduceNeg, Int.reduceToNat, Int.toNat_natCast, Int.reduceAdd, Int.reduceSub, Int.reduceMul, Nat.reduceMul, Nat.reduceSub, decide_true, decide_false, Bool.true_and, Bool.false_and, Bool.and_true, Bool.true_or, Bool.false_or, Bool.or_false, not_true_eq_false, not_false_eq_true, if_true, if_false, Bool.false_eq_true, reduceCtorEq, c]
      have h2 : B_law_low_2 [r0, r1, some (.dat (.int (a : Int))), some (.dat (.int (b : Int)))] = .nx [r0, r1, some (.dat (.int (b : Int))), some (.dat (.int ((a % b : Nat) : Int)))] := by
        rw [Int.natCast_emod]
        simp only [B_law_low_2, Fn.evT, List.getElem?_cons_zero, List.getElem?_cons_succ, List.set_cons_zero, List.set_cons_succ, List.length_cons, List.length_nil, Nat.reduceAdd, Nat.reduceLT, Bool.not_true, Bool.not_false, Nat.reduceLeDiff, Int.cast_ofNat_Int, Int.natCast_zero, Int.natCast_one, Int.reduceEq, eq_self, Int.reduceLE, Int.reduceLT, Int.reduceNeg, Int.reduceToNat, Int.toNat_natCast, Int.reduceAdd, Int.reduceSub, Int.reduceMul, Nat.reduceMul, Nat.reduceSub, decide_true, decide_false, Bool.true_and, Bool.false_and, Bool.and_true, Bool.true_or, Bool.false_or, Bool.or_false, not_true_eq_false, not_false_eq_true, if_true, if_false, Bool.false_eq_true, reduceCtorEq, mod_pos c]
      rw [whileC_nx h1 h2, ih (a % b) (Nat.mod_lt _ (by omega)) b]
      rw [Nat.gcd_comm b, ← Nat.gcd_rec, Nat.gcd_comm b a]
theorem law_low_spec (t b : Int) (hb : b ≠ 0) (hz : b.natAbs < 2 ^ 8000) : E_law_low.F [.dat (.int t), .dat (.int b)] = .ok (.dat (frD (Rat.divInt t b))) := by
  rw [d_law_low (by rfl)]
  obtain ⟨g1, g2⟩ := gcd_small (t := t) hb hz
  obtain ⟨f1, f2⟩ := fr_low (t := t) hb
  have d1 := div_f (t := t) g1 g2
  have d2 := div_f (t := b) g1 g2
  rw [f1] at d1
  rw [f2] at d2
  have lp := law_gcd_loop (some (.dat (.int t))) (some (.dat (.int b))) b.natAbs t.natAbs
  have lp2 : whileC B_law_low_1 B_law_low_2 [some (.dat (.int t)), some (.dat (.int b)), some (.dat (.int (t.natAbs : Int))), some (.dat (.int (b.natAbs : Int)))] = .nx [some (.dat (.int t)), some (.dat (.int b)), some (.dat (.int (Int.gcd t b : Nat))), some (.dat (.int 0))] := lp
  by_cases c : b < 0
  · rw [if_pos c, show -((Int.gcd t b : Nat) : Int) = 0 - ((Int.gcd t b : Nat) : Int) by omega] at d1 d2
    simp only [B_law_low, Fn.evT, List.getElem?_cons_zero, List.getElem?_cons_succ, List.set_cons_zero, List.set_cons_succ, List.length_cons, List.length_nil, Nat.reduceAdd, Nat.reduceLT, Bool.not_true, Bool.not_false, Nat.reduceLeDiff, Int.cast_ofNat_Int, Int.natCast_zero, Int.natCast_one, Int.reduceEq, eq_self, Int.reduceLE, Int.reduceLT, Int.reduceNeg, Int.reduceToNat, Int.toNat_natCast, Int.reduceAdd, Int.reduceSub, Int.reduceMul, Nat.reduceMul, Nat.reduceSub, decide_true, decide_false, Bool.true_and, Bool.false_and, Bool.and_true, Bool.true_or, Bool.false_or, Bool.or_false, not_true_eq_false, not_false_eq_true, if_true, if_false, Bool.false_eq_true, reduceCtorEq, abs_i, lp2, c, d1, d2]
    rfl
  · rw [if_neg c] at d1 d2
    simp only [B_law_low, Fn.evT, List.getElem?_cons_zero, List.getElem?_cons_succ, List.set_cons_zero, List.set_cons_succ, List.length_cons, List.length_nil, Nat.reduceAdd, Nat.reduceLT, Bool.not_true, Bool.not_false, Nat.reduceLeDiff, Int.cast_ofNat_Int, Int.natCast_zero, Int.natCast_one, Int.reduceEq, eq_self, Int.reduceLE, Int.reduceLT, Int.reduceNeg, Int.reduceToNat, Int.toNat_natCast, Int.reduceAdd, Int.reduceSub, Int.reduceMul, Nat.reduceMul, Nat.reduceSub, decide_true, decide_false, Bool.true_and, Bool.false_and, Bool.and_true, Bool.true_or, Bool.false_or, Bool.or_false, not_true_eq_false, not_false_eq_true, if_true, if_false, Bool.false_eq_true, reduceCtorEq, abs_i, lp2, c, d1, d2]
    rfl
end P
namespace P
open PySem PySem.Spec PyProof.Rows L2 Fn
theorem comp_within {ρ : Fn.Env} {ns : List Str} {ps : List (Str × Str)} (h : Gph ns ps) (q : List Str) (hq : Lays q) (hi : 2 < ρ.length) (h1 : ρ[1]? = some (some (.dat (.tup (txs q))))) :
    compD (.one 2) (andT (tstF (bin2 (inB false) (bin2 idxB (varB 2) (litI 0)) (varB 1))) (tstF (bin2 (inB false) (bin2 idxB (varB 2) (litI 1)) (varB 1)))) (varB 2) ρ (ps.map pD) = .ok (.own (.l ((ps.filter fun p => decide (p.1 ∈ q) && decide (p.2 ∈ q)).map pD))) :=
  compD_if (e := pD) (fun p => decide (p.1 ∈ q) && decide (p.2 ∈ q)) pD (le_sz (by have := h.few; omega)) (by
    intro p hp
    have e2 : (ρ.set 2 (some (B.dat (pD p))))[2]? = some (some (B.dat (pD p))) := List.getElem?_set_self hi
    have e1 : (ρ.set 2 (some (B.dat (pD p))))[1]? = some (some (.dat (.tup (txs q)))) := by rw [List.getElem?_set_ne (by decide)]; exact h1
    have j0 : idxB (.dat (pD p)) (.dat (.int 0)) = .ok (.dat (.str p.1)) := idx_tup rfl
    have j1 : idxB (.dat (pD p)) (.dat (.int 1)) = .ok (.dat (.str p.2)) := idx_tup rfl
    have q1 := in_ns (h.nm.lay _ (h.pr.l p hp)) hq
    have q2 := in_ns (h.nm.lay _ (h.pr.r p hp)) hq
    cases d1 : decide (p.1 ∈ q) with
    | false => simp only [Fn.evT, List.getElem?_cons_zero, List.getElem?_cons_succ, List.set_cons_zero, List.set_cons_succ, List.length_cons, List.length_nil, Nat.reduceAdd, Nat.reduceLT, Bool.not_true, Bool.not_false, Nat.reduceLeDiff, Int.cast_ofNat_Int, Int.natCast_zero, Int.natCast_one, Int.reduceEq, eq_self, Int.reduceLE, Int.reduceLT, Int.reduceNeg, Int.reduceToNat, Int.toNat_natCast, Int.reduceAdd, Int.reduceSub, Int.reduceMul, Nat.reduceMul, Nat.reduceSub, decide_true, decide_false, Bool.true_and, Bool.false_and, Bool.and_true, Bool.true_or, Bool.false_or, Bool.or_false, not_true_eq_false, not_false_eq_true, if_true, if_false, Bool.false_eq_true, reduceCtorEq, Fn.evS, Option.toList, List.nil_append, List.cons_append, e2, e1, j0, j1, q1, q2, d1]
    | true =>
      cases d2 : decide (p.2 ∈ q) <;> simp only [Fn.evT, List.getElem?_cons_zero, List.getElem?_cons_succ, List.set_cons_zero, List.set_cons_succ, List.length_cons, List.length_nil, Nat.reduceAdd, Nat.reduceLT, Bool.not_true, Bool.not_false, Nat.reduceLeDiff, Int.cast_ofNat_Int, Int.natCast_zero, Int.natCast_one, Int.reduceEq, eq_self, Int.reduceLE, Int.reduceLT, Int.reduceNeg, Int.reduceToNat, Int.toNat_natCast, Int.reduceAdd, Int.reduceSub, Int.reduceMul, Nat.reduceMul, Nat.reduceSub, decide_true, decide_false, Bool.true_and, Bool.false_and, Bool.and_true, Bool.true_or, Bool.false_or, Bool.or_false, not_true_eq_false, not_false_eq_true, if_true, if_false, Bool.false_eq_true, reduceCtorEq, Fn.evS, Option.toList, List.nil_append, List.cons_append, e2, e1, j0, j1, q1, q2, d1, d2])
theorem idx_g0 {ns : List Str} {ps : List (Str × Str)} : idxB (.dat (gD ns ps)) (.dat (.int 0)) = .ok (.dat (.tup (txs ns))) := idx_tup rfl
theorem idx_g1 {ns : List Str} {ps : List (Str × Str)} : idxB (.dat (gD ns ps)) (.dat (.int 1)) = .ok (.dat (.tup (ps.map pD))) := idx_tup rfl
theorem within_spec {ns : List Str} {ps : List (Str × Str)} (h : Gph ns ps) (q : List Str) (hq : Lays q) : E_within.F [.dat (gD ns ps), .dat (.tup (txs q))] = .ok (.dat (.int ((ps.filter fun p => decide (p.1 ∈ q) && decide (p.2 ∈ q)).length : Nat))) := by
  rw [d_within (by rfl)]
  have c := comp_within (ρ := [some (.dat (gD ns ps)), some (.dat (.tup (txs q))), none]) h q hq (by show 2 < 3; decide) rfl
  simp only [B_within, Fn.evT, List.getElem?_cons_zero, List.getElem?_cons_succ, List.set_cons_zero, List.set_cons_succ, List.length_cons, List.length_nil, Nat.reduceAdd, Nat.reduceLT, Bool.not_true, Bool.not_false, Nat.reduceLeDiff, Int.cast_ofNat_Int, Int.natCast_zero, Int.natCast_one, Int.reduceEq, eq_self, Int.reduceLE, Int.reduceLT, Int.reduceNeg, Int.reduceToNat, Int.toNat_natCast, Int.reduceAdd, Int.reduceSub, Int.reduceMul, Nat.reduceMul, Nat.reduceSub, decide_true, decide_false, Bool.true_and, Bool.false_and, Bool.and_true, Bool.true_or, Bool.false_or, Bool.or_false, not_true_eq_false, not_false_eq_true, if_true, if_false, Bool.false_eq_true, reduceCtorEq, idx_g1, c, List.length_map]
theorem law_within_spec {ns : List Str} {ps : List (Str × Str)} (h : Gph ns ps) (q : List Str) (hq : Lays q) : E_law_within.F [.dat (gD ns ps), .dat (.tup (txs q))] = .ok (.dat (.int ((ps.filter fun p => decide (p.1 ∈ q) && decide (p.2 ∈ q)).length : Nat))) := by
  rw [d_law_within (by rfl)]
  have c := comp_within (ρ := [some (.dat (gD ns ps)), some (.dat (.tup (txs q))), none]) h q hq (by show 2 < 3; decide) rfl
  simp only [B_law_within, Fn.evT, List.getElem?_cons_zero, List.getElem?_cons_succ, List.set_cons_zero, List.set_cons_succ, List.length_cons, List.length_nil, Nat.reduceAdd, Nat.reduceLT, Bool.not_true, Bool.not_false, Nat.reduceLeDiff, Int.cast_ofNat_Int, Int.natCast_zero, Int.natCast_one, Int.reduceEq, eq_self, Int.reduceLE, Int.reduceLT, Int.reduceNeg, Int.reduceToNat, Int.toNat_natCast, Int.reduceAdd, Int.reduceSub, Int.reduceMul, Nat.reduceMul, Nat.reduceSub, decide_true, decide_false, Bool.true_and, Bool.false_and, Bool.and_true, Bool.true_or, Bool.false_or, Bool.or_false, not_true_eq_false, not_false_eq_true, if_true, if_false, Bool.false_eq_true, reduceCtorEq, idx_g1, c, List.length_map]
def bitsOf (ns : List Str) (m : Nat) : List Str := ((List.range ns.length).filter fun k => decide (m / 2 ^ k % 2 = 1)).map fun k => ns.getD k Str.empty
theorem parts_step {ns : List Str} {ps : List (Str × Str)} (h : Gph ns ps) (found : List D) (hf : found.length < 1000) (m : Nat) : B_law_parts_1 [some (.dat (gD ns ps)), some (.own (.l found)), some (.dat (.int (m : Int))), none] = .nx [some (.dat (gD ns ps)), some (.own (.l (found ++ [.tup (txs (bitsOf ns m))]))), none, none] := by
  have hl := h.le
  have r1 := rg1 (k := (ns.length : Int)) (by omega) (by omega)
  rw [Int.toNat_natCast] at r1
  have c : compD (.one 3) (tstF (bin2 eqB (bin2 andB (bin2 shrB (varB 2) (varB 3)) (litI 1)) (litI 1))) (bin2 idxB (bin2 idxB (varB 0) (litI 0)) (varB 3)) [some (.dat (gD ns ps)), some (.own (.l found)), some (.dat (.int (m : Int))), none] ((List.range ns.length).map fun (k : Nat) => D.int k) = .ok (.own (.l (txs (bitsOf ns m)))) := by
    rw [compD_if (fun k => decide (m / 2 ^ k % 2 = 1)) (fun k => D.str (ns.getD k Str.empty)) (le_sz (by rw [List.length_range]; omega)) (by
      intro k hk
      have hk' := List.mem_range.mp hk
      have ix := ixSt (l := ns) (k := (k : Int)) (by omega) (by omega)
      rw [Int.toNat_natCast] at ix
      have de : decide (((m / 2 ^ k % 2 : Nat) : Int) = 1) = decide (m / 2 ^ k % 2 = 1) := decide_eq_decide.mpr (by omega)
      cases d : decide (m / 2 ^ k % 2 = 1) with
      | true => simp only [Fn.evT, List.getElem?_cons_zero, List.getElem?_cons_succ, List.set_cons_zero, List.set_cons_succ, List.length_cons, List.length_nil, Nat.reduceAdd, Nat.reduceLT, Bool.not_true, Bool.not_false, Nat.reduceLeDiff, Int.cast_ofNat_Int, Int.natCast_zero, Int.natCast_one, Int.reduceEq, eq_self, Int.reduceLE, Int.reduceLT, Int.reduceNeg, Int.reduceToNat, Int.toNat_natCast, Int.reduceAdd, Int.reduceSub, Int.reduceMul, Nat.reduceMul, Nat.reduceSub, decide_true, decide_false, Bool.true_and, Bool.false_and, Bool.and_true, Bool.true_or, Bool.false_or, Bool.or_false, not_true_eq_false, not_false_eq_true, if_true, if_false, Bool.false_eq_true, reduceCtorEq, Fn.evS, Option.toList, List.nil_append, List.cons_append, idx_g0, shr_n, and_1, de, d, ix]
      | false => simp only [Fn.evT, List.getElem?_cons_zero, List.getElem?_cons_succ, List.set_cons_zero, List.set_cons_succ, List.length_cons, List.length_nil, Nat.reduceAdd, Nat.reduceLT, Bool.not_true, Bool.not_false, Nat.reduceLeDiff, Int.cast_ofNat_Int, Int.natCast_zero, Int.natCast_one, Int.reduceEq, eq_self, Int.reduceLE, Int.reduceLT, Int.reduceNeg, Int.reduceToNat, Int.toNat_natCast, Int.reduceAdd, Int.reduceSub, Int.reduceMul, Nat.reduceMul, Nat.reduceSub, decide_true, decide_false, Bool.true_and, Bool.false_and, Bool.and_true, Bool.true_or, Bool.false_or, Bool.or_false, not_true_eq_false, not_false_eq_true, if_true, if_false, Bool.false_eq_true, reduceCtorEq, Fn.evS, Option.toList, List.nil_append, List.cons_append, idx_g0, shr_n, and_1, de, d])]
    unfold bitsOf txs
    rw [List.map_map]
    rfl
  simp only [B_law_parts_1, Fn.evT, List.getElem?_cons_zero, List.getElem?_cons_succ, List.set_cons_zero, List.set_cons_succ, List.length_cons, List.length_nil, Nat.reduceAdd, Nat.reduceLT, Bool.not_true, Bool.not_false, Nat.reduceLeDiff, Int.cast_ofNat_Int, Int.natCast_zero, Int.natCast_one, Int.reduceEq, eq_self, Int.reduceLE, Int.reduceLT, Int.reduceNeg, Int.reduceToNat, Int.toNat_natCast, Int.reduceAdd, Int.reduceSub, Int.reduceMul, Nat.reduceMul, Nat.reduceSub, decide_true, decide_false, Bool.true_and, Bool.false_and, Bool.and_true, Bool.true_or, Bool.false_or, Bool.or_false, not_true_eq_false, not_false_eq_true, if_true, if_false, Bool.false_eq_true, reduceCtorEq, idx_g0, List.length_map, r1, c, hf]
theorem parts_spec {ns : List Str} {ps : List (Str × Str)} (h : Gph ns ps) : E_law_parts.F [.dat (gD ns ps)] = .ok (.own (.l ((List.range (2 ^ ns.length - 1)).map fun j => .tup (txs (bitsOf ns (1 + j)))))) := by
  rw [d_law_parts (by rfl)]
  have hl := h.le
  have h2 : 2 ^ ns.length ≤ 128 := Nat.pow_le_pow_right (by decide) hl
  have hp : 0 < 2 ^ ns.length := Nat.pow_pos (by decide)
  have lp : ∀ (j k : Nat), j + k = 2 ^ ns.length - 1 → loopF (.one 2) B_law_parts_1 ((List.range' j k).map fun (i : Nat) => D.int (1 + (i : Int))) [some (.dat (gD ns ps)), some (.own (.l ((List.range j).map fun j => .tup (txs (bitsOf ns (1 + j)))))), none, none] =
      .nx [some (.dat (gD ns ps)), some (.own (.l ((List.range (2 ^ ns.length - 1)).map fun j => .tup (txs (bitsOf ns (1 + j)))))), none, none] := by
    intro j k
    induction k generalizing j with
    | zero => intro e; rw [Nat.add_zero] at e; subst e; rfl
    | succ k ih =>
      intro e
      rw [List.range'_succ, List.map_cons, loop_one bt_one]
      simp only [List.set_cons_zero, List.set_cons_succ]
      rw [show (1 + (j : Int)) = ((1 + j : Nat) : Int) by omega, parts_step h _ (by rw [List.length_map, List.length_range]; omega) (1 + j), lk_nx]
      have := ih (j + 1) (by omega)
      rw [List.range_succ, List.map_append] at this
      exact this
  have lp0 := lp 0 (2 ^ ns.length - 1) (by omega)
  rw [← List.range_eq_range'] at lp0
  have lp1 : (loopF (.one 2) B_law_parts_1 ((List.range (2 ^ ns.length - 1)).map fun (i : Nat) => D.int (1 + (i : Int))) [some (.dat (gD ns ps)), some (.own (.l [])), none, none]) = _ := lp0
  have r2 := rg2 (i := 1) (k := ((2 ^ ns.length : Nat) : Int)) (by omega) (by omega) (by omega) (by omega)
  rw [show (((2 ^ ns.length : Nat) : Int) - 1).toNat = 2 ^ ns.length - 1 by omega] at r2
  have s1 := shl_n (k := ns.length) (by omega)
  simp only [B_law_parts, Fn.evT, List.getElem?_cons_zero, List.getElem?_cons_succ, List.set_cons_zero, List.set_cons_succ, List.length_cons, List.length_nil, Nat.reduceAdd, Nat.reduceLT, Bool.not_true, Bool.not_false, Nat.reduceLeDiff, Int.cast_ofNat_Int, Int.natCast_zero, Int.natCast_one, Int.reduceEq, eq_self, Int.reduceLE, Int.reduceLT, Int.reduceNeg, Int.reduceToNat, Int.toNat_natCast, Int.reduceAdd, Int.reduceSub, Int.reduceMul, Nat.reduceMul, Nat.reduceSub, decide_true, decide_false, Bool.true_and, Bool.false_and, Bool.and_true, Bool.true_or, Bool.false_or, Bool.or_false, not_true_eq_false, not_false_eq_true, if_true, if_false, Bool.false_eq_true, reduceCtorEq, idx_g0, List.length_map, s1, r2, lp1]
end P
namespace P
open PySem PySem.Spec PyProof.Rows L2 Fn
theorem law_less_spec {p q : Rat} {n m : Nat} (a : FrB p n) (b : FrB q m) (h : n + m ≤ 8000) : E_law_is_less.F [.dat (frD p), .dat (frD q)] = .ok (.dat (.bl (decide (p < q)))) := by
  rw [d_law_is_less (by rfl)]
  haveI := a.zn
  haveI := a.zd
  haveI := b.zn
  haveI := b.zd
  have m1 := mul_z (i := p.num) (j := (q.den : Int)) (by omega)
  have m2 := mul_z (i := q.num) (j := (p.den : Int)) (by omega)
  have e : decide (p.num * (q.den : Int) < q.num * (p.den : Int)) = decide (p < q) := decide_eq_decide.mpr (Rat.lt_iff p q).symm
  simp only [B_law_is_less, Fn.evT, List.getElem?_cons_zero, List.getElem?_cons_succ, List.set_cons_zero, List.set_cons_succ, List.length_cons, List.length_nil, Nat.reduceAdd, Nat.reduceLT, Bool.not_true, Bool.not_false, Nat.reduceLeDiff, Int.cast_ofNat_Int, Int.natCast_zero, Int.natCast_one, Int.reduceEq, eq_self, Int.reduceLE, Int.reduceLT, Int.reduceNeg, Int.reduceToNat, Int.toNat_natCast, Int.reduceAdd, Int.reduceSub, Int.reduceMul, Nat.reduceMul, Nat.reduceSub, decide_true, decide_false, Bool.true_and, Bool.false_and, Bool.and_true, Bool.true_or, Bool.false_or, Bool.or_false, not_true_eq_false, not_false_eq_true, if_true, if_false, Bool.false_eq_true, reduceCtorEq, fr_0, fr_1, m1, m2, e]
end P
namespace P
open PySem PySem.Spec PyProof.Rows L2 Fn
abbrev tD (P : List Str) : D := .tup (txs P)
theorem sub_snoc {l : List Str} {x : Str} {P : List Str} : P.Sublist (l ++ [x]) ↔ P.Sublist l ∨ ∃ Q, P = Q ++ [x] ∧ Q.Sublist l := by
  rw [List.sublist_append_iff]
  constructor
  · rintro ⟨a, b, rfl, h1, h2⟩
    cases h2 with
    | cons _ h => rw [List.sublist_nil.mp h]; exact .inl (by rw [List.append_nil]; exact h1)
    | cons_cons _ h => rw [List.sublist_nil.mp h]; exact .inr ⟨a, rfl, h1⟩
  · rintro (h | ⟨Q, rfl, h⟩)
    · exact ⟨P, [], (List.append_nil _).symm, h, List.nil_sublist _⟩
    · exact ⟨Q, [x], rfl, h, List.Sublist.refl _⟩
theorem found_step (g : D) (S : List (List Str)) (x : Str) (hS : S.length ≤ 400) (hP : ∀ P ∈ S, P.length ≤ 20) : B_parts_of_1 [some (.dat g), some (.dat (.lst (S.map tD))), some (.dat (.str x)), none, none, none] =
    .nx [some (.dat g), some (.dat (.lst ((S ++ S.map (· ++ [x])).map tD))), none, none, none, none] := by
  have c : compD (.one 4) yesF (bin2 addB (varB 4) (callF tupB (consA (varB 2) nilA))) [some (.dat g), some (.dat (.lst (S.map tD))), some (.dat (.str x)), none, none, none] (S.map tD) = .ok (.own (.l (S.map fun P => tD (P ++ [x])))) := by
    refine compD_all (e := tD) (fun P => tD (P ++ [x])) (le_sz (by omega)) fun P hp => ?_
    have e : addB (.dat (tD P)) (.dat (.tup [.str x])) = .ok (.dat (tD (P ++ [x]))) := by
      refine (cat_tt (by rw [List.length_map]; have := hP P hp; show _ + 1 ≤ 1000; omega)).trans ?_
      show Res.ok (Fn.B.dat (D.tup ((P.map D.str) ++ [D.str x]))) = Res.ok (Fn.B.dat (D.tup ((P ++ [x]).map D.str)))
      rw [List.map_append]
      rfl
    simp only [Fn.evT, List.getElem?_cons_zero, List.getElem?_cons_succ, List.set_cons_zero, List.set_cons_succ, List.length_cons, List.length_nil, Nat.reduceAdd, Nat.reduceLT, Bool.not_true, Bool.not_false, Nat.reduceLeDiff, Int.cast_ofNat_Int, Int.natCast_zero, Int.natCast_one, Int.reduceEq, eq_self, Int.reduceLE, Int.reduceLT, Int.reduceNeg, Int.reduceToNat, Int.toNat_natCast, Int.reduceAdd, Int.reduceSub, Int.reduceMul, Nat.reduceMul, Nat.reduceSub, decide_true, decide_false, Bool.true_and, Bool.false_and, Bool.and_true, Bool.true_or, Bool.false_or, Bool.or_false, not_true_eq_false, not_false_eq_true, if_true, if_false, Bool.false_eq_true, reduceCtorEq, Fn.evS, Option.toList, List.nil_append, List.cons_append, e]
  have ca := cat_l (ds := S.map tD) (es := S.map fun P => tD (P ++ [x])) (by rw [List.length_map, List.length_map]; omega)
  have me : (S ++ S.map (· ++ [x])).map tD = S.map tD ++ S.map fun P => tD (P ++ [x]) := by
    rw [List.map_append, List.map_map]
    rfl
  rw [me]
  simp only [B_parts_of_1, Fn.evT, List.getElem?_cons_zero, List.getElem?_cons_succ, List.set_cons_zero, List.set_cons_succ, List.length_cons, List.length_nil, Nat.reduceAdd, Nat.reduceLT, Bool.not_true, Bool.not_false, Nat.reduceLeDiff, Int.cast_ofNat_Int, Int.natCast_zero, Int.natCast_one, Int.reduceEq, eq_self, Int.reduceLE, Int.reduceLT, Int.reduceNeg, Int.reduceToNat, Int.toNat_natCast, Int.reduceAdd, Int.reduceSub, Int.reduceMul, Nat.reduceMul, Nat.reduceSub, decide_true, decide_false, Bool.true_and, Bool.false_and, Bool.and_true, Bool.true_or, Bool.false_or, Bool.or_false, not_true_eq_false, not_false_eq_true, if_true, if_false, Bool.false_eq_true, reduceCtorEq, c, ca]
abbrev enD (P : List Str) : D := .tup [.int (P.length : Int), tD P]
theorem en_le {P Q : List Str} (h : leD (enD P) (enD Q) = true) : P.length ≤ Q.length := by
  rw [leD_iff] at h
  by_cases c : P.length ≤ Q.length
  · exact c
  · exfalso
    have e : ∀ P : List Str, ∃ r, PySem.W.keyToks (toPy (enD P)) = Sum.inl 1 :: Sum.inl (P.length : Int) :: r := fun P => ⟨_, by simp [toPy, toPys, PySem.W.keyToks, PySem.W.keyToksAll]; rfl⟩
    obtain ⟨r1, h1⟩ := e P
    obtain ⟨r2, h2⟩ := e Q
    rw [h1, h2, PyProof.Rows.lex_self, PyProof.Rows.lex_diff (O := PyProof.Rows.itemOrd) (fun z => by
      have := Sum.inl.inj z
      omega)] at h
    have : decide ((Q.length : Int) < (P.length : Int)) = false := h
    rw [decide_eq_false_iff_not] at this
    omega
theorem sortOk_en {L : List (List Str)} (h : ∀ P ∈ L, Lays P) : sortOk (L.map enD) = true := by
  unfold sortOk
  rw [toPys_map]
  simp only [Bool.and_eq_true, Bool.or_eq_true, List.all_eq_true, List.mem_map]
  refine ⟨?_, ?_, .inl ?_⟩
  · rintro _ ⟨_, ⟨P, hq, rfl⟩, rfl⟩
    obtain ⟨h1, h2⟩ := lay_strs (h P hq)
    show (PyData.canLay0 (.tuple [.int _, .tuple (toPys (txs P))]) && decide (PyData.depth (.tuple [.int _, .tuple (toPys (txs P))]) ≤ 64)) = true
    simp only [PyData.canLay0, PyData.canLayAll0, PyData.depth, PyData.depthAll, h1, h2]
    rfl
  · rintro _ ⟨_, ⟨P, _, rfl⟩, rfl⟩ _ ⟨_, ⟨Q, _, rfl⟩, rfl⟩
    show PySem.W.alike (.tuple [.int _, .tuple (toPys (txs P))]) (.tuple [.int _, .tuple (toPys (txs Q))]) = true
    simp only [PySem.W.alike, PySem.W.alikeAll, alike_txs]
    rfl
  · rintro _ ⟨_, ⟨P, _, rfl⟩, rfl⟩
    rfl
theorem sortOk2_of {ds : List D} (h : sortOk ds = true) : sortOk2 ds = true := by
  unfold sortOk at h
  unfold sortOk2
  rw [Bool.and_eq_true, Bool.and_eq_true, Bool.or_eq_true] at h
  obtain ⟨h1, h2, h3⟩ := h
  rw [h1, h2]
  rcases h3 with h3 | h3 <;> rw [h3] <;> simp
theorem ne_nil_ok {P : List Str} (hP : Lays P) : neB (.dat (tD P)) (.dat (.tup [])) = .ok (.dat (.bl (!decide (P = [])))) := by
  show ((eqD (tD P) (tD [])).bind fun k => (.ok (.dat (.bl !k)) : Res Fn.B)) = _
  unfold eqD
  rw [if_pos (by rw [Bool.and_eq_true]; exact ⟨(shaped_strs hP).1, (shaped_strs (xs := []) fun _ h => by cases h).1⟩), Res.ok_bind]
  congr 3
  show (!PyData.eqv (.tuple (toPys (txs P))) (.tuple (toPys (txs [])))) = _
  simp only [PyData.eqv, eqv_strs]
theorem parts_of_spec {ns : List Str} {ps : List (Str × Str)} (G : Gph ns ps) : ∃ L : List (List Str), (∀ P, P ∈ L ↔ P ≠ [] ∧ P.Sublist ns) ∧ (L.Pairwise fun P Q => P.length ≤ Q.length) ∧ L.length ≤ 400 ∧ E_parts_of.F [.dat (gD ns ps)] = .ok (.own (.l (L.map tD))) := by
  have hle := G.le
  obtain ⟨ρ', q1, S, rfl, hm, hl⟩ := loop_all (t := .one 2) (body := B_parts_of_1) (ds := txs ns) (fun i ρ => ∃ (S : List (List Str)), ρ = [some (.dat (gD ns ps)), some (.dat (.lst (S.map tD))), none, none, none, none] ∧ (∀ P, P ∈ S ↔ P.Sublist (ns.take i)) ∧ S.length = 2 ^ i)
    (ρ := [some (.dat (gD ns ps)), some (.dat (.lst [.tup []])), none, none, none, none]) ⟨[[]], rfl, fun P => by rw [List.take_zero, List.sublist_nil, List.mem_singleton], rfl⟩ (by
    rintro i d ρ hd ⟨S, rfl, hm, hl⟩
    obtain ⟨x, hx, rfl⟩ : ∃ x, ns[i]? = some x ∧ d = .str x := by
      rw [List.getElem?_map] at hd
      cases e : ns[i]? with
      | none => rw [e] at hd; cases hd
      | some x => rw [e] at hd; exact ⟨x, rfl, (Option.some.inj hd).symm⟩
    have hi : i < ns.length := (List.getElem?_eq_some_iff.mp hx).1
    have h7 : 2 ^ i ≤ 2 ^ 7 := Nat.pow_le_pow_right (by omega) (by omega)
    have h7' : (2 : Nat) ^ 7 = 128 := by decide
    have st := found_step (gD ns ps) S x (by omega) (fun P hP => by have := ((hm P).mp hP).length_le; rw [List.length_take] at this; omega)
    refine ⟨[some (.dat (gD ns ps)), some (.dat (.lst (S.map tD))), some (.dat (.str x)), none, none, none], _, rfl, .inl st, S ++ S.map (· ++ [x]), rfl, fun P => ?_, ?_⟩
    · have et : ns.take (i + 1) = ns.take i ++ [x] := by
        rw [List.take_add_one, hx]
        rfl
      rw [et, sub_snoc, List.mem_append, hm, List.mem_map]
      constructor
      · rintro (h | ⟨Q, hQ, rfl⟩)
        · exact .inl h
        · exact .inr ⟨Q, rfl, (hm Q).mp hQ⟩
      · rintro (h | ⟨Q, rfl, hQ⟩)
        · exact .inl h
        · exact .inr ⟨Q, (hm Q).mpr hQ, rfl⟩
    · rw [List.length_append, List.length_map, hl, Nat.pow_succ]; omega)
  have h7 : S.length ≤ 128 := by
    rw [hl, List.length_map]
    have : 2 ^ ns.length ≤ 2 ^ 7 := Nat.pow_le_pow_right (by omega) (by omega)
    have h7' : (2 : Nat) ^ 7 = 128 := by decide
    omega
  have mS : ∀ P, P ∈ S ↔ P.Sublist ns := by
    intro P
    rw [hm, List.length_map, List.take_length]
  have layS : ∀ P ∈ S, Lays P := fun P hP x hx => G.nm.lay x (((mS P).mp hP).subset hx)
  generalize hS1 : S.filter (fun P => !decide (P = [])) = S1
  have lay1 : ∀ P ∈ S1, Lays P := fun P hP => layS P (by rw [← hS1] at hP; exact (List.mem_filter.mp hP).1)
  let un : D → List Str := fun d => match d with
    | .tup [_, .tup ds] => ds.map unS
    | _ => []
  have unE : ∀ P : List Str, un (enD P) = P := fun P => unS_txs P
  have pm := List.mergeSort_perm (S1.map enD) leD
  obtain ⟨L, hL, hp⟩ : ∃ L : List (List Str), (S1.map enD).mergeSort leD = L.map enD ∧ L.Perm S1 := by
    refine ⟨((S1.map enD).mergeSort leD).map un, ?_, ?_⟩
    · rw [List.map_map]
      have : ∀ d ∈ (S1.map enD).mergeSort leD, (enD ∘ un) d = d := fun d hd => by
        obtain ⟨P, _, rfl⟩ := List.mem_map.mp (List.mem_mergeSort.mp hd)
        show enD (un (enD P)) = enD P
        rw [unE]
      rw [List.map_congr_left this, List.map_id']
    · have := pm.map un
      rw [List.map_map, show (un ∘ enD) = id from funext unE, List.map_id] at this
      exact this
  have hL1 : S1.length ≤ 128 := by rw [← hS1]; exact Nat.le_trans (List.length_filter_le _ _) h7
  have hL2 : L.length ≤ 128 := by rw [hp.length_eq]; omega
  refine ⟨L, fun P => ?_, ?_, by omega, ?_⟩
  · rw [hp.mem_iff, ← hS1, List.mem_filter, mS, Bool.not_eq_true', decide_eq_false_iff_not, and_comm]
  · have := sortD_pair (S1.map enD)
    rw [hL, List.pairwise_map] at this
    exact this.imp en_le
  · have c1 : compD (.one 4) (tstF (bin2 neB (varB 4) (callF tupB nilA))) (callF tupB (consA (callF lenB (consA (varB 4) nilA)) (consA (varB 4) nilA))) [some (.dat (gD ns ps)), some (.dat (.lst (S.map tD))), none, none, none, none] (S.map tD) = .ok (.own (.l (S1.map enD))) := by
      rw [← hS1]
      refine compD_if (e := tD) (fun P => !decide (P = [])) enD (le_sz (by omega)) fun P hP => ?_
      have e1 := ne_nil_ok (layS P hP)
      have e2 : lenB [.dat (tD P)] = .ok (.dat (.int (P.length : Nat))) := by rw [len_tup, List.length_map]
      generalize (!decide (P = [])) = b at *
      cases b <;> simp only [Fn.evT, List.getElem?_cons_zero, List.getElem?_cons_succ, List.set_cons_zero, List.set_cons_succ, List.length_cons, List.length_nil, Nat.reduceAdd, Nat.reduceLT, Bool.not_true, Bool.not_false, Nat.reduceLeDiff, Int.cast_ofNat_Int, Int.natCast_zero, Int.natCast_one, Int.reduceEq, eq_self, Int.reduceLE, Int.reduceLT, Int.reduceNeg, Int.reduceToNat, Int.toNat_natCast, Int.reduceAdd, Int.reduceSub, Int.reduceMul, Nat.reduceMul, Nat.reduceSub, decide_true, decide_false, Bool.true_and, Bool.false_and, Bool.and_true, Bool.true_or, Bool.false_or, Bool.or_false, not_true_eq_false, not_false_eq_true, if_true, if_false, Bool.false_eq_true, reduceCtorEq, Fn.evS, Option.toList, List.nil_append, List.cons_append, e1, e2]
    have so : sortG [.dat (.lst (S1.map enD))] = .ok (.own (.l (L.map enD))) := by
      rw [sort_l (sortOk2_of (sortOk_en lay1)), hL]
    have c2 : compD (.one 5) yesF (bin2 idxB (varB 5) (litI 1)) [some (.dat (gD ns ps)), some (.dat (.lst (S.map tD))), none, some (.dat (.lst (L.map enD))), none, none] (L.map enD) = .ok (.own (.l (L.map tD))) := by
      refine compD_all (e := enD) tD (le_sz (by omega)) fun P hP => ?_
      have e1 : idxB (.dat (enD P)) (.dat (.int 1)) = .ok (.dat (tD P)) := idx_tup rfl
      simp only [Fn.evT, List.getElem?_cons_zero, List.getElem?_cons_succ, List.set_cons_zero, List.set_cons_succ, List.length_cons, List.length_nil, Nat.reduceAdd, Nat.reduceLT, Bool.not_true, Bool.not_false, Nat.reduceLeDiff, Int.cast_ofNat_Int, Int.natCast_zero, Int.natCast_one, Int.reduceEq, eq_self, Int.reduceLE, Int.reduceLT, Int.reduceNeg, Int.reduceToNat, Int.toNat_natCast, Int.reduceAdd, Int.reduceSub, Int.reduceMul, Nat.reduceMul, Nat.reduceSub, decide_true, decide_false, Bool.true_and, Bool.false_and, Bool.and_true, Bool.true_or, Bool.false_or, Bool.or_false, not_true_eq_false, not_false_eq_true, if_true, if_false, Bool.false_eq_true, reduceCtorEq, Fn.evS, Option.toList, List.nil_append, List.cons_append, e1]
    have g0 : idxB (.dat (gD ns ps)) (.dat (.int 0)) = .ok (.dat (.tup (txs ns))) := idx_tup rfl
    rw [d_parts_of (by rfl)]
    simp only [B_parts_of, Fn.evT, List.getElem?_cons_zero, List.getElem?_cons_succ, List.set_cons_zero, List.set_cons_succ, List.length_cons, List.length_nil, Nat.reduceAdd, Nat.reduceLT, Bool.not_true, Bool.not_false, Nat.reduceLeDiff, Int.cast_ofNat_Int, Int.natCast_zero, Int.natCast_one, Int.reduceEq, eq_self, Int.reduceLE, Int.reduceLT, Int.reduceNeg, Int.reduceToNat, Int.toNat_natCast, Int.reduceAdd, Int.reduceSub, Int.reduceMul, Nat.reduceMul, Nat.reduceSub, decide_true, decide_false, Bool.true_and, Bool.false_and, Bool.and_true, Bool.true_or, Bool.false_or, Bool.or_false, not_true_eq_false, not_false_eq_true, if_true, if_false, Bool.false_eq_true, reduceCtorEq, g0, q1, c1, so, c2]
end P
namespace P
open PySem PySem.Spec PyProof.Rows L2 Fn
def pmR : Nat → List Str → List Str
  | _, [] => []
  | m, x :: xs => if m % 2 = 1 then x :: pmR (m / 2) xs else pmR (m / 2) xs
theorem pmR_zero : ∀ xs : List Str, pmR 0 xs = []
  | [] => rfl
  | x :: xs => by
    unfold pmR
    rw [if_neg (by decide)]
    exact pmR_zero xs
theorem pmR_sub : ∀ (xs : List Str) (m : Nat), (pmR m xs).Sublist xs
  | [], _ => List.Sublist.refl _
  | x :: xs, m => by
    unfold pmR
    split
    · exact (pmR_sub xs _).cons_cons x
    · exact (pmR_sub xs _).cons x
theorem pmR_of : ∀ {P xs : List Str}, P.Sublist xs → ∃ m, m < 2 ^ xs.length ∧ pmR m xs = P
  | _, _, .slnil => ⟨0, by decide, rfl⟩
  | _, _, .cons x h => by
    obtain ⟨m, h1, h2⟩ := pmR_of h
    refine ⟨2 * m, by rw [List.length_cons, Nat.pow_succ]; omega, ?_⟩
    unfold pmR
    rw [if_neg (by omega), show 2 * m / 2 = m by omega, h2]
  | _, _, .cons_cons x h => by
    obtain ⟨m, h1, h2⟩ := pmR_of h
    refine ⟨2 * m + 1, by rw [List.length_cons, Nat.pow_succ]; omega, ?_⟩
    unfold pmR
    rw [if_pos (by omega), show (2 * m + 1) / 2 = m by omega, h2]
theorem pmF_eq : ∀ (xs : List Str) (m : Nat), bitsOf xs m = pmR m xs
  | [], m => rfl
  | x :: xs, m => by
    have ih := pmF_eq xs (m / 2)
    unfold pmR
    unfold bitsOf at ih ⊢
    rw [List.length_cons, List.range_succ_eq_map, List.filter_cons, Nat.pow_zero, Nat.div_one]
    have e : ((List.map Nat.succ (List.range xs.length)).filter fun k => decide (m / 2 ^ k % 2 = 1)).map (fun k => (x :: xs).getD k Str.empty) = pmR (m / 2) xs := by
      rw [← ih, List.filter_map, List.map_map]
      have : ((fun k => decide (m / 2 ^ k % 2 = 1)) ∘ Nat.succ) = fun k => decide (m / 2 / 2 ^ k % 2 = 1) := by
        funext k
        show decide (m / 2 ^ (k + 1) % 2 = 1) = _
        rw [Nat.pow_succ, Nat.mul_comm, ← Nat.div_div_eq_div_mul]
      rw [this]
      rfl
    by_cases h : m % 2 = 1
    · rw [if_pos h, if_pos (decide_eq_true h), List.map_cons, e]
      rfl
    · rw [if_neg h, if_neg (by rw [decide_eq_false h]; decide), e]
def cntP (ps : List (Str × Str)) (P : List Str) : Nat := (ps.filter fun p => decide (p.1 ∈ P) && decide (p.2 ∈ P)).length
def thW (ps : List (Str × Str)) (P : List Str) : Rat := Rat.divInt (cntP ps P : Nat) ((P.length : Int) - 1)
abbrev bestD (ps : List (Str × Str)) (U : List Str) : D := .tup [frD (thW ps U), tD U]
section
variable {ns : List Str} {ps : List (Str × Str)}
theorem cnt_few (G : Gph ns ps) (P : List Str) : cntP ps P ≤ 12 := Nat.le_trans (List.length_filter_le _ _) G.few
theorem th_frB (G : Gph ns ps) {P : List Str} (h2 : 2 ≤ P.length) (h7 : P.length ≤ 7) : FrB (thW ps P) 4 := by
  have := cnt_few G P
  exact divInt_frB (by omega) (by omega) (by omega)
theorem pt_len (G : Gph ns ps) {P : List Str} (h : P.Sublist ns) : P.length ≤ 7 ∧ Lays P := ⟨Nat.le_trans h.length_le G.le, fun x hx => G.nm.lay x (h.subset hx)⟩
def BestOf (ps : List (Str × Str)) (S : List (List Str)) (b : D) : Prop := (b = .non ∧ ∀ P ∈ S, P.length < 2) ∨ ∃ U ∈ S, 2 ≤ U.length ∧ b = bestD ps U ∧ ∀ P ∈ S, 2 ≤ P.length → thW ps P ≤ thW ps U
theorem th_step (G : Gph ns ps) {S : List (List Str)} (hS : ∀ P ∈ S, P.Sublist ns) {b : D} (hb : BestOf ps S b) {P : List Str} (hP : P.Sublist ns) : ∃ b', BestOf ps (S ++ [P]) b' ∧ B_thickest_1 [some (.dat (gD ns ps)), some (.dat b), some (.dat (tD P)), none] = .nx [some (.dat (gD ns ps)), some (.dat b'), none, none] := by
  obtain ⟨p7, pl⟩ := pt_len G hP
  have e2 : lenB [.dat (tD P)] = .ok (.dat (.int (P.length : Nat))) := by rw [len_tup, List.length_map]
  have in1 : isNone .non = true := rfl
  have in2 : ∀ U : List Str, isNone (bestD ps U) = false := fun U => rfl
  by_cases c : (P.length : Int) > 1
  · have dc := decide_eq_true c
    have wi := within_spec G P pl
    have hw : (List.filter (fun p => decide (p.1 ∈ P) && decide (p.2 ∈ P)) ps).length = cntP ps P := rfl
    rw [hw] at wi
    haveI : ISz (P.length : Int) 4 := isz_of (by omega) (by omega)
    have few := cnt_few G P
    have fs := fraction_spec (cntP ps P : Nat) ((P.length : Int) - 1) (by omega) (Nat.lt_of_lt_of_le (show _ < 2 ^ 4 by omega) (Nat.pow_le_pow_right (by decide) (by decide)))
    have fe : Rat.divInt (cntP ps P : Nat) ((P.length : Int) - 1) = thW ps P := rfl
    rw [fe] at fs
    have bP := th_frB G (P := P) (by omega) p7
    rcases hb with ⟨rfl, h0⟩ | ⟨U, hU, u2, rfl, h1⟩
    · refine ⟨bestD ps P, .inr ⟨P, by simp, by omega, rfl, fun Q hQ q2 => ?_⟩, ?_⟩
      · rcases List.mem_append.mp hQ with hQ | hQ
        · have := h0 Q hQ; omega
        · rw [List.mem_singleton.mp hQ]; exact Rat.le_refl
      · simp only [B_thickest_1, Fn.evT, List.getElem?_cons_zero, List.getElem?_cons_succ, List.set_cons_zero, List.set_cons_succ, List.length_cons, List.length_nil, Nat.reduceAdd, Nat.reduceLT, Bool.not_true, Bool.not_false, Nat.reduceLeDiff, Int.cast_ofNat_Int, Int.natCast_zero, Int.natCast_one, Int.reduceEq, eq_self, Int.reduceLE, Int.reduceLT, Int.reduceNeg, Int.reduceToNat, Int.toNat_natCast, Int.reduceAdd, Int.reduceSub, Int.reduceMul, Nat.reduceMul, Nat.reduceSub, decide_true, decide_false, Bool.true_and, Bool.false_and, Bool.and_true, Bool.true_or, Bool.false_or, Bool.or_false, not_true_eq_false, not_false_eq_true, if_true, if_false, Bool.false_eq_true, reduceCtorEq, e2, dc, c_within, wi, c_fraction, fs, in1]
    · have bU := th_frB G (P := U) u2 (pt_len G (hS U hU)).1
      have bl := below_spec bU bP (by decide)
      have ix : idxB (.dat (bestD ps U)) (.dat (.int 0)) = .ok (.dat (frD (thW ps U))) := idx_tup rfl
      by_cases lt : thW ps U < thW ps P
      · rw [decide_eq_true lt] at bl
        refine ⟨bestD ps P, .inr ⟨P, by simp, by omega, rfl, fun Q hQ q2 => ?_⟩, ?_⟩
        · rcases List.mem_append.mp hQ with hQ | hQ
          · have := h1 Q hQ q2; grind
          · rw [List.mem_singleton.mp hQ]; exact Rat.le_refl
        · simp only [B_thickest_1, Fn.evT, List.getElem?_cons_zero, List.getElem?_cons_succ, List.set_cons_zero, List.set_cons_succ, List.length_cons, List.length_nil, Nat.reduceAdd, Nat.reduceLT, Bool.not_true, Bool.not_false, Nat.reduceLeDiff, Int.cast_ofNat_Int, Int.natCast_zero, Int.natCast_one, Int.reduceEq, eq_self, Int.reduceLE, Int.reduceLT, Int.reduceNeg, Int.reduceToNat, Int.toNat_natCast, Int.reduceAdd, Int.reduceSub, Int.reduceMul, Nat.reduceMul, Nat.reduceSub, decide_true, decide_false, Bool.true_and, Bool.false_and, Bool.and_true, Bool.true_or, Bool.false_or, Bool.or_false, not_true_eq_false, not_false_eq_true, if_true, if_false, Bool.false_eq_true, reduceCtorEq, e2, dc, c_within, wi, c_fraction, fs, in2, ix, c_below, bl]
      · rw [decide_eq_false lt] at bl
        refine ⟨bestD ps U, .inr ⟨U, by simp [hU], u2, rfl, fun Q hQ q2 => ?_⟩, ?_⟩
        · rcases List.mem_append.mp hQ with hQ | hQ
          · exact h1 Q hQ q2
          · rw [List.mem_singleton.mp hQ]; exact Rat.not_lt.mp lt
        · simp only [B_thickest_1, Fn.evT, List.getElem?_cons_zero, List.getElem?_cons_succ, List.set_cons_zero, List.set_cons_succ, List.length_cons, List.length_nil, Nat.reduceAdd, Nat.reduceLT, Bool.not_true, Bool.not_false, Nat.reduceLeDiff, Int.cast_ofNat_Int, Int.natCast_zero, Int.natCast_one, Int.reduceEq, eq_self, Int.reduceLE, Int.reduceLT, Int.reduceNeg, Int.reduceToNat, Int.toNat_natCast, Int.reduceAdd, Int.reduceSub, Int.reduceMul, Nat.reduceMul, Nat.reduceSub, decide_true, decide_false, Bool.true_and, Bool.false_and, Bool.and_true, Bool.true_or, Bool.false_or, Bool.or_false, not_true_eq_false, not_false_eq_true, if_true, if_false, Bool.false_eq_true, reduceCtorEq, e2, dc, c_within, wi, c_fraction, fs, in2, ix, c_below, bl]
  · have dc := decide_eq_false c
    refine ⟨b, ?_, by simp only [B_thickest_1, Fn.evT, List.getElem?_cons_zero, List.getElem?_cons_succ, List.set_cons_zero, List.set_cons_succ, List.length_cons, List.length_nil, Nat.reduceAdd, Nat.reduceLT, Bool.not_true, Bool.not_false, Nat.reduceLeDiff, Int.cast_ofNat_Int, Int.natCast_zero, Int.natCast_one, Int.reduceEq, eq_self, Int.reduceLE, Int.reduceLT, Int.reduceNeg, Int.reduceToNat, Int.toNat_natCast, Int.reduceAdd, Int.reduceSub, Int.reduceMul, Nat.reduceMul, Nat.reduceSub, decide_true, decide_false, Bool.true_and, Bool.false_and, Bool.and_true, Bool.true_or, Bool.false_or, Bool.or_false, not_true_eq_false, not_false_eq_true, if_true, if_false, Bool.false_eq_true, reduceCtorEq, e2, dc]⟩
    rcases hb with ⟨rfl, h0⟩ | ⟨U, hU, u2, rfl, h1⟩
    · refine .inl ⟨rfl, fun Q hQ => ?_⟩
      rcases List.mem_append.mp hQ with hQ | hQ
      · exact h0 Q hQ
      · rw [List.mem_singleton.mp hQ]; omega
    · refine .inr ⟨U, by simp [hU], u2, rfl, fun Q hQ q2 => ?_⟩
      rcases List.mem_append.mp hQ with hQ | hQ
      · exact h1 Q hQ q2
      · rw [List.mem_singleton.mp hQ] at q2; omega
theorem thickest_spec (G : Gph ns ps) (n2 : 2 ≤ ns.length) : ∃ U : List Str, U.Sublist ns ∧ 2 ≤ U.length ∧ (∀ P : List Str, P.Sublist ns → 2 ≤ P.length → thW ps P ≤ thW ps U) ∧ E_thickest.F [.dat (gD ns ps)] = .ok (.dat (bestD ps U)) := by
  obtain ⟨L, hL, _, l4, e⟩ := parts_of_spec G
  have hle := G.le
  have sub : ∀ i, ∀ P ∈ L.take i, P.Sublist ns := fun i P hP => ((hL P).mp (List.mem_of_mem_take hP)).2
  obtain ⟨ρ', q1, b, rfl, hb⟩ := loop_all (t := .one 2) (body := B_thickest_1) (ds := L.map tD) (fun i ρ => ∃ b, ρ = [some (.dat (gD ns ps)), some (.dat b), none, none] ∧ BestOf ps (L.take i) b) (ρ := [some (.dat (gD ns ps)), some (.dat .non), none, none]) ⟨.non, rfl, .inl ⟨rfl, fun P hP => by cases hP⟩⟩ (by
    rintro i d ρ hd ⟨b, rfl, hb⟩
    obtain ⟨P, hP, rfl⟩ : ∃ P, L[i]? = some P ∧ d = tD P := by
      rw [List.getElem?_map] at hd
      cases e : L[i]? with
      | none => rw [e] at hd; cases hd
      | some x => rw [e] at hd; exact ⟨x, rfl, (Option.some.inj hd).symm⟩
    obtain ⟨b', h1, h2⟩ := th_step G (sub i) hb ((hL P).mp (List.mem_of_getElem? hP)).2
    refine ⟨_, _, bt_one, .inl h2, b', rfl, ?_⟩
    rw [List.take_add_one, hP]
    exact h1)
  rw [List.length_map, List.take_length] at hb
  have g0 : idxB (.dat (gD ns ps)) (.dat (.int 0)) = .ok (.dat (.tup (txs ns))) := idx_tup rfl
  have ln : lenB [.dat (.tup (txs ns))] = .ok (.dat (.int (ns.length : Nat))) := by rw [len_tup, List.length_map]
  have dl : decide ((ns.length : Int) < 2) = false := decide_eq_false (by omega)
  have self : ns ∈ L := (hL ns).mpr ⟨fun z => by rw [z] at n2; simp at n2, List.Sublist.refl _⟩
  rcases hb with ⟨rfl, h0⟩ | ⟨U, hU, u2, rfl, h1⟩
  · have := h0 ns self; omega
  · refine ⟨U, ((hL U).mp hU).2, u2, fun P hP p2 => h1 P ((hL P).mpr ⟨fun z => by rw [z] at p2; simp at p2, hP⟩) p2, ?_⟩
    rw [d_thickest (by rfl)]
    simp only [B_thickest, Fn.evT, List.getElem?_cons_zero, List.getElem?_cons_succ, List.set_cons_zero, List.set_cons_succ, List.length_cons, List.length_nil, Nat.reduceAdd, Nat.reduceLT, Bool.not_true, Bool.not_false, Nat.reduceLeDiff, Int.cast_ofNat_Int, Int.natCast_zero, Int.natCast_one, Int.reduceEq, eq_self, Int.reduceLE, Int.reduceLT, Int.reduceNeg, Int.reduceToNat, Int.toNat_natCast, Int.reduceAdd, Int.reduceSub, Int.reduceMul, Nat.reduceMul, Nat.reduceSub, decide_true, decide_false, Bool.true_and, Bool.false_and, Bool.and_true, Bool.true_or, Bool.false_or, Bool.or_false, not_true_eq_false, not_false_eq_true, if_true, if_false, Bool.false_eq_true, reduceCtorEq, g0, ln, dl, c_parts_of, e, q1]
theorem thickest_no (G : Gph ns ps) (n1 : ns.length = 1) : E_thickest.F [.dat (gD ns ps)] = .exc 9 := by
  have g0 : idxB (.dat (gD ns ps)) (.dat (.int 0)) = .ok (.dat (.tup (txs ns))) := idx_tup rfl
  have ln : lenB [.dat (.tup (txs ns))] = .ok (.dat (.int 1)) := by rw [len_tup, List.length_map, n1]; rfl
  rw [d_thickest (by rfl)]
  simp (decide := true) only [B_thickest, Fn.evT, List.getElem?_cons_zero, List.getElem?_cons_succ, List.set_cons_zero, List.set_cons_succ, List.length_cons, List.length_nil, Nat.reduceAdd, Nat.reduceLT, Bool.not_true, Bool.not_false, Nat.reduceLeDiff, Int.cast_ofNat_Int, Int.natCast_zero, Int.natCast_one, Int.reduceEq, eq_self, Int.reduceLE, Int.reduceLT, Int.reduceNeg, Int.reduceToNat, Int.toNat_natCast, Int.reduceAdd, Int.reduceSub, Int.reduceMul, Nat.reduceMul, Nat.reduceSub, decide_true, decide_false, Bool.true_and, Bool.false_and, Bool.and_true, Bool.true_or, Bool.false_or, Bool.or_false, not_true_eq_false, not_false_eq_true, if_true, if_false, Bool.false_eq_true, reduceCtorEq, g0, ln]
theorem leans_no (G : Gph ns ps) (n1 : ns.length = 1) : E_thickness_leans.F [.dat (gD ns ps)] = .exc 9 := by
  have th := thickest_no G n1
  rw [d_thickness_leans (by rfl)]
  simp only [B_thickness_leans, Fn.evT, List.getElem?_cons_zero, List.getElem?_cons_succ, List.set_cons_zero, List.set_cons_succ, List.length_cons, List.length_nil, Nat.reduceAdd, Nat.reduceLT, Bool.not_true, Bool.not_false, Nat.reduceLeDiff, Int.cast_ofNat_Int, Int.natCast_zero, Int.natCast_one, Int.reduceEq, eq_self, Int.reduceLE, Int.reduceLT, Int.reduceNeg, Int.reduceToNat, Int.toNat_natCast, Int.reduceAdd, Int.reduceSub, Int.reduceMul, Nat.reduceMul, Nat.reduceSub, decide_true, decide_false, Bool.true_and, Bool.false_and, Bool.and_true, Bool.true_or, Bool.false_or, Bool.or_false, not_true_eq_false, not_false_eq_true, if_true, if_false, Bool.false_eq_true, reduceCtorEq, c_thickest, th]
def callIK (e1 e2 : En) (r : Res Fn.B) (fs : Fn.Env → Res (List Fn.B)) (ρ : Fn.Env) : Res Fn.B := r.bind fun bk => match rd bk with
  | .dat (.int 0) => (fs ρ).bind fun bs => (lenA e1.n bs).bind (callV e1)
  | .dat (.int 1) => (fs ρ).bind fun bs => (lenA e2.n bs).bind (callV e2)
  | _ => .bad
theorem e_callI {e1 e2 : En} {fk : Fn.Env → Res Fn.B} {fs : Fn.Env → Res (List Fn.B)} {ρ : Fn.Env} : callI e1 e2 fk fs ρ = callIK e1 e2 (fk ρ) fs ρ := (rfl)
theorem callIK_0 {e1 e2 : En} {fs : Fn.Env → Res (List Fn.B)} {ρ : Fn.Env} : callIK e1 e2 (.ok (.dat (.int 0))) fs ρ = ownF e1 fs ρ := (rfl)
theorem callIK_1 {e1 e2 : En} {fs : Fn.Env → Res (List Fn.B)} {ρ : Fn.Env} : callIK e1 e2 (.ok (.dat (.int 1))) fs ρ = ownF e2 fs ρ := (rfl)
theorem refused_0 (G : Gph ns ps) (n1 : ns.length = 1) : E_law_refused_v6.F [.dat (.int 0), .dat (gD ns ps)] = .ok (.dat (.bl true)) := by
  have th := thickest_no G n1
  rw [d_law_refused_v6 (by rfl)]
  simp (decide := true) only [B_law_refused_v6, B_law_refused_v6_1, B_law_refused_v6_2, Fn.evT, List.getElem?_cons_zero, List.getElem?_cons_succ, List.set_cons_zero, List.set_cons_succ, List.length_cons, List.length_nil, Nat.reduceAdd, Nat.reduceLT, Bool.not_true, Bool.not_false, Nat.reduceLeDiff, Int.cast_ofNat_Int, Int.natCast_zero, Int.natCast_one, Int.reduceEq, eq_self, Int.reduceLE, Int.reduceLT, Int.reduceNeg, Int.reduceToNat, Int.toNat_natCast, Int.reduceAdd, Int.reduceSub, Int.reduceMul, Nat.reduceMul, Nat.reduceSub, decide_true, decide_false, Bool.true_and, Bool.false_and, Bool.and_true, Bool.true_or, Bool.false_or, Bool.or_false, not_true_eq_false, not_false_eq_true, if_true, if_false, Bool.false_eq_true, reduceCtorEq, e_callI, callIK_0, c_thickest, th]
theorem refused_1 (G : Gph ns ps) (n1 : ns.length = 1) : E_law_refused_v6.F [.dat (.int 1), .dat (gD ns ps)] = .ok (.dat (.bl true)) := by
  have th := leans_no G n1
  rw [d_law_refused_v6 (by rfl)]
  simp (decide := true) only [B_law_refused_v6, B_law_refused_v6_1, B_law_refused_v6_2, Fn.evT, List.getElem?_cons_zero, List.getElem?_cons_succ, List.set_cons_zero, List.set_cons_succ, List.length_cons, List.length_nil, Nat.reduceAdd, Nat.reduceLT, Bool.not_true, Bool.not_false, Nat.reduceLeDiff, Int.cast_ofNat_Int, Int.natCast_zero, Int.natCast_one, Int.reduceEq, eq_self, Int.reduceLE, Int.reduceLT, Int.reduceNeg, Int.reduceToNat, Int.toNat_natCast, Int.reduceAdd, Int.reduceSub, Int.reduceMul, Nat.reduceMul, Nat.reduceSub, decide_true, decide_false, Bool.true_and, Bool.false_and, Bool.and_true, Bool.true_or, Bool.false_or, Bool.or_false, not_true_eq_false, not_false_eq_true, if_true, if_false, Bool.false_eq_true, reduceCtorEq, e_callI, callIK_1, c_thickness_leans, th]
def kP (P : List Str) : List Key := P.map .inr
theorem kP_inj {P Q : List Str} (h : kP P = kP Q) : P = Q := (List.map_inj_right (fun x y z => Sum.inr.inj z)).mp h
theorem tkey_tD : ∀ P : List Str, tkey (.dat (tD P)) = some (kP P) := by
  intro P
  show tkeyL (P.map .str) = some (P.map .inr)
  induction P with
  | nil => rfl
  | cons x P ih =>
    show (match keyD (.str x), tkeyL (P.map .str) with | some k, some ks => some (k :: ks) | _, _ => none) = _
    rw [ih]
    rfl
abbrev kwP (ps : List (Str × Str)) (P : List Str) : List Key × D := (kP P, frD (thW ps P))
theorem put_kw (ks : List (List Str)) (P : List Str) : putD (ks.map (kwP ps)) (kP P) (frD (thW ps P)) = (if P ∈ ks then ks else ks ++ [P]).map (kwP ps) := by
  unfold putD
  have e1 : ((ks.map (kwP ps)).any fun kv => decide (kv.1 = kP P)) = decide (P ∈ ks) := by
    rw [List.any_map]
    induction ks with
    | nil => rfl
    | cons q qs ih =>
      rw [List.any_cons, ih]
      simp only [Function.comp, List.mem_cons]
      by_cases h : q = P
      · subst h; simp
      · have h' : ¬ P = q := fun z => h z.symm
        have h2 : ¬ kP q = kP P := fun z => h (kP_inj z)
        simp [h2, h']
  rw [e1]
  by_cases h : P ∈ ks
  · rw [if_pos (decide_eq_true h), if_pos h]
    rw [List.map_map]
    refine List.map_congr_left fun q _ => ?_
    show (if kP q = kP P then (kP q, frD (thW ps P)) else kwP ps q) = kwP ps q
    split
    · rename_i z; rw [kP_inj z]
    · rfl
  · rw [if_neg (by rw [decide_eq_false h]; decide), if_neg h, List.map_append]
    rfl
theorem get_kw {ks : List (List Str)} {P : List Str} (h : P ∈ ks) : getK (ks.map (kwP ps)) (kP P) = some (frD (thW ps P)) := by
  induction ks with
  | nil => cases h
  | cons q qs ih =>
    unfold getK at ih ⊢
    rw [List.map_cons, List.find?_cons]
    by_cases e : q = P
    · subst e
      simp
    · have h2 : ¬ kP q = kP P := fun z => e (kP_inj z)
      rw [show decide ((kwP ps q).1 = kP P) = false from decide_eq_false h2]
      exact ih ((List.mem_cons.mp h).resolve_left fun z => e z.symm)
theorem bits_sub (m : Nat) : (bitsOf ns m).Sublist ns := by
  rw [pmF_eq]
  exact pmR_sub ns m
theorem sub_bits {P : List Str} (h : P.Sublist ns) (h0 : P ≠ []) : ∃ j < 2 ^ ns.length - 1, bitsOf ns (1 + j) = P := by
  obtain ⟨m, h1, h2⟩ := pmR_of h
  have : m ≠ 0 := fun z => h0 (by rw [← h2, z, pmR_zero])
  exact ⟨m - 1, by omega, by rw [show 1 + (m - 1) = m by omega, pmF_eq, h2]⟩
theorem dict_step (G : Gph ns ps) {P : List Str} (hP : P.Sublist ns) {ks : List (List Str)} (hk : ks.length ≤ 300) (r0 r1 r5 r6 : Option Fn.B) :
    B_law_1 [r0, r1, some (.dat (gD ns ps)), some (.own (.t (ks.map (kwP ps)))), some (.dat (tD P)), r5, r6] = .nx [r0, r1, some (.dat (gD ns ps)), some (.own (.t ((if 2 ≤ P.length ∧ P ∉ ks then ks ++ [P] else ks).map (kwP ps)))), some (.dat (tD P)), r5, r6] := by
  obtain ⟨p7, pl⟩ := pt_len G hP
  have e2 : lenB [.dat (tD P)] = .ok (.dat (.int (P.length : Nat))) := by rw [len_tup, List.length_map]
  by_cases c : (P.length : Int) > 1
  · have dc := decide_eq_true c
    have wi := law_within_spec G P pl
    have hw : (List.filter (fun p => decide (p.1 ∈ P) && decide (p.2 ∈ P)) ps).length = cntP ps P := rfl
    rw [hw] at wi
    haveI : ISz (P.length : Int) 4 := isz_of (by omega) (by omega)
    have few := cnt_few G P
    have fs := law_low_spec (cntP ps P : Nat) ((P.length : Int) - 1) (by omega) (Nat.lt_of_lt_of_le (show _ < 2 ^ 4 by omega) (Nat.pow_le_pow_right (by decide) (by decide)))
    have fe : Rat.divInt (cntP ps P : Nat) ((P.length : Int) - 1) = thW ps P := rfl
    rw [fe] at fs
    have sto : storeM (.t (ks.map (kwP ps))) (.dat (tD P)) (frD (thW ps P)) = some (.t ((if P ∈ ks then ks else ks ++ [P]).map (kwP ps))) := by
      show (match tkey (.dat (tD P)) with | some q => (if (ks.map (kwP ps)).length < sizeLine then some (M.t (putD (ks.map (kwP ps)) q (frD (thW ps P)))) else none) | none => none) = _
      rw [tkey_tD]
      dsimp only
      rw [if_pos (small1000 (by rw [List.length_map]; omega)), put_kw]
    have ei : (if 2 ≤ P.length ∧ P ∉ ks then ks ++ [P] else ks) = if P ∈ ks then ks else ks ++ [P] := by
      by_cases m : P ∈ ks
      · rw [if_neg (fun z => z.2 m), if_pos m]
      · rw [if_pos ⟨by omega, m⟩, if_neg m]
    rw [ei]
    simp only [B_law_1, Fn.evT, List.getElem?_cons_zero, List.getElem?_cons_succ, List.set_cons_zero, List.set_cons_succ, List.length_cons, List.length_nil, Nat.reduceAdd, Nat.reduceLT, Bool.not_true, Bool.not_false, Nat.reduceLeDiff, Int.cast_ofNat_Int, Int.natCast_zero, Int.natCast_one, Int.reduceEq, eq_self, Int.reduceLE, Int.reduceLT, Int.reduceNeg, Int.reduceToNat, Int.toNat_natCast, Int.reduceAdd, Int.reduceSub, Int.reduceMul, Nat.reduceMul, Nat.reduceSub, decide_true, decide_false, Bool.true_and, Bool.false_and, Bool.and_true, Bool.true_or, Bool.false_or, Bool.or_false, not_true_eq_false, not_false_eq_true, if_true, if_false, Bool.false_eq_true, reduceCtorEq, e2, dc, c_law_within, wi, c_law_low, fs, sto]
  · have dc := decide_eq_false c
    rw [if_neg (fun z => c (by omega))]
    simp only [B_law_1, Fn.evT, List.getElem?_cons_zero, List.getElem?_cons_succ, List.set_cons_zero, List.set_cons_succ, List.length_cons, List.length_nil, Nat.reduceAdd, Nat.reduceLT, Bool.not_true, Bool.not_false, Nat.reduceLeDiff, Int.cast_ofNat_Int, Int.natCast_zero, Int.natCast_one, Int.reduceEq, eq_self, Int.reduceLE, Int.reduceLT, Int.reduceNeg, Int.reduceToNat, Int.toNat_natCast, Int.reduceAdd, Int.reduceSub, Int.reduceMul, Nat.reduceMul, Nat.reduceSub, decide_true, decide_false, Bool.true_and, Bool.false_and, Bool.and_true, Bool.true_or, Bool.false_or, Bool.or_false, not_true_eq_false, not_false_eq_true, if_true, if_false, Bool.false_eq_true, reduceCtorEq, e2, dc]
theorem dict_run (G : Gph ns ps) (r0 r1 r5 r6 : Option Fn.B) : ∀ {L : List (List Str)} {ks : List (List Str)} {z : Option Fn.B}, (∀ P ∈ L, P.Sublist ns) → ks.length + L.length ≤ 300 → (∀ P ∈ ks, P.Sublist ns ∧ 2 ≤ P.length) →
    ∃ (ks' : List (List Str)) (r4 : Option Fn.B), (∀ P, (P ∈ L ∧ 2 ≤ P.length) ∨ P ∈ ks → P ∈ ks') ∧ (∀ P ∈ ks', P.Sublist ns ∧ 2 ≤ P.length) ∧ ks'.length ≤ 300 ∧ loopF (.one 4) B_law_1 (L.map tD) [r0, r1, some (.dat (gD ns ps)), some (.own (.t (ks.map (kwP ps)))), z, r5, r6] = .nx [r0, r1, some (.dat (gD ns ps)), some (.own (.t (ks'.map (kwP ps)))), r4, r5, r6] := by
  intro L
  induction L with
  | nil =>
    intro ks z _ hl hk
    exact ⟨ks, z, fun P h => h.elim (fun h => by cases h.1) id, hk, by simpa using hl, rfl⟩
  | cons P L ih =>
    intro ks z hL hl hk
    rw [List.length_cons] at hl
    have hP := hL P List.mem_cons_self
    have st := dict_step G hP (ks := ks) (by omega) r0 r1 r5 r6
    obtain ⟨ks', r4, q1, q2, q3, q4⟩ := ih (ks := if 2 ≤ P.length ∧ P ∉ ks then ks ++ [P] else ks) (z := some (.dat (tD P))) (fun Q hQ => hL Q (List.mem_cons_of_mem _ hQ)) (by split <;> (try rw [List.length_append, List.length_singleton]) <;> omega) (by
      split
      · rename_i c
        intro Q hQ
        rcases List.mem_append.mp hQ with hQ | hQ
        · exact hk Q hQ
        · rw [List.mem_singleton.mp hQ]; exact ⟨hP, c.1⟩
      · exact hk)
    refine ⟨ks', r4, fun Q hQ => ?_, q2, q3, ?_⟩
    · rcases hQ with ⟨hQ, q2⟩ | hQ
      · rcases List.mem_cons.mp hQ with rfl | hQ
        · refine q1 Q (.inr ?_)
          by_cases m : Q ∈ ks
          · rw [if_neg fun z => z.2 m]; exact m
          · rw [if_pos ⟨q2, m⟩]; simp
        · exact q1 Q (.inl ⟨hQ, q2⟩)
      · refine q1 Q (.inr ?_)
        split
        · exact List.mem_append_left _ hQ
        · exact hQ
    · rw [List.map_cons, loop_one (ρ' := [r0, r1, some (.dat (gD ns ps)), some (.own (.t (ks.map (kwP ps)))), some (.dat (tD P)), r5, r6]) bt_one, st]
      exact q4
end
theorem kD_kP (P : List Str) : kD (kP P) = tD P := by
  show D.tup ((P.map Sum.inr).map keyB) = D.tup (P.map .str)
  rw [List.map_map]
  rfl
theorem graph_turn (sc : List Int) (k : Nat) (hk : k < 6) (r4 : Option Fn.B) : ∃ r4', B_law_2 [some (.scr sc), some (.dat (.int (k : Nat))), none, none, r4, none, none] = .nx [some (.scr sc), none, none, none, r4', none, none] := by
  obtain ⟨c, hc⟩ := cell_spec sc (k : Int) (by omega) (by omega)
  obtain ⟨xs, hx, hb, hn⟩ := numbers_spec c 20 (by decide) (by decide)
  obtain ⟨ns, ps, G, _, hg⟩ := graph_spec xs (by omega) 7 (by decide) (by decide)
  have hle := G.le
  have hpos := G.pos
  have g0 : idxB (.dat (gD ns ps)) (.dat (.int 0)) = .ok (.dat (.tup (txs ns))) := idx_tup rfl
  have ln : lenB [.dat (.tup (txs ns))] = .ok (.dat (.int (ns.length : Nat))) := by rw [len_tup, List.length_map]
  by_cases n1 : ns.length = 1
  · have d1 : decide ((ns.length : Int) = 1) = true := decide_eq_true (by omega)
    have r0 := refused_0 G n1
    have r1 := refused_1 G n1
    refine ⟨r4, ?_⟩
    simp only [B_law_2, Fn.evT, List.getElem?_cons_zero, List.getElem?_cons_succ, List.set_cons_zero, List.set_cons_succ, List.length_cons, List.length_nil, Nat.reduceAdd, Nat.reduceLT, Bool.not_true, Bool.not_false, Nat.reduceLeDiff, Int.cast_ofNat_Int, Int.natCast_zero, Int.natCast_one, Int.reduceEq, eq_self, Int.reduceLE, Int.reduceLT, Int.reduceNeg, Int.reduceToNat, Int.toNat_natCast, Int.reduceAdd, Int.reduceSub, Int.reduceMul, Nat.reduceMul, Nat.reduceSub, decide_true, decide_false, Bool.true_and, Bool.false_and, Bool.and_true, Bool.true_or, Bool.false_or, Bool.or_false, not_true_eq_false, not_false_eq_true, if_true, if_false, Bool.false_eq_true, reduceCtorEq, c_law_cell, hc, c_law_numbers, hn, c_law_graph, hg, g0, ln, d1, c_law_refused_v6, r0, r1]
  · have d1 : decide ((ns.length : Int) = 1) = false := decide_eq_false (by omega)
    obtain ⟨U, hU, u2, best, th⟩ := thickest_spec G (by omega)
    have pr := parts_spec G
    have hcard : 2 ^ ns.length ≤ 2 ^ 7 := Nat.pow_le_pow_right (by decide) hle
    have h128 : (2 : Nat) ^ 7 = 128 := rfl
    obtain ⟨ks, r4', q1, q2, q3, q4⟩ := dict_run G (some (.scr sc)) (some (.dat (.int (k : Nat)))) none none (L := (List.range (2 ^ ns.length - 1)).map fun j => bitsOf ns (1 + j)) (ks := []) (z := r4) (fun P hP => by
      obtain ⟨j, _, rfl⟩ := List.mem_map.mp hP
      exact bits_sub _) (by rw [List.length_map, List.length_range, List.length_nil]; omega) (fun P hP => by cases hP)
    rw [List.map_map] at q4
    have q4 : loopF (.one 4) B_law_1 ((List.range (2 ^ ns.length - 1)).map fun j => .tup (txs (bitsOf ns (1 + j)))) [some (.scr sc), some (.dat (.int (k : Nat))), some (.dat (gD ns ps)), some (.own (.t [])), r4, none, none] = _ := q4
    have memU : U ∈ ks := q1 U (.inl ⟨by
      obtain ⟨j, hj, e⟩ := sub_bits hU (fun z => by rw [z] at u2; simp at u2)
      exact List.mem_map.mpr ⟨j, List.mem_range.mpr hj, e⟩, u2⟩)
    have bU := th_frB G u2 (pt_len G hU).1
    have t1 : isiB .tuple (.dat (bestD ps U)) = .ok (.dat (.bl true)) := (rfl)
    have l2 : lenB [.dat (bestD ps U)] = .ok (.dat (.int 2)) := (rfl)
    have i0 : idxB (.dat (bestD ps U)) (.dat (.int 0)) = .ok (.dat (frD (thW ps U))) := idx_tup rfl
    have i1 : idxB (.dat (bestD ps U)) (.dat (.int 1)) = .ok (.dat (tD U)) := idx_tup rfl
    have gt : ∀ r : Option Fn.B, dgetTV (varB 3) (bin2 idxB (varB 5) (litI 1)) litN [some (.scr sc), some (.dat (.int (k : Nat))), some (.dat (gD ns ps)), some (.dat (.lt (ks.map (kwP ps)))), r, some (.dat (bestD ps U)), none] = .ok (.dat (frD (thW ps U))) := fun r => by
      rw [dgetT_lt (kvs := ks.map (kwP ps)) (kd := tD U) (z := .non) (q := kP U) (by simp only [Fn.evT, List.getElem?_cons_zero, List.getElem?_cons_succ, List.set_cons_zero, List.set_cons_succ, List.length_cons, List.length_nil, Nat.reduceAdd, Nat.reduceLT, Bool.not_true, Bool.not_false, Nat.reduceLeDiff, Int.cast_ofNat_Int, Int.natCast_zero, Int.natCast_one, Int.reduceEq, eq_self, Int.reduceLE, Int.reduceLT, Int.reduceNeg, Int.reduceToNat, Int.toNat_natCast, Int.reduceAdd, Int.reduceSub, Int.reduceMul, Nat.reduceMul, Nat.reduceSub, decide_true, decide_false, Bool.true_and, Bool.false_and, Bool.and_true, Bool.true_or, Bool.false_or, Bool.or_false, not_true_eq_false, not_false_eq_true, if_true, if_false, Bool.false_eq_true, reduceCtorEq, Fn.evS, Option.toList, List.nil_append, List.cons_append]) (by simp only [Fn.evT, List.getElem?_cons_zero, List.getElem?_cons_succ, List.set_cons_zero, List.set_cons_succ, List.length_cons, List.length_nil, Nat.reduceAdd, Nat.reduceLT, Bool.not_true, Bool.not_false, Nat.reduceLeDiff, Int.cast_ofNat_Int, Int.natCast_zero, Int.natCast_one, Int.reduceEq, eq_self, Int.reduceLE, Int.reduceLT, Int.reduceNeg, Int.reduceToNat, Int.toNat_natCast, Int.reduceAdd, Int.reduceSub, Int.reduceMul, Nat.reduceMul, Nat.reduceSub, decide_true, decide_false, Bool.true_and, Bool.false_and, Bool.and_true, Bool.true_or, Bool.false_or, Bool.or_false, not_true_eq_false, not_false_eq_true, if_true, if_false, Bool.false_eq_true, reduceCtorEq, Fn.evS, Option.toList, List.nil_append, List.cons_append, i1]) (by simp only [Fn.evT, List.getElem?_cons_zero, List.getElem?_cons_succ, List.set_cons_zero, List.set_cons_succ, List.length_cons, List.length_nil, Nat.reduceAdd, Nat.reduceLT, Bool.not_true, Bool.not_false, Nat.reduceLeDiff, Int.cast_ofNat_Int, Int.natCast_zero, Int.natCast_one, Int.reduceEq, eq_self, Int.reduceLE, Int.reduceLT, Int.reduceNeg, Int.reduceToNat, Int.toNat_natCast, Int.reduceAdd, Int.reduceSub, Int.reduceMul, Nat.reduceMul, Nat.reduceSub, decide_true, decide_false, Bool.true_and, Bool.false_and, Bool.and_true, Bool.true_or, Bool.false_or, Bool.or_false, not_true_eq_false, not_false_eq_true, if_true, if_false, Bool.false_eq_true, reduceCtorEq, Fn.evS, Option.toList, List.nil_append, List.cons_append]) (tkey_tD U), get_kw memU]
      rfl
    have nf : neB (.dat (frD (thW ps U))) (.dat (frD (thW ps U))) = .ok (.dat (.bl false)) := ne_self_ (shp_fr _) (by decide)
    have ks2 : (ks.map (kwP ps)).map (fun kv => kD kv.1) = ks.map tD := by
      rw [List.map_map]
      exact List.map_congr_left fun P _ => kD_kP P
    have c1 : compD (.one 4) yesF (ownF E_law_is_less (consA (bin2 idxB (varB 5) (litI 0)) (consA (bin2 idxB (varB 3) (varB 4)) nilA))) [some (.scr sc), some (.dat (.int (k : Nat))), some (.dat (gD ns ps)), some (.dat (.lt (ks.map (kwP ps)))), none, some (.dat (bestD ps U)), none] (ks.map tD) = .ok (.own (.l (ks.map fun _ => .bl false))) := by
      refine compD_all (e := tD) (fun _ => .bl false) (le_sz (by omega)) fun P hP => ?_
      obtain ⟨p1, p2⟩ := q2 P hP
      have ls := law_less_spec bU (th_frB G p2 (pt_len G p1).1) (by decide)
      rw [decide_eq_false (Rat.not_lt.mpr (best P p1 p2))] at ls
      have ix := idx_lt (kvs := ks.map (kwP ps)) (tkey_tD P) (get_kw hP)
      simp only [Fn.evT, List.getElem?_cons_zero, List.getElem?_cons_succ, List.set_cons_zero, List.set_cons_succ, List.length_cons, List.length_nil, Nat.reduceAdd, Nat.reduceLT, Bool.not_true, Bool.not_false, Nat.reduceLeDiff, Int.cast_ofNat_Int, Int.natCast_zero, Int.natCast_one, Int.reduceEq, eq_self, Int.reduceLE, Int.reduceLT, Int.reduceNeg, Int.reduceToNat, Int.toNat_natCast, Int.reduceAdd, Int.reduceSub, Int.reduceMul, Nat.reduceMul, Nat.reduceSub, decide_true, decide_false, Bool.true_and, Bool.false_and, Bool.and_true, Bool.true_or, Bool.false_or, Bool.or_false, not_true_eq_false, not_false_eq_true, if_true, if_false, Bool.false_eq_true, reduceCtorEq, Fn.evS, Option.toList, List.nil_append, List.cons_append, i0, ix, c_law_is_less, ls]
    have c2 : compD (.one 6) yesF (one1 (isiB .bool) (varB 6)) [some (.scr sc), some (.dat (.int (k : Nat))), some (.dat (gD ns ps)), some (.dat (.lt (ks.map (kwP ps)))), r4', some (.dat (bestD ps U)), none] [.int (thW ps U).num, .int ((thW ps U).den : Int)] = .ok (.own (.l [.bl false, .bl false])) := by
      have ib : ∀ i : Int, isiB .bool (.dat (.int i)) = .ok (.dat (.bl false)) := fun i => rfl
      unfold compD
      rw [if_pos (le_sz (by show 2 ≤ 1000; decide))]
      simp only [Fn.evT, List.getElem?_cons_zero, List.getElem?_cons_succ, List.set_cons_zero, List.set_cons_succ, List.length_cons, List.length_nil, Nat.reduceAdd, Nat.reduceLT, Bool.not_true, Bool.not_false, Nat.reduceLeDiff, Int.cast_ofNat_Int, Int.natCast_zero, Int.natCast_one, Int.reduceEq, eq_self, Int.reduceLE, Int.reduceLT, Int.reduceNeg, Int.reduceToNat, Int.toNat_natCast, Int.reduceAdd, Int.reduceSub, Int.reduceMul, Nat.reduceMul, Nat.reduceSub, decide_true, decide_false, Bool.true_and, Bool.false_and, Bool.and_true, Bool.true_or, Bool.false_or, Bool.or_false, not_true_eq_false, not_false_eq_true, if_true, if_false, Bool.false_eq_true, reduceCtorEq, Fn.evS, Option.toList, List.nil_append, List.cons_append, ib]
    have itf : ∀ b, itemsB b (.dat (frD (thW ps U))) = .ok [.int (thW ps U).num, .int ((thW ps U).den : Int)] := fun b => rfl
    have lk : ∀ r : Option Fn.B, lkE 3 [some (.scr sc), some (.dat (.int (k : Nat))), some (.dat (gD ns ps)), some (.own (.t (ks.map (kwP ps)))), r, none, none] = [some (.scr sc), some (.dat (.int (k : Nat))), some (.dat (gD ns ps)), some (.dat (.lt (ks.map (kwP ps)))), r, none, none] := fun r => rfl
    have a1 : anyF [.dat (.lst (ks.map fun _ => .bl false))] = .ok (.dat (.bl false)) := by
      rw [any_map (h := fun _ => false)]
      simp
    have a2 : anyF [.dat (.lst [.bl false, .bl false])] = .ok (.dat (.bl false)) := (rfl)
    refine ⟨r4', ?_⟩
    simp only [B_law_2, Fn.evT, List.getElem?_cons_zero, List.getElem?_cons_succ, List.set_cons_zero, List.set_cons_succ, List.length_cons, List.length_nil, Nat.reduceAdd, Nat.reduceLT, Bool.not_true, Bool.not_false, Nat.reduceLeDiff, Int.cast_ofNat_Int, Int.natCast_zero, Int.natCast_one, Int.reduceEq, eq_self, Int.reduceLE, Int.reduceLT, Int.reduceNeg, Int.reduceToNat, Int.toNat_natCast, Int.reduceAdd, Int.reduceSub, Int.reduceMul, Nat.reduceMul, Nat.reduceSub, decide_true, decide_false, Bool.true_and, Bool.false_and, Bool.and_true, Bool.true_or, Bool.false_or, Bool.or_false, not_true_eq_false, not_false_eq_true, if_true, if_false, Bool.false_eq_true, reduceCtorEq, c_law_cell, hc, c_law_numbers, hn, c_law_graph, hg, g0, ln, d1, c_law_parts, pr, q4, lkS, lk, c_thickest, th, t1, l2, gt, i0, nf, e_itD, itD_lt, ks2, c1, a1, itf, c2, a2]
theorem main (sc : List Int) (hsc : sc.length ≤ 63) : E_law.F [.scr sc] = .ok (.dat (.bl true)) := by
  rw [d_law (by rfl)]
  obtain ⟨n, hn, e⟩ : ∃ n : Nat, n ≤ 6 ∧ maxF [.dat (.int 3), .dat (.int (min (sc.length : Int) 6))] = .ok (.dat (.int (n : Int))) := by
    refine ⟨(max 3 (min (sc.length : Int) 6)).toNat, by omega, ?_⟩
    rw [max_ii]
    congr 4
    omega
  have rg := rg1 (k := (n : Int)) (by omega) (by omega)
  rw [Int.toNat_natCast] at rg
  obtain ⟨ρ', lp, _, r4, rfl⟩ := loop_inv (tg := .one 1) (f := B_law_2) (e := fun (i : Nat) => D.int i) (fun as ρ => (∀ k ∈ as, k < 6) ∧ ∃ r4 : Option Fn.B, ρ = [some (.scr sc), none, none, none, r4, none, none]) (as := List.range n) (ρ := [some (.scr sc), none, none, none, none, none, none]) ⟨fun k hk => by have := List.mem_range.mp hk; omega, none, rfl⟩ (by
    rintro k as ρ ⟨hk, r4, rfl⟩
    obtain ⟨r4', e⟩ := graph_turn sc k (hk k List.mem_cons_self) r4
    exact ⟨_, _, bt_one, .inl e, fun j hj => hk j (List.mem_cons_of_mem _ hj), r4', rfl⟩)
  simp only [B_law, Fn.evT, List.getElem?_cons_zero, List.getElem?_cons_succ, List.set_cons_zero, List.set_cons_succ, List.length_cons, List.length_nil, Nat.reduceAdd, Nat.reduceLT, Bool.not_true, Bool.not_false, Nat.reduceLeDiff, Int.cast_ofNat_Int, Int.natCast_zero, Int.natCast_one, Int.reduceEq, eq_self, Int.reduceLE, Int.reduceLT, Int.reduceNeg, Int.reduceToNat, Int.toNat_natCast, Int.reduceAdd, Int.reduceSub, Int.reduceMul, Nat.reduceMul, Nat.reduceSub, decide_true, decide_false, Bool.true_and, Bool.false_and, Bool.and_true, Bool.true_or, Bool.false_or, Bool.or_false, not_true_eq_false, not_false_eq_true, if_true, if_false, Bool.false_eq_true, reduceCtorEq, e, rg, lp]
end P
namespace P
open PySem L2 Fn
theorem all_mk {l : PySem.W.OpenLaw} {w : World} {K : PySem.W.Frag} {h : Heap} {mg : Str → Option Value} {fa : Addr} (X : K.In h) (G : h.Ns mainGlobals mg) (hfa : mg "law" = some (.ref fa))
    {od0 an0 : Option Addr} {sl0 : Array (Option Value)} {oc0 kV0 dc0 pm0 cd0 ct0 : Value} {f0 : Addr}
    {od1 an1 : Option Addr} {sl1 : Array (Option Value)} {oc1 kV1 dc1 pm1 cd1 ct1 : Value} {f1 : Addr}
    {od2 an2 : Option Addr} {sl2 : Array (Option Value)} {oc2 kV2 dc2 pm2 cd2 ct2 : Value} {f2 : Addr}
    {od3 an3 : Option Addr} {sl3 : Array (Option Value)} {oc3 kV3 dc3 pm3 cd3 ct3 : Value} {f3 : Addr}
    {od4 an4 : Option Addr} {sl4 : Array (Option Value)} {oc4 kV4 dc4 pm4 cd4 ct4 : Value} {f4 : Addr}
    {od5 an5 : Option Addr} {sl5 : Array (Option Value)} {oc5 kV5 dc5 pm5 cd5 ct5 : Value} {f5 : Addr}
    {od6 an6 : Option Addr} {sl6 : Array (Option Value)} {oc6 kV6 dc6 pm6 cd6 ct6 : Value} {f6 : Addr}
    {od7 an7 : Option Addr} {sl7 : Array (Option Value)} {oc7 kV7 dc7 pm7 cd7 ct7 : Value} {f7 : Addr}
    {od8 an8 : Option Addr} {sl8 : Array (Option Value)} {oc8 kV8 dc8 pm8 cd8 ct8 : Value} {f8 : Addr}
    {od9 an9 : Option Addr} {sl9 : Array (Option Value)} {oc9 kV9 dc9 pm9 cd9 ct9 : Value} {f9 : Addr}
    {od10 an10 : Option Addr} {sl10 : Array (Option Value)} {oc10 kV10 dc10 pm10 cd10 ct10 : Value} {f10 : Addr}
    {od11 an11 : Option Addr} {sl11 : Array (Option Value)} {oc11 kV11 dc11 pm11 cd11 ct11 : Value} {f11 : Addr}
    {od12 an12 : Option Addr} {sl12 : Array (Option Value)} {oc12 kV12 dc12 pm12 cd12 ct12 : Value} {f12 : Addr}
    {od13 an13 : Option Addr} {sl13 : Array (Option Value)} {oc13 kV13 dc13 pm13 cd13 ct13 : Value} {f13 : Addr}
    {od14 an14 : Option Addr} {sl14 : Array (Option Value)} {oc14 kV14 dc14 pm14 cd14 ct14 : Value} {f14 : Addr}
    {od15 an15 : Option Addr} {sl15 : Array (Option Value)} {oc15 kV15 dc15 pm15 cd15 ct15 : Value} {f15 : Addr}
    {od16 an16 : Option Addr} {sl16 : Array (Option Value)} {oc16 kV16 dc16 pm16 cd16 ct16 : Value} {f16 : Addr}
    {od17 an17 : Option Addr} {sl17 : Array (Option Value)} {oc17 kV17 dc17 pm17 cd17 ct17 : Value} {f17 : Addr}
    {od18 an18 : Option Addr} {sl18 : Array (Option Value)} {oc18 kV18 dc18 pm18 cd18 ct18 : Value} {f18 : Addr}
    {od19 an19 : Option Addr} {sl19 : Array (Option Value)} {oc19 kV19 dc19 pm19 cd19 ct19 : Value} {f19 : Addr}
    {od20 an20 : Option Addr} {sl20 : Array (Option Value)} {oc20 kV20 dc20 pm20 cd20 ct20 : Value} {f20 : Addr}
    {od21 an21 : Option Addr} {sl21 : Array (Option Value)} {oc21 kV21 dc21 pm21 cd21 ct21 : Value} {f21 : Addr}
    {od22 an22 : Option Addr} {sl22 : Array (Option Value)} {oc22 kV22 dc22 pm22 cd22 ct22 : Value} {f22 : Addr}
    (a0 : PySem.W.nsIn K mainGlobals "_law_names" = some (some (.ref f0))) (l0 : K.lookup f0 = some ⟨oc0, od0, .func (PySem.W.fnOf "_law_names" "_law_names" (defArgs S_law_names) (defBody S_law_names) (defScope S_law_names) .none kV0 dc0 pm0 an0 cd0 ct0), sl0⟩) (c0 : PySem.W.codeIn K cd0 "_law_names" = true) (k0 : PySem.W.keepIn K (.ref f0) = true)
    (a1 : PySem.W.nsIn K mainGlobals "_law_graph" = some (some (.ref f1))) (l1 : K.lookup f1 = some ⟨oc1, od1, .func (PySem.W.fnOf "_law_graph" "_law_graph" (defArgs S_law_graph) (defBody S_law_graph) (defScope S_law_graph) .none kV1 dc1 pm1 an1 cd1 ct1), sl1⟩) (c1 : PySem.W.codeIn K cd1 "_law_graph" = true) (k1 : PySem.W.keepIn K (.ref f1) = true)
    (a2 : PySem.W.nsIn K mainGlobals "_law_numbers" = some (some (.ref f2))) (l2 : K.lookup f2 = some ⟨oc2, od2, .func (PySem.W.fnOf "_law_numbers" "_law_numbers" (defArgs S_law_numbers) (defBody S_law_numbers) (defScope S_law_numbers) .none kV2 dc2 pm2 an2 cd2 ct2), sl2⟩) (c2 : PySem.W.codeIn K cd2 "_law_numbers" = true) (k2 : PySem.W.keepIn K (.ref f2) = true)
    (a3 : PySem.W.nsIn K mainGlobals "_law_cell" = some (some (.ref f3))) (l3 : K.lookup f3 = some ⟨oc3, od3, .func (PySem.W.fnOf "_law_cell" "_law_cell" (defArgs S_law_cell) (defBody S_law_cell) (defScope S_law_cell) .none kV3 dc3 pm3 an3 cd3 ct3), sl3⟩) (c3 : PySem.W.codeIn K cd3 "_law_cell" = true) (k3 : PySem.W.keepIn K (.ref f3) = true)
    (a4 : PySem.W.nsIn K mainGlobals "parts_of" = some (some (.ref f4))) (l4 : K.lookup f4 = some ⟨oc4, od4, .func (PySem.W.fnOf "parts_of" "parts_of" (defArgs S_parts_of) (defBody S_parts_of) (defScope S_parts_of) .none kV4 dc4 pm4 an4 cd4 ct4), sl4⟩) (c4 : PySem.W.codeIn K cd4 "parts_of" = true) (k4 : PySem.W.keepIn K (.ref f4) = true)
    (a5 : PySem.W.nsIn K mainGlobals "shared_part" = some (some (.ref f5))) (l5 : K.lookup f5 = some ⟨oc5, od5, .func (PySem.W.fnOf "shared_part" "shared_part" (defArgs S_shared_part) (defBody S_shared_part) (defScope S_shared_part) .none kV5 dc5 pm5 an5 cd5 ct5), sl5⟩) (c5 : PySem.W.codeIn K cd5 "shared_part" = true) (k5 : PySem.W.keepIn K (.ref f5) = true)
    (a6 : PySem.W.nsIn K mainGlobals "fraction" = some (some (.ref f6))) (l6 : K.lookup f6 = some ⟨oc6, od6, .func (PySem.W.fnOf "fraction" "fraction" (defArgs S_fraction) (defBody S_fraction) (defScope S_fraction) .none kV6 dc6 pm6 an6 cd6 ct6), sl6⟩) (c6 : PySem.W.codeIn K cd6 "fraction" = true) (k6 : PySem.W.keepIn K (.ref f6) = true)
    (a7 : PySem.W.nsIn K mainGlobals "within" = some (some (.ref f7))) (l7 : K.lookup f7 = some ⟨oc7, od7, .func (PySem.W.fnOf "within" "within" (defArgs S_within) (defBody S_within) (defScope S_within) .none kV7 dc7 pm7 an7 cd7 ct7), sl7⟩) (c7 : PySem.W.codeIn K cd7 "within" = true) (k7 : PySem.W.keepIn K (.ref f7) = true)
    (a8 : PySem.W.nsIn K mainGlobals "below" = some (some (.ref f8))) (l8 : K.lookup f8 = some ⟨oc8, od8, .func (PySem.W.fnOf "below" "below" (defArgs S_below) (defBody S_below) (defScope S_below) .none kV8 dc8 pm8 an8 cd8 ct8), sl8⟩) (c8 : PySem.W.codeIn K cd8 "below" = true) (k8 : PySem.W.keepIn K (.ref f8) = true)
    (a9 : PySem.W.nsIn K mainGlobals "thickest" = some (some (.ref f9))) (l9 : K.lookup f9 = some ⟨oc9, od9, .func (PySem.W.fnOf "thickest" "thickest" (defArgs S_thickest) (defBody S_thickest) (defScope S_thickest) .none kV9 dc9 pm9 an9 cd9 ct9), sl9⟩) (c9 : PySem.W.codeIn K cd9 "thickest" = true) (k9 : PySem.W.keepIn K (.ref f9) = true)
    (a10 : PySem.W.nsIn K mainGlobals "minus" = some (some (.ref f10))) (l10 : K.lookup f10 = some ⟨oc10, od10, .func (PySem.W.fnOf "minus" "minus" (defArgs S_minus) (defBody S_minus) (defScope S_minus) .none kV10 dc10 pm10 an10 cd10 ct10), sl10⟩) (c10 : PySem.W.codeIn K cd10 "minus" = true) (k10 : PySem.W.keepIn K (.ref f10) = true)
    (a11 : PySem.W.nsIn K mainGlobals "shared_bottom" = some (some (.ref f11))) (l11 : K.lookup f11 = some ⟨oc11, od11, .func (PySem.W.fnOf "shared_bottom" "shared_bottom" (defArgs S_shared_bottom) (defBody S_shared_bottom) (defScope S_shared_bottom) .none kV11 dc11 pm11 an11 cd11 ct11), sl11⟩) (c11 : PySem.W.codeIn K cd11 "shared_bottom" = true) (k11 : PySem.W.keepIn K (.ref f11) = true)
    (a12 : PySem.W.nsIn K mainGlobals "road" = some (some (.ref f12))) (l12 : K.lookup f12 = some ⟨oc12, od12, .func (PySem.W.fnOf "road" "road" (defArgs S_road) (defBody S_road) (defScope S_road) .none kV12 dc12 pm12 an12 cd12 ct12), sl12⟩) (c12 : PySem.W.codeIn K cd12 "road" = true) (k12 : PySem.W.keepIn K (.ref f12) = true)
    (a13 : PySem.W.nsIn K mainGlobals "rests_of" = some (some (.ref f13))) (l13 : K.lookup f13 = some ⟨oc13, od13, .func (PySem.W.fnOf "rests_of" "rests_of" (defArgs S_rests_of) (defBody S_rests_of) (defScope S_rests_of) .none kV13 dc13 pm13 an13 cd13 ct13), sl13⟩) (c13 : PySem.W.codeIn K cd13 "rests_of" = true) (k13 : PySem.W.keepIn K (.ref f13) = true)
    (a14 : PySem.W.nsIn K mainGlobals "greatest" = some (some (.ref f14))) (l14 : K.lookup f14 = some ⟨oc14, od14, .func (PySem.W.fnOf "greatest" "greatest" (defArgs S_greatest) (defBody S_greatest) (defScope S_greatest) .none kV14 dc14 pm14 an14 cd14 ct14), sl14⟩) (c14 : PySem.W.codeIn K cd14 "greatest" = true) (k14 : PySem.W.keepIn K (.ref f14) = true)
    (a15 : PySem.W.nsIn K mainGlobals "leans_by" = some (some (.ref f15))) (l15 : K.lookup f15 = some ⟨oc15, od15, .func (PySem.W.fnOf "leans_by" "leans_by" (defArgs S_leans_by) (defBody S_leans_by) (defScope S_leans_by) .none kV15 dc15 pm15 an15 cd15 ct15), sl15⟩) (c15 : PySem.W.codeIn K cd15 "leans_by" = true) (k15 : PySem.W.keepIn K (.ref f15) = true)
    (a16 : PySem.W.nsIn K mainGlobals "thickness_leans" = some (some (.ref f16))) (l16 : K.lookup f16 = some ⟨oc16, od16, .func (PySem.W.fnOf "thickness_leans" "thickness_leans" (defArgs S_thickness_leans) (defBody S_thickness_leans) (defScope S_thickness_leans) .none kV16 dc16 pm16 an16 cd16 ct16), sl16⟩) (c16 : PySem.W.codeIn K cd16 "thickness_leans" = true) (k16 : PySem.W.keepIn K (.ref f16) = true)
    (a17 : PySem.W.nsIn K mainGlobals "_law_refused" = some (some (.ref f17))) (l17 : K.lookup f17 = some ⟨oc17, od17, .func (PySem.W.fnOf "_law_refused" "_law_refused" (defArgs S_law_refused_v6) (defBody S_law_refused_v6) (defScope S_law_refused_v6) .none kV17 dc17 pm17 an17 cd17 ct17), sl17⟩) (c17 : PySem.W.codeIn K cd17 "_law_refused" = true) (k17 : PySem.W.keepIn K (.ref f17) = true)
    (a18 : PySem.W.nsIn K mainGlobals "_law_parts" = some (some (.ref f18))) (l18 : K.lookup f18 = some ⟨oc18, od18, .func (PySem.W.fnOf "_law_parts" "_law_parts" (defArgs S_law_parts) (defBody S_law_parts) (defScope S_law_parts) .none kV18 dc18 pm18 an18 cd18 ct18), sl18⟩) (c18 : PySem.W.codeIn K cd18 "_law_parts" = true) (k18 : PySem.W.keepIn K (.ref f18) = true)
    (a19 : PySem.W.nsIn K mainGlobals "_law_low" = some (some (.ref f19))) (l19 : K.lookup f19 = some ⟨oc19, od19, .func (PySem.W.fnOf "_law_low" "_law_low" (defArgs S_law_low) (defBody S_law_low) (defScope S_law_low) .none kV19 dc19 pm19 an19 cd19 ct19), sl19⟩) (c19 : PySem.W.codeIn K cd19 "_law_low" = true) (k19 : PySem.W.keepIn K (.ref f19) = true)
    (a20 : PySem.W.nsIn K mainGlobals "_law_within" = some (some (.ref f20))) (l20 : K.lookup f20 = some ⟨oc20, od20, .func (PySem.W.fnOf "_law_within" "_law_within" (defArgs S_law_within) (defBody S_law_within) (defScope S_law_within) .none kV20 dc20 pm20 an20 cd20 ct20), sl20⟩) (c20 : PySem.W.codeIn K cd20 "_law_within" = true) (k20 : PySem.W.keepIn K (.ref f20) = true)
    (a21 : PySem.W.nsIn K mainGlobals "_law_is_less" = some (some (.ref f21))) (l21 : K.lookup f21 = some ⟨oc21, od21, .func (PySem.W.fnOf "_law_is_less" "_law_is_less" (defArgs S_law_is_less) (defBody S_law_is_less) (defScope S_law_is_less) .none kV21 dc21 pm21 an21 cd21 ct21), sl21⟩) (c21 : PySem.W.codeIn K cd21 "_law_is_less" = true) (k21 : PySem.W.keepIn K (.ref f21) = true)
    (a22 : PySem.W.nsIn K mainGlobals "law" = some (some (.ref f22))) (l22 : K.lookup f22 = some ⟨oc22, od22, .func (PySem.W.fnOf "law" "law" (defArgs S_law) (defBody S_law) (defScope S_law) .none kV22 dc22 pm22 an22 cd22 ct22), sl22⟩) (c22 : PySem.W.codeIn K cd22 "law" = true) (k22 : PySem.W.keepIn K (.ref f22) = true)
    (z0 : PySem.W.nsIn K mainGlobals "ValueError" = some none) (z1 : PySem.W.nsIn K mainGlobals "abs" = some none) (z2 : PySem.W.nsIn K mainGlobals "any" = some none) (z3 : PySem.W.nsIn K mainGlobals "bool" = some none) (z4 : PySem.W.nsIn K mainGlobals "enumerate" = some none) (z5 : PySem.W.nsIn K mainGlobals "int" = some none) (z6 : PySem.W.nsIn K mainGlobals "isinstance" = some none) (z7 : PySem.W.nsIn K mainGlobals "len" = some none) (z8 : PySem.W.nsIn K mainGlobals "max" = some none) (z9 : PySem.W.nsIn K mainGlobals "min" = some none) (z10 : PySem.W.nsIn K mainGlobals "range" = some none) (z11 : PySem.W.nsIn K mainGlobals "sorted" = some none) (z12 : PySem.W.nsIn K mainGlobals "tuple" = some none) {g0 : Addr} {gd0 : Option Addr} {gn0 : Nat} {gs0 : Array (Option Value)} {gt0_0 : Tok} {gt0_1 : Tok} (q0 : PySem.W.nsIn K mainGlobals "ONE" = some (some (.ref g0))) (ql0 : K.lookup g0 = some ⟨.type "tuple", gd0, .seq #[.int 1 gt0_0, .int 1 gt0_1] gn0, gs0⟩)
    {xC0 : Addr} (xa0 : PySem.W.nsIn K mainGlobals "StairError" = some (some (.ref xC0))) (xb0 : PySem.W.subIn K (.ref xC0) (.type "BaseException") = some true) (xi0 : PySem.W.isClsIn K xC0 = true) (xt0 : PySem.W.typeIn K (.ref xC0) = some (.type "type"))
    {xC1 : Addr} (xa1 : PySem.W.nsIn K mainGlobals "NoText" = some (some (.ref xC1))) (xb1 : PySem.W.subIn K (.ref xC1) (.type "BaseException") = some true) (xi1 : PySem.W.isClsIn K xC1 = true) (xt1 : PySem.W.typeIn K (.ref xC1) = some (.type "type"))
    {xC2 : Addr} (xa2 : PySem.W.nsIn K mainGlobals "NoNumber" = some (some (.ref xC2))) (xb2 : PySem.W.subIn K (.ref xC2) (.type "BaseException") = some true) (xi2 : PySem.W.isClsIn K xC2 = true) (xt2 : PySem.W.typeIn K (.ref xC2) = some (.type "type"))
    {xC3 : Addr} (xa3 : PySem.W.nsIn K mainGlobals "NoCut" = some (some (.ref xC3))) (xb3 : PySem.W.subIn K (.ref xC3) (.type "BaseException") = some true) (xi3 : PySem.W.isClsIn K xC3 = true) (xt3 : PySem.W.typeIn K (.ref xC3) = some (.type "type"))
    {xC4 : Addr} (xa4 : PySem.W.nsIn K mainGlobals "NoPrice" = some (some (.ref xC4))) (xb4 : PySem.W.subIn K (.ref xC4) (.type "BaseException") = some true) (xi4 : PySem.W.isClsIn K xC4 = true) (xt4 : PySem.W.typeIn K (.ref xC4) = some (.type "type"))
    {xC5 : Addr} (xa5 : PySem.W.nsIn K mainGlobals "NoStream" = some (some (.ref xC5))) (xb5 : PySem.W.subIn K (.ref xC5) (.type "BaseException") = some true) (xi5 : PySem.W.isClsIn K xC5 = true) (xt5 : PySem.W.typeIn K (.ref xC5) = some (.type "type"))
    {xC6 : Addr} (xa6 : PySem.W.nsIn K mainGlobals "NoName" = some (some (.ref xC6))) (xb6 : PySem.W.subIn K (.ref xC6) (.type "BaseException") = some true) (xi6 : PySem.W.isClsIn K xC6 = true) (xt6 : PySem.W.typeIn K (.ref xC6) = some (.type "type"))
    {xC7 : Addr} (xa7 : PySem.W.nsIn K mainGlobals "NoFall" = some (some (.ref xC7))) (xb7 : PySem.W.subIn K (.ref xC7) (.type "BaseException") = some true) (xi7 : PySem.W.isClsIn K xC7 = true) (xt7 : PySem.W.typeIn K (.ref xC7) = some (.type "type"))
    {xC8 : Addr} (xa8 : PySem.W.nsIn K mainGlobals "NoShare" = some (some (.ref xC8))) (xb8 : PySem.W.subIn K (.ref xC8) (.type "BaseException") = some true) (xi8 : PySem.W.isClsIn K xC8 = true) (xt8 : PySem.W.typeIn K (.ref xC8) = some (.type "type"))
    {xC9 : Addr} (xa9 : PySem.W.nsIn K mainGlobals "NoPart" = some (some (.ref xC9))) (xb9 : PySem.W.subIn K (.ref xC9) (.type "BaseException") = some true) (xi9 : PySem.W.isClsIn K xC9 = true) (xt9 : PySem.W.typeIn K (.ref xC9) = some (.type "type"))
    {xC10 : Addr} (xa10 : PySem.W.nsIn K mainGlobals "NoTop" = some (some (.ref xC10))) (xb10 : PySem.W.subIn K (.ref xC10) (.type "BaseException") = some true) (xi10 : PySem.W.isClsIn K xC10 = true) (xt10 : PySem.W.typeIn K (.ref xC10) = some (.type "type"))
    {xC11 : Addr} (xa11 : PySem.W.nsIn K mainGlobals "NoPlace" = some (some (.ref xC11))) (xb11 : PySem.W.subIn K (.ref xC11) (.type "BaseException") = some true) (xi11 : PySem.W.isClsIn K xC11 = true) (xt11 : PySem.W.typeIn K (.ref xC11) = some (.type "type"))
    {xC12 : Addr} (xa12 : PySem.W.nsIn K mainGlobals "NoTie" = some (some (.ref xC12))) (xb12 : PySem.W.subIn K (.ref xC12) (.type "BaseException") = some true) (xi12 : PySem.W.isClsIn K xC12 = true) (xt12 : PySem.W.typeIn K (.ref xC12) = some (.type "type"))
    {xC13 : Addr} (xa13 : PySem.W.nsIn K mainGlobals "NoUndo" = some (some (.ref xC13))) (xb13 : PySem.W.subIn K (.ref xC13) (.type "BaseException") = some true) (xi13 : PySem.W.isClsIn K xC13 = true) (xt13 : PySem.W.typeIn K (.ref xC13) = some (.type "type"))
    {xC14 : Addr} (xa14 : PySem.W.nsIn K mainGlobals "NoWeb" = some (some (.ref xC14))) (xb14 : PySem.W.subIn K (.ref xC14) (.type "BaseException") = some true) (xi14 : PySem.W.isClsIn K xC14 = true) (xt14 : PySem.W.typeIn K (.ref xC14) = some (.type "type"))
    {xC15 : Addr} (xa15 : PySem.W.nsIn K mainGlobals "NoRow" = some (some (.ref xC15))) (xb15 : PySem.W.subIn K (.ref xC15) (.type "BaseException") = some true) (xi15 : PySem.W.isClsIn K xC15 = true) (xt15 : PySem.W.typeIn K (.ref xC15) = some (.type "type"))
    (yn : PySem.W.specialIn K (.builtin "object.__class__") "__get__" = some (some (.builtin "getset_descriptor.__get__"))) (yt : PySem.W.takesIn K (.builtin "object.__class__") = some true)
    (yx2 : PySem.W.excIn K xC2 veM "ValueError.__new__" = true) (yk2 : PySem.W.keepIn K (.ref xC2) = true) (yg2 : PySem.W.findIn K (.ref xC2) "__getattribute__" = some (some (.builtin "BaseException.__getattribute__"))) (yh2 : PySem.W.findIn K (.ref xC2) "__getattr__" = some none) (yd2 : PySem.W.hasDictIn K xC2 = true) (ya2 : PySem.W.findIn K (.ref xC2) "__class__" = some (some (.builtin "object.__class__"))) (ym2 : PySem.W.mroIn K xC2 (.type "object") = some true) (yv2 : PySem.W.subIn K (.ref xC2) (.type "ValueError") = some true) (ys2 : PySem.W.subIn K (.ref xC2) (.ref xC2) = some true)
    (yp2_0 : PySem.W.subIn K (.ref xC2) (.ref xC0) = some true)
    (yp2_1 : PySem.W.subIn K (.ref xC2) (.ref xC1) = some false)
    (yp2_2 : PySem.W.subIn K (.ref xC2) (.ref xC2) = some true)
    (yp2_3 : PySem.W.subIn K (.ref xC2) (.ref xC3) = some false)
    (yp2_4 : PySem.W.subIn K (.ref xC2) (.ref xC4) = some false)
    (yp2_5 : PySem.W.subIn K (.ref xC2) (.ref xC5) = some false)
    (yp2_6 : PySem.W.subIn K (.ref xC2) (.ref xC6) = some false)
    (yp2_7 : PySem.W.subIn K (.ref xC2) (.ref xC7) = some false)
    (yp2_8 : PySem.W.subIn K (.ref xC2) (.ref xC8) = some false)
    (yp2_9 : PySem.W.subIn K (.ref xC2) (.ref xC9) = some false)
    (yp2_10 : PySem.W.subIn K (.ref xC2) (.ref xC10) = some false)
    (yp2_11 : PySem.W.subIn K (.ref xC2) (.ref xC11) = some false)
    (yp2_12 : PySem.W.subIn K (.ref xC2) (.ref xC12) = some false)
    (yp2_13 : PySem.W.subIn K (.ref xC2) (.ref xC13) = some false)
    (yp2_14 : PySem.W.subIn K (.ref xC2) (.ref xC14) = some false)
    (yp2_15 : PySem.W.subIn K (.ref xC2) (.ref xC15) = some false)
    (yx9 : PySem.W.excIn K xC9 veM "ValueError.__new__" = true) (yk9 : PySem.W.keepIn K (.ref xC9) = true) (yg9 : PySem.W.findIn K (.ref xC9) "__getattribute__" = some (some (.builtin "BaseException.__getattribute__"))) (yh9 : PySem.W.findIn K (.ref xC9) "__getattr__" = some none) (yd9 : PySem.W.hasDictIn K xC9 = true) (ya9 : PySem.W.findIn K (.ref xC9) "__class__" = some (some (.builtin "object.__class__"))) (ym9 : PySem.W.mroIn K xC9 (.type "object") = some true) (yv9 : PySem.W.subIn K (.ref xC9) (.type "ValueError") = some true) (ys9 : PySem.W.subIn K (.ref xC9) (.ref xC9) = some true)
    (yp9_0 : PySem.W.subIn K (.ref xC9) (.ref xC0) = some true)
    (yp9_1 : PySem.W.subIn K (.ref xC9) (.ref xC1) = some false)
    (yp9_2 : PySem.W.subIn K (.ref xC9) (.ref xC2) = some false)
    (yp9_3 : PySem.W.subIn K (.ref xC9) (.ref xC3) = some false)
    (yp9_4 : PySem.W.subIn K (.ref xC9) (.ref xC4) = some false)
    (yp9_5 : PySem.W.subIn K (.ref xC9) (.ref xC5) = some false)
    (yp9_6 : PySem.W.subIn K (.ref xC9) (.ref xC6) = some false)
    (yp9_7 : PySem.W.subIn K (.ref xC9) (.ref xC7) = some false)
    (yp9_8 : PySem.W.subIn K (.ref xC9) (.ref xC8) = some false)
    (yp9_9 : PySem.W.subIn K (.ref xC9) (.ref xC9) = some true)
    (yp9_10 : PySem.W.subIn K (.ref xC9) (.ref xC10) = some false)
    (yp9_11 : PySem.W.subIn K (.ref xC9) (.ref xC11) = some false)
    (yp9_12 : PySem.W.subIn K (.ref xC9) (.ref xC12) = some false)
    (yp9_13 : PySem.W.subIn K (.ref xC9) (.ref xC13) = some false)
    (yp9_14 : PySem.W.subIn K (.ref xC9) (.ref xC14) = some false)
    (yp9_15 : PySem.W.subIn K (.ref xC9) (.ref xC15) = some false)
    (main : ∀ ns : List Int, ns.length ≤ 63 → E_law.F [.scr ns] = .ok (.dat (.bl true))) :
    ∃ fd : FuncData, (∀ (s : Shared) (v : Value), BindsTo s fd ⟨[v], []⟩ [("_law_script", v)]) ∧ ∀ base : Heap, K.In base → base.Ns mainGlobals mg → FnOk l.prog w K mg base (L2.CX l.prog w) 23 fa fd ["_law_script"] (spLaw K) := by
  have e := hfa.symm.trans (PySem.W.mg_of X G a22)
  cases e
  let fl : Nat → Option Addr := fun i => if i < 1000 then [f0, f1, f2, f3, f4, f5, f6, f7, f8, f9, f10, f11, f12, f13, f14, f15, f16, f17, f18, f19, f20, f21][i]? else [xC0, xC1, xC2, xC3, xC4, xC5, xC6, xC7, xC8, xC9, xC10, xC11, xC12, xC13, xC14, xC15][i - 1000]?
  have hbi : ∀ b : Bt, b.bi = bt0.bi → b.cs = bt0.cs → BiOk K fl mg b := by
    intro b h1 h2
    refine ⟨fun x hx => ?_, fun p hp => ?_⟩
    · rw [h1] at hx
      simp only [bt0, List.mem_cons, List.not_mem_nil, or_false] at hx
      rcases hx with rfl | rfl | rfl | rfl | rfl | rfl | rfl | rfl | rfl | rfl | rfl | rfl | rfl
      · exact PySem.W.mg_none_of X G z0
      · exact PySem.W.mg_none_of X G z1
      · exact PySem.W.mg_none_of X G z2
      · exact PySem.W.mg_none_of X G z3
      · exact PySem.W.mg_none_of X G z4
      · exact PySem.W.mg_none_of X G z5
      · exact PySem.W.mg_none_of X G z6
      · exact PySem.W.mg_none_of X G z7
      · exact PySem.W.mg_none_of X G z8
      · exact PySem.W.mg_none_of X G z9
      · exact PySem.W.mg_none_of X G z10
      · exact PySem.W.mg_none_of X G z11
      · exact PySem.W.mg_none_of X G z12
    · rw [h2] at hp
      simp only [bt0, List.mem_cons, List.not_mem_nil, or_false] at hp
      rcases hp with rfl
      · exact ⟨.ref g0, .ref g0, PySem.W.mg_of X G q0, rfl, fun F => .ctup (xs := [V.int 1, V.int 1]) (.inr ⟨_, _, _, ql0, rfl, rfl, (by show 2 ≤ sizeLine; decide), .cons ⟨_, rfl⟩ (.cons ⟨_, rfl⟩ (.nil))⟩) (.cons (.int 1) (.cons (.int 1) (.nil)))⟩
  have hex : ∀ b : Bt, b.ex = bt0.ex → b.rs = bt0.rs → ExOk K fl (clsOf fl) mg b := by
    intro b h1 h2
    refine ⟨fun c x h => ?_, fun c h => ?_, fun c h c2 D D2 hl e1 e2 => ?_⟩
    · rw [h1] at h
      match c, h with
      | 0, h => cases h; exact ⟨xC0, PySem.W.mg_of X G xa0, rfl, rfl, xb0, xi0, xt0⟩
      | 1, h => cases h; exact ⟨xC1, PySem.W.mg_of X G xa1, rfl, rfl, xb1, xi1, xt1⟩
      | 2, h => cases h; exact ⟨xC2, PySem.W.mg_of X G xa2, rfl, rfl, xb2, xi2, xt2⟩
      | 3, h => cases h; exact ⟨xC3, PySem.W.mg_of X G xa3, rfl, rfl, xb3, xi3, xt3⟩
      | 4, h => cases h; exact ⟨xC4, PySem.W.mg_of X G xa4, rfl, rfl, xb4, xi4, xt4⟩
      | 5, h => cases h; exact ⟨xC5, PySem.W.mg_of X G xa5, rfl, rfl, xb5, xi5, xt5⟩
      | 6, h => cases h; exact ⟨xC6, PySem.W.mg_of X G xa6, rfl, rfl, xb6, xi6, xt6⟩
      | 7, h => cases h; exact ⟨xC7, PySem.W.mg_of X G xa7, rfl, rfl, xb7, xi7, xt7⟩
      | 8, h => cases h; exact ⟨xC8, PySem.W.mg_of X G xa8, rfl, rfl, xb8, xi8, xt8⟩
      | 9, h => cases h; exact ⟨xC9, PySem.W.mg_of X G xa9, rfl, rfl, xb9, xi9, xt9⟩
      | 10, h => cases h; exact ⟨xC10, PySem.W.mg_of X G xa10, rfl, rfl, xb10, xi10, xt10⟩
      | 11, h => cases h; exact ⟨xC11, PySem.W.mg_of X G xa11, rfl, rfl, xb11, xi11, xt11⟩
      | 12, h => cases h; exact ⟨xC12, PySem.W.mg_of X G xa12, rfl, rfl, xb12, xi12, xt12⟩
      | 13, h => cases h; exact ⟨xC13, PySem.W.mg_of X G xa13, rfl, rfl, xb13, xi13, xt13⟩
      | 14, h => cases h; exact ⟨xC14, PySem.W.mg_of X G xa14, rfl, rfl, xb14, xi14, xt14⟩
      | 15, h => cases h; exact ⟨xC15, PySem.W.mg_of X G xa15, rfl, rfl, xb15, xi15, xt15⟩
      | c + 16, h => cases h
    · rw [h2] at h
      simp only [bt0, List.mem_cons, List.not_mem_nil, or_false] at h
      rcases h with rfl | rfl
      · exact ⟨xC2, rfl, rfl, ⟨yx2, yk2, xb2, xt2, ⟨yg2, yh2, xb2, yd2, ya2, yn, yt, ym2⟩, yv2, ys2⟩⟩
      · exact ⟨xC9, rfl, rfl, ⟨yx9, yk9, xb9, xt9, ⟨yg9, yh9, xb9, yd9, ya9, yn, yt, ym9⟩, yv9, ys9⟩⟩
    · rw [h2] at h
      rw [h1] at hl
      simp only [bt0, List.mem_cons, List.not_mem_nil, or_false] at h
      rcases h with rfl | rfl
      · have e1 : some xC2 = some D := e1
        match c2, hl, e2 with
        | 0, _, e2 => have e2 : some xC0 = some D2 := e2; cases e1; cases e2; exact yp2_0
        | 1, _, e2 => have e2 : some xC1 = some D2 := e2; cases e1; cases e2; exact yp2_1
        | 2, _, e2 => have e2 : some xC2 = some D2 := e2; cases e1; cases e2; exact yp2_2
        | 3, _, e2 => have e2 : some xC3 = some D2 := e2; cases e1; cases e2; exact yp2_3
        | 4, _, e2 => have e2 : some xC4 = some D2 := e2; cases e1; cases e2; exact yp2_4
        | 5, _, e2 => have e2 : some xC5 = some D2 := e2; cases e1; cases e2; exact yp2_5
        | 6, _, e2 => have e2 : some xC6 = some D2 := e2; cases e1; cases e2; exact yp2_6
        | 7, _, e2 => have e2 : some xC7 = some D2 := e2; cases e1; cases e2; exact yp2_7
        | 8, _, e2 => have e2 : some xC8 = some D2 := e2; cases e1; cases e2; exact yp2_8
        | 9, _, e2 => have e2 : some xC9 = some D2 := e2; cases e1; cases e2; exact yp2_9
        | 10, _, e2 => have e2 : some xC10 = some D2 := e2; cases e1; cases e2; exact yp2_10
        | 11, _, e2 => have e2 : some xC11 = some D2 := e2; cases e1; cases e2; exact yp2_11
        | 12, _, e2 => have e2 : some xC12 = some D2 := e2; cases e1; cases e2; exact yp2_12
        | 13, _, e2 => have e2 : some xC13 = some D2 := e2; cases e1; cases e2; exact yp2_13
        | 14, _, e2 => have e2 : some xC14 = some D2 := e2; cases e1; cases e2; exact yp2_14
        | 15, _, e2 => have e2 : some xC15 = some D2 := e2; cases e1; cases e2; exact yp2_15
        | c2 + 16, hl, _ => exact absurd hl (by simp [bt0])
      · have e1 : some xC9 = some D := e1
        match c2, hl, e2 with
        | 0, _, e2 => have e2 : some xC0 = some D2 := e2; cases e1; cases e2; exact yp9_0
        | 1, _, e2 => have e2 : some xC1 = some D2 := e2; cases e1; cases e2; exact yp9_1
        | 2, _, e2 => have e2 : some xC2 = some D2 := e2; cases e1; cases e2; exact yp9_2
        | 3, _, e2 => have e2 : some xC3 = some D2 := e2; cases e1; cases e2; exact yp9_3
        | 4, _, e2 => have e2 : some xC4 = some D2 := e2; cases e1; cases e2; exact yp9_4
        | 5, _, e2 => have e2 : some xC5 = some D2 := e2; cases e1; cases e2; exact yp9_5
        | 6, _, e2 => have e2 : some xC6 = some D2 := e2; cases e1; cases e2; exact yp9_6
        | 7, _, e2 => have e2 : some xC7 = some D2 := e2; cases e1; cases e2; exact yp9_7
        | 8, _, e2 => have e2 : some xC8 = some D2 := e2; cases e1; cases e2; exact yp9_8
        | 9, _, e2 => have e2 : some xC9 = some D2 := e2; cases e1; cases e2; exact yp9_9
        | 10, _, e2 => have e2 : some xC10 = some D2 := e2; cases e1; cases e2; exact yp9_10
        | 11, _, e2 => have e2 : some xC11 = some D2 := e2; cases e1; cases e2; exact yp9_11
        | 12, _, e2 => have e2 : some xC12 = some D2 := e2; cases e1; cases e2; exact yp9_12
        | 13, _, e2 => have e2 : some xC13 = some D2 := e2; cases e1; cases e2; exact yp9_13
        | 14, _, e2 => have e2 : some xC14 = some D2 := e2; cases e1; cases e2; exact yp9_14
        | 15, _, e2 => have e2 : some xC15 = some D2 := e2; cases e1; cases e2; exact yp9_15
        | c2 + 16, hl, _ => exact absurd hl (by simp [bt0])
  refine ⟨PySem.W.fnOf "law" "law" (defArgs S_law) (defBody S_law) (defScope S_law) .none kV22 dc22 pm22 an22 cd22 ct22, fun s v => .of_eq rfl, fun base _ _ => ?_⟩
  have hh0 : HotOk l.prog w K mg base fl (clsOf fl) 0 [] := HotOk.nil
  have W0 : TabW l.prog w K mg base fl (clsOf fl) 0 T0 := TabW.nil
  have F0 := fun_mk (st := S_law_names) l0 c0 k0
  have W1 : TabW l.prog w K mg base fl (clsOf fl) 1 T1 := W0.more (en := E_law_names) F0 sc_law_names (hbi bt rfl rfl) (hex bt rfl rfl) (hh0.mono (by decide)) rfl (fun X g C => ok_law_names C) (PySem.W.mg_of X G a0) rfl (F0.binds (ps := ["_law_xs", "_law_many"]) fun _ _ _ _ _ _ us hl => match us, hl with | [_, _], _ => rfl)
  have F1 := fun_mk (st := S_law_graph) l1 c1 k1
  have W2 : TabW l.prog w K mg base fl (clsOf fl) 2 T2 := W1.more (en := E_law_graph) F1 sc_law_graph (hbi bt rfl rfl) (hex bt rfl rfl) (hh0.mono (by decide)) rfl (fun X g C => ok_law_graph C) (PySem.W.mg_of X G a1) rfl (F1.binds (ps := ["_law_xs", "_law_most"]) fun _ _ _ _ _ _ us hl => match us, hl with | [_, _], _ => rfl)
  have F2 := fun_mk (st := S_law_numbers) l2 c2 k2
  have W3 : TabW l.prog w K mg base fl (clsOf fl) 3 T3 := W2.more (en := E_law_numbers) F2 sc_law_numbers (hbi bt rfl rfl) (hex bt rfl rfl) (hh0.mono (by decide)) rfl (fun X g C => ok_law_numbers C) (PySem.W.mg_of X G a2) rfl (F2.binds (ps := ["_law_cell_here", "_law_many"]) fun _ _ _ _ _ _ us hl => match us, hl with | [_, _], _ => rfl)
  have F3 := fun_mk (st := S_law_cell) l3 c3 k3
  have W4 : TabW l.prog w K mg base fl (clsOf fl) 4 T4 := W3.more (en := E_law_cell) F3 sc_law_cell (hbi bt rfl rfl) (hex bt rfl rfl) (hh0.mono (by decide)) rfl (fun X g C => ok_law_cell C) (PySem.W.mg_of X G a3) rfl (F3.binds (ps := ["_law_script", "_law_k"]) fun _ _ _ _ _ _ us hl => match us, hl with | [_, _], _ => rfl)
  have F4 := fun_mk (st := S_parts_of) l4 c4 k4
  have W5 : TabW l.prog w K mg base fl (clsOf fl) 5 T5 := W4.more (en := E_parts_of) F4 sc_parts_of (hbi bt rfl rfl) (hex bt rfl rfl) (hh0.mono (by decide)) rfl (fun X g C => ok_parts_of C) (PySem.W.mg_of X G a4) rfl (F4.binds (ps := ["graph"]) fun _ _ _ _ _ _ us hl => match us, hl with | [_], _ => rfl)
  have F5 := fun_mk (st := S_shared_part) l5 c5 k5
  have W6 : TabW l.prog w K mg base fl (clsOf fl) 6 T6 := W5.more (en := E_shared_part) F5 sc_shared_part (hbi bt rfl rfl) (hex bt rfl rfl) (hh0.mono (by decide)) rfl (fun X g C => ok_shared_part C) (PySem.W.mg_of X G a5) rfl (F5.binds (ps := ["one", "other"]) fun _ _ _ _ _ _ us hl => match us, hl with | [_, _], _ => rfl)
  have F6 := fun_mk (st := S_fraction) l6 c6 k6
  have W7 : TabW l.prog w K mg base fl (clsOf fl) 7 T7 := W6.more (en := E_fraction) F6 sc_fraction (hbi bt rfl rfl) (hex bt rfl rfl) (hh0.mono (by decide)) rfl (fun X g C => ok_fraction C) (PySem.W.mg_of X G a6) rfl (F6.binds (ps := ["top", "bottom"]) fun _ _ _ _ _ _ us hl => match us, hl with | [_, _], _ => rfl)
  have F7 := fun_mk (st := S_within) l7 c7 k7
  have W8 : TabW l.prog w K mg base fl (clsOf fl) 8 T8 := W7.more (en := E_within) F7 sc_within (hbi bt rfl rfl) (hex bt rfl rfl) (hh0.mono (by decide)) rfl (fun X g C => ok_within C) (PySem.W.mg_of X G a7) rfl (F7.binds (ps := ["graph", "part"]) fun _ _ _ _ _ _ us hl => match us, hl with | [_, _], _ => rfl)
  have F8 := fun_mk (st := S_below) l8 c8 k8
  have W9 : TabW l.prog w K mg base fl (clsOf fl) 9 T9 := W8.more (en := E_below) F8 sc_below (hbi bt rfl rfl) (hex bt rfl rfl) (hh0.mono (by decide)) rfl (fun X g C => ok_below C) (PySem.W.mg_of X G a8) rfl (F8.binds (ps := ["a", "b"]) fun _ _ _ _ _ _ us hl => match us, hl with | [_, _], _ => rfl)
  have F9 := fun_mk (st := S_thickest) l9 c9 k9
  have W10 : TabW l.prog w K mg base fl (clsOf fl) 10 T10 := W9.more (en := E_thickest) F9 sc_thickest (hbi bt rfl rfl) (hex bt rfl rfl) (hh0.mono (by decide)) rfl (fun X g C => ok_thickest C) (PySem.W.mg_of X G a9) rfl (F9.binds (ps := ["graph"]) fun _ _ _ _ _ _ us hl => match us, hl with | [_], _ => rfl)
  have F10 := fun_mk (st := S_minus) l10 c10 k10
  have W11 : TabW l.prog w K mg base fl (clsOf fl) 11 T11 := W10.more (en := E_minus) F10 sc_minus (hbi bt rfl rfl) (hex bt rfl rfl) (hh0.mono (by decide)) rfl (fun X g C => ok_minus C) (PySem.W.mg_of X G a10) rfl (F10.binds (ps := ["a", "b"]) fun _ _ _ _ _ _ us hl => match us, hl with | [_, _], _ => rfl)
  have F11 := fun_mk (st := S_shared_bottom) l11 c11 k11
  have W12 : TabW l.prog w K mg base fl (clsOf fl) 12 T12 := W11.more (en := E_shared_bottom) F11 sc_shared_bottom (hbi bt rfl rfl) (hex bt rfl rfl) (hh0.mono (by decide)) rfl (fun X g C => ok_shared_bottom C) (PySem.W.mg_of X G a11) rfl (F11.binds (ps := ["sizes"]) fun _ _ _ _ _ _ us hl => match us, hl with | [_], _ => rfl)
  have F12 := fun_mk (st := S_road) l12 c12 k12
  have W13 : TabW l.prog w K mg base fl (clsOf fl) 13 T13 := W12.more (en := E_road) F12 sc_road (hbi bt rfl rfl) (hex bt rfl rfl) (hh0.mono (by decide)) rfl (fun X g C => ok_road C) (PySem.W.mg_of X G a12) rfl (F12.binds (ps := ["rests", "start", "end"]) fun _ _ _ _ _ _ us hl => match us, hl with | [_, _, _], _ => rfl)
  have F13 := fun_mk (st := S_rests_of) l13 c13 k13
  have W14 : TabW l.prog w K mg base fl (clsOf fl) 14 T14 := W13.more (en := E_rests_of) F13 sc_rests_of (hbi bt rfl rfl) (hex bt rfl rfl) (hh0.mono (by decide)) rfl (fun X g C => ok_rests_of C) (PySem.W.mg_of X G a13) rfl (F13.binds (ps := ["arcs", "wholes", "goes"]) fun _ _ _ _ _ _ us hl => match us, hl with | [_, _, _], _ => rfl)
  have F14 := fun_mk (st := S_greatest) l14 c14 k14
  have W15 : TabW l.prog w K mg base fl (clsOf fl) 15 T15 := W14.more (en := E_greatest) F14 sc_greatest (hbi bt rfl rfl) (hex bt rfl rfl) (hh0.mono (by decide)) rfl (fun X g C => ok_greatest C) (PySem.W.mg_of X G a14) rfl (F14.binds (ps := ["arcs", "start", "end"]) fun _ _ _ _ _ _ us hl => match us, hl with | [_, _, _], _ => rfl)
  have F15 := fun_mk (st := S_leans_by) l15 c15 k15
  have W16 : TabW l.prog w K mg base fl (clsOf fl) 16 T16 := W15.more (en := E_leans_by) F15 sc_leans_by (hbi bt rfl rfl) (hex bt rfl rfl) (hh0.mono (by decide)) rfl (fun X g C => ok_leans_by C) (PySem.W.mg_of X G a15) rfl (F15.binds (ps := ["graph", "most"]) fun _ _ _ _ _ _ us hl => match us, hl with | [_, _], _ => rfl)
  have F16 := fun_mk (st := S_thickness_leans) l16 c16 k16
  have W17 : TabW l.prog w K mg base fl (clsOf fl) 17 T17 := W16.more (en := E_thickness_leans) F16 sc_thickness_leans (hbi bt rfl rfl) (hex bt rfl rfl) (hh0.mono (by decide)) rfl (fun X g C => ok_thickness_leans C) (PySem.W.mg_of X G a16) rfl (F16.binds (ps := ["graph"]) fun _ _ _ _ _ _ us hl => match us, hl with | [_], _ => rfl)
  have F17 := fun_mk (st := S_law_refused_v6) l17 c17 k17
  have W18 : TabW l.prog w K mg base fl (clsOf fl) 18 T18 := W17.more (en := E_law_refused_v6) F17 sc_law_refused_v6 (hbi bt rfl rfl) (hex bt rfl rfl) (hh0.mono (by decide)) rfl (fun X g C => ok_law_refused_v6 C) (PySem.W.mg_of X G a17) rfl (F17.binds (ps := ["_law_which", "_law_graph_here"]) fun _ _ _ _ _ _ us hl => match us, hl with | [_, _], _ => rfl)
  have F18 := fun_mk (st := S_law_parts) l18 c18 k18
  have W19 : TabW l.prog w K mg base fl (clsOf fl) 19 T19 := W18.more (en := E_law_parts) F18 sc_law_parts (hbi bt rfl rfl) (hex bt rfl rfl) (hh0.mono (by decide)) rfl (fun X g C => ok_law_parts C) (PySem.W.mg_of X G a18) rfl (F18.binds (ps := ["_law_graph_here"]) fun _ _ _ _ _ _ us hl => match us, hl with | [_], _ => rfl)
  have F19 := fun_mk (st := S_law_low) l19 c19 k19
  have W20 : TabW l.prog w K mg base fl (clsOf fl) 20 T20 := W19.more (en := E_law_low) F19 sc_law_low (hbi bt rfl rfl) (hex bt rfl rfl) (hh0.mono (by decide)) rfl (fun X g C => ok_law_low C) (PySem.W.mg_of X G a19) rfl (F19.binds (ps := ["_law_top", "_law_bottom"]) fun _ _ _ _ _ _ us hl => match us, hl with | [_, _], _ => rfl)
  have F20 := fun_mk (st := S_law_within) l20 c20 k20
  have W21 : TabW l.prog w K mg base fl (clsOf fl) 21 T21 := W20.more (en := E_law_within) F20 sc_law_within (hbi bt rfl rfl) (hex bt rfl rfl) (hh0.mono (by decide)) rfl (fun X g C => ok_law_within C) (PySem.W.mg_of X G a20) rfl (F20.binds (ps := ["_law_graph_here", "_law_part"]) fun _ _ _ _ _ _ us hl => match us, hl with | [_, _], _ => rfl)
  have F21 := fun_mk (st := S_law_is_less) l21 c21 k21
  have W22 : TabW l.prog w K mg base fl (clsOf fl) 22 T22 := W21.more (en := E_law_is_less) F21 sc_law_is_less (hbi bt rfl rfl) (hex bt rfl rfl) (hh0.mono (by decide)) rfl (fun X g C => ok_law_is_less C) (PySem.W.mg_of X G a21) rfl (F21.binds (ps := ["_law_one", "_law_other"]) fun _ _ _ _ _ _ us hl => match us, hl with | [_, _], _ => rfl)
  have F22 := fun_mk (st := S_law) l22 c22 k22
  exact (def_ok (fa := fl) (cls := clsOf fl) (n := 1) (tab := T22) F22 sc_law rfl (hbi bt rfl rfl) (hex bt rfl rfl) (hh0.mono (by decide)) W22.use (fun X g _ C => ok_law C)).imp (spLaw_of main)
end P
open PySem PySem.W PyProof.Rows
set_option maxRecDepth 100000 in
set_option maxHeartbeats 0 in
theorem PySem.Challenge.cw_cutstairs_k44_thickest_parts_holds : PySem.Challenge.rw_cutstairs_k44_thickest_parts.Holds := by
  w_on; o_law; k_head; (case hw => w_witness2)
  k_fill
  refine Fn.walk (l := PySem.Challenge.rw_cutstairs_k44_thickest_parts) (x := "_law_script") 23 (by exact ⟨rfl, by decide, by decide⟩) rfl rfl (fun w h Y => PySem.W.kIn_of Y) ?F
  case F =>
    intro w mg fa h KX G hmg
    refine' P.all_mk KX G hmg ?a0 ?l0 ?c0 ?k0 ?a1 ?l1 ?c1 ?k1 ?a2 ?l2 ?c2 ?k2 ?a3 ?l3 ?c3 ?k3 ?a4 ?l4 ?c4 ?k4 ?a5 ?l5 ?c5 ?k5 ?a6 ?l6 ?c6 ?k6 ?a7 ?l7 ?c7 ?k7 ?a8 ?l8 ?c8 ?k8 ?a9 ?l9 ?c9 ?k9 ?a10 ?l10 ?c10 ?k10 ?a11 ?l11 ?c11 ?k11 ?a12 ?l12 ?c12 ?k12 ?a13 ?l13 ?c13 ?k13 ?a14 ?l14 ?c14 ?k14 ?a15 ?l15 ?c15 ?k15 ?a16 ?l16 ?c16 ?k16 ?a17 ?l17 ?c17 ?k17 ?a18 ?l18 ?c18 ?k18 ?a19 ?l19 ?c19 ?k19 ?a20 ?l20 ?c20 ?k20 ?a21 ?l21 ?c21 ?k21 ?a22 ?l22 ?c22 ?k22 ?z0 ?z1 ?z2 ?z3 ?z4 ?z5 ?z6 ?z7 ?z8 ?z9 ?z10 ?z11 ?z12 ?q0 ?ql0 ?xa0 ?xb0 ?xi0 ?xt0 ?xa1 ?xb1 ?xi1 ?xt1 ?xa2 ?xb2 ?xi2 ?xt2 ?xa3 ?xb3 ?xi3 ?xt3 ?xa4 ?xb4 ?xi4 ?xt4 ?xa5 ?xb5 ?xi5 ?xt5 ?xa6 ?xb6 ?xi6 ?xt6 ?xa7 ?xb7 ?xi7 ?xt7 ?xa8 ?xb8 ?xi8 ?xt8 ?xa9 ?xb9 ?xi9 ?xt9 ?xa10 ?xb10 ?xi10 ?xt10 ?xa11 ?xb11 ?xi11 ?xt11 ?xa12 ?xb12 ?xi12 ?xt12 ?xa13 ?xb13 ?xi13 ?xt13 ?xa14 ?xb14 ?xi14 ?xt14 ?xa15 ?xb15 ?xi15 ?xt15 ?yn ?yt ?yx2 ?yk2 ?yg2 ?yh2 ?yd2 ?ya2 ?ym2 ?yv2 ?ys2 ?yp2_0 ?yp2_1 ?yp2_2 ?yp2_3 ?yp2_4 ?yp2_5 ?yp2_6 ?yp2_7 ?yp2_8 ?yp2_9 ?yp2_10 ?yp2_11 ?yp2_12 ?yp2_13 ?yp2_14 ?yp2_15 ?yx9 ?yk9 ?yg9 ?yh9 ?yd9 ?ya9 ?ym9 ?yv9 ?ys9 ?yp9_0 ?yp9_1 ?yp9_2 ?yp9_3 ?yp9_4 ?yp9_5 ?yp9_6 ?yp9_7 ?yp9_8 ?yp9_9 ?yp9_10 ?yp9_11 ?yp9_12 ?yp9_13 ?yp9_14 ?yp9_15 P.main
    (case a0 => k_is); (case l0 => k_is); (case c0 => k_is); (case k0 => k_is)
    (case a1 => k_is); (case l1 => k_is); (case c1 => k_is); (case k1 => k_is)
    (case a2 => k_is); (case l2 => k_is); (case c2 => k_is); (case k2 => k_is)
    (case a3 => k_is); (case l3 => k_is); (case c3 => k_is); (case k3 => k_is)
    (case a4 => k_is); (case l4 => k_is); (case c4 => k_is); (case k4 => k_is)
    (case a5 => k_is); (case l5 => k_is); (case c5 => k_is); (case k5 => k_is)
    (case a6 => k_is); (case l6 => k_is); (case c6 => k_is); (case k6 => k_is)
    (case a7 => k_is); (case l7 => k_is); (case c7 => k_is); (case k7 => k_is)
    (case a8 => k_is); (case l8 => k_is); (case c8 => k_is); (case k8 => k_is)
    (case a9 => k_is); (case l9 => k_is); (case c9 => k_is); (case k9 => k_is)
    (case a10 => k_is); (case l10 => k_is); (case c10 => k_is); (case k10 => k_is)
    (case a11 => k_is); (case l11 => k_is); (case c11 => k_is); (case k11 => k_is)
    (case a12 => k_is); (case l12 => k_is); (case c12 => k_is); (case k12 => k_is)
    (case a13 => k_is); (case l13 => k_is); (case c13 => k_is); (case k13 => k_is)
    (case a14 => k_is); (case l14 => k_is); (case c14 => k_is); (case k14 => k_is)
    (case a15 => k_is); (case l15 => k_is); (case c15 => k_is); (case k15 => k_is)
    (case a16 => k_is); (case l16 => k_is); (case c16 => k_is); (case k16 => k_is)
    (case a17 => k_is); (case l17 => k_is); (case c17 => k_is); (case k17 => k_is)
    (case a18 => k_is); (case l18 => k_is); (case c18 => k_is); (case k18 => k_is)
    (case a19 => k_is); (case l19 => k_is); (case c19 => k_is); (case k19 => k_is)
    (case a20 => k_is); (case l20 => k_is); (case c20 => k_is); (case k20 => k_is)
    (case a21 => k_is); (case l21 => k_is); (case c21 => k_is); (case k21 => k_is)
    (case a22 => k_is); (case l22 => k_is); (case c22 => k_is); (case k22 => k_is)
    (case z0 => k_is); (case z1 => k_is); (case z2 => k_is); (case z3 => k_is); (case z4 => k_is); (case z5 => k_is); (case z6 => k_is); (case z7 => k_is); (case z8 => k_is); (case z9 => k_is); (case z10 => k_is); (case z11 => k_is); (case z12 => k_is)
    (case q0 => k_is); (case ql0 => k_is)
    (case xa0 => k_is)
    (case xb0 => k_is)
    (case xi0 => k_is)
    (case xt0 => k_is)
    (case xa1 => k_is)
    (case xb1 => k_is)
    (case xi1 => k_is)
    (case xt1 => k_is)
    (case xa2 => k_is)
    (case xb2 => k_is)
    (case xi2 => k_is)
    (case xt2 => k_is)
    (case xa3 => k_is)
    (case xb3 => k_is)
    (case xi3 => k_is)
    (case xt3 => k_is)
    (case xa4 => k_is)
    (case xb4 => k_is)
    (case xi4 => k_is)
    (case xt4 => k_is)
    (case xa5 => k_is)
    (case xb5 => k_is)
    (case xi5 => k_is)
    (case xt5 => k_is)
    (case xa6 => k_is)
    (case xb6 => k_is)
    (case xi6 => k_is)
    (case xt6 => k_is)
    (case xa7 => k_is)
    (case xb7 => k_is)
    (case xi7 => k_is)
    (case xt7 => k_is)
    (case xa8 => k_is)
    (case xb8 => k_is)
    (case xi8 => k_is)
    (case xt8 => k_is)
    (case xa9 => k_is)
    (case xb9 => k_is)
    (case xi9 => k_is)
    (case xt9 => k_is)
    (case xa10 => k_is)
    (case xb10 => k_is)
    (case xi10 => k_is)
    (case xt10 => k_is)
    (case xa11 => k_is)
    (case xb11 => k_is)
    (case xi11 => k_is)
    (case xt11 => k_is)
    (case xa12 => k_is)
    (case xb12 => k_is)
    (case xi12 => k_is)
    (case xt12 => k_is)
    (case xa13 => k_is)
    (case xb13 => k_is)
    (case xi13 => k_is)
    (case xt13 => k_is)
    (case xa14 => k_is)
    (case xb14 => k_is)
    (case xi14 => k_is)
    (case xt14 => k_is)
    (case xa15 => k_is)
    (case xb15 => k_is)
    (case xi15 => k_is)
    (case xt15 => k_is)
    (case yn => k_is)
    (case yt => k_is)
    (case yx2 => k_exc)
    (case yk2 => k_is)
    (case yg2 => k_is)
    (case yh2 => k_is)
    (case yd2 => k_is)
    (case ya2 => k_is)
    (case ym2 => k_is)
    (case yv2 => k_is)
    (case ys2 => k_is)
    (case yp2_0 => k_is)
    (case yp2_1 => k_is)
    (case yp2_2 => k_is)
    (case yp2_3 => k_is)
    (case yp2_4 => k_is)
    (case yp2_5 => k_is)
    (case yp2_6 => k_is)
    (case yp2_7 => k_is)
    (case yp2_8 => k_is)
    (case yp2_9 => k_is)
    (case yp2_10 => k_is)
    (case yp2_11 => k_is)
    (case yp2_12 => k_is)
    (case yp2_13 => k_is)
    (case yp2_14 => k_is)
    (case yp2_15 => k_is)
    (case yx9 => k_exc)
    (case yk9 => k_is)
    (case yg9 => k_is)
    (case yh9 => k_is)
    (case yd9 => k_is)
    (case ya9 => k_is)
    (case ym9 => k_is)
    (case yv9 => k_is)
    (case ys9 => k_is)
    (case yp9_0 => k_is)
    (case yp9_1 => k_is)
    (case yp9_2 => k_is)
    (case yp9_3 => k_is)
    (case yp9_4 => k_is)
    (case yp9_5 => k_is)
    (case yp9_6 => k_is)
    (case yp9_7 => k_is)
    (case yp9_8 => k_is)
    (case yp9_9 => k_is)
    (case yp9_10 => k_is)
    (case yp9_11 => k_is)
    (case yp9_12 => k_is)
    (case yp9_13 => k_is)
    (case yp9_14 => k_is)
    (case yp9_15 => k_is)
