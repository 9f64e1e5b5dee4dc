import PyProof.Rows.All
import HandS.Conv
import HandS.Deep
import HandS.ExcIs
import HandS.Flt
import HandS.ForExc
import HandS.ForMost
import HandS.HotCalls
import HandS.IsInst
import HandS.More
import HandS.SetFor
import HandS.SetKeys
import HandS.Strs
import HandS.Style
import HandS.TupAny
import HandS.TupLen
import HandS.TupMul
import HandS.TupSets
import HandS.Wide
import HandS.Zip
import KE.DataMinMax
import KE.GoesEnum
import KE.GoesMore
import KE.GoesZip
import KE.KDictDisplayH
import KE.KDictPairs
import KE.KDictZip
import KE.LtSeq
import KE.OsArith
import KE.SortData
import OpenK.AllK
import PyProof.AutoSeq1
import PyProof.DictMoreH
import PyProof.TupleOfSeq
import PyProof.TupleOfStr
import Wide.All
import Wide.FinOn
import PySem.Challenge.RW_cutstairs_k56_what_houses_are
set_option Elab.async false
set_option linter.all false
set_option maxRecDepth 100000
set_option maxHeartbeats 8000000
namespace Fn
open PySem PySem.Spec PyProof.Rows L2
inductive D where
  | non | bl (b : Bool) | int (i : Int) | str (x : Str) | tup (xs : List D) | ctup (xs : List D) | lst (xs : List D)
  | dk (kvs : List (Key × D)) | dt (kvs : List (List Key × D)) | fn (k : Nat)
  | lk (kvs : List (Key × D)) | lt (kvs : List (List Key × D))
inductive M where
  | l (ds : List D) | k (kvs : List (Key × D)) | t (kvs : List (List Key × D))
inductive Sh where
  | k (ks : List Key) | t | l | kt (ks : List (List Key))
inductive B where
  | dat (d : D) | own (m : M) | vw (m : M) | bor (m : M) | scr (ns : List Int) | err (c : Nat) | nst (sh : Sh) (ls : List (List D))
inductive Res (α : Type) where
  | ok (a : α) | exc (c : Nat) | bad
namespace Res
def bind {α β : Type} (r : Res α) (f : α → Res β) : Res β := match r with
  | .ok a => f a
  | .exc c => .exc c
  | .bad => .bad
def map {α β : Type} (f : α → β) (r : Res α) : Res β := r.bind fun a => .ok (f a)
theorem ok_bind {α β : Type} (a : α) (f : α → Res β) : (Res.ok a).bind f = f a := rfl
theorem exc_bind {α β : Type} (c : Nat) (f : α → Res β) : (Res.exc c : Res α).bind f = .exc c := rfl
end Res
def frzM : M → D
  | .l ds => .lst ds
  | .k kvs => .dk kvs
  | .t kvs => .dt kvs
def rd : B → B
  | .own m => .dat (frzM m)
  | b => b
abbrev Env := List (Option B)
mutual
inductive Rp (K : PySem.W.Frag) (fa : Nat → Option Addr) (F : Hp) : V → D → Prop
  | non : Rp K fa F .non .non
  | bl (b : Bool) : Rp K fa F (.bl b) (.bl b)
  | int (i : Int) : Rp K fa F (.int i) (.int i)
  | str (x : Str) : Rp K fa F (.str x) (.str x)
  | tup {a : Addr} {xs : List V} {ds : List D} : F a = some (.tup xs) → RpAll K fa F xs ds → Rp K fa F (.ref a) (.tup ds)
  | ctup {a : Addr} {xs : List V} {ds : List D} : SqT K (fun _ => none) a xs → RpAll K fa F xs ds → Rp K fa F (.ref a) (.ctup ds)
  | lst {a : Addr} {xs : List V} {ds : List D} : F a = some (.lst xs) → RpAll K fa F xs ds → Rp K fa F (.ref a) (.lst ds)
  | dk {a : Addr} {kvs : List (Key × V)} {kds : List (Key × D)} : F a = some (.dK kvs) → kvs.map (·.1) = kds.map (·.1) → RpAll K fa F (kvs.map (·.2)) (kds.map (·.2)) → Rp K fa F (.ref a) (.dk kds)
  | dt {a : Addr} {kvs : List (List Key × V)} {kds : List (List Key × D)} : F a = some (.dT kvs) → kvs.map (·.1) = kds.map (·.1) → RpAll K fa F (kvs.map (·.2)) (kds.map (·.2)) → Rp K fa F (.ref a) (.dt kds)
  | fn {a : Addr} {k : Nat} : fa k = some a → Rp K fa F (.ref a) (.fn k)
  | lk {a : Addr} {o : Obj} {kvs : List (Key × V)} {kds : List (Key × D)} : F a = some (.frz o (.dK kvs)) → kvs.map (·.1) = kds.map (·.1) → RpAll K fa F (kvs.map (·.2)) (kds.map (·.2)) → Rp K fa F (.ref a) (.lk kds)
  | lt {a : Addr} {o : Obj} {kvs : List (List Key × V)} {kds : List (List Key × D)} : F a = some (.frz o (.dT kvs)) → kvs.map (·.1) = kds.map (·.1) → RpAll K fa F (kvs.map (·.2)) (kds.map (·.2)) → Rp K fa F (.ref a) (.lt kds)
inductive RpAll (K : PySem.W.Frag) (fa : Nat → Option Addr) (F : Hp) : List V → List D → Prop
  | nil : RpAll K fa F [] []
  | cons {v : V} {vs : List V} {d : D} {ds : List D} : Rp K fa F v d → RpAll K fa F vs ds → RpAll K fa F (v :: vs) (d :: ds)
end
inductive RpM (K : PySem.W.Frag) (fa : Nat → Option Addr) (F : Hp) : HO → M → Prop
  | l {xs : List V} {ds : List D} : RpAll K fa F xs ds → RpM K fa F (.lst xs) (.l ds)
  | k {kvs : List (Key × V)} {kds : List (Key × D)} : kvs.map (·.1) = kds.map (·.1) → RpAll K fa F (kvs.map (·.2)) (kds.map (·.2)) → RpM K fa F (.dK kvs) (.k kds)
  | t {kvs : List (List Key × V)} {kds : List (List Key × D)} : kvs.map (·.1) = kds.map (·.1) → RpAll K fa F (kvs.map (·.2)) (kds.map (·.2)) → RpM K fa F (.dT kvs) (.t kds)
section
variable {K : PySem.W.Frag} {fa : Nat → Option Addr} {F F' H H' : Hp}
mutual
theorem Rp.mono (e : Same F F') : ∀ {v : V} {d : D}, Rp K fa F v d → Rp K fa F' v d
  | _, _, .non => .non
  | _, _, .bl b => .bl b
  | _, _, .int i => .int i
  | _, _, .str x => .str x
  | _, _, .tup h r => .tup (e _ _ h) (RpAll.mono e r)
  | _, _, .ctup h r => .ctup h (RpAll.mono e r)
  | _, _, .lst h r => .lst (e _ _ h) (RpAll.mono e r)
  | _, _, .dk h q r => .dk (e _ _ h) q (RpAll.mono e r)
  | _, _, .dt h q r => .dt (e _ _ h) q (RpAll.mono e r)
  | _, _, .fn h => .fn h
  | _, _, .lk h q r => .lk (e _ _ h) q (RpAll.mono e r)
  | _, _, .lt h q r => .lt (e _ _ h) q (RpAll.mono e r)
theorem RpAll.mono (e : Same F F') : ∀ {vs : List V} {ds : List D}, RpAll K fa F vs ds → RpAll K fa F' vs ds
  | _, _, .nil => .nil
  | _, _, .cons h r => .cons (Rp.mono e h) (RpAll.mono e r)
end
theorem RpM.mono (e : Same F F') {o : HO} {m : M} (h : RpM K fa F o m) : RpM K fa F' o m := by
  cases h with
  | l r => exact .l (r.mono e)
  | k q r => exact .k q (r.mono e)
  | t q r => exact .t q (r.mono e)
theorem RpAll.len : ∀ {vs : List V} {ds : List D}, RpAll K fa F vs ds → vs.length = ds.length
  | _, _, .nil => rfl
  | _, _, .cons _ r => congrArg (· + 1) r.len
theorem RpAll.get : ∀ {vs : List V} {ds : List D} {i : Nat} {d : D}, RpAll K fa F vs ds → ds[i]? = some d → ∃ v, vs[i]? = some v ∧ Rp K fa F v d
  | _, _, _, _, .nil, h => by simp at h
  | _, _, 0, _, .cons h _, e => by simp at e; subst e; exact ⟨_, rfl, h⟩
  | _, _, i + 1, d, .cons _ r, e => by
    obtain ⟨v, h1, h2⟩ := RpAll.get (i := i) (d := d) r (by simpa using e)
    exact ⟨v, by simpa using h1, h2⟩
theorem RpAll.app : ∀ {vs ws : List V} {ds es : List D}, RpAll K fa F vs ds → RpAll K fa F ws es → RpAll K fa F (vs ++ ws) (ds ++ es)
  | _, _, _, _, .nil, s => s
  | _, _, _, _, .cons h r, s => .cons h (r.app s)
theorem RpAll.take : ∀ {vs : List V} {ds : List D} (n : Nat), RpAll K fa F vs ds → RpAll K fa F (vs.take n) (ds.take n)
  | _, _, 0, _ => .nil
  | _, _, _ + 1, .nil => .nil
  | _, _, n + 1, .cons h r => .cons h (r.take n)
theorem RpAll.drop : ∀ {vs : List V} {ds : List D} (n : Nat), RpAll K fa F vs ds → RpAll K fa F (vs.drop n) (ds.drop n)
  | _, _, 0, r => r
  | _, _, _ + 1, .nil => .nil
  | _, _, n + 1, .cons _ r => r.drop n
theorem RpAll.rev {vs : List V} {ds : List D} (h : RpAll K fa F vs ds) : RpAll K fa F vs.reverse ds.reverse := by
  induction vs generalizing ds with
  | nil => cases h; exact .nil
  | cons v vs ih =>
    cases h with
    | cons h r =>
      rw [List.reverse_cons, List.reverse_cons]
      exact (ih r).app (.cons h .nil)
theorem RpAll.set : ∀ {vs : List V} {ds : List D} (i : Nat) {v : V} {d : D}, RpAll K fa F vs ds → Rp K fa F v d → RpAll K fa F (vs.set i v) (ds.set i d)
  | _, _, _, _, _, .nil, _ => .nil
  | _, _, 0, _, _, .cons _ r, h => .cons h r
  | _, _, i + 1, _, _, .cons q r, h => .cons q (r.set i h)
theorem RpAll.ints : ∀ {vs : List V} {ns : List Int}, RpAll K fa F vs (ns.map D.int) → vs = ns.map V.int
  | _, [], .nil => rfl
  | _, n :: ns, .cons h r => by cases h; rw [r.ints]; rfl
theorem RpAll.of_ints : ∀ (ns : List Int), RpAll K fa F (ns.map V.int) (ns.map D.int)
  | [] => .nil
  | n :: ns => .cons (.int n) (RpAll.of_ints ns)
theorem RpAll.strs : ∀ {vs : List V} {ns : List Str}, RpAll K fa F vs (ns.map D.str) → vs = ns.map V.str
  | _, [], .nil => rfl
  | _, n :: ns, .cons h r => by cases h; rw [r.strs]; rfl
theorem RpAll.of_strs : ∀ (ns : List Str), RpAll K fa F (ns.map V.str) (ns.map D.str)
  | [] => .nil
  | n :: ns => .cons (.str n) (RpAll.of_strs ns)
theorem RpAll.bls : ∀ {vs : List V} {ns : List Bool}, RpAll K fa F vs (ns.map D.bl) → vs = ns.map V.bl
  | _, [], .nil => rfl
  | _, n :: ns, .cons h r => by cases h; rw [r.bls]; rfl
theorem RpM.frz {o : HO} {m : M} {p : Addr} (h : RpM K fa F o m) (e : F p = some o) : Rp K fa F (.ref p) (frzM m) := by
  cases h with
  | l r => exact .lst e r
  | k q r => exact .dk e q r
  | t q r => exact .dt e q r
structure Grow (F H F' H' : Hp) : Prop where
  fh : Same F F'
  hh : Same H H'
  sub : Same F' H'
  new : ∀ a o, H a = some o → (∀ xs, o ≠ .tup xs) → F a = none → F' a = none
theorem Grow.refl (s : Same F H) : Grow F H F H := ⟨Same.refl F, Same.refl H, s, fun _ _ _ _ e => e⟩
theorem Grow.trans {F1 H1 F2 H2 : Hp} (a : Grow F H F1 H1) (b : Grow F1 H1 F2 H2) : Grow F H F2 H2 :=
  ⟨a.fh.trans b.fh, a.hh.trans b.hh, b.sub, fun c o h n e => b.new c o (a.hh _ _ h) n (a.new c o h n e)⟩
theorem same_upd {p : Addr} {o : HO} (h : H p = none) : Same H (upd H p o) := fun b u q => by rw [upd_ne (ne_of_none q h)]; exact q
theorem Same.none {p : Addr} (s : Same F H) (h : H p = none) : F p = none := s.free h
theorem Grow.newH (s : Same F H) {p : Addr} {o : HO} (h : H p = none) : Grow F H F (upd H p o) :=
  ⟨Same.refl F, same_upd h, s.trans (same_upd h), fun _ _ _ _ e => e⟩
theorem Grow.newF (s : Same F H) {p : Addr} {o : HO} (h : H p = none) : Grow F H (upd F p o) (upd H p o) :=
  ⟨same_upd (s.free h), same_upd h, fun b u q => by
    by_cases hb : b = p
    · subst hb; rw [upd_same] at q ⊢; exact q
    · rw [upd_ne hb] at q ⊢; exact s _ _ q, fun a o ha _ e => by
    have hb : a ≠ p := ne_of_none ha h
    rw [upd_ne hb]; exact e⟩
theorem Grow.lock {F1 H1 : Hp} (g : Grow F H F1 H1) {p : Addr} {o : HO} (h : H p = none) (e : H1 p = some o) (f : F1 p = none) : Grow F H (upd F1 p o) H1 :=
  ⟨g.fh.trans (same_upd f), g.hh, fun b u q => by
    by_cases hb : b = p
    · subst hb; rw [upd_same] at q; rw [e]; exact q
    · rw [upd_ne hb] at q; exact g.sub _ _ q, fun a o ha n ea => by
    have hb : a ≠ p := ne_of_none ha h
    rw [upd_ne hb]; exact g.new a o ha n ea⟩
theorem Grow.tup {F1 H1 : Hp} (g : Grow F H F1 H1) {p : Addr} {xs : List V} (e : H1 p = some (.tup xs)) : Grow F H (upd F1 p (.tup xs)) H1 :=
  ⟨fun b u q => by
    by_cases hb : b = p
    · subst hb
      have := g.sub _ _ (g.fh _ _ q)
      rw [e] at this
      rw [upd_same]
      exact this
    · rw [upd_ne hb]; exact g.fh _ _ q, g.hh, fun b u q => by
    by_cases hb : b = p
    · subst hb; rw [upd_same] at q; rw [e]; exact q
    · rw [upd_ne hb] at q; exact g.sub _ _ q, fun a o ha n ea => by
    have hb : a ≠ p := fun z => by
      subst z
      have := g.hh _ _ ha
      rw [e] at this
      exact n xs (Option.some.inj this).symm
    rw [upd_ne hb]; exact g.new a o ha n ea⟩
end
theorem RpM.notTup {K : PySem.W.Frag} {fa : Nat → Option Addr} {F : Hp} {o : HO} {m : M} (h : RpM K fa F o m) : ∀ xs, o ≠ .tup xs := by
  cases h <;> (intro xs z; cases z)
structure G where
  K : PySem.W.Frag
  fa : Nat → Option Addr
  F0 : Hp
  G0 : Hp
  E : Nat → L2.St → Hp → Prop
  h : Option (Addr × Obj)
def ErrAt (g : G) (v : V) (c : Nat) : Prop := ∃ (a C : Addr) (oe : Obj), g.h = some (a, oe) ∧ v = .ref a ∧ g.fa (1000 + c) = some C ∧ Zc (.ref C) none oe ∧ ∃ vs, oe.data = .fields vs
def topO : Sh → List V → HO
  | .k ks, vs => .dK (ks.zip vs)
  | .t, vs => .tup vs
  | .l, vs => .lst vs
  | .kt ks, vs => .dT (ks.zip vs)
def Sh.fit : Sh → Nat → Prop
  | .k ks, n => ks.length = n
  | .kt ks, n => ks.length = n
  | _, _ => True
structure NstOk (K : PySem.W.Frag) (fa : Nat → Option Addr) (G0 : Hp) (F H : Hp) (p : Addr) (sh : Sh) (qs : List Addr) (ls : List (List D)) : Prop where
  top : H p = some (topO sh (qs.map V.ref))
  pf : F p = none ∨ sh = .t
  pg : G0 p = none
  len : qs.length = ls.length
  fit : sh.fit ls.length
  nd : qs.Nodup
  np : p ∉ qs
  child : ∀ (i : Nat) (q : Addr) (ds : List D), qs[i]? = some q → ls[i]? = some ds → ∃ xs, H q = some (.lst xs) ∧ F q = none ∧ G0 q = none ∧ RpAll K fa F xs ds
def RB (g : G) (F H F' H' : Hp) (v : V) : B → Prop
  | .dat d => Rp g.K g.fa F' v d
  | .own m => ∃ p o, v = .ref p ∧ H p = none ∧ H' p = some o ∧ F' p = none ∧ RpM g.K g.fa F' o m
  | .vw m => ∃ p o, v = .ref p ∧ H' p = some o ∧ RpM g.K g.fa F' o m
  | .bor m => ∃ p o, v = .ref p ∧ g.G0 p = some o ∧ RpM g.K g.fa F' o m
  | .scr ns => ∃ p, v = .ref p ∧ SqL g.K g.G0 p (ns.map V.int)
  | .err c => ErrAt g v c
  | .nst _ _ => False
def RR (g : G) (F H : Hp) (v : V) : B → Prop
  | .dat d => Rp g.K g.fa F v d
  | .own _ => False
  | .vw m => ∃ p o, v = .ref p ∧ H p = some o ∧ RpM g.K g.fa F o m
  | .bor m => ∃ p o, v = .ref p ∧ g.G0 p = some o ∧ RpM g.K g.fa F o m
  | .scr ns => ∃ p, v = .ref p ∧ SqL g.K g.G0 p (ns.map V.int)
  | .err c => ErrAt g v c
  | .nst _ _ => False
def RN (g : G) (F H : Hp) (v : V) : B → Prop
  | .dat d => Rp g.K g.fa F v d
  | .own m => ∃ p o, v = .ref p ∧ H p = some o ∧ F p = none ∧ g.G0 p = none ∧ RpM g.K g.fa F o m
  | .vw _ => False
  | .bor m => ∃ p o, v = .ref p ∧ g.G0 p = some o ∧ RpM g.K g.fa F o m
  | .scr ns => ∃ p, v = .ref p ∧ SqL g.K g.G0 p (ns.map V.int)
  | .err c => ErrAt g v c
  | .nst sh ls => ∃ p qs, v = .ref p ∧ NstOk g.K g.fa g.G0 F H p sh qs ls
def valsO : HO → List V
  | .dK kvs => kvs.map (·.2)
  | .dT kvs => kvs.map (·.2)
  | .tup vs => vs
  | .lst vs => vs
  | _ => []
def Ft (H : Hp) (v : V) : B → Addr → Prop
  | .own _, a => v = .ref a
  | .nst _ _, a => v = .ref a ∨ ∃ p o, v = .ref p ∧ H p = some o ∧ V.ref a ∈ valsO o
  | _, _ => False
structure St (g : G) (F H : Hp) (σ : L2.St) (ρ : Env) : Prop where
  gr : Grow g.F0 g.G0 F H
  len : σ.length = ρ.length
  at_ : ∀ (i : Nat) (b : B), ρ[i]? = some (some b) → ∃ v, σ[i]? = some (some v) ∧ RN g F H v b
  apart : ∀ (i j : Nat) (b b' : B) (v v' : V) (a : Addr), i ≠ j → ρ[i]? = some (some b) → ρ[j]? = some (some b') → σ[i]? = some (some v) → σ[j]? = some (some v') → Ft H v b a → Ft H v' b' a → False
section
variable {g : G} {F H F' H' : Hp} {σ : L2.St} {ρ : Env}
theorem St.sub (s : St g F H σ ρ) : Same F H := s.gr.sub
theorem vals_top {sh : Sh} {vs : List V} (h : sh.fit vs.length) : valsO (topO sh vs) = vs := by
  cases sh with
  | k ks =>
    show (ks.zip vs).map (·.2) = vs
    exact List.map_snd_zip (by show vs.length ≤ ks.length; have : ks.length = vs.length := h; omega)
  | t => rfl
  | l => rfl
  | kt ks =>
    show (ks.zip vs).map (·.2) = vs
    exact List.map_snd_zip (by show vs.length ≤ ks.length; have : ks.length = vs.length := h; omega)
theorem NstOk.vals {p : Addr} {sh : Sh} {qs : List Addr} {ls : List (List D)} (n : NstOk g.K g.fa g.G0 F H p sh qs ls) : valsO (topO sh (qs.map V.ref)) = qs.map V.ref := vals_top (by rw [List.length_map, n.len]; exact n.fit)
theorem NstOk.kid {p : Addr} {sh : Sh} {qs : List Addr} {ls : List (List D)} (n : NstOk g.K g.fa g.G0 F H p sh qs ls) {a : Addr} : V.ref a ∈ valsO (topO sh (qs.map V.ref)) ↔ a ∈ qs := by
  rw [n.vals]
  constructor
  · intro h
    obtain ⟨x, h1, h2⟩ := List.mem_map.mp h
    cases h2
    exact h1
  · exact fun h => List.mem_map_of_mem h
theorem NstOk.at' {p : Addr} {sh : Sh} {qs : List Addr} {ls : List (List D)} (n : NstOk g.K g.fa g.G0 F H p sh qs ls) {a : Addr} (h : a ∈ qs) : ∃ xs ds, H a = some (.lst xs) ∧ F a = none ∧ g.G0 a = none ∧ RpAll g.K g.fa F xs ds := by
  obtain ⟨i, h1, h2⟩ := List.mem_iff_getElem.mp h
  have hl : i < ls.length := by rw [← n.len]; exact h1
  obtain ⟨xs, h3⟩ := n.child i a ls[i] (by rw [List.getElem?_eq_getElem h1, h2]) (List.getElem?_eq_getElem hl)
  exact ⟨xs, _, h3⟩
theorem Ft.at_ {v : V} {b : B} {a : Addr} (r : RN g F H v b) (h : Ft H v b a) : ∃ o, H a = some o ∧ g.G0 a = none ∧ ((∀ xs, o ≠ .tup xs) → F a = none) := by
  cases b with
  | own m =>
    obtain ⟨p, o, rfl, h1, h2, h3, h4⟩ := r
    cases h
    exact ⟨o, h1, h3, fun _ => h2⟩
  | nst sh ls =>
    obtain ⟨p, qs, rfl, n⟩ := r
    have kid : a ∈ qs → ∃ o, H a = some o ∧ g.G0 a = none ∧ ((∀ xs, o ≠ .tup xs) → F a = none) := fun z => by
      obtain ⟨xs, ds, e1, e2, e3, _⟩ := n.at' z
      exact ⟨_, e1, e3, fun _ => e2⟩
    rcases h with h | ⟨p', o, h1, h2, h3⟩
    · cases h
      refine ⟨_, n.top, n.pg, fun z => ?_⟩
      rcases n.pf with e | e
      · exact e
      · subst e
        exact absurd rfl (z _)
    · cases h1
      rw [n.top] at h2
      cases h2
      exact kid (n.kid.mp h3)
  | _ => exact h.elim
theorem RN.keep {v : V} {b : B} (r : RN g F H v b) (k : ∀ a, Ft H v b a → H' a = H a ∧ ((∀ o, H a = some o → ∀ xs, o ≠ .tup xs) → F a = none → F' a = none)) (e : Same F F') : RN g F' H' v b := by
  cases b with
  | dat d => exact Rp.mono e r
  | own m =>
    obtain ⟨p, o, rfl, h, f, n, q⟩ := r
    obtain ⟨k1, k2⟩ := k p rfl
    exact ⟨p, o, rfl, by rw [k1]; exact h, k2 (fun o' ho => by rw [h] at ho; cases ho; exact q.notTup) f, n, q.mono e⟩
  | vw m => exact r
  | bor m =>
    obtain ⟨p, o, rfl, h, q⟩ := r
    exact ⟨p, o, rfl, h, q.mono e⟩
  | scr ns => exact r
  | err c => exact r
  | nst sh ls =>
    obtain ⟨p, qs, rfl, n⟩ := r
    obtain ⟨k1, k2⟩ := k p (.inl rfl)
    refine ⟨p, qs, rfl, ⟨by rw [k1]; exact n.top, ?_, n.pg, n.len, n.fit, n.nd, n.np, fun i q ds h1 h2 => ?_⟩⟩
    · rcases n.pf with f | f
      · by_cases ht : sh = .t
        · exact .inr ht
        · refine .inl (k2 (fun o ho xs z => ?_) f)
          rw [n.top] at ho
          cases ho
          cases sh with
          | k ks => cases z
          | t => exact ht rfl
          | l => cases z
          | kt ks => cases z
      · exact .inr f
    · obtain ⟨xs, e1, e2, e3, e4⟩ := n.child i q ds h1 h2
      obtain ⟨k3, k4⟩ := k q (.inr ⟨p, _, rfl, n.top, n.kid.mpr (List.mem_of_getElem? h1)⟩)
      exact ⟨xs, by rw [k3]; exact e1, k4 (fun o ho => by rw [e1] at ho; cases ho; intro xs z; cases z) e2, e3, e4.mono e⟩
theorem Ft.keep {v : V} {b : B} {a : Addr} (k : ∀ a, Ft H v b a → H' a = H a) (h : Ft H' v b a) : Ft H v b a := by
  cases b with
  | own m => exact h
  | nst sh ls =>
    rcases h with h | ⟨p, o, h1, h2, h3⟩
    · exact .inl h
    · refine .inr ⟨p, o, h1, ?_, h3⟩
      rw [← k p (.inl h1)]
      exact h2
  | _ => exact h
theorem Ft.back {v : V} {b : B} {a : Addr} (r : RN g F H v b) (e : Same H H') (h : Ft H' v b a) : Ft H v b a :=
  h.keep fun a ha => by
    obtain ⟨o, h1, _⟩ := Ft.at_ r ha
    rw [h1]
    exact e _ _ h1
theorem RN.mono {v : V} {b : B} (r : RN g F H v b) (e : Grow F H F' H') : RN g F' H' v b :=
  r.keep (fun a ha => by
    obtain ⟨o, h1, _⟩ := Ft.at_ r ha
    exact ⟨by rw [h1]; exact e.hh _ _ h1, fun z f => e.new a o h1 (z o h1) f⟩) e.fh
theorem RR.mono {v : V} {b : B} (r : RR g F H v b) (e : Grow F H F' H') : RR g F' H' v b := by
  cases b with
  | dat d => exact Rp.mono e.fh r
  | own m => exact r
  | vw m =>
    obtain ⟨p, o, rfl, h, q⟩ := r
    exact ⟨p, o, rfl, e.hh _ _ h, q.mono e.fh⟩
  | bor m =>
    obtain ⟨p, o, rfl, h, q⟩ := r
    exact ⟨p, o, rfl, h, q.mono e.fh⟩
  | scr ns => exact r
  | err c => exact r
  | nst sh ls => exact r
theorem RB.rd {v : V} {b : B} (e : Grow F H F' H') (r : RB g F H F' H' v b) : ∃ F'', Grow F H F'' H' ∧ RR g F'' H' v (rd b) := by
  cases b with
  | dat d => exact ⟨F', e, r⟩
  | own m =>
    obtain ⟨p, o, rfl, h, ho, f, q⟩ := r
    refine ⟨upd F' p o, e.lock h ho f, ?_⟩
    exact (q.mono (same_upd f)).frz upd_same
  | vw m =>
    obtain ⟨p, o, rfl, h, q⟩ := r
    exact ⟨F', e, p, o, rfl, h, q⟩
  | bor m =>
    obtain ⟨p, o, rfl, h, q⟩ := r
    exact ⟨F', e, p, o, rfl, h, q⟩
  | scr ns => exact ⟨F', e, r⟩
  | err c => exact ⟨F', e, r⟩
  | nst sh ls => exact r.elim
theorem RR.rb {v : V} {b : B} {F0 H0 : Hp} (r : RR g F H v b) : RB g F0 H0 F H v b := by
  cases b with
  | dat d => exact r
  | own m => exact r.elim
  | vw m => exact r
  | bor m => exact r
  | scr ns => exact r
  | err c => exact r
  | nst sh ls => exact r
theorem RB.later {v : V} {b : B} {F1 H1 : Hp} (e : Grow F H F1 H1) (r : RB g F1 H1 F' H' v b) : RB g F H F' H' v b := by
  cases b with
  | dat d => exact r
  | own m =>
    obtain ⟨p, o, rfl, h, z⟩ := r
    exact ⟨p, o, rfl, e.hh.free h, z⟩
  | vw m => exact r
  | bor m => exact r
  | scr ns => exact r
  | err c => exact r
  | nst sh ls => exact r
theorem St.grow (s : St g F H σ ρ) (e : Grow F H F' H') : St g F' H' σ ρ :=
  ⟨s.gr.trans e, s.len, fun i b h => let ⟨v, h1, h2⟩ := s.at_ i b h; ⟨v, h1, h2.mono e⟩, fun i j b b' v v' a hij h1 h2 h3 h4 h5 h6 => by
    obtain ⟨w, e1, r1⟩ := s.at_ i b h1
    obtain ⟨w', e2, r2⟩ := s.at_ j b' h2
    rw [h3] at e1
    rw [h4] at e2
    cases e1
    cases e2
    exact s.apart i j b b' v v' a hij h1 h2 h3 h4 (Ft.back r1 e.hh h5) (Ft.back r2 e.hh h6)⟩
theorem St.own_none (s : St g F H σ ρ) {i : Nat} {m : M} (h : ρ[i]? = some (some (.own m))) : ∃ p o, σ[i]? = some (some (.ref p)) ∧ H p = some o ∧ F p = none ∧ g.G0 p = none ∧ RpM g.K g.fa F o m := by
  obtain ⟨v, h1, p, o, rfl, h2⟩ := s.at_ i _ h
  exact ⟨p, o, h1, h2⟩
theorem set_some {α : Type} {l : List (Option α)} {i j : Nat} {x : Option α} {y : α} (h : (l.set i x)[j]? = some (some y)) : (i = j ∧ x = some y ∧ j < l.length) ∨ (i ≠ j ∧ l[j]? = some (some y)) := by
  by_cases hij : i = j
  · subst hij
    by_cases hl : i < l.length
    · rw [List.getElem?_set_self hl] at h
      exact .inl ⟨rfl, Option.some.inj h, hl⟩
    · rw [List.getElem?_eq_none (by simpa using hl)] at h
      cases h
  · rw [List.getElem?_set_ne hij] at h
    exact .inr ⟨hij, h⟩
theorem St.put (s : St g F H σ ρ) {v : V} {b : B} (e : Grow F H F' H') (r : RB g F H F' H' v b) (i : Nat) (hv : ∀ m, b ≠ .vw m) : St g F' H' (σ.set i (some v)) (ρ.set i (some b)) := by
  have s1 := s.grow e
  have fresh : ∀ {j : Nat} {b' : B} {v' : V} {a : Addr}, ρ[j]? = some (some b') → σ[j]? = some (some v') → Ft H' v b a → Ft H' v' b' a → False := fun {j b' v' a} h1 h2 h3 h4 => by
    cases b with
    | own m =>
      obtain ⟨p, o, rfl, h, _⟩ := r
      cases h3
      obtain ⟨w, e1, r1⟩ := s.at_ j b' h1
      rw [h2] at e1
      cases e1
      obtain ⟨o', z, _⟩ := Ft.at_ r1 (Ft.back r1 e.hh h4)
      rw [h] at z
      cases z
    | nst sh ls => exact r.elim
    | _ => exact h3.elim
  refine ⟨s1.gr, by simp [s1.len], fun j b' h => ?_, fun j k b1 b2 v1 v2 a hjk h1 h2 h3 h4 h5 h6 => ?_⟩
  · rcases set_some h with ⟨rfl, h1, h2⟩ | ⟨h1, h2⟩
    · cases h1
      refine ⟨v, by rw [List.getElem?_set_self (by rw [s1.len]; exact h2)], ?_⟩
      cases b with
      | dat d => exact r
      | own m =>
        obtain ⟨p, o, rfl, h, z, f, q⟩ := r
        exact ⟨p, o, rfl, z, f, s.gr.hh.free h, q⟩
      | vw m => exact absurd rfl (hv m)
      | bor m => exact r
      | scr ns => exact r
      | err c => exact r
      | nst sh ls => exact r.elim
    · obtain ⟨w, h3, h4⟩ := s1.at_ j b' h2
      exact ⟨w, by rw [List.getElem?_set_ne h1]; exact h3, h4⟩
  · rcases set_some h1 with ⟨rfl, e1, l1⟩ | ⟨n1, e1⟩ <;> rcases set_some h2 with ⟨rfl, e2, l2⟩ | ⟨n2, e2⟩
    · exact absurd rfl hjk
    · cases e1
      rw [List.getElem?_set_self (by rw [s.len]; exact l1)] at h3
      rw [List.getElem?_set_ne n2] at h4
      cases h3
      exact fresh e2 h4 h5 h6
    · cases e2
      rw [List.getElem?_set_self (by rw [s.len]; exact l2)] at h4
      rw [List.getElem?_set_ne n1] at h3
      cases h4
      exact fresh e1 h3 h6 h5
    · rw [List.getElem?_set_ne n1] at h3
      rw [List.getElem?_set_ne n2] at h4
      exact s1.apart j k b1 b2 v1 v2 a hjk e1 e2 h3 h4 h5 h6
theorem St.drop (s : St g F H σ ρ) (i : Nat) : St g F H (σ.set i none) (ρ.set i none) := by
  refine ⟨s.gr, by simp [s.len], fun j b h => ?_, fun j k b1 b2 v1 v2 a hjk h1 h2 h3 h4 h5 h6 => ?_⟩
  · rcases set_some h with ⟨rfl, h1, h2⟩ | ⟨h1, h2⟩
    · cases h1
    · obtain ⟨w, h3, h4⟩ := s.at_ j b h2
      exact ⟨w, by rw [List.getElem?_set_ne h1]; exact h3, h4⟩
  · rcases set_some h1 with ⟨rfl, e1, l1⟩ | ⟨n1, e1⟩
    · cases e1
    rcases set_some h2 with ⟨rfl, e2, l2⟩ | ⟨n2, e2⟩
    · cases e2
    rw [List.getElem?_set_ne n1] at h3
    rw [List.getElem?_set_ne n2] at h4
    exact s.apart j k b1 b2 v1 v2 a hjk e1 e2 h3 h4 h5 h6
theorem St.turn (s : St g F H σ ρ) {i : Nat} {b b' : B} {v : V} (h : ρ[i]? = some (some b)) (hv : σ[i]? = some (some v)) (hf : Same F F') (gr : Grow g.F0 g.G0 F' H')
    (k : ∀ a, (∃ o, H a = some o) → ¬ Ft H v b a → H' a = H a ∧ ((∀ o, H a = some o → ∀ xs, o ≠ .tup xs) → F a = none → F' a = none)) (r : RN g F' H' v b') (ft : ∀ a, Ft H' v b' a → Ft H v b a ∨ H a = none) : St g F' H' σ (ρ.set i (some b')) := by
  have il : i < ρ.length := (List.getElem?_eq_some_iff.mp h).1
  have oth : ∀ {j : Nat} {c : B} {w : V}, i ≠ j → ρ[j]? = some (some c) → σ[j]? = some (some w) → RN g F H w c ∧ (∀ a, Ft H w c a → H' a = H a ∧ ((∀ o, H a = some o → ∀ xs, o ≠ .tup xs) → F a = none → F' a = none)) := fun {j c w} hij h1 h2 => by
    obtain ⟨w', e1, r1⟩ := s.at_ j c h1
    rw [h2] at e1
    cases e1
    refine ⟨r1, fun a ha => k a ?_ fun z => s.apart i j b c v w a hij h h1 hv h2 z ha⟩
    obtain ⟨o, ho, _⟩ := Ft.at_ r1 ha
    exact ⟨o, ho⟩
  refine ⟨gr, by simp [s.len], fun j c hj => ?_, fun j l b1 b2 v1 v2 a hjl h1 h2 h3 h4 h5 h6 => ?_⟩
  · rcases set_some hj with ⟨rfl, e1, l1⟩ | ⟨n1, e1⟩
    · cases e1
      exact ⟨v, hv, r⟩
    · obtain ⟨w, h6, h7⟩ := s.at_ j c e1
      obtain ⟨r1, k1⟩ := oth n1 e1 h6
      exact ⟨w, h6, r1.keep k1 hf⟩
  · have mix : ∀ {j : Nat} {c : B} {w : V}, i ≠ j → ρ[j]? = some (some c) → σ[j]? = some (some w) → Ft H' v b' a → Ft H' w c a → False := fun {j c w} hij q1 q2 q3 q4 => by
      obtain ⟨r1, k1⟩ := oth hij q1 q2
      have z := q4.keep fun a ha => (k1 a ha).1
      rcases ft a q3 with y | y
      · exact s.apart i j b c v w a hij h q1 hv q2 y z
      · obtain ⟨o, ho, _⟩ := Ft.at_ r1 z
        rw [y] at ho
        cases ho
    rcases set_some h1 with ⟨rfl, e1, l1⟩ | ⟨n1, e1⟩ <;> rcases set_some h2 with ⟨rfl, e2, l2⟩ | ⟨n2, e2⟩
    · exact absurd rfl hjl
    · cases e1
      rw [hv] at h3
      cases h3
      exact mix n2 e2 h4 h5 h6
    · cases e2
      rw [hv] at h4
      cases h4
      exact mix n1 e1 h3 h6 h5
    · obtain ⟨_, k1⟩ := oth n1 e1 h3
      obtain ⟨_, k2⟩ := oth n2 e2 h4
      exact s.apart j l b1 b2 v1 v2 a hjl e1 e2 h3 h4 (h5.keep fun a ha => (k1 a ha).1) (h6.keep fun a ha => (k2 a ha).1)
theorem St.change (s : St g F H σ ρ) {i : Nat} {m m' : M} {p : Addr} {o' : HO} (h : ρ[i]? = some (some (.own m))) (hp : σ[i]? = some (some (.ref p))) (q : RpM g.K g.fa F o' m') : St g F (upd H p o') σ (ρ.set i (some (.own m'))) := by
  obtain ⟨p', o, h1, h2, h3, h4, h5⟩ := s.own_none h
  rw [hp] at h1
  cases h1
  refine s.turn h hp (Same.refl F) ⟨s.gr.fh, fun b u z => ?_, fun b u z => ?_, s.gr.new⟩ (fun a _ ha => ⟨upd_ne fun z => ha (by rw [z]; exact rfl), fun _ f => f⟩) ⟨p, o', rfl, upd_same, h3, h4, q⟩ fun a ha => .inl ha
  · rw [upd_ne (ne_of_none z h4)]; exact s.gr.hh _ _ z
  · rw [upd_ne (ne_of_none z h3)]; exact s.sub _ _ z
theorem St.lock (s : St g F H σ ρ) {i : Nat} {m : M} (h : ρ[i]? = some (some (.own m))) : ∃ F', Grow g.F0 g.G0 F' H ∧ Same F F' ∧ St g F' H σ (ρ.set i (some (.dat (frzM m)))) := by
  obtain ⟨p, o, h1, h2, h3, h4, h5⟩ := s.own_none h
  have gr : Grow g.F0 g.G0 (upd F p o) H := s.gr.lock h4 h2 h3
  refine ⟨upd F p o, gr, same_upd h3, s.turn h h1 (same_upd h3) gr (fun a _ ha => ⟨rfl, fun _ f => ?_⟩) ((h5.mono (same_upd h3)).frz upd_same) fun a ha => ha.elim⟩
  rw [upd_ne fun z => ha (by rw [z]; exact rfl)]
  exact f
end
def Post (g : G) (σ : L2.St) (F H : Hp) (r : Res B) (Q : VK) : Prop := match r with
  | .ok b => ∀ v F' H', Grow F H F' H' → RB g F H F' H' v b → Q v H'
  | .exc c => ∀ F' H', Grow F H F' H' → g.E c σ H'
  | .bad => False
def tF (g : G) (f : Env → Res B) : TE := fun σ H Q => ∃ F ρ, St g F H σ ρ ∧ Post g σ F H (f ρ) Q
def PostA (g : G) (σ : L2.St) (F H : Hp) (r : Res (List B)) (Q : List V → Hp → Prop) : Prop := match r with
  | .ok bs => ∀ vs F' H', Grow F H F' H' → Paired (RR g F' H') vs bs → Q vs H'
  | .exc c => ∀ F' H', Grow F H F' H' → g.E c σ H'
  | .bad => False
def tFA (g : G) (f : Env → Res (List B)) : TA := fun σ H Q => ∃ F ρ, St g F H σ ρ ∧ PostA g σ F H (f ρ) Q
def PostT (g : G) (σ : L2.St) (F H : Hp) (r : Res Bool) (Q : Bool → Hp → Prop) : Prop := match r with
  | .ok b => ∀ F' H', Grow F H F' H' → Q b H'
  | .exc c => ∀ F' H', Grow F H F' H' → g.E c σ H'
  | .bad => False
def tFT (g : G) (f : Env → Res Bool) : TT := fun σ H Q => ∃ F ρ, St g F H σ ρ ∧ PostT g σ F H (f ρ) Q
section
variable {g : G} {F H F' H' : Hp} {σ : L2.St} {ρ : Env}
theorem Post.later {r : Res B} {Q : VK} (h : Post g σ F H r Q) (e : Grow F H F' H') : Post g σ F' H' r Q := by
  cases r with
  | ok b => exact fun v F2 H2 e2 rb => h v F2 H2 (e.trans e2) (rb.later e)
  | exc c => exact fun F2 H2 e2 => h F2 H2 (e.trans e2)
  | bad => exact h
theorem PostA.later {r : Res (List B)} {Q : List V → Hp → Prop} (h : PostA g σ F H r Q) (e : Grow F H F' H') : PostA g σ F' H' r Q := by
  cases r with
  | ok b => exact fun v F2 H2 e2 rb => h v F2 H2 (e.trans e2) rb
  | exc c => exact fun F2 H2 e2 => h F2 H2 (e.trans e2)
  | bad => exact h
theorem PostT.later {r : Res Bool} {Q : Bool → Hp → Prop} (h : PostT g σ F H r Q) (e : Grow F H F' H') : PostT g σ F' H' r Q := by
  cases r with
  | ok b => exact fun F2 H2 e2 => h F2 H2 (e.trans e2)
  | exc c => exact fun F2 H2 e2 => h F2 H2 (e.trans e2)
  | bad => exact h
theorem run1 {f : Env → Res B} {Q : VK} (s : St g F H σ ρ) (hok : ∀ b v F1 H1, f ρ = .ok b → Grow F H F1 H1 → RR g F1 H1 v (rd b) → Q v H1) (hexc : ∀ c, f ρ = .exc c → ∀ F' H', Grow F H F' H' → g.E c σ H') (hbad : f ρ ≠ .bad) : tF g f σ H Q := by
  refine ⟨F, ρ, s, ?_⟩
  cases e : f ρ with
  | ok b => exact fun v F1 H1 e1 rb => let ⟨F2, e2, r2⟩ := rb.rd e1; hok b v F2 H1 e e2 r2
  | exc c => exact hexc c e
  | bad => exact hbad e
end
end Fn
namespace Fn
open PySem PySem.Spec PyProof.Rows L2
mutual
def toPy : D → PyData
  | .non => .none
  | .bl b => .bool b
  | .int i => .int i
  | .str x => .str x
  | .tup xs => .tuple (toPys xs)
  | .ctup xs => .tuple (toPys xs)
  | .lst xs => .list (toPys xs)
  | .dk _ => .dict []
  | .dt _ => .dict []
  | .lk _ => .dict []
  | .lt _ => .dict []
  | .fn _ => .dict []
def toPys : List D → List PyData
  | [] => []
  | x :: xs => toPy x :: toPys xs
end
theorem toPys_map (xs : List D) : toPys xs = xs.map toPy := by
  induction xs with
  | nil => rfl
  | cons x xs ih => rw [toPys, ih]; rfl
structure Sm (g : G) (F H : Hp) : Prop where
  fh : Same F H
  gh : Same g.G0 H
theorem St.sm {g : G} {F H : Hp} {σ : L2.St} {ρ : Env} (s : St g F H σ ρ) : Sm g F H := ⟨s.gr.sub, s.gr.hh⟩
theorem Sm.grow {g : G} {F H F' H' : Hp} (s : Sm g F H) (e : Grow F H F' H') : Sm g F' H' := ⟨e.sub, s.gh.trans e.hh⟩
section
variable {g : G} {σ : L2.St} {F H F' H' : Hp}
theorem sqT_none {K : PySem.W.Frag} {a : Addr} {xs : List V} (h : SqT K (fun _ => none) a xs) : SqT K H a xs := by
  rcases h with (h | ⟨o, h⟩) | h
  · cases h
  · cases h
  · exact .inr h
mutual
theorem Rp.dp {K : PySem.W.Frag} {fa : Nat → Option Addr} (e : Same F H) : ∀ {v : V} {d : D}, Rp K fa F v d → (toPy d).canLay0 = true → Dp K H v (toPy d)
  | _, _, .non, _ => .non
  | _, _, .bl b, _ => .bl b
  | _, _, .int i, _ => .int i
  | _, _, .str x, _ => .str x
  | _, _, .tup h r, c => by
    simp only [toPy, PyData.canLay0] at c ⊢
    exact .tup (SqT.of (e _ _ h)) (RpAll.dp e r c)
  | _, _, .ctup h r, c => by
    simp only [toPy, PyData.canLay0] at c ⊢
    exact .tup (sqT_none h) (RpAll.dp e r c)
  | _, _, .lst h r, c => by
    simp only [toPy, PyData.canLay0] at c ⊢
    exact .lst (SqL.of (e _ _ h)) (RpAll.dp e r c)
  | _, _, .dk _ _ _, c => by simp [toPy, PyData.canLay0] at c
  | _, _, .dt _ _ _, c => by simp [toPy, PyData.canLay0] at c
  | _, _, .lk _ _ _, c => by simp [toPy, PyData.canLay0] at c
  | _, _, .lt _ _ _, c => by simp [toPy, PyData.canLay0] at c
  | _, _, .fn _, c => by simp [toPy, PyData.canLay0] at c
theorem RpAll.dp {K : PySem.W.Frag} {fa : Nat → Option Addr} (e : Same F H) : ∀ {vs : List V} {ds : List D}, RpAll K fa F vs ds → PyData.canLayAll0 (toPys ds) = true → DpAll K H vs (toPys ds)
  | _, _, .nil, _ => .nil
  | _, _, .cons h r, c => by
    simp only [toPys, PyData.canLayAll0, Bool.and_eq_true] at c ⊢
    exact .cons (Rp.dp e h c.1) (RpAll.dp e r c.2)
end
theorem Post.dat {d : D} {Q : VK} {v : V} (h : Post g σ F H (.ok (.dat d)) Q) (s : Sm g F H) (r : Rp g.K g.fa F v d) : Q v H := h v F H (Grow.refl s.fh) r
theorem Post.int {i : Int} {Q : VK} (h : Post g σ F H (.ok (.dat (.int i))) Q) (s : Sm g F H) : Q (.int i) H := h.dat s (.int i)
theorem Post.bl {i : Bool} {Q : VK} (h : Post g σ F H (.ok (.dat (.bl i))) Q) (s : Sm g F H) : Q (.bl i) H := h.dat s (.bl i)
theorem Post.str {i : Str} {Q : VK} (h : Post g σ F H (.ok (.dat (.str i))) Q) (s : Sm g F H) : Q (.str i) H := h.dat s (.str i)
theorem Post.newM {m : M} {o : HO} {Q : VK} (h : Post g σ F H (.ok (.own m)) Q) (s : Sm g F H) (r : RpM g.K g.fa F o m) (p : Addr) (hp : H p = none) : Q (.ref p) (upd H p o) :=
  h (.ref p) F (upd H p o) (Grow.newH s.fh hp) ⟨p, o, rfl, hp, upd_same, s.fh.free hp, r⟩
theorem Post.newL {ds : List D} {xs : List V} {Q : VK} (h : Post g σ F H (.ok (.own (.l ds))) Q) (s : Sm g F H) (r : RpAll g.K g.fa F xs ds) (p : Addr) (hp : H p = none) : Q (.ref p) (upd H p (.lst xs)) :=
  h.newM s (.l r) p hp
theorem Post.newT {ds : List D} {xs : List V} {Q : VK} (h : Post g σ F H (.ok (.dat (.tup ds))) Q) (s : Sm g F H) (r : RpAll g.K g.fa F xs ds) (p : Addr) (hp : H p = none) : Q (.ref p) (upd H p (.tup xs)) :=
  h (.ref p) (upd F p (.tup xs)) (upd H p (.tup xs)) (Grow.newF s.fh hp) (.tup upd_same (r.mono (same_upd (s.fh.free hp))))
def seqI : B → Option (List D)
  | .dat (.tup xs) => some xs
  | .dat (.ctup xs) => some xs
  | .dat (.lst xs) => some xs
  | .vw (.l xs) => some xs
  | .bor (.l xs) => some xs
  | .scr ns => some (ns.map .int)
  | _ => none
def seqL : B → Option (List D)
  | .dat (.lst xs) => some xs
  | .vw (.l xs) => some xs
  | .bor (.l xs) => some xs
  | _ => none
theorem seqL_ok {v : V} {b : B} {ds : List D} (s : Sm g F H) (r : RR g F H v b) (h : seqL b = some ds) : ∃ a xs, v = .ref a ∧ H a = some (.lst xs) ∧ RpAll g.K g.fa F xs ds := by
  unfold seqL at h
  split at h
  · cases h
    cases r with
    | lst h1 h2 => exact ⟨_, _, rfl, s.fh _ _ h1, h2⟩
  · cases h
    obtain ⟨p, o, rfl, h1, h2⟩ := r
    cases h2 with
    | l h2 => exact ⟨_, _, rfl, h1, h2⟩
  · cases h
    obtain ⟨p, o, rfl, h1, h2⟩ := r
    cases h2 with
    | l h2 => exact ⟨_, _, rfl, s.gh _ _ h1, h2⟩
  · cases h
theorem seqI_ok {v : V} {b : B} {ds : List D} (s : Sm g F H) (r : RR g F H v b) (h : seqI b = some ds) : ∃ a xs, v = .ref a ∧ (SqL g.K H a xs ∨ SqT g.K H a xs) ∧ RpAll g.K g.fa F xs ds := by
  unfold seqI at h
  split at h
  · cases h
    cases r with
    | tup h1 h2 => exact ⟨_, _, rfl, .inr (SqT.of (s.fh _ _ h1)), h2⟩
  · cases h
    cases r with
    | ctup h1 h2 => exact ⟨_, _, rfl, .inr (sqT_none h1), h2⟩
  · cases h
    cases r with
    | lst h1 h2 => exact ⟨_, _, rfl, .inl (SqL.of (s.fh _ _ h1)), h2⟩
  · cases h
    obtain ⟨p, o, rfl, h1, h2⟩ := r
    cases h2 with
    | l h2 => exact ⟨_, _, rfl, .inl (SqL.of h1), h2⟩
  · cases h
    obtain ⟨p, o, rfl, h1, h2⟩ := r
    cases h2 with
    | l h2 => exact ⟨_, _, rfl, .inl (SqL.of (s.gh _ _ h1)), h2⟩
  · cases h
    obtain ⟨p, rfl, h1⟩ := r
    exact ⟨_, _, rfl, .inl (s.gh.seq h1), RpAll.of_ints _⟩
  · cases h
end
def OpG (g : G) (r : R2) (f : B → B → Res B) : Prop := ∀ (σ : L2.St) (F H : Hp) (x y : V) (a b : B) (Q : VK), Sm g F H → RR g F H x a → RR g F H y b → Post g σ F H (f a b) Q → r x y H Q
def bin2 (f : B → B → Res B) (fa fb : Env → Res B) : Env → Res B := fun ρ => (fa ρ).bind fun x => (fb ρ).bind fun y => f (rd x) (rd y)
section
variable {X : Cx} {g : G} {a b : Expr} {fa fb : Env → Res B} {pos : Pos}
theorem PE.imp {e : Expr} {t t' : TE} (h : PE X e t) (i : ∀ σ H Q, t' σ H Q → t σ H Q) : PE X e t' := ⟨fun pins s σ H Q I w => h.run pins s σ H Q I (i σ H Q w)⟩
theorem PT.imp {e : Expr} {t t' : TT} (h : PT X e t) (i : ∀ σ H Q, t' σ H Q → t σ H Q) : PT X e t' := ⟨fun pins s σ H Q I w => h.run pins s σ H Q I (i σ H Q w)⟩
theorem PA.imp {e : List Expr} {t t' : TA} (h : PA X e t) (i : ∀ σ H Q, t' σ H Q → t σ H Q) : PA X e t' := ⟨fun p pins s σ H Q I w => h.run p pins s σ H Q I (i σ H Q w)⟩
theorem run2 {r : R2} {f : B → B → Res B} (hg : OpG g r f) {σ : L2.St} {H : Hp} {Q : VK} (h : tF g (bin2 f fa fb) σ H Q) : tOp r (tF g fa) (tF g fb) σ H Q := by
  obtain ⟨F, ρ, s, p⟩ := h
  unfold bin2 at p
  refine run1 s (fun bx v F1 H1 e1 g1 r1 => ?_) (fun c e => ?_) (fun e => ?_)
  · rw [e1, Res.ok_bind] at p
    have s1 := s.grow g1
    refine run1 s1 (fun by_ w F2 H2 e2 g2 r2 => ?_) (fun c e => ?_) (fun e => ?_)
    · rw [e2, Res.ok_bind] at p
      exact hg _ F2 H2 v w _ _ Q (s1.sm.grow g2) (r1.mono g2) r2 (p.later (g1.trans g2))
    · rw [e, Res.exc_bind] at p
      exact fun F' H' gr => p F' H' (g1.trans gr)
    · rw [e] at p
      exact p
  · rw [e] at p
    exact p
  · rw [e] at p
    exact p
theorem fe_bin {op : Operator} {r : R2} {f : B → B → Res B} (ho : OpR X (binaryOp op) r) (hg : OpG g r f) (ha : PE X a (tF g fa)) (hb : PE X b (tF g fb)) : PE X (.BinOp a op b pos) (tF g (bin2 f fa fb)) :=
  PE.imp (pe_op ho ha hb) fun _ _ _ h => run2 hg h
theorem fe_cmp {op : CmpOp} {r : R2} {f : B → B → Res B} (ho : OpR X (compareOp op) r) (hg : OpG g r f) (ha : PE X a (tF g fa)) (hb : PE X b (tF g fb)) (hm : behindInMarks op b = false) : PE X (.Compare a [op] [b] pos) (tF g (bin2 f fa fb)) :=
  PE.imp (pe_cmpR ho ha hb hm) fun _ _ _ h => run2 hg h
end
def catL (xs : List D) (b : B) : Res B := match seqL b with
  | some ys => if xs.length + ys.length ≤ sizeLine then .ok (.own (.l (xs ++ ys))) else .bad
  | none => .bad
def catT (xs : List D) (b : B) : Res B := match b with
  | .dat (.tup ys) => if xs.length + ys.length ≤ sizeLine then .ok (.dat (.tup (xs ++ ys))) else .bad
  | _ => .bad
def addB (a b : B) : Res B := match a with
  | .dat (.int i) => (match b with | .dat (.int j) => .ok (.dat (.int (i + j))) | _ => .bad)
  | .dat (.str i) => (match b with | .dat (.str j) => if i.length + j.length ≤ sizeLine then .ok (.dat (.str (i ++ j))) else .bad | _ => .bad)
  | .dat (.tup xs) => catT xs b
  | .dat (.lst xs) => catL xs b
  | .vw (.l xs) => catL xs b
  | .bor (.l xs) => catL xs b
  | _ => .bad
def rAdd (K : PySem.W.Frag) : R2 := fun x y H Q => rI0 (fun i j => .int (i + j)) x y H Q ∨ (∃ i j, x = .str i ∧ y = .str j ∧ i.length + j.length ≤ sizeLine ∧ Q (.str (i ++ j)) H) ∨ rCatA K x y H Q ∨ rCat x y H Q
theorem op_addF {X : Cx} : OpR X (binaryOp .Add) (rAdd X.K) := OpR.or op_add (OpR.or op_add_str (OpR.or op_catA op_cat))
theorem g_add {g : G} {K : PySem.W.Frag} (hK : g.K = K) : OpG g (rAdd K) addB := by
  subst hK
  intro σ F H x y a b Q s ra rb p
  have cat : ∀ {xs : List D}, seqL a = some xs → Post g σ F H (catL xs b) Q → rAdd g.K x y H Q := fun {xs} ha p => by
    unfold catL at p
    split at p
    · rename_i ys hb
      split at p
      · rename_i hz
        obtain ⟨p1, xs', rfl, h1, r1⟩ := seqL_ok s ra ha
        obtain ⟨p2, ys', rfl, h2, r2⟩ := seqL_ok s rb hb
        exact .inr (.inr (.inr ⟨p1, p2, xs', ys', rfl, rfl, h1, h2, by rw [r1.len, r2.len]; exact hz, p.newL s (r1.app r2)⟩))
      · exact p.elim
    · exact p.elim
  unfold addB at p
  split at p
  · split at p
    · cases ra
      cases rb
      exact .inl ⟨_, _, rfl, rfl, p.int s⟩
    · exact p.elim
  · split at p
    · split at p
      · rename_i hz
        cases ra
        cases rb
        exact .inr (.inl ⟨_, _, rfl, rfl, hz, p.str s⟩)
      · exact p.elim
    · exact p.elim
  · unfold catT at p
    split at p
    · split at p
      · rename_i xs ys hz
        cases ra with
        | tup h1 r1 =>
          cases rb with
          | tup h2 r2 =>
            refine .inr (.inr (.inl ⟨_, _, _, _, rfl, rfl, SqT.of (s.fh _ _ h1), SqT.of (s.fh _ _ h2), by rw [r1.len, r2.len]; exact hz, fun e => ?_, fun e e2 => ?_, fun _ _ => ?_⟩))
            · subst e
              cases r1
              exact p.dat s (.tup h2 r2)
            · subst e2
              cases r2
              rw [List.append_nil] at p
              exact p.dat s (.tup h1 r1)
            · exact p.newT s (r1.app r2)
      · exact p.elim
    · exact p.elim
  · exact cat rfl p
  · exact cat rfl p
  · exact cat rfl p
  · exact p.elim
def int2 (C : Int → Int → Bool) (f : Int → Int → Int) (a b : B) : Res B := match a with
  | .dat (.int i) => (match b with | .dat (.int j) => if C i j then .ok (.dat (.int (f i j))) else .bad | _ => .bad)
  | _ => .bad
theorem g_int2 {g : G} {C : Int → Int → Bool} {C' : Int → Int → Prop} {f : Int → Int → Int} (hC : ∀ i j, C i j = true → C' i j) : OpG g (rI C' fun i j => .int (f i j)) (int2 C f) := by
  intro σ F H x y a b Q s ra rb p
  unfold int2 at p
  split at p
  · split at p
    · split at p
      · rename_i hc
        cases ra
        cases rb
        exact ⟨_, _, rfl, rfl, hC _ _ hc, p.int s⟩
      · exact p.elim
    · exact p.elim
  · exact p.elim
def CDivG (i j : Int) : Prop := j ≠ 0 ∧ j.natAbs.log2 < 9000
theorem op_fdivG {X : Cx} : OpR X (binaryOp .FloorDiv) (rI CDivG fun i j => .int (i.fdiv j)) := opI fun _ _ _ _ _ _ _ hc q => floordiv_int hc.1 q (.inl (PyProof.noPylong_of_log2 hc.2))
theorem op_modG {X : Cx} : OpR X (binaryOp .Mod) (rI (fun _ j => j ≠ 0) fun i j => .int (i.fmod j)) := opI fun _ _ _ _ _ _ _ hc q => mod_int' hc q
def subB : B → B → Res B := int2 (fun _ _ => true) (fun i j => i - j)
def divB : B → B → Res B := int2 (fun _ j => decide (j ≠ 0) && decide (j.natAbs.log2 < 9000)) Int.fdiv
def modB : B → B → Res B := int2 (fun _ j => decide (j ≠ 0)) Int.fmod
def shlB : B → B → Res B := int2 (fun i j => decide (0 ≤ j) && decide (j ≤ 1000000) && decide (i.natAbs < 2 ^ 64)) fun i j => i * 2 ^ j.toNat
def powB : B → B → Res B := int2 (fun i j => decide (0 ≤ j) && decide (j ≤ 1000000) && decide (i.natAbs < 2 ^ 64)) fun i j => i ^ j.toNat
def andB : B → B → Res B := int2 (fun _ _ => true) Builtin.bitAnd
def repS (x : Str) (n : Int) : Str := ⟨(List.replicate n.toNat x.cps.toList).flatten.toArray⟩
def mulB (a b : B) : Res B := match a with
  | .dat (.int i) => (match b with | .dat (.int j) => if i.natAbs.log2 + j.natAbs.log2 < 1000000 then .ok (.dat (.int (i * j))) else .bad | _ => .bad)
  | .dat (.str x) => (match b with | .dat (.int j) => if -1000 ≤ j ∧ j ≤ 1000 ∧ x.length ≤ 1000 then .ok (.dat (.str (repS x j))) else .bad | _ => .bad)
  | _ => .bad
theorem fold_rep (x : Str) : ∀ (k : Nat) (acc : List Nat), (List.replicate k x.cps).foldl (· ++ ·) acc.toArray = (acc ++ (List.replicate k x.cps.toList).flatten).toArray
  | 0, acc => by simp
  | k + 1, acc => by
    rw [List.replicate_succ, List.foldl_cons, List.replicate_succ, List.flatten_cons, ← List.append_assoc]
    have e : acc.toArray ++ x.cps = (acc ++ x.cps.toList).toArray := by simp
    rw [e]
    exact fold_rep x k _
theorem rep_eq (x : Str) (k : Nat) : (⟨(List.replicate k x.cps).foldl (· ++ ·) #[]⟩ : Str) = ⟨(List.replicate k x.cps.toList).flatten.toArray⟩ := by
  have e := fold_rep x k []
  rw [List.nil_append] at e
  exact congrArg Str.mk e
def rRepS : R2 := fun x y H Q => ∃ z j, x = .str z ∧ y = .int j ∧ -1000 ≤ j ∧ j ≤ 1000 ∧ z.length ≤ 1000 ∧ Q (.str (repS z j)) H
theorem op_repS {X : Cx} : OpR X (binaryOp .Mult) rRepS := by
  intro pins s σ H x y v u Q I rx ry h
  obtain ⟨z, j, rfl, rfl, h1, h2, h3, q⟩ := h
  obtain ⟨t, rfl⟩ := rx
  obtain ⟨t', rfl⟩ := ry
  have hr : (decide (j < -(2 ^ 63 : Int)) || decide (j ≥ 2 ^ 63)) = false := by
    have a1 : ¬ j < -(2 ^ 63 : Int) := by omega
    have a2 : ¬ j ≥ 2 ^ 63 := by omega
    rw [decide_eq_false a1, decide_eq_false a2]
    rfl
  have line : sizeLine = 16777216 := sizeLine_eq
  refine PySem.P.mul_str hr (fun hj _ => ?_) (fun hj _ => ?_) ?_
  · have z1 : (1000 : Int) ≤ (2 ^ 63 - 1) / j := by
      rw [Int.le_ediv_iff_mul_le (by omega)]
      omega
    omega
  · have hk : j.toNat ≤ 1000 := by omega
    have hm : z.length * j.toNat ≤ 1000 * 1000 := Nat.mul_le_mul h3 hk
    unfold Builtin.Str.tooLong
    rw [decide_eq_false]
    omega
  · have e0 : ∀ w : Str, w = repS z j → EP X pins σ Q (.str w s.toks) { s with toks := s.toks + 1 } := fun w e => ⟨.str w, H, I.tok _, ⟨_, rfl⟩, by rw [e]; exact q⟩
    by_cases c1 : j < 1
    · rw [if_pos c1]
      refine ⟨by decide, e0 _ ?_⟩
      have : j.toNat = 0 := by omega
      unfold repS
      rw [this]
      rfl
    · rw [if_neg c1]
      by_cases c2 : (j == 1 || z.length == 0) = true
      · rw [if_pos c2]
        refine ⟨.str z, H, I, ⟨_, rfl⟩, ?_⟩
        have e : z = repS z j := by
          unfold repS
          rw [Bool.or_eq_true] at c2
          rcases c2 with c2 | c2
          · have : j = 1 := by simpa using c2
            subst this
            simp
          · have hz : z.length = 0 := by simpa using c2
            have hl : z.cps.toList = [] := by
              have : z.cps.toList.length = 0 := by rw [Array.length_toList]; exact hz
              exact List.length_eq_zero_iff.mp this
            have hc : z.cps = #[] := by
              have := congrArg List.toArray hl
              simpa using this
            rw [hl]
            have : (List.replicate j.toNat ([] : List Nat)).flatten = [] := by simp
            rw [this]
            cases z
            simp only at hc
            rw [hc]
        rw [← e] at q
        exact q
      · rw [if_neg c2, rep_eq]
        refine ⟨?_, e0 _ rfl⟩
        have hk : j.toNat ≤ 1000 := by omega
        have hm : j.toNat * z.length ≤ 1000 * 1000 := Nat.mul_le_mul hk h3
        have e : (⟨(List.replicate j.toNat z.cps.toList).flatten.toArray⟩ : Str).length = j.toNat * z.length := by
          simp [Str.length]
        rw [e]
        omega
def rMul : R2 := fun x y H Q => rI CMulW (fun i j => .int (i * j)) x y H Q ∨ rRepS x y H Q
theorem op_mulF {X : Cx} : OpR X (binaryOp .Mult) rMul := OpR.or op_mulW op_repS
theorem g_mul {g : G} : OpG g rMul mulB := by
  intro σ F H x y a b Q s ra rb p
  unfold mulB at p
  split at p
  · split at p
    · split at p
      · rename_i hc
        cases ra
        cases rb
        exact .inl ⟨_, _, rfl, rfl, hc, p.int s⟩
      · exact p.elim
    · exact p.elim
  · split at p
    · split at p
      · rename_i hc
        cases ra
        cases rb
        exact .inr ⟨_, _, rfl, rfl, hc.1, hc.2.1, hc.2.2, p.str s⟩
      · exact p.elim
    · exact p.elim
  · exact p.elim
theorem g_sub {g : G} : OpG g (rI0 fun i j => .int (i - j)) subB := fun σ F H x y a b Q s ra rb p => by
  obtain ⟨i, j, h1, h2, _, q⟩ := g_int2 (C' := fun _ _ => True) (fun _ _ _ => trivial) σ F H x y a b Q s ra rb p
  exact ⟨i, j, h1, h2, q⟩
theorem g_div {g : G} : OpG g (rI CDivG fun i j => .int (i.fdiv j)) divB := g_int2 fun i j h => by
  rw [Bool.and_eq_true] at h
  exact ⟨of_decide_eq_true h.1, of_decide_eq_true h.2⟩
theorem g_mod {g : G} : OpG g (rI (fun _ j => j ≠ 0) fun i j => .int (i.fmod j)) modB := g_int2 fun i j h => of_decide_eq_true h
theorem pow_c {i j : Int} (h : (decide (0 ≤ j) && decide (j ≤ 1000000) && decide (i.natAbs < 2 ^ 64)) = true) : CPow i j := by
  rw [Bool.and_eq_true, Bool.and_eq_true] at h
  exact ⟨of_decide_eq_true h.1.1, of_decide_eq_true h.1.2, of_decide_eq_true h.2⟩
theorem g_pow {g : G} : OpG g (rI CPow fun i j => .int (i ^ j.toNat)) powB := g_int2 fun i j h => pow_c h
end Fn
namespace Fn
open PySem PySem.Spec PyProof.Rows L2
def datOf : B → D
  | .dat d => d
  | .own m => frzM m
  | .vw m => frzM m
  | .bor m => frzM m
  | .scr ns => .lst (ns.map .int)
  | .err c => .fn (1000 + c)
  | .nst _ _ => .fn 999
def eqD (d e : D) : Res Bool := if (SeqAt.shaped (toPy d) && SeqAt.shaped (toPy e)) = true then .ok (PyData.eqv (toPy d) (toPy e)) else .bad
def eqB (a b : B) : Res B := (eqD (datOf a) (datOf b)).bind fun k => .ok (.dat (.bl k))
def neB (a b : B) : Res B := (eqD (datOf a) (datOf b)).bind fun k => .ok (.dat (.bl !k))
section
variable {g : G} {F H : Hp} {v : V}
theorem frz_dp {p : Addr} {o : HO} {m : M} (s : Sm g F H) (h : H p = some o) (r : RpM g.K g.fa F o m) (c : (toPy (frzM m)).canLay0 = true) : Dp g.K H (.ref p) (toPy (frzM m)) := by
  cases r with
  | l r =>
    simp only [frzM, toPy, PyData.canLay0] at c ⊢
    exact .lst (SqL.of h) (RpAll.dp s.fh r c)
  | k _ _ => simp [frzM, toPy, PyData.canLay0] at c
  | t _ _ => simp [frzM, toPy, PyData.canLay0] at c
theorem RR.dp {b : B} (s : Sm g F H) (r : RR g F H v b) (c : (toPy (datOf b)).canLay0 = true) : Dp g.K H v (toPy (datOf b)) := by
  cases b with
  | dat d => exact Rp.dp s.fh r c
  | own m => exact r.elim
  | vw m =>
    obtain ⟨p, o, rfl, h, q⟩ := r
    exact frz_dp s h q c
  | bor m =>
    obtain ⟨p, o, rfl, h, q⟩ := r
    exact frz_dp s (s.gh _ _ h) q c
  | scr ns =>
    obtain ⟨p, rfl, h⟩ := r
    simp only [datOf, toPy, PyData.canLay0] at c ⊢
    exact .lst (s.gh.seq h) (RpAll.dp s.fh (K := g.K) (fa := g.fa) (RpAll.of_ints ns) c)
  | err k => simp [datOf, toPy, PyData.canLay0] at c
  | nst sh ls => exact r.elim
end
theorem g_eq {g : G} {K : PySem.W.Frag} (hK : g.K = K) : OpG g (rEqD K) eqB := by
  subst hK
  intro σ F H x y a b Q s ra rb p
  unfold eqB eqD at p
  split at p
  · rename_i h
    rw [Bool.and_eq_true] at h
    exact ⟨_, _, ra.dp s (SeqAt.canLay_of_shaped h.1), rb.dp s (SeqAt.canLay_of_shaped h.2), h.1, h.2, p.bl s⟩
  · exact p.elim
theorem g_ne {g : G} {K : PySem.W.Frag} (hK : g.K = K) : OpG g (rNeD K) neB := by
  subst hK
  intro σ F H x y a b Q s ra rb p
  unfold neB eqD at p
  split at p
  · rename_i h
    rw [Bool.and_eq_true] at h
    exact ⟨_, _, ra.dp s (SeqAt.canLay_of_shaped h.1), rb.dp s (SeqAt.canLay_of_shaped h.2), h.1, h.2, p.bl s⟩
  · exact p.elim
def notNone : PyData → Bool
  | .none => false
  | _ => true
def ltPy (x y : PyData) : Res Bool := if (SeqAt.shaped x && (SeqAt.shaped y && (PySem.W.alike x y && notNone x))) = true then .ok (PySem.W.dataLt x y) else .bad
def ltD (d e : D) : Res Bool := match d with
  | .int i => (match e with | .int j => .ok (decide (i < j)) | _ => .bad)
  | .str x => (match e with | .str y => .ok (decide (x.cps.toList < y.cps.toList)) | _ => .bad)
  | d => ltPy (toPy d) (toPy e)
def ltB (a b : B) : Res B := (ltD (datOf a) (datOf b)).bind fun k => .ok (.dat (.bl k))
def cmpI (f : Int → Int → Bool) (a b : B) : Res B := match a with
  | .dat (.int i) => (match b with | .dat (.int j) => .ok (.dat (.bl (f i j))) | _ => .bad)
  | _ => .bad
def rLtD (K : PySem.W.Frag) : R2 := fun x y H Q => ∃ d e, Dp K H x d ∧ Dp K H y e ∧ PySem.W.alike d e = true ∧ d ≠ .none ∧ d.depth ≤ 64 ∧ Q (.bl (PySem.W.dataLt d e)) H
theorem op_ltD {X : Cx} (hu : X.A.units + 64 < cLine) : OpR X (compareOp .Lt) (rLtD X.K) := by
  intro pins s σ H x y v u Q I rx ry h
  obtain ⟨d, e, hd, he, ha, hn, hs, q⟩ := h
  obtain ⟨as, r1⟩ := Dp.reads I d x v hd rx
  obtain ⟨bs, r2⟩ := Dp.reads I e y u he ry
  exact PySem.W.rcLt_alike d e X.A s v u as bs r1 r2 ha hn (by have := Nat.min_le_left d.depth e.depth; omega) X.prog X.w X.xe _ ⟨.bl _, H, I, rfl, q⟩
def rLt (K : PySem.W.Frag) : R2 := fun x y H Q => rI0 (fun i j => .bl (decide (i < j))) x y H Q ∨ (∃ i j, x = .str i ∧ y = .str j ∧ Q (.bl (decide (i.cps.toList < j.cps.toList))) H) ∨ rLtD K x y H Q
theorem op_ltF {X : Cx} (hu : X.A.units + 64 < cLine) : OpR X (compareOp .Lt) (rLt X.K) := OpR.or op_lt (OpR.or op_lt_str (op_ltD hu))
theorem rr_int {g : G} {F H : Hp} {v : V} {b : B} {i : Int} (r : RR g F H v b) (h : datOf b = .int i) : v = .int i := by
  cases b with
  | dat d => cases h; cases r; rfl
  | own m => exact r.elim
  | vw m => cases m <;> cases h
  | bor m => cases m <;> cases h
  | scr ns => cases h
  | err k => cases h
  | nst sh ls => exact r.elim
theorem rr_str {g : G} {F H : Hp} {v : V} {b : B} {i : Str} (r : RR g F H v b) (h : datOf b = .str i) : v = .str i := by
  cases b with
  | dat d => cases h; cases r; rfl
  | own m => exact r.elim
  | vw m => cases m <;> cases h
  | bor m => cases m <;> cases h
  | scr ns => cases h
  | err k => cases h
  | nst sh ls => exact r.elim
theorem g_lt {g : G} {K : PySem.W.Frag} (hK : g.K = K) : OpG g (rLt K) ltB := by
  subst hK
  intro σ F H x y a b Q s ra rb p
  unfold ltB ltD at p
  split at p
  · rename_i i ha
    split at p
    · rename_i j hb
      exact .inl ⟨i, j, rr_int ra ha, rr_int rb hb, p.bl s⟩
    · exact p.elim
  · rename_i i ha
    split at p
    · rename_i j hb
      exact .inr (.inl ⟨i, j, rr_str ra ha, rr_str rb hb, p.bl s⟩)
    · exact p.elim
  · by_cases h : (SeqAt.shaped (toPy (datOf a)) && (SeqAt.shaped (toPy (datOf b)) && (PySem.W.alike (toPy (datOf a)) (toPy (datOf b)) && notNone (toPy (datOf a))))) = true
    · unfold ltPy at p
      rw [if_pos h] at p
      simp only [Bool.and_eq_true] at h
      obtain ⟨h1, h2, h3, h4⟩ := h
      exact .inr (.inr ⟨_, _, ra.dp s (SeqAt.canLay_of_shaped h1), rb.dp s (SeqAt.canLay_of_shaped h2), h3, fun e => by rw [e] at h4; exact Bool.false_ne_true h4, SeqAt.depth_of_shaped h1, p.bl s⟩)
    · unfold ltPy at p
      rw [if_neg h] at p
      exact p.elim
theorem g_cmpI {g : G} {f : Int → Int → Bool} : OpG g (rI0 fun i j => .bl (f i j)) (cmpI f) := by
  intro σ F H x y a b Q s ra rb p
  unfold cmpI at p
  split at p
  · split at p
    · cases ra
      cases rb
      exact ⟨_, _, rfl, rfl, p.bl s⟩
    · exact p.elim
  · exact p.elim
def isNone : D → Bool
  | .non => true
  | _ => false
def isB (neg : Bool) (a b : B) : Res B := match b with
  | .dat .non => (match a with | .own _ => .bad | a => .ok (.dat (.bl (isNone (datOf a) != neg))))
  | .dat (.bl y) => (match a with | .dat (.bl x) => .ok (.dat (.bl (decide (x = y) != neg))) | _ => .bad)
  | _ => .bad
def rIs : R2 := fun x y H Q => (y = .non ∧ Q (.bl (decide (x = .non))) H) ∨ rIsB x y H Q
theorem op_isF {X : Cx} : OpR X (compareOp .Is) rIs := OpR.or op_isN op_isBl
theorem rr_none {g : G} {F H : Hp} {v : V} {b : B} (r : RR g F H v b) : decide (v = .non) = isNone (datOf b) := by
  cases b with
  | dat d => cases r <;> simp [datOf, isNone]
  | own m => exact r.elim
  | vw m =>
    obtain ⟨p, o, rfl, _⟩ := r
    cases m <;> simp [datOf, frzM, isNone]
  | bor m =>
    obtain ⟨p, o, rfl, _⟩ := r
    cases m <;> simp [datOf, frzM, isNone]
  | scr ns =>
    obtain ⟨p, rfl, _⟩ := r
    simp [datOf, isNone]
  | err k =>
    obtain ⟨p, _, _, _, rfl, _⟩ := r
    simp [datOf, isNone]
  | nst sh ls => exact r.elim
theorem g_is {g : G} : OpG g rIs (isB false) := by
  intro σ F H x y a b Q s ra rb p
  unfold isB at p
  split at p
  · cases rb
    split at p
    · exact p.elim
    · have q := p.bl s
      refine .inl ⟨rfl, ?_⟩
      rw [rr_none ra]
      simpa using q
  · split at p
    · cases ra
      cases rb
      have q := p.bl s
      exact .inr ⟨_, _, rfl, rfl, by simpa using q⟩
    · exact p.elim
  · exact p.elim
def keyD : D → Option Key
  | .int i => some (.inl i)
  | .str x => some (.inr x)
  | _ => none
def strIn (x y : Str) : Bool := !(Builtin.Str.occurrences y x 0 y.length 1).isEmpty
end Fn
namespace Fn
open PySem PySem.Spec PyProof.Rows L2
def leD : D → D → Bool := PySem.W.dataLe false toPy
def isTup1 : PyData → Bool
  | .tuple (_ :: _) => true
  | _ => false
def isPlain : PyData → Bool
  | .none => false
  | .tuple _ => false
  | _ => true
def sortOk (ds : List D) : Bool := (toPys ds).all SeqAt.shaped && ((toPys ds).all (fun a => (toPys ds).all fun b => PySem.W.alike a b) && ((toPys ds).all isTup1 || (toPys ds).all isPlain))
theorem sortOk_iff {ds : List D} (h : sortOk ds = true) : (∀ d ∈ ds, SeqAt.shaped (toPy d) = true) ∧ PySem.W.AllAlike (ds.map toPy) ∧ PySem.W.Sortable (ds.map toPy) := by
  unfold sortOk at h
  rw [toPys_map] at h
  simp only [Bool.and_eq_true, Bool.or_eq_true, List.all_eq_true] at h
  obtain ⟨h1, h2, h3⟩ := h
  refine ⟨fun d hd => h1 _ (List.mem_map.mpr ⟨d, hd, rfl⟩), fun d hd d' hd' => h2 d hd d' hd', ?_⟩
  rcases h3 with h3 | h3
  · refine .inl fun d hd => ?_
    have q := h3 d hd
    cases d with
    | tuple xs =>
      cases xs with
      | nil => cases q
      | cons x r => exact ⟨x, r, rfl⟩
    | _ => cases q
  · refine .inr fun d hd => ?_
    have q := h3 d hd
    constructor
    · rintro rfl
      cases q
    · rintro xs rfl
      cases q
mutual
theorem reads_lt {h : Heap} : ∀ (d : PyData) (v : Value) (as : List Addr), d.canLay0 = true → Reads h v d as → ∀ a ∈ as, a < h.objs.size
  | .none, _, _, _, r => by cases r; intro a ha; cases ha
  | .bool _, _, _, _, r => by cases r; intro a ha; cases ha
  | .int _, _, _, _, r => by cases r; intro a ha; cases ha
  | .str _, _, _, _, r => by cases r; intro a ha; cases ha
  | .list xs, _, _, c, r => by
    simp only [PyData.canLay0] at c
    cases r with
    | list h1 h2 h3 h4 =>
      intro a ha
      rcases List.mem_cons.mp ha with e | ha
      · rw [e]; exact Heap.lt_size h1
      · exact readsAll_lt xs _ _ c h4 a ha
  | .tuple xs, _, _, c, r => by
    simp only [PyData.canLay0] at c
    cases r with
    | tuple h1 h2 h3 h4 =>
      intro a ha
      exact readsAll_lt xs _ _ c h4 a ha
  | .dict _, _, _, c, r => by simp [PyData.canLay0] at c
theorem readsAll_lt {h : Heap} : ∀ (ds : List PyData) (vs : List Value) (as : List Addr), PyData.canLayAll0 ds = true → ReadsAll h vs ds as → ∀ a ∈ as, a < h.objs.size
  | [], _, _, _, r => by cases r; intro a ha; cases ha
  | d :: ds, _, _, c, r => by
    simp only [PyData.canLayAll0, Bool.and_eq_true] at c
    cases r with
    | cons h1 h2 =>
      intro a ha
      rcases List.mem_append.mp ha with hm | hm
      · exact reads_lt d _ _ c.1 h1 a hm
      · exact readsAll_lt ds _ _ c.2 h2 a hm
end
section
variable {X : Cx} {pins : List (Addr × Obj)} {σ : L2.St} {H : Hp} {s : Shared}
theorem each_of (I : Inv X pins σ H s) : ∀ {xs : List V} {us : List Value} {ds : List D}, Vals xs us → DpAll X.K H xs (toPys ds) →
    PySem.W.EachIs (fun v (b : V × D) => RelV b.1 v) us (xs.zip ds) ∧ PySem.W.EachIs (fun v (b : V × D) => ∃ as, Reads s.heap v (toPy b.2) as) us (xs.zip ds)
  | [], _, [], .nil, _ => ⟨.nil, .nil⟩
  | [], _, _ :: _, .nil, h => by
    simp only [toPys] at h
    cases h
  | _ :: _, _, [], .cons _ _, h => by
    simp only [toPys] at h
    cases h
  | x :: xs, u :: us, d :: ds, .cons r t, h => by
    simp only [toPys] at h
    cases h with
    | cons h1 h2 =>
      obtain ⟨e1, e2⟩ := each_of I t h2
      exact ⟨.cons r e1, .cons (Dp.reads I _ _ _ h1 r) e2⟩
theorem each_vals : ∀ {us : List Value} {bs : List (V × D)}, PySem.W.EachIs (fun v (b : V × D) => RelV b.1 v) us bs → Vals (bs.map (·.1)) us
  | _, _, .nil => .nil
  | _, _, .cons r t => .cons r (each_vals t)
def sortZ (xs : List V) (ds : List D) : List (V × D) := (xs.zip ds).mergeSort (PySem.W.dataLe false fun b => toPy b.2)
theorem zip_snd : ∀ {xs : List V} {ds : List D}, xs.length = ds.length → (xs.zip ds).map (·.2) = ds
  | [], [], _ => rfl
  | _ :: _, _ :: _, h => by
    rw [List.zip_cons_cons, List.map_cons, zip_snd (by simpa using h)]
  | [], _ :: _, h => by simp at h
  | _ :: _, [], h => by simp at h
theorem sortZ_snd {xs : List V} {ds : List D} (h : xs.length = ds.length) : (sortZ xs ds).map (·.2) = ds.mergeSort leD := by
  unfold sortZ leD
  have e := List.map_mergeSort (r := PySem.W.dataLe false fun b : V × D => toPy b.2) (s := PySem.W.dataLe false toPy) (f := fun b : V × D => b.2) (l := xs.zip ds) (fun a _ b _ => rfl)
  rw [zip_snd h] at e
  exact e
theorem rp_zip {K : PySem.W.Frag} {fa : Nat → Option Addr} {F : Hp} : ∀ {xs : List V} {ds : List D}, RpAll K fa F xs ds → ∀ b ∈ xs.zip ds, Rp K fa F b.1 b.2
  | _, _, .nil, b, hb => by simp at hb
  | _, _, .cons h r, b, hb => by
    rw [List.zip_cons_cons] at hb
    rcases List.mem_cons.mp hb with rfl | hb
    · exact h
    · exact rp_zip r b hb
theorem rp_unzip {K : PySem.W.Frag} {fa : Nat → Option Addr} {F : Hp} : ∀ {bs : List (V × D)}, (∀ b ∈ bs, Rp K fa F b.1 b.2) → RpAll K fa F (bs.map (·.1)) (bs.map (·.2))
  | [], _ => .nil
  | b :: bs, h => .cons (h b List.mem_cons_self) (rp_unzip fun c hc => h c (List.mem_cons_of_mem _ hc))
theorem sortZ_rp {K : PySem.W.Frag} {fa : Nat → Option Addr} {F : Hp} {xs : List V} {ds : List D} (r : RpAll K fa F xs ds) : RpAll K fa F ((sortZ xs ds).map (·.1)) (ds.mergeSort leD) := by
  rw [← sortZ_snd r.len]
  exact rp_unzip fun b hb => rp_zip r b ((List.mergeSort_perm _ _).mem_iff.mp hb)
theorem map_toPy_zip {xs : List V} {ds : List D} (h : xs.length = ds.length) : (xs.zip ds).map (fun b => toPy b.2) = ds.map toPy := by
  have e : (xs.zip ds).map (fun b => toPy b.2) = ((xs.zip ds).map (·.2)).map toPy := by rw [List.map_map]; rfl
  rw [e, zip_snd h]
def rSortF (K : PySem.W.Frag) : List V → Hp → VK → Prop := fun vs H Q => ∃ (a : Addr) (xs : List V) (ds : List D), vs = [.ref a] ∧ SqL K H a xs ∧ DpAll K H xs (toPys ds) ∧ xs.length = ds.length ∧ sortOk ds = true ∧
  ∀ p, H p = none → Q (.ref p) (upd H p (.lst ((sortZ xs ds).map (·.1))))
theorem cr_sortF (hu : X.A.units + 100 < cLine) : CallR X (.builtin "sorted") (rSortF X.K) := by
  intro pins s σ H vs us Q I r h
  obtain ⟨a, xs, ds, rfl, hs, hd, hl, ho, q⟩ := h
  obtain ⟨its, rv, pl, hz⟩ := I.list hs
  rw [Vals.ref1 r]
  obtain ⟨o1, o2, o3⟩ := sortOk_iff ho
  obtain ⟨e1, e2⟩ := each_of I rv hd
  have hlz : (xs.zip ds).length = xs.length := by rw [List.length_zip, ← hl]; exact Nat.min_self _
  refine PySem.W.sorted_data (bs := xs.zip ds) (enc := fun b => toPy b.2) pl.isList e1 e2 (by rw [map_toPy_zip hl]; exact o2) (by rw [map_toPy_zip hl]; exact o3) (by rw [hlz]; exact hz) (fun b hb => ?_) fun out ho1 ho2 => ?_
  · have := SeqAt.depth_of_shaped (o1 b.2 (List.of_mem_zip hb).2)
    omega
  · obtain ⟨ep, he'⟩ := PyProof.Rows.sortedAll_at s.heap its out.toArray
    have hv : Vals ((sortZ xs ds).map (·.1)) out := each_vals ho2
    have hlen : ((sortZ xs ds).map (·.1)).length ≤ sizeLine := by rw [hv.length, ho1, hlz]; exact hz
    exact ⟨.ref _, upd H (s.heap.objs.size + 1) (.lst ((sortZ xs ds).map (·.1))), I.laid (t' := s.toks) (fun _ _ => PyProof.Rows.sortedAll_old) (Nat.le_succ _) ⟨hlen, out, ep, hv, he'⟩, rfl, q _ (I.hok.fresh (Nat.le_succ _))⟩
theorem sort_new {A : Around} {E : Value → Shared → Prop} {xs : List V} {us : List Value} {ds : List D} {Q : VK} {tk : Nat} {h' : Heap} (hu : A.units + 100 < cLine) (I : Inv X pins σ H { s with heap := h', toks := tk }) (rv : Vals xs us) (hd : DpAll X.K H xs (toPys ds)) (hl : xs.length = ds.length)
    (ho : sortOk ds = true) (hz : xs.length ≤ sizeLine) (q : ∀ p, H p = none → Q (.ref p) (upd H p (.lst ((sortZ xs ds).map (·.1))))) :
    wpAny (model X.prog X.w) A (call (.builtin "list.sort") [.ref h'.objs.size]) (fun _ s' => EP X pins σ Q (.ref h'.objs.size) s') E { s with heap := h'.push (seqObj "list" us.toArray 0), toks := tk } := by
  obtain ⟨o1, o2, o3⟩ := sortOk_iff ho
  obtain ⟨e1, e2⟩ := each_of I rv hd
  have hlz : (xs.zip ds).length = xs.length := by rw [List.length_zip, ← hl]; exact Nat.min_self _
  have hoL : (h'.push (seqObj "list" us.toArray 0)).get? h'.objs.size = some (seqObj "list" us.toArray 0) := Heap.get?_push_size _ rfl
  have e3 : PySem.W.EachIs (fun v (b : V × D) => ∃ as, Reads (h'.push (seqObj "list" us.toArray 0)) v (toPy b.2) as ∧ h'.objs.size ∉ as) us (xs.zip ds) := by
    have go : ∀ {vs : List Value} {bs : List (V × D)}, (∀ b ∈ bs, SeqAt.shaped (toPy b.2) = true) → PySem.W.EachIs (fun v (b : V × D) => ∃ as, Reads h' v (toPy b.2) as) vs bs → PySem.W.EachIs (fun v (b : V × D) => ∃ as, Reads (h'.push (seqObj "list" us.toArray 0)) v (toPy b.2) as ∧ h'.objs.size ∉ as) vs bs := by
      intro vs bs hs e
      induction e with
      | nil => exact .nil
      | cons r t ih =>
        obtain ⟨as, rr⟩ := r
        refine .cons ⟨as, PyProof.Rows.Reads.keeps (fun b o e => Heap.get?_push_of_some _ e) rr, fun hm => Nat.lt_irrefl _ (reads_lt _ _ _ (SeqAt.canLay_of_shaped (hs _ List.mem_cons_self)) rr _ hm)⟩ (ih fun b hb => hs b (List.mem_cons_of_mem _ hb))
    exact go (fun b hb => o1 b.2 (List.of_mem_zip hb).2) e2
  refine PySem.W.list_sort_data (bs := xs.zip ds) (enc := fun b => toPy b.2) (s := { s with heap := h'.push (seqObj "list" us.toArray 0), toks := tk }) hoL e1 e3
    (by rw [map_toPy_zip hl]; exact o2) (by rw [map_toPy_zip hl]; exact o3) (by rw [hlz]; exact hz) (fun b hb => ?_) fun out ho1 ho2 => ?_
  · have := SeqAt.depth_of_shaped (o1 b.2 (List.of_mem_zip hb).2)
    omega
  · have hv : Vals ((sortZ xs ds).map (·.1)) out := each_vals ho2
    have hlen : ((sortZ xs ds).map (·.1)).length ≤ sizeLine := by rw [hv.length, ho1, hlz]; exact hz
    obtain ⟨e', he'⟩ := PyProof.Rows.sortedHeap_at (vs := us) (out := out.toArray) hoL
    refine ⟨.ref h'.objs.size, upd H h'.objs.size (.lst ((sortZ xs ds).map (·.1))), I.laid (t' := tk) (fun b u e => ?_) (Nat.le_refl _) (show ObjOk X.prog X.w _ _ _ (.lst ((sortZ xs ds).map (·.1))) from ⟨hlen, out, e', hv, he'⟩), rfl, q _ (I.hok.fresh (Nat.le_refl _))⟩
    have hb : b < h'.objs.size := Heap.lt_size e
    rw [PyProof.Rows.sortedHeap_old (Nat.ne_of_lt hb) (by rw [size_push']; exact Nat.lt_succ_of_lt hb)]
    exact Heap.get?_push_of_some _ e
end
section
variable {X : Cx}
def rSortDk (K : PySem.W.Frag) : List V → Hp → VK → Prop := fun vs H Q => ∃ (a : Addr) (kvs : List (Key × V)) (ds : List D), vs = [.ref a] ∧ Rd H a (.dK kvs) ∧ DpAll K H (kvs.map fun kv => kV kv.1) (toPys ds) ∧ kvs.length = ds.length ∧ sortOk ds = true ∧
  ∀ p, H p = none → Q (.ref p) (upd H p (.lst ((sortZ (kvs.map fun kv => kV kv.1) ds).map (·.1))))
theorem cr_sortDk (hc : X.calm = true) (hu : X.A.units + 200 < cLine) : CallR X (.builtin "sorted") (rSortDk X.K) := by
  intro pins s σ H xs us Q I r q
  obtain ⟨a, kvs, ds, ex, hd, hdp, hl, ho, q⟩ := q
  subst ex
  obtain ⟨u, eu, rx⟩ := vals1 r
  subst eu
  cases rx
  obtain ⟨z, lo, vs, rel, dd⟩ := dk_rd I.hok hd
  obtain ⟨ep, hat⟩ := dd.dictAt
  have hl2 : kvs.length = vs.length := Paired.length rel
  have h16 : vs.length ≤ sizeLine := by rw [← hl2]; exact z
  refine Calls.call_function_entry PyProof.Rows.kind_sorted PyProof.Rows.plain_sorted PyProof.Rows.entry_sorted (PyProof.Rows.args_sorted1 _) ?_
  unfold Builtin.«sorted»
  refine wpAny_bind (m := checkCount "sorted" 1 1 _) (wpAny_pure ?_)
  refine wpAny_bind (PySem.W.kdu_collect (A := X.A.in1) (PySem.W.kdl_dict (knd := mixKind X.prog X.w) (kvs := vs) (ep := ep) lo) (I.ok.hd hc) hat h16 fun h' tk acc hk hacc => ?_)
  have I1 : Inv X pins σ H { s with heap := h', toks := tk } := I.kept hk
  have rv : Vals (kvs.map fun kv => kV kv.1) acc.toList := by
    refine vals_of_at (by rw [List.length_map, hl2, ← hacc.1]; exact Array.length_toList.symm) fun j x w h1 h2 => ?_
    obtain ⟨k, y, hky, hi⟩ := hacc.2 j w (by rw [← Array.getElem?_toList]; exact h2)
    have e1 : (kvs.map (·.1))[j]? = some k := by
      rw [KV.keys rel, List.getElem?_map, hky] <;> rfl
    have e2 : (kvs.map fun kv => kV kv.1)[j]? = some (kV k) := by
      have e3 : (kvs.map fun kv => kV kv.1) = (kvs.map (·.1)).map kV := by rw [List.map_map] <;> rfl
      rw [e3, List.getElem?_map, e1] <;> rfl
    rw [e2] at h1
    cases h1
    exact keyIs_rel hi
  refine wpAny_bind (wpAny_newList ?_ (by have e : acc.toList.length = acc.size := by {simp}; rw [e, hacc.1]; exact h16))
  refine wpAny_bind (wpAny_holding (wpAny_mono (sort_new (A := X.A.in1) (E := X.xe) (s := s) (Q := Q) (by show X.A.units + 1 + 100 < cLine; omega) I1 rv hdp (by rw [List.length_map]; exact hl) ho (by rw [List.length_map]; exact z) q) (fun _ s' x => ?_) fun _ _ e => e))
  exact wpAny_pure ⟨_, rfl, x⟩
end
end Fn
namespace Fn
open PySem PySem.Spec PyProof.Rows L2
def keyB : Key → D
  | .inl i => .int i
  | .inr x => .str x
def kD (k : List Key) : D := .tup (k.map keyB)
section
variable {X : Cx}
def rSortDt (K : PySem.W.Frag) : List V → Hp → VK → Prop := fun vs H Q => ∃ (a : Addr) (kvs : List (List Key × V)), vs = [.ref a] ∧ Rd H a (.dT kvs) ∧ sortOk (kvs.map fun kv => kD kv.1) = true ∧
  ∀ p bs, H p = none → IsKeys H kvs bs → Q (.ref p) (upd H p (.lst ((sortZ (bs.map V.ref) (kvs.map fun kv => kD kv.1)).map (·.1))))
theorem kV_dp {K : PySem.W.Frag} {H : Hp} : ∀ (k : List Key), DpAll K H (k.map kV) (toPys (k.map keyB))
  | [] => .nil
  | .inl i :: r => .cons (.int i) (kV_dp r)
  | .inr x :: r => .cons (.str x) (kV_dp r)
theorem keys_dp {K : PySem.W.Frag} {H : Hp} : ∀ {kvs : List (List Key × V)} {bs : List Addr}, IsKeys H kvs bs → DpAll K H (bs.map V.ref) (toPys (kvs.map fun kv => kD kv.1))
  | _, _, .nil => .nil
  | _, _, .cons h r => .cons (.tup (SqT.of h) (kV_dp _)) (keys_dp r)
theorem cr_sortDt (hc : X.calm = true) (hu : X.A.units + 200 < cLine) : CallR X (.builtin "sorted") (rSortDt X.K) := by
  intro pins s σ H xs us Q I r h
  obtain ⟨d, kvs, rfl, hd, ho1, q⟩ := h
  obtain ⟨u, rfl, rx⟩ := r.one
  cases rx
  obtain ⟨z, hs, ks, pr, o, es, ep, ho, hx, hdt, he, hn⟩ := (show ObjOk X.prog X.w H s.heap d (.dT kvs) from hd.ok I.hok)
  have l1 : es.size = ks.length := size_of_entries he
  have l2 : kvs.length = ks.length := Paired.length pr
  refine Calls.call_function_entry PyProof.Rows.kind_sorted PyProof.Rows.plain_sorted PyProof.Rows.entry_sorted (PyProof.Rows.args_sorted1 _) ?_
  unfold Builtin.«sorted»
  refine wpAny_bind (m := checkCount "sorted" 1 1 _) (wpAny_pure ?_)
  refine wpAny_bind (PySem.W.kdu_collect (A := X.A.in1) (kdl_raw hs hx hdt) (I.ok.hd hc) ho (by omega) fun h' tk acc' hk it => ?_)
  have ea : acc'.toList = ks.map fun x => Value.ref x.2.1 := by
    have hl : acc'.toList.length = ks.length := by rw [Array.length_toList, it.1]; exact l1
    apply List.ext_getElem?
    intro j
    rw [List.getElem?_map]
    cases hj : acc'.toList[j]? with
    | none =>
      have h1 := List.getElem?_eq_none_iff.mp hj
      rw [List.getElem?_eq_none (by omega)]
      all_goals rfl
    | some v =>
      obtain ⟨en, hen, hv⟩ := it.2 j v (by rw [← Array.getElem?_toList]; exact hj)
      have qe := entry_at he j
      rw [hen] at qe
      cases hb : ks[j]? with
      | none =>
        rw [hb] at qe
        exact nomatch (show some en = none from qe)
      | some b =>
        rw [hb] at qe
        have e2 : en = entryOfKey (tupleKind (mixKind X.prog X.w)) b := Option.some.inj qe
        rw [hv, e2]
        all_goals rfl
  have eb : acc'.toList = (ks.map fun x => x.2.1).map Value.ref := by rw [ea, List.map_map]; all_goals rfl
  have rv : Vals ((ks.map fun x => x.2.1).map V.ref) acc'.toList := by rw [eb]; exact vals_refs _
  have hz : ((ks.map fun x => x.2.1).map V.ref).length ≤ sizeLine := by rw [List.length_map, List.length_map]; omega
  have I1 : Inv X pins σ H { s with heap := h', toks := tk } := I.kept hk
  have hK : IsKeys H kvs (ks.map fun x => x.2.1) := isKeys_of pr
  refine wpAny_bind (wpAny_newList ?_ (by rw [← rv.length]; exact hz))
  refine wpAny_bind (wpAny_holding (wpAny_mono (sort_new (A := X.A.in1) (E := X.xe) (s := s) (Q := Q) (by show X.A.units + 1 + 100 < cLine; omega) I1 rv (keys_dp hK) (by rw [List.length_map, List.length_map, List.length_map]; exact l2.symm) ho1 hz (fun p hp => q p _ hp hK)) (fun _ s' x => ?_) fun _ _ e => e))
  exact wpAny_pure ⟨_, rfl, x⟩
end
end Fn
namespace Fn
open PySem PySem.Spec PyProof.Rows L2
def getK {κ : Type} [DecidableEq κ] (kvs : List (κ × D)) (k : κ) : Option D := (kvs.find? fun kv => decide (kv.1 = k)).map (·.2)
def putD {κ : Type} [DecidableEq κ] (kvs : List (κ × D)) (k : κ) (v : D) : List (κ × D) :=
  if (kvs.any fun kv => decide (kv.1 = k)) = true then kvs.map (fun kv => if kv.1 = k then (kv.1, v) else kv) else kvs ++ [(k, v)]
section
variable {κ : Type} [DecidableEq κ] {K : PySem.W.Frag} {fa : Nat → Option Addr} {F : Hp}
theorem get_rel : ∀ {kvs : List (κ × V)} {kds : List (κ × D)}, kvs.map (·.1) = kds.map (·.1) → RpAll K fa F (kvs.map (·.2)) (kds.map (·.2)) → ∀ k,
    (valV kvs k = none ∧ getK kds k = none) ∨ ∃ v d, valV kvs k = some v ∧ getK kds k = some d ∧ Rp K fa F v d
  | [], [], _, _, _ => .inl ⟨rfl, rfl⟩
  | [], _ :: _, h, _, _ => by simp at h
  | _ :: _, [], h, _, _ => by simp at h
  | (a, v) :: kvs, (b, d) :: kds, h, r, k => by
    simp only [List.map_cons, List.cons.injEq] at h r
    obtain ⟨e, h⟩ := h
    subst e
    cases r with
    | cons r1 r2 =>
      by_cases c : a = k
      · refine .inr ⟨v, d, ?_, ?_, r1⟩
        · simp [valV, List.find?_cons, c]
        · simp [getK, List.find?_cons, c]
      · rcases get_rel h r2 k with ⟨h1, h2⟩ | ⟨v', d', h1, h2, h3⟩
        · refine .inl ⟨?_, ?_⟩
          · simpa [valV, List.find?_cons, c] using h1
          · simpa [getK, List.find?_cons, c] using h2
        · refine .inr ⟨v', d', ?_, ?_, h3⟩
          · simpa [valV, List.find?_cons, c] using h1
          · simpa [getK, List.find?_cons, c] using h2
end
def dkOf : B → Option (List (Key × D))
  | .dat (.dk kvs) => some kvs
  | .vw (.k kvs) => some kvs
  | .bor (.k kvs) => some kvs
  | _ => none
def dtOf : B → Option (List (List Key × D))
  | .dat (.dt kvs) => some kvs
  | .vw (.t kvs) => some kvs
  | .bor (.t kvs) => some kvs
  | _ => none
def tkeyL : List D → Option (List Key)
  | [] => some []
  | d :: ds => match keyD d, tkeyL ds with
    | some k, some ks => some (k :: ks)
    | _, _ => none
def tkey : B → Option (List Key)
  | .dat (.tup xs) => tkeyL xs
  | _ => none
section
variable {g : G} {F H : Hp} {v : V} {b : B}
theorem dkOf_ok {kds : List (Key × D)} (s : Sm g F H) (r : RR g F H v b) (h : dkOf b = some kds) : ∃ a kvs, v = .ref a ∧ H a = some (.dK kvs) ∧ kvs.map (·.1) = kds.map (·.1) ∧ RpAll g.K g.fa F (kvs.map (·.2)) (kds.map (·.2)) := by
  unfold dkOf at h
  split at h
  · cases h
    cases r with
    | dk h1 h2 h3 => exact ⟨_, _, rfl, s.fh _ _ h1, h2, h3⟩
  · cases h
    obtain ⟨p, o, rfl, h1, h2⟩ := r
    cases h2 with
    | k h2 h3 => exact ⟨_, _, rfl, h1, h2, h3⟩
  · cases h
    obtain ⟨p, o, rfl, h1, h2⟩ := r
    cases h2 with
    | k h2 h3 => exact ⟨_, _, rfl, s.gh _ _ h1, h2, h3⟩
  · cases h
theorem dtOf_ok {kds : List (List Key × D)} (s : Sm g F H) (r : RR g F H v b) (h : dtOf b = some kds) : ∃ a kvs, v = .ref a ∧ H a = some (.dT kvs) ∧ kvs.map (·.1) = kds.map (·.1) ∧ RpAll g.K g.fa F (kvs.map (·.2)) (kds.map (·.2)) := by
  unfold dtOf at h
  split at h
  · cases h
    cases r with
    | dt h1 h2 h3 => exact ⟨_, _, rfl, s.fh _ _ h1, h2, h3⟩
  · cases h
    obtain ⟨p, o, rfl, h1, h2⟩ := r
    cases h2 with
    | t h2 h3 => exact ⟨_, _, rfl, h1, h2, h3⟩
  · cases h
    obtain ⟨p, o, rfl, h1, h2⟩ := r
    cases h2 with
    | t h2 h3 => exact ⟨_, _, rfl, s.gh _ _ h1, h2, h3⟩
  · cases h
theorem keyD_ok {k : Key} {d : D} (h : keyD d = some k) (r : Rp g.K g.fa F v d) : v = kV k := by
  unfold keyD at h
  split at h
  · cases h; cases r; rfl
  · cases h; cases r; rfl
  · cases h
theorem tkeyL_ok : ∀ {ds : List D} {vs : List V} {ks : List Key}, tkeyL ds = some ks → RpAll g.K g.fa F vs ds → vs = ks.map kV
  | [], _, _, h, r => by cases h; cases r; rfl
  | d :: ds, _, ks, h, r => by
    unfold tkeyL at h
    split at h
    · rename_i k ks' h1 h2
      cases h
      cases r with
      | cons r1 r2 => rw [keyD_ok h1 r1, tkeyL_ok h2 r2]; rfl
    · cases h
theorem tkey_ok {ks : List Key} (s : Sm g F H) (r : RR g F H v b) (h : tkey b = some ks) : ∃ a, v = .ref a ∧ H a = some (.tup (ks.map kV)) := by
  unfold tkey at h
  split at h
  · cases r with
    | tup h1 h2 => exact ⟨_, rfl, by rw [← tkeyL_ok h h2]; exact s.fh _ _ h1⟩
  · cases h
theorem rr_key {k : Key} (r : RR g F H v b) (h : keyD (datOf b) = some k) : v = kV k := by
  cases b with
  | dat d => exact keyD_ok h r
  | own m => exact r.elim
  | vw m => cases m <;> cases h
  | bor m => cases m <;> cases h
  | scr ns => cases h
  | err k => cases h
  | nst sh ls => exact r.elim
end
def lkOf : B → Option (List (Key × D))
  | .dat (.lk kvs) => some kvs
  | _ => none
def ltOf : B → Option (List (List Key × D))
  | .dat (.lt kvs) => some kvs
  | _ => none
theorem lkOf_ok {g : G} {F H : Hp} {v : V} {b : B} {kds : List (Key × D)} (s : Sm g F H) (r : RR g F H v b) (h : lkOf b = some kds) : ∃ a o kvs, v = .ref a ∧ F a = some (.frz o (.dK kvs)) ∧ kvs.map (·.1) = kds.map (·.1) ∧ RpAll g.K g.fa F (kvs.map (·.2)) (kds.map (·.2)) := by
  unfold lkOf at h
  split at h
  · cases h
    cases r with
    | lk h1 h2 h3 => exact ⟨_, _, _, rfl, h1, h2, h3⟩
  · cases h
theorem ltOf_ok {g : G} {F H : Hp} {v : V} {b : B} {kds : List (List Key × D)} (s : Sm g F H) (r : RR g F H v b) (h : ltOf b = some kds) : ∃ a o kvs, v = .ref a ∧ F a = some (.frz o (.dT kvs)) ∧ kvs.map (·.1) = kds.map (·.1) ∧ RpAll g.K g.fa F (kvs.map (·.2)) (kds.map (·.2)) := by
  unfold ltOf at h
  split at h
  · cases h
    cases r with
    | lt h1 h2 h3 => exact ⟨_, _, _, rfl, h1, h2, h3⟩
  · cases h
def dgetB (a k : B) : Option (Option D) := match dkOf a with
  | some kvs => (match keyD (datOf k) with | some q => some (getK kvs q) | none => none)
  | none => (match dtOf a with
    | some kvs => (match tkey k with | some q => some (getK kvs q) | none => none)
    | none => (match lkOf a with
      | some kvs => (match keyD (datOf k) with | some q => some (getK kvs q) | none => none)
      | none => (match ltOf a with
        | some kvs => (match tkey k with | some q => some (getK kvs q) | none => none)
        | none => none)))
theorem dgetB_ok {g : G} {F H : Hp} {x y : V} {a k : B} {o : Option D} (s : Sm g F H) (ra : RR g F H x a) (rk : RR g F H y k) (h : dgetB a k = some o) :
    ∃ p ov, x = .ref p ∧ DGet H p y ov ∧ ((ov = none ∧ o = none) ∨ ∃ v d, ov = some v ∧ o = some d ∧ Rp g.K g.fa F v d) := by
  unfold dgetB at h
  split at h
  · rename_i kvs hk
    obtain ⟨p, kv, rfl, h1, h2, h3⟩ := dkOf_ok s ra hk
    split at h
    · rename_i q hq
      cases h
      have e := rr_key rk hq
      subst e
      exact ⟨p, _, rfl, DGet.k h1, get_rel h2 h3 q⟩
    · cases h
  · split at h
    · rename_i kvs hk
      obtain ⟨p, kv, rfl, h1, h2, h3⟩ := dtOf_ok s ra hk
      split at h
      · rename_i q hq
        cases h
        obtain ⟨b, rfl, hb⟩ := tkey_ok s rk hq
        exact ⟨p, _, rfl, DGet.t h1 hb, get_rel h2 h3 q⟩
      · cases h
    · split at h
      · rename_i kvs hk
        obtain ⟨p, o', kv, rfl, h1, h2, h3⟩ := lkOf_ok s ra hk
        split at h
        · rename_i q hq
          cases h
          have e := rr_key rk hq
          subst e
          exact ⟨p, _, rfl, .inl ⟨kv, q, .inr ⟨o', s.fh _ _ h1⟩, rfl, rfl⟩, get_rel h2 h3 q⟩
        · cases h
      · split at h
        · rename_i kvs hk
          obtain ⟨p, o', kv, rfl, h1, h2, h3⟩ := ltOf_ok s ra hk
          split at h
          · rename_i q hq
            cases h
            obtain ⟨b, rfl, hb⟩ := tkey_ok s rk hq
            exact ⟨p, _, rfl, .inr ⟨kv, q, b, .inr ⟨o', s.fh _ _ h1⟩, rfl, hb, rfl⟩, get_rel h2 h3 q⟩
          · cases h
        · cases h
def inSeq (d : D) (ds : List D) (lst : Bool) : Res Bool :=
  if (SeqAt.shaped (toPy d) && SeqAt.shaped (.list (toPys ds))) = true then .ok (ds.any fun e => PyData.eqv (toPy e) (toPy d)) else .bad
def inB (neg : Bool) (a b : B) : Res B := match b with
  | .dat (.str y) => (match a with | .dat (.str x) => .ok (.dat (.bl (strIn x y != neg))) | _ => .bad)
  | b => match dgetB b a with
    | some o => .ok (.dat (.bl (o.isSome != neg)))
    | none => match seqI b with
      | some ds => (inSeq (datOf a) ds true).bind fun k => .ok (.dat (.bl (k != neg)))
      | none => .bad
def rInS (K : PySem.W.Frag) (neg : Bool) : R2 := fun x y H Q => ∃ d ds, Dp K H x d ∧ (Dp K H y (.list ds) ∨ Dp K H y (.tuple ds)) ∧ SeqAt.shaped d = true ∧ SeqAt.shaped (.list ds) = true ∧ Q (.bl ((ds.any fun z => PyData.eqv z d) != neg)) H
theorem room_seq {A : Around} {d : PyData} {ds : List PyData} (hd : SeqAt.shaped d = true) (hu : A.units + 100 < cLine) : A.units + 1 + min (PyData.depthAll ds) d.depth < cLine := by
  have := SeqAt.depth_of_shaped hd
  have h2 : min (PyData.depthAll ds) d.depth ≤ d.depth := Nat.min_le_right _ _
  omega
theorem op_inS {X : Cx} (hu : X.A.units + 100 < cLine) : OpR X (compareOp .In) (rInS X.K false) := by
  intro pins s σ H x y v u Q I rx ry h
  obtain ⟨d, ds, hd, he, sd, se, q⟩ := h
  obtain ⟨as, r1⟩ := Dp.reads I d x v hd rx
  have q' : Q (.bl (ds.any fun z => PyData.eqv z d)) H := by simpa using q
  rcases he with he | he
  · obtain ⟨bs, r2⟩ := Dp.reads I (.list ds) y u he ry
    exact SeqAt.in_list_reads r2 r1 (SeqAt.canLay_of_shaped se) (SeqAt.canLay_of_shaped sd) (room_seq sd hu) ⟨.bl _, H, I, rfl, q'⟩
  · obtain ⟨bs, r2⟩ := Dp.reads I (.tuple ds) y u he ry
    exact SeqAt.in_tuple_reads r2 r1 (SeqAt.canLay_of_shaped se) (SeqAt.canLay_of_shaped sd) (room_seq sd hu) ⟨.bl _, H, I, rfl, q'⟩
theorem op_notInS {X : Cx} (hu : X.A.units + 100 < cLine) : OpR X (compareOp .NotIn) (rInS X.K true) := by
  intro pins s σ H x y v u Q I rx ry h
  obtain ⟨d, ds, hd, he, sd, se, q⟩ := h
  obtain ⟨as, r1⟩ := Dp.reads I d x v hd rx
  have q' : Q (.bl (!ds.any fun z => PyData.eqv z d)) H := by simpa using q
  rcases he with he | he
  · obtain ⟨bs, r2⟩ := Dp.reads I (.list ds) y u he ry
    exact SeqAt.notIn_list_reads r2 r1 (SeqAt.canLay_of_shaped se) (SeqAt.canLay_of_shaped sd) (room_seq sd hu) ⟨.bl _, H, I, rfl, q'⟩
  · obtain ⟨bs, r2⟩ := Dp.reads I (.tuple ds) y u he ry
    exact SeqAt.notIn_tuple_reads r2 r1 (SeqAt.canLay_of_shaped se) (SeqAt.canLay_of_shaped sd) (room_seq sd hu) ⟨.bl _, H, I, rfl, q'⟩
def rInDk (neg : Bool) : R2 := fun y x H Q => ∃ a o, x = .ref a ∧ DGet H a y o ∧ Q (.bl (o.isSome != neg)) H
theorem op_inDk {X : Cx} (hu : X.A.units + 100 < cLine) : OpR X (compareOp .In) (rInDk false) := by
  intro pins s σ H y x v u Q I ry rx h
  obtain ⟨a, o, rfl, gd, q⟩ := h
  cases rx
  exact d_in (by omega) I gd ry fun s' I' => ⟨.bl _, H, I', rfl, by simpa using q⟩
theorem op_notInDk {X : Cx} (hu : X.A.units + 100 < cLine) : OpR X (compareOp .NotIn) (rInDk true) := by
  intro pins s σ H y x v u Q I ry rx h
  obtain ⟨a, o, rfl, gd, q⟩ := h
  cases rx
  exact d_notIn (by omega) I gd ry fun s' I' => ⟨.bl _, H, I', rfl, by simpa using q⟩
def rInT (neg : Bool) : R2 := fun x y H Q => ∃ i j, x = .str i ∧ y = .str j ∧ Q (.bl (strIn i j != neg)) H
theorem op_inT {X : Cx} : OpR X (compareOp .In) (rInT false) := by
  intro pins s σ H x y v u Q I rx ry h
  obtain ⟨i, j, rfl, rfl, q⟩ := h
  exact op_in_str pins s σ H _ _ v u Q I rx ry ⟨i, j, rfl, rfl, by simpa [strIn] using q⟩
theorem op_notInT {X : Cx} : OpR X (compareOp .NotIn) (rInT true) := by
  intro pins s σ H x y v u Q I rx ry h
  obtain ⟨i, j, rfl, rfl, q⟩ := h
  exact L2.op_notIn_str pins s σ H _ _ v u Q I rx ry ⟨i, j, rfl, rfl, by simpa [strIn] using q⟩
def rInF (K : PySem.W.Frag) (neg : Bool) : R2 := fun x y H Q => rInT neg x y H Q ∨ rInDk neg x y H Q ∨ rInS K neg x y H Q
theorem op_inF {X : Cx} (hu : X.A.units + 100 < cLine) : OpR X (compareOp .In) (rInF X.K false) := OpR.or op_inT (OpR.or (op_inDk hu) (op_inS hu))
theorem op_notInF {X : Cx} (hu : X.A.units + 100 < cLine) : OpR X (compareOp .NotIn) (rInF X.K true) := OpR.or op_notInT (OpR.or (op_notInDk hu) (op_notInS hu))
theorem seq_dp {g : G} {F H : Hp} {v : V} {b : B} {ds : List D} (s : Sm g F H) (r : RR g F H v b) (h : seqI b = some ds) (c : PyData.canLayAll0 (toPys ds) = true) : Dp g.K H v (.list (toPys ds)) ∨ Dp g.K H v (.tuple (toPys ds)) := by
  obtain ⟨a, xs, rfl, h1, h2⟩ := seqI_ok s r h
  rcases h1 with h1 | h1
  · exact .inl (.lst h1 (RpAll.dp s.fh h2 c))
  · exact .inr (.tup h1 (RpAll.dp s.fh h2 c))
theorem g_in {g : G} {K : PySem.W.Frag} {neg : Bool} (hK : g.K = K) : OpG g (rInF K neg) (inB neg) := by
  subst hK
  intro σ F H x y a b Q s ra rb p
  unfold inB at p
  split at p
  · split at p
    · cases ra
      cases rb
      exact .inl ⟨_, _, rfl, rfl, p.bl s⟩
    · exact p.elim
  · split at p
    · rename_i o ho
      obtain ⟨q, ov, rfl, gd, hr⟩ := dgetB_ok s rb ra ho
      refine .inr (.inl ⟨q, ov, rfl, gd, ?_⟩)
      have e : ov.isSome = o.isSome := by
        rcases hr with ⟨e1, e2⟩ | ⟨v, d, e1, e2, _⟩ <;> rw [e1, e2] <;> rfl
      rw [e]
      exact p.bl s
    · split at p
      · rename_i ds hs
        unfold inSeq at p
        split at p
        · rename_i h
          rw [Bool.and_eq_true] at h
          have c : PyData.canLayAll0 (toPys ds) = true := by
            have := SeqAt.canLay_of_shaped h.2
            simpa only [PyData.canLay0] using this
          refine .inr (.inr ⟨_, _, ra.dp s (SeqAt.canLay_of_shaped h.1), seq_dp s rb hs c, h.1, h.2, ?_⟩)
          have e : ((toPys ds).any fun z => PyData.eqv z (toPy (datOf a))) = ds.any fun e => PyData.eqv (toPy e) (toPy (datOf a)) := by
            rw [toPys_map, List.any_map]
            rfl
          rw [e]
          exact p.bl s
        · exact p.elim
      · exact p.elim
def idxB (a i : B) : Res B := match dgetB a i with
  | some (some d) => .ok (.dat d)
  | some none => .bad
  | none => match i with
    | .dat (.int k) => (match a with
      | .dat (.str x) => (match atI x.cps.toList k with | some c => if x.length ≤ sizeLine then .ok (.dat (.str ⟨#[c]⟩)) else .bad | none => .bad)
      | a => (match seqI a with
        | some ds => (match atI ds k with | some d => .ok (.dat d) | none => .bad)
        | none => .bad))
    | _ => .bad
def rIxD : R2 := fun x y H Q => ∃ a v, x = .ref a ∧ DGet H a y (some v) ∧ Q v H
theorem ix_dict {X : Cx} (hu : X.A.units + 100 < cLine) : IxR X rIxD := by
  intro value slice pins s σ H x y v u Q I rx ry h hs
  obtain ⟨a, z, rfl, gd, q⟩ := h
  cases rx
  exact tail_any (dict_typeIs I gd) PySem.F.slot_dict_getitem.lookup (d_getItem (by omega) I gd ry fun w' s' I' rw' => ⟨z, H, I', rw', q⟩) hs
def rIxF (K : PySem.W.Frag) : R2 := fun x y H Q => rIxD x y H Q ∨ rIx K x y H Q
theorem ix_F {X : Cx} (hu : X.A.units + 100 < cLine) : IxR X (rIxF X.K) := IxR.or (ix_dict hu) ix_seq
theorem atI_rp {K : PySem.W.Frag} {fa : Nat → Option Addr} {F : Hp} {xs : List V} {ds : List D} {k : Int} {d : D} (r : RpAll K fa F xs ds) (h : atI ds k = some d) : ∃ v, atI xs k = some v ∧ Rp K fa F v d := by
  unfold atI at h ⊢
  rw [r.len]
  cases e : ixN ds.length k with
  | none => rw [e] at h; cases h
  | some j =>
    rw [e] at h
    exact r.get h
theorem g_idx {g : G} {K : PySem.W.Frag} (hK : g.K = K) : OpG g (rIxF K) idxB := by
  subst hK
  intro σ F H x y a b Q s ra rb p
  unfold idxB at p
  split at p
  · rename_i d hd
    obtain ⟨q, ov, rfl, gd, hr⟩ := dgetB_ok s ra rb hd
    rcases hr with ⟨_, e2⟩ | ⟨v, d', rfl, e2, r⟩
    · cases e2
    · cases e2
      exact .inl ⟨q, v, rfl, gd, p.dat s r⟩
  · exact p.elim
  · split at p
    · split at p
      · split at p
        · rename_i c hc
          split at p
          · rename_i hz
            cases ra
            cases rb
            exact .inr (.inr (.inr ⟨_, _, c, rfl, rfl, hz, hc, p.str s⟩))
          · exact p.elim
        · exact p.elim
      · split at p
        · rename_i ds hs
          split at p
          · rename_i d hd
            cases rb
            obtain ⟨q, xs, rfl, h1, h2⟩ := seqI_ok s ra hs
            obtain ⟨v, hv, rv⟩ := atI_rp h2 hd
            rcases h1 with h1 | h1
            · exact .inr (.inl ⟨q, xs, _, v, rfl, rfl, h1, hv, p.dat s rv⟩)
            · exact .inr (.inr (.inl ⟨q, xs, _, v, rfl, rfl, h1, hv, p.dat s rv⟩))
          · exact p.elim
        · exact p.elim
    · exact p.elim
theorem fe_idx {X : Cx} {g : G} {a b : Expr} {fa fb : Env → Res B} {pos : Pos} (hu : X.A.units + 100 < cLine) (hK : g.K = X.K) (hp : PlainIx b) (ha : PE X a (tF g fa)) (hb : PE X b (tF g fb)) : PE X (.Subscript a b pos) (tF g (bin2 idxB fa fb)) :=
  PE.imp (pe_ix (ix_F hu) ha hb hp) fun _ _ _ h => run2 (g_idx hK) h
end Fn
namespace Fn
open PySem PySem.Spec PyProof.Rows L2
def nst : Expr → Bool
  | .Starred .. => false
  | _ => true
def nsl : Expr → Bool
  | .Slice .. => false
  | _ => true
def nset : Expr → Bool
  | .Set .. => false
  | _ => true
def plainT : Expr → Bool
  | .UnaryOp .. => false
  | .BoolOp .. => false
  | .IfExp .. => false
  | .Compare .. => false
  | _ => true
theorem star_cons {e : Expr} {es : List Expr} {env : PySem.Env} (h : nst e = true) : starEach (e :: es) env = (false, eval e env) :: starEach es env := by
  cases e <;> first | rfl | cases h
theorem star_none {env : PySem.Env} {pos : Pos} : ∀ {es : List Expr}, es.all nst = true → (backTo pos (starEach es env)).any (·.1) = false
  | [], _ => rfl
  | e :: es, h => by
    rw [List.all_cons, Bool.and_eq_true] at h
    rw [star_cons h.1]
    exact star_none h.2
theorem nsl_ix {b : Expr} (h : nsl b = true) : PlainIx b := by
  intro o i
  cases b <;> first | rfl | cases h
theorem nset_mark {op : CmpOp} {b : Expr} (h : nset b = true) : behindInMarks op b = false := by
  cases b <;> first | rfl | cases h
theorem plainT_eq {e : Expr} {env : PySem.Env} (h : plainT e = true) : ∀ whole, isTrue e env whole = (do let v ← whole; standAt e.pos; holding [v] (truthy v)) := by
  intro whole
  cases e <;> first | rfl | cases h
section
variable {X : Cx} {g : G} {a b c : Expr} {pos : Pos} {fa fb fc : Env → Res B}
def varB (i : Nat) (ρ : Env) : Res B := match ρ[i]? with
  | some (some (.dat d)) => .ok (.dat d)
  | some (some (.own m)) => .ok (.vw m)
  | some (some (.bor m)) => .ok (.bor m)
  | some (some (.scr ns)) => .ok (.scr ns)
  | some (some (.err c)) => .ok (.err c)
  | _ => .bad
theorem var_run {i : Nat} {σ : L2.St} {H : Hp} {Q : VK} (h : tF g (varB i) σ H Q) : tVar i σ H Q := by
  obtain ⟨F, ρ, s, p⟩ := h
  unfold varB at p
  split at p
  · rename_i d e
    obtain ⟨v, h1, h2⟩ := s.at_ i _ e
    exact ⟨v, h1, p v F H (Grow.refl s.sub) h2⟩
  · rename_i m e
    obtain ⟨v, h1, q, o, rfl, h2, h3, h4, h5⟩ := s.at_ i _ e
    exact ⟨_, h1, p _ F H (Grow.refl s.sub) ⟨q, o, rfl, h2, h5⟩⟩
  · rename_i m e
    obtain ⟨v, h1, h2⟩ := s.at_ i _ e
    exact ⟨v, h1, p v F H (Grow.refl s.sub) h2⟩
  · rename_i ns e
    obtain ⟨v, h1, h2⟩ := s.at_ i _ e
    exact ⟨v, h1, p v F H (Grow.refl s.sub) h2⟩
  · rename_i ns e
    obtain ⟨v, h1, h2⟩ := s.at_ i _ e
    exact ⟨v, h1, p v F H (Grow.refl s.sub) h2⟩
  · exact p.elim
theorem con_run {v : V} {d : D} {σ : L2.St} {H : Hp} {Q : VK} (hv : ∀ F, Rp g.K g.fa F v d) (h : tF g (fun _ => .ok (.dat d)) σ H Q) : tC v σ H Q := by
  obtain ⟨F, ρ, s, p⟩ := h
  exact p v F H (Grow.refl s.sub) (hv F)
def consA (fa : Env → Res B) (fs : Env → Res (List B)) : Env → Res (List B) := fun ρ => (fa ρ).bind fun x => (fs ρ).bind fun xs => .ok (rd x :: xs)
theorem fa_nil : PA X [] (tFA g fun _ => .ok []) := PA.imp pa_nil fun _ _ _ ⟨F, _, s, p⟩ => p [] F _ (Grow.refl s.sub) .nil
theorem fa_cons {e : Expr} {es : List Expr} {fs : Env → Res (List B)} (hn : nst e = true) (ha : PE X e (tF g fa)) (hr : PA X es (tFA g fs)) : PA X (e :: es) (tFA g (consA fa fs)) := by
  refine PA.imp (pa_cons ha hr (star_cons hn)) fun σ H Q ⟨F, ρ, s, p⟩ => ?_
  unfold consA at p
  show tF g fa σ H _
  refine run1 s (fun bx v F1 H1 e1 g1 r1 => ?_) (fun c e => ?_) (fun e => ?_)
  · rw [e1, Res.ok_bind] at p
    have s1 := s.grow g1
    refine ⟨F1, ρ, s1, ?_⟩
    cases e2 : fs ρ with
    | ok bs =>
      rw [e2, Res.ok_bind] at p
      exact fun vs F2 H2 g2 r2 => p (v :: vs) F2 H2 (g1.trans g2) (.cons (r1.mono g2) r2)
    | exc c =>
      rw [e2, Res.exc_bind] at p
      exact fun F' H' gr => p F' H' (g1.trans gr)
    | bad =>
      rw [e2] at p
      exact p
  · rw [e] at p
    exact p
  · rw [e] at p
    exact p
theorem runA {fs : Env → Res (List B)} {f : List B → Res B} {r : List V → Hp → VK → Prop} {σ : L2.St} {H : Hp} {Q : VK}
    (hg : ∀ (F H : Hp) (vs : List V) (bs : List B) (Q : VK), Sm g F H → Paired (RR g F H) vs bs → Post g σ F H (f bs) Q → r vs H Q)
    (h : tF g (fun ρ => (fs ρ).bind f) σ H Q) : tFA g fs σ H fun vs H1 => r vs H1 Q := by
  obtain ⟨F, ρ, s, p⟩ := h
  refine ⟨F, ρ, s, ?_⟩
  dsimp only at p
  cases e : fs ρ with
  | ok bs =>
    rw [e, Res.ok_bind] at p
    exact fun vs F1 H1 g1 r1 => hg F1 H1 vs bs Q (s.sm.grow g1) r1 (p.later g1)
  | exc c =>
    rw [e, Res.exc_bind] at p
    exact p
  | bad =>
    rw [e] at p
    exact p
def CallG (g : G) (r : List V → Hp → VK → Prop) (f : List B → Res B) : Prop := ∀ (σ : L2.St) (F H : Hp) (vs : List V) (bs : List B) (Q : VK), Sm g F H → Paired (RR g F H) vs bs → Post g σ F H (f bs) Q → r vs H Q
theorem fe_callB {x : Str} {p : Pos} {e : Expr} {es : List Expr} {id : String} {r : List V → Hp → VK → Prop} {fs : Env → Res (List B)} {f : List B → Res B} (hc : CallR X (.builtin id) r) (hg : Gl X x) (hm : X.mg x = none) (hv : bootBuiltins x = some (.builtin id)) (hcg : CallG g r f)
    (ha : PA X (e :: es) (tFA g fs)) (hn : x ≠ "__name__") (hdb : (x == ("__debug__" : Str)) = false) (hst : (e :: es).all nst = true) : PE X (.Call (.Name x p) (e :: es) [] pos) (tF g fun ρ => (fs ρ).bind f) := by
  rw [List.all_cons, Bool.and_eq_true] at hst
  exact PE.imp (pe_callB hc hg hm hv ha hn hdb (star_cons hst.1) (star_none hst.2)) fun σ _ _ h => runA (hcg σ) h
theorem fe_callTy {x : Str} {p : Pos} {e : Expr} {es : List Expr} {T : String} {r : List V → Hp → VK → Prop} {fs : Env → Res (List B)} {f : List B → Res B} (hc : CallR X (.type T) r) (hg : Gl X x) (hm : X.mg x = none) (hv : bootBuiltins x = some (.type T)) (hcg : CallG g r f)
    (ha : PA X (e :: es) (tFA g fs)) (hn : x ≠ "__name__") (hdb : (x == ("__debug__" : Str)) = false) (hst : (e :: es).all nst = true) : PE X (.Call (.Name x p) (e :: es) [] pos) (tF g fun ρ => (fs ρ).bind f) := by
  rw [List.all_cons, Bool.and_eq_true] at hst
  exact PE.imp (pe_callTy hc hg hm hv ha hn hdb (star_cons hst.1) (star_none hst.2)) fun σ _ _ h => runA (hcg σ) h
def dats : List B → Option (List D)
  | [] => some []
  | .dat d :: bs => (match dats bs with | some ds => some (d :: ds) | none => none)
  | _ => none
theorem dats_ok {F H : Hp} : ∀ {bs : List B} {vs : List V} {ds : List D}, dats bs = some ds → Paired (RR g F H) vs bs → RpAll g.K g.fa F vs ds
  | [], _, _, h, .nil => by cases h; exact .nil
  | .dat d :: bs, _, _, h, .cons r rs => by
    unfold dats at h
    split at h
    · rename_i ds' h'
      cases h
      exact .cons r (dats_ok h' rs)
    · cases h
  | .own _ :: _, _, _, h, _ => by cases h
  | .vw _ :: _, _, _, h, _ => by cases h
  | .bor _ :: _, _, _, h, _ => by cases h
  | .scr _ :: _, _, _, h, _ => by cases h
def tupB (bs : List B) : Res B := match dats bs with
  | some ds => if ds.length ≤ sizeLine then .ok (.dat (.tup ds)) else .bad
  | none => .bad
def lstB (bs : List B) : Res B := match dats bs with
  | some ds => if ds.length ≤ sizeLine then .ok (.own (.l ds)) else .bad
  | none => .bad
theorem g_tup : CallG g (fun xs H1 Q => xs.length ≤ sizeLine ∧ ∀ p, H1 p = none → Q (.ref p) (upd H1 p (.tup xs))) tupB := by
  intro σ F H vs bs Q s r p
  unfold tupB at p
  split at p
  · rename_i ds hd
    split at p
    · rename_i hz
      have rr := dats_ok hd r
      exact ⟨by rw [rr.len]; exact hz, p.newT s rr⟩
    · exact p.elim
  · exact p.elim
theorem g_lst : CallG g (fun xs H1 Q => xs.length ≤ sizeLine ∧ ∀ p, H1 p = none → Q (.ref p) (upd H1 p (.lst xs))) lstB := by
  intro σ F H vs bs Q s r p
  unfold lstB at p
  split at p
  · rename_i ds hd
    split at p
    · rename_i hz
      have rr := dats_ok hd r
      exact ⟨by rw [rr.len]; exact hz, p.newL s rr⟩
    · exact p.elim
  · exact p.elim
theorem fe_tup {es : List Expr} {k : Nat} {fs : Env → Res (List B)} (ha : PA X es (tFA g fs)) : PE X (.Tuple es k pos) (tF g fun ρ => (fs ρ).bind tupB) := PE.imp (pe_tup ha) fun _ _ _ h => runA (g_tup _) h
theorem fe_lst {es : List Expr} {fs : Env → Res (List B)} (ha : PA X es (tFA g fs)) : PE X (.List es pos) (tF g fun ρ => (fs ρ).bind lstB) := PE.imp (pe_lst ha) fun _ _ _ h => runA (g_lst _) h
theorem fe_dicK : PE X (.Dict [] [] pos) (tF g fun _ => .ok (.own (.k []))) := PE.imp pe_dnewK fun σ H Q ⟨F, ρ, s, p⟩ => fun d hd => p.newM s.sm (.k (kvs := []) rfl .nil) d hd
def one1 (f : B → Res B) (fa : Env → Res B) : Env → Res B := fun ρ => (fa ρ).bind fun x => f (rd x)
theorem runU {f : B → Res B} {R : V → Hp → VK → Prop} {σ : L2.St} {H : Hp} {Q : VK} (hg : ∀ (F H : Hp) (v : V) (b : B) (Q : VK), Sm g F H → RR g F H v b → Post g σ F H (f b) Q → R v H Q) (h : tF g (one1 f fa) σ H Q) : tF g fa σ H fun v H1 => R v H1 Q := by
  obtain ⟨F, ρ, s, p⟩ := h
  unfold one1 at p
  refine run1 s (fun bx v F1 H1 e1 g1 r1 => ?_) (fun c e => ?_) (fun e => ?_)
  · rw [e1, Res.ok_bind] at p
    exact hg F1 H1 v _ Q (s.sm.grow g1) r1 (p.later g1)
  · rw [e] at p
    exact p
  · rw [e] at p
    exact p
def negB (b : B) : Res B := match b with
  | .dat (.int i) => .ok (.dat (.int (-i)))
  | _ => .bad
theorem fe_neg (ha : PE X a (tF g fa)) : PE X (.UnaryOp .USub a pos) (tF g (one1 negB fa)) := by
  refine PE.imp (pe_un un_neg ha) fun σ H Q h => runU (f := negB) (R := rU fun i => .int (-i)) (fun F H v b Q s r p => ?_) h
  unfold negB at p
  split at p
  · cases r
    exact ⟨_, rfl, p.int s⟩
  · exact p.elim
def notB (b : B) : Res B := match b with
  | .dat (.bl k) => .ok (.dat (.bl !k))
  | _ => .bad
theorem fe_not (ha : PE X a (tF g fa)) : PE X (.UnaryOp .Not a pos) (tF g (one1 notB fa)) := by
  refine PE.imp (pe_not ha) fun σ H Q h => runU (f := notB) (R := fun x H1 Q => ∃ c, x = .bl c ∧ Q (.bl (!c)) H1) (fun F H v b Q s r p => ?_) h
  unfold notB at p
  split at p
  · cases r
    exact ⟨_, rfl, p.bl s⟩
  · exact p.elim
def andV (fa fb : Env → Res B) : Env → Res B := fun ρ => (fa ρ).bind fun x => match x with
  | .dat (.bl true) => fb ρ
  | .dat (.bl false) => .ok (.dat (.bl false))
  | _ => .bad
def orV (fa fb : Env → Res B) : Env → Res B := fun ρ => (fa ρ).bind fun x => match x with
  | .dat (.bl false) => fb ρ
  | .dat (.bl true) => .ok (.dat (.bl true))
  | _ => .bad
theorem fe_and {rest : List Expr} (ha : PE X a (tF g fa)) (hb : PE X (.BoolOp .And (b :: rest) pos) (tF g fb)) : PE X (.BoolOp .And (a :: b :: rest) pos) (tF g (andV fa fb)) := by
  refine PE.imp (pe_and ha hb) fun σ H Q ⟨F, ρ, s, p⟩ => ?_
  unfold andV at p
  show tF g fa σ H _
  refine run1 s (fun bx v F1 H1 e1 g1 r1 => ?_) (fun c e => ?_) (fun e => ?_)
  · rw [e1, Res.ok_bind] at p
    split at p
    · cases r1
      refine ⟨true, rfl, ?_⟩
      rw [if_pos rfl]
      exact ⟨F1, ρ, s.grow g1, p.later g1⟩
    · cases r1
      refine ⟨false, rfl, ?_⟩
      rw [if_neg Bool.false_ne_true]
      exact (p.later g1).bl (s.sm.grow g1)
    · exact p.elim
  · rw [e] at p
    exact p
  · rw [e] at p
    exact p
def truB (b : B) : Res Bool := match b with
  | .dat .non => .ok false
  | .dat (.bl k) => .ok k
  | .dat (.int i) => .ok (i != 0)
  | .dat (.str x) => if x.length ≤ sizeLine then .ok ((x.length : Int) != 0) else .bad
  | b => match dkOf b with
    | some kvs => .ok (!kvs.isEmpty)
    | none => match seqI b with
      | some ds => .ok (!ds.isEmpty)
      | none => .bad
def testV (fa : Env → Res B) : Env → Res Bool := fun ρ => (fa ρ).bind fun x => truB (rd x)
theorem truB_ok {F H : Hp} {v : V} {b : B} {k : Bool} (s : Sm g F H) (r : RR g F H v b) (h : truB b = .ok k) : TruV g.K v H k := by
  unfold truB at h
  split at h
  · cases h; cases r; rfl
  · cases h; cases r; rfl
  · cases h; cases r; rfl
  · split at h
    · cases h; cases r; exact ⟨by assumption, rfl⟩
    · cases h
  · split at h
    · rename_i kvs hk
      cases h
      obtain ⟨p, xs, rfl, h1, h2, h3⟩ := dkOf_ok s r hk
      refine .inr (.inr ⟨xs, h1, ?_⟩)
      cases xs with
      | nil => cases kvs with
        | nil => rfl
        | cons _ _ => simp at h2
      | cons _ _ => cases kvs with
        | nil => simp at h2
        | cons _ _ => rfl
    · split at h
      · rename_i ds hs
        cases h
        obtain ⟨p, xs, rfl, h1, h2⟩ := seqI_ok s r hs
        have e : (!ds.isEmpty) = !xs.isEmpty := by cases h2 <;> rfl
        rw [e]
        rcases h1 with h1 | h1
        · exact .inl ⟨xs, h1, rfl⟩
        · exact .inr (.inl ⟨xs, h1, rfl⟩)
      · cases h
theorem ft_val (hK : g.K = X.K) (hp : plainT a = true) (ha : PE X a (tF g fa)) : PT X a (tFT g (testV fa)) := by
  refine PT.imp (pt_truth ha (plainT_eq hp)) fun σ H Q ⟨F, ρ, s, p⟩ => ?_
  unfold testV at p
  show tF g fa σ H _
  rw [← hK]
  refine run1 s (fun bx v F1 H1 e1 g1 r1 => ?_) (fun c e => ?_) (fun e => ?_)
  · rw [e1, Res.ok_bind] at p
    cases e2 : truB (rd bx) with
    | ok k =>
      rw [e2] at p
      exact ⟨k, truB_ok (s.sm.grow g1) r1 e2, p F1 H1 g1⟩
    | exc c =>
      exfalso
      unfold truB at e2
      repeat (split at e2 <;> try cases e2)
    | bad =>
      rw [e2] at p
      exact p.elim
  · rw [e] at p
    exact p
  · rw [e] at p
    exact p
end
end Fn
namespace Fn
open PySem PySem.Spec PyProof.Rows L2
section
variable {X : Cx} {g : G}
theorem paired1 {α β : Type} {R : α → β → Prop} {xs : List α} {b : β} (h : Paired R xs [b]) : ∃ x, xs = [x] ∧ R x b := by
  cases h with
  | cons r t => cases t; exact ⟨_, rfl, r⟩
theorem paired2 {α β : Type} {R : α → β → Prop} {xs : List α} {b c : β} (h : Paired R xs [b, c]) : ∃ x y, xs = [x, y] ∧ R x b ∧ R y c := by
  cases h with
  | cons r t =>
    obtain ⟨y, rfl, r'⟩ := paired1 t
    exact ⟨_, _, rfl, r, r'⟩
def intsD : List D → Option (List Int)
  | [] => some []
  | .int i :: ds => (match intsD ds with | some ns => some (i :: ns) | none => none)
  | _ => none
def blsD : List D → Option (List Bool)
  | [] => some []
  | .bl i :: ds => (match blsD ds with | some ns => some (i :: ns) | none => none)
  | _ => none
theorem intsD_ok : ∀ {ds : List D} {ns : List Int}, intsD ds = some ns → ds = ns.map D.int
  | [], _, h => by cases h; rfl
  | .int i :: ds, _, h => by
    unfold intsD at h
    split at h
    · rename_i ns e
      cases h
      rw [intsD_ok e]; rfl
    · cases h
  | .non :: _, _, h => by cases h
  | .bl _ :: _, _, h => by cases h
  | .str _ :: _, _, h => by cases h
  | .tup _ :: _, _, h => by cases h
  | .ctup _ :: _, _, h => by cases h
  | .lst _ :: _, _, h => by cases h
  | .dk _ :: _, _, h => by cases h
  | .dt _ :: _, _, h => by cases h
  | .lk _ :: _, _, h => by cases h
  | .lt _ :: _, _, h => by cases h
  | .fn _ :: _, _, h => by cases h
theorem blsD_ok : ∀ {ds : List D} {ns : List Bool}, blsD ds = some ns → ds = ns.map D.bl
  | [], _, h => by cases h; rfl
  | .bl i :: ds, _, h => by
    unfold blsD at h
    split at h
    · rename_i ns e
      cases h
      rw [blsD_ok e]; rfl
    · cases h
  | .non :: _, _, h => by cases h
  | .int _ :: _, _, h => by cases h
  | .str _ :: _, _, h => by cases h
  | .tup _ :: _, _, h => by cases h
  | .ctup _ :: _, _, h => by cases h
  | .lst _ :: _, _, h => by cases h
  | .dk _ :: _, _, h => by cases h
  | .dt _ :: _, _, h => by cases h
  | .lk _ :: _, _, h => by cases h
  | .lt _ :: _, _, h => by cases h
  | .fn _ :: _, _, h => by cases h
def lenB (bs : List B) : Res B := match bs with
  | [.dat (.str x)] => if x.length ≤ sizeLine then .ok (.dat (.int x.length)) else .bad
  | [b] => (match dkOf b with
    | some kvs => .ok (.dat (.int kvs.length))
    | none => match seqI b with
      | some ds => .ok (.dat (.int ds.length))
      | none => match dtOf b with
        | some kvs => .ok (.dat (.int kvs.length))
        | none => .bad)
  | _ => .bad
def rLenF (K : PySem.W.Frag) : List V → Hp → VK → Prop := fun xs H Q => (∃ p ys, xs = [.ref p] ∧ (SqL K H p ys ∨ SqT K H p ys) ∧ Q (.int ys.length) H) ∨ (∃ z, xs = [.str z] ∧ z.length ≤ sizeLine ∧ Q (.int z.length) H) ∨ (∃ a kvs, xs = [V.ref a] ∧ H a = some (.dK kvs) ∧ Q (.int kvs.length) H) ∨ rLenT xs H Q
theorem c_len : CallR X (.builtin "len") (rLenF X.K) := CallR.or call_len_seq (CallR.or call_len_str (CallR.or call_lenD call_len_dT))
theorem g_len {K : PySem.W.Frag} (hK : g.K = K) : CallG g (rLenF K) lenB := by
  subst hK
  intro σ F H vs bs Q s r p
  unfold lenB at p
  split at p
  · split at p
    · obtain ⟨v, rfl, rv⟩ := paired1 r
      cases rv
      exact .inr (.inl ⟨_, rfl, by assumption, p.int s⟩)
    · exact p.elim
  · obtain ⟨v, rfl, rv⟩ := paired1 r
    split at p
    · rename_i kvs hk
      obtain ⟨q, xs, rfl, h1, h2, h3⟩ := dkOf_ok s rv hk
      have e : xs.length = kvs.length := by simpa using congrArg List.length h2
      exact .inr (.inr (.inl ⟨q, xs, rfl, h1, by rw [e]; exact p.int s⟩))
    · split at p
      · rename_i ds hs
        obtain ⟨q, xs, rfl, h1, h2⟩ := seqI_ok s rv hs
        exact .inl ⟨q, xs, rfl, h1, by rw [h2.len]; exact p.int s⟩
      · split at p
        · rename_i kvs hk
          obtain ⟨q, xs, rfl, h1, h2, h3⟩ := dtOf_ok s rv hk
          have e : xs.length = kvs.length := by simpa using congrArg List.length h2
          exact .inr (.inr (.inr ⟨q, xs, rfl, h1, by rw [e]; exact p.int s⟩))
        · exact p.elim
  · exact p.elim
def absF (bs : List B) : Res B := match bs with
  | [.dat (.int i)] => .ok (.dat (.int (if i < 0 then -i else i)))
  | _ => .bad
theorem g_abs : CallG g (fun xs H Q => ∃ i, xs = [.int i] ∧ Q (.int (if i < 0 then -i else i)) H) absF := by
  intro σ F H vs bs Q s r p
  unfold absF at p
  split at p
  · obtain ⟨v, rfl, rv⟩ := paired1 r
    cases rv
    exact ⟨_, rfl, p.int s⟩
  · exact p.elim
def minI : List Int → Int
  | [] => 0
  | n :: ns => ns.foldl min n
def maxI : List Int → Int
  | [] => 0
  | n :: ns => ns.foldl max n
theorem foldl_min : ∀ (ns : List Int) (n : Int), (ns.foldl min n = n ∨ ns.foldl min n ∈ ns) ∧ ns.foldl min n ≤ n ∧ ∀ y ∈ ns, ns.foldl min n ≤ y
  | [], n => ⟨.inl rfl, Int.le_refl _, fun y h => by cases h⟩
  | m :: ns, n => by
    obtain ⟨h1, h2, h3⟩ := foldl_min ns (min n m)
    rw [List.foldl_cons]
    refine ⟨?_, by omega, fun y hy => ?_⟩
    · rcases h1 with h1 | h1
      · rw [h1]
        by_cases c : n ≤ m
        · exact .inl (by omega)
        · exact .inr (by rw [show min n m = m by omega]; exact List.mem_cons_self)
      · exact .inr (List.mem_cons_of_mem _ h1)
    · rcases List.mem_cons.mp hy with rfl | hy
      · omega
      · exact h3 y hy
theorem foldl_max : ∀ (ns : List Int) (n : Int), (ns.foldl max n = n ∨ ns.foldl max n ∈ ns) ∧ n ≤ ns.foldl max n ∧ ∀ y ∈ ns, y ≤ ns.foldl max n
  | [], n => ⟨.inl rfl, Int.le_refl _, fun y h => by cases h⟩
  | m :: ns, n => by
    obtain ⟨h1, h2, h3⟩ := foldl_max ns (max n m)
    rw [List.foldl_cons]
    refine ⟨?_, by omega, fun y hy => ?_⟩
    · rcases h1 with h1 | h1
      · rw [h1]
        by_cases c : m ≤ n
        · exact .inl (by omega)
        · exact .inr (by rw [show max n m = m by omega]; exact List.mem_cons_self)
      · exact .inr (List.mem_cons_of_mem _ h1)
    · rcases List.mem_cons.mp hy with rfl | hy
      · omega
      · exact h3 y hy
theorem minI_ok {ns : List Int} (h : 0 < ns.length) : minI ns ∈ ns ∧ ∀ y ∈ ns, minI ns ≤ y := by
  cases ns with
  | nil => simp at h
  | cons n ns =>
    obtain ⟨h1, h2, h3⟩ := foldl_min ns n
    refine ⟨?_, fun y hy => ?_⟩
    · rcases h1 with h1 | h1
      · show ns.foldl min n ∈ n :: ns
        rw [h1]; exact List.mem_cons_self
      · exact List.mem_cons_of_mem _ h1
    · rcases List.mem_cons.mp hy with rfl | hy
      · exact h2
      · exact h3 y hy
theorem maxI_ok {ns : List Int} (h : 0 < ns.length) : maxI ns ∈ ns ∧ ∀ y ∈ ns, y ≤ maxI ns := by
  cases ns with
  | nil => simp at h
  | cons n ns =>
    obtain ⟨h1, h2, h3⟩ := foldl_max ns n
    refine ⟨?_, fun y hy => ?_⟩
    · rcases h1 with h1 | h1
      · show ns.foldl max n ∈ n :: ns
        rw [h1]; exact List.mem_cons_self
      · exact List.mem_cons_of_mem _ h1
    · rcases List.mem_cons.mp hy with rfl | hy
      · exact h2
      · exact h3 y hy
def mnxB (two : Int → Int → Int) (many : List Int → Int) (bs : List B) : Res B := match bs with
  | [.dat (.int i), .dat (.int j)] => .ok (.dat (.int (two i j)))
  | [b] => (match seqL b with
    | some ds => (match intsD ds with
      | some ns => if 0 < ns.length then .ok (.dat (.int (many ns))) else .bad
      | none => .bad)
    | none => .bad)
  | _ => .bad
def minF : List B → Res B := mnxB (fun i j => if j < i then j else i) minI
def maxF : List B → Res B := mnxB (fun i j => if j > i then j else i) maxI
def rMinF (K : PySem.W.Frag) : List V → Hp → VK → Prop := fun xs H Q => (∃ i j, xs = [.int i, .int j] ∧ Q (.int (if j < i then j else i)) H) ∨ rMin K xs H Q
def rMaxF (K : PySem.W.Frag) : List V → Hp → VK → Prop := fun xs H Q => (∃ i j, xs = [.int i, .int j] ∧ Q (.int (if j > i then j else i)) H) ∨ rMax K xs H Q
theorem c_min (hc : X.calm = true) : CallR X (.builtin "min") (rMinF X.K) := CallR.or (call_min2 hc) (cr_min hc)
theorem c_max (hc : X.calm = true) : CallR X (.builtin "max") (rMaxF X.K) := CallR.or (call_max2 hc) (cr_max hc)
theorem ints_at {F H : Hp} {v : V} {b : B} {ds : List D} {ns : List Int} (s : Sm g F H) (r : RR g F H v b) (h : seqL b = some ds) (e : intsD ds = some ns) : ∃ a, v = .ref a ∧ SqL g.K H a (ns.map V.int) := by
  obtain ⟨a, xs, rfl, h1, h2⟩ := seqL_ok s r h
  have ed := intsD_ok e
  subst ed
  have ex := h2.ints
  subst ex
  exact ⟨a, rfl, SqL.of h1⟩
theorem g_min {K : PySem.W.Frag} (hK : g.K = K) : CallG g (rMinF K) minF := by
  subst hK
  intro σ F H vs bs Q s r p
  unfold minF mnxB at p
  split at p
  · obtain ⟨v, w, rfl, rv, rw'⟩ := paired2 r
    cases rv
    cases rw'
    exact .inl ⟨_, _, rfl, p.int s⟩
  · obtain ⟨v, rfl, rv⟩ := paired1 r
    split at p
    · rename_i ds hd
      split at p
      · rename_i ns hn
        split at p
        · rename_i hl
          obtain ⟨a, rfl, h1⟩ := ints_at s rv hd hn
          obtain ⟨m1, m2⟩ := minI_ok hl
          refine .inr ⟨a, ns, rfl, h1, hl, fun m h2 h3 => ?_⟩
          have e : m = minI ns := by
            have a1 := h3 _ m1
            have a2 := m2 _ h2
            omega
          subst e
          exact p.int s
        · exact p.elim
      · exact p.elim
    · exact p.elim
  · exact p.elim
theorem g_max {K : PySem.W.Frag} (hK : g.K = K) : CallG g (rMaxF K) maxF := by
  subst hK
  intro σ F H vs bs Q s r p
  unfold maxF mnxB at p
  split at p
  · obtain ⟨v, w, rfl, rv, rw'⟩ := paired2 r
    cases rv
    cases rw'
    exact .inl ⟨_, _, rfl, p.int s⟩
  · obtain ⟨v, rfl, rv⟩ := paired1 r
    split at p
    · rename_i ds hd
      split at p
      · rename_i ns hn
        split at p
        · rename_i hl
          obtain ⟨a, rfl, h1⟩ := ints_at s rv hd hn
          obtain ⟨m1, m2⟩ := maxI_ok hl
          refine .inr ⟨a, ns, rfl, h1, hl, fun m h2 h3 => ?_⟩
          have e : m = maxI ns := by
            have a1 := h3 _ m1
            have a2 := m2 _ h2
            omega
          subst e
          exact p.int s
        · exact p.elim
      · exact p.elim
    · exact p.elim
  · exact p.elim
def sumF (bs : List B) : Res B := match bs with
  | [b] => (match seqL b with
    | some ds => (match intsD ds with
      | some ns => .ok (.dat (.int ns.sum))
      | none => .bad)
    | none => .bad)
  | _ => .bad
theorem g_sum {K : PySem.W.Frag} (hK : g.K = K) : CallG g (rSum K) sumF := by
  subst hK
  intro σ F H vs bs Q s r p
  unfold sumF at p
  split at p
  · obtain ⟨v, rfl, rv⟩ := paired1 r
    split at p
    · rename_i ds hd
      split at p
      · rename_i ns hn
        obtain ⟨a, rfl, h1⟩ := ints_at s rv hd hn
        exact ⟨a, ns, rfl, h1, p.int s⟩
      · exact p.elim
    · exact p.elim
  · exact p.elim
def anyAllF (f : List Bool → Bool) (bs : List B) : Res B := match bs with
  | [b] => (match seqL b with
    | some ds => (match blsD ds with
      | some ns => .ok (.dat (.bl (f ns)))
      | none => .bad)
    | none => .bad)
  | _ => .bad
def anyF : List B → Res B := anyAllF fun ns => ns.any id
def allF : List B → Res B := anyAllF fun ns => ns.all id
theorem bls_at {F H : Hp} {v : V} {b : B} {ds : List D} {ns : List Bool} (s : Sm g F H) (r : RR g F H v b) (h : seqL b = some ds) (e : blsD ds = some ns) : ∃ a, v = .ref a ∧ SqL g.K H a (ns.map V.bl) := by
  obtain ⟨a, xs, rfl, h1, h2⟩ := seqL_ok s r h
  have ed := blsD_ok e
  subst ed
  have ex := h2.bls
  subst ex
  exact ⟨a, rfl, SqL.of h1⟩
theorem g_any {K : PySem.W.Frag} (hK : g.K = K) : CallG g (rAny K) anyF := by
  subst hK
  intro σ F H vs bs Q s r p
  unfold anyF anyAllF at p
  split at p
  · obtain ⟨v, rfl, rv⟩ := paired1 r
    split at p
    · rename_i ds hd
      split at p
      · rename_i ns hn
        obtain ⟨a, rfl, h1⟩ := bls_at s rv hd hn
        exact ⟨a, ns, rfl, h1, p.bl s⟩
      · exact p.elim
    · exact p.elim
  · exact p.elim
theorem g_all {K : PySem.W.Frag} (hK : g.K = K) : CallG g (rAll K) allF := by
  subst hK
  intro σ F H vs bs Q s r p
  unfold allF anyAllF at p
  split at p
  · obtain ⟨v, rfl, rv⟩ := paired1 r
    split at p
    · rename_i ds hd
      split at p
      · rename_i ns hn
        obtain ⟨a, rfl, h1⟩ := bls_at s rv hd hn
        exact ⟨a, ns, rfl, h1, p.bl s⟩
      · exact p.elim
    · exact p.elim
  · exact p.elim
def intF (bs : List B) : Res B := match bs with
  | [.dat (.int i)] => .ok (.dat (.int i))
  | [.dat (.bl k)] => .ok (.dat (.int (if k then 1 else 0)))
  | _ => .bad
theorem g_int : CallG g (fun xs H Q => (∃ i, xs = [.int i] ∧ Q (.int i) H) ∨ ∃ k, xs = [.bl k] ∧ Q (.int (if k then 1 else 0)) H) intF := by
  intro σ F H vs bs Q s r p
  unfold intF at p
  split at p
  · obtain ⟨v, rfl, rv⟩ := paired1 r
    cases rv
    exact .inl ⟨_, rfl, p.int s⟩
  · obtain ⟨v, rfl, rv⟩ := paired1 r
    cases rv
    exact .inr ⟨_, rfl, p.int s⟩
  · exact p.elim
def strF (bs : List B) : Res B := match bs with
  | [.dat (.int i)] => if i.natAbs.log2 < 1920 then .ok (.dat (.str (toString i))) else .bad
  | _ => .bad
theorem g_str : CallG g (fun xs H Q => ∃ i, xs = [.int i] ∧ i.natAbs.log2 < 1920 ∧ Q (.str (toString i)) H) strF := by
  intro σ F H vs bs Q s r p
  unfold strF at p
  split at p
  · split at p
    · obtain ⟨v, rfl, rv⟩ := paired1 r
      cases rv
      exact ⟨_, rfl, by assumption, p.str s⟩
    · exact p.elim
  · exact p.elim
def tupF (bs : List B) : Res B := match bs with
  | [.dat (.tup xs)] => .ok (.dat (.tup xs))
  | [.dat (.ctup xs)] => .ok (.dat (.ctup xs))
  | [b] => (match seqI b with
    | some ds => .ok (.dat (.tup ds))
    | none => .bad)
  | _ => .bad
theorem seqI_list {F H : Hp} {v : V} {b : B} {ds : List D} (s : Sm g F H) (r : RR g F H v b) (h : seqI b = some ds) (n1 : ∀ xs, b ≠ .dat (.tup xs)) (n2 : ∀ xs, b ≠ .dat (.ctup xs)) : ∃ a xs, v = .ref a ∧ SqL g.K H a xs ∧ RpAll g.K g.fa F xs ds := by
  unfold seqI at h
  split at h
  · exact absurd rfl (n1 _)
  · exact absurd rfl (n2 _)
  · cases h
    cases r with
    | lst h1 h2 => exact ⟨_, _, rfl, SqL.of (s.fh _ _ h1), h2⟩
  · cases h
    obtain ⟨p, o, rfl, h1, h2⟩ := r
    cases h2 with
    | l h2 => exact ⟨_, _, rfl, SqL.of h1, h2⟩
  · cases h
    obtain ⟨p, o, rfl, h1, h2⟩ := r
    cases h2 with
    | l h2 => exact ⟨_, _, rfl, SqL.of (s.gh _ _ h1), h2⟩
  · cases h
    obtain ⟨p, rfl, h1⟩ := r
    exact ⟨_, _, rfl, s.gh.seq h1, RpAll.of_ints _⟩
  · cases h
def rTupF (K : PySem.W.Frag) : List V → Hp → VK → Prop := fun xs H Q => ∃ p ys, xs = [.ref p] ∧ ((SqL K H p ys ∧ ∀ l, H l = none → Q (.ref l) (upd H l (.tup ys))) ∨ (SqT K H p ys ∧ Q (.ref p) H))
theorem g_tupF {K : PySem.W.Frag} (hK : g.K = K) : CallG g (rTupF K) tupF := by
  subst hK
  intro σ F H vs bs Q s r p
  unfold tupF at p
  split at p
  · obtain ⟨v, rfl, rv⟩ := paired1 r
    cases rv with
    | tup h1 h2 => exact ⟨_, _, rfl, .inr ⟨SqT.of (s.fh _ _ h1), p.dat s (.tup h1 h2)⟩⟩
  · obtain ⟨v, rfl, rv⟩ := paired1 r
    cases rv with
    | ctup h1 h2 => exact ⟨_, _, rfl, .inr ⟨sqT_none h1, p.dat s (.ctup h1 h2)⟩⟩
  · rename_i b n1 n2
    obtain ⟨v, rfl, rv⟩ := paired1 r
    split at p
    · rename_i ds hs
      obtain ⟨a, xs, rfl, h1, h2⟩ := seqI_list s rv hs (fun xs e => n1 xs (by rw [e])) (fun xs e => n2 xs (by rw [e]))
      exact ⟨a, xs, rfl, .inl ⟨h1, p.newT s h2⟩⟩
    · exact p.elim
  · exact p.elim
def lstF (bs : List B) : Res B := match bs with
  | [b] => (match seqI b with
    | some ds => .ok (.own (.l ds))
    | none => .bad)
  | _ => .bad
def rLstF (K : PySem.W.Frag) : List V → Hp → VK → Prop := fun xs H Q => ∃ p ys, xs = [.ref p] ∧ (SqL K H p ys ∨ SqT K H p ys) ∧ ∀ l, H l = none → Q (.ref l) (upd H l (.lst ys))
theorem g_lstF {K : PySem.W.Frag} (hK : g.K = K) : CallG g (rLstF K) lstF := by
  subst hK
  intro σ F H vs bs Q s r p
  unfold lstF at p
  split at p
  · obtain ⟨v, rfl, rv⟩ := paired1 r
    split at p
    · rename_i ds hs
      obtain ⟨a, xs, rfl, h1, h2⟩ := seqI_ok s rv hs
      exact ⟨a, xs, rfl, h1, p.newL s h2⟩
    · exact p.elim
  · exact p.elim
def sortF (bs : List B) : Res B := match bs with
  | [b] => (match dkOf b with
    | some kvs => if sortOk (kvs.map fun kv => keyB kv.1) = true then .ok (.own (.l ((kvs.map fun kv => keyB kv.1).mergeSort leD))) else .bad
    | none => match dtOf b with
      | some kvs => if sortOk (kvs.map fun kv => kD kv.1) = true then .ok (.own (.l ((kvs.map fun kv => kD kv.1).mergeSort leD))) else .bad
      | none => match seqL b with
        | some ds => if sortOk ds = true then .ok (.own (.l (ds.mergeSort leD))) else .bad
        | none => .bad)
  | _ => .bad
def rSortAll (K : PySem.W.Frag) : List V → Hp → VK → Prop := fun xs H Q => rSortDk K xs H Q ∨ rSortDt K xs H Q ∨ rSortF K xs H Q
theorem c_sort (hc : X.calm = true) (hu : X.A.units + 200 < cLine) : CallR X (.builtin "sorted") (rSortAll X.K) := CallR.or (cr_sortDk hc hu) (CallR.or (cr_sortDt hc hu) (cr_sortF (by omega)))
theorem keyB_rp {F : Hp} : ∀ (k : Key), Rp g.K g.fa F (kV k) (keyB k)
  | .inl i => .int i
  | .inr x => .str x
theorem keysB_rp {F : Hp} : ∀ (ks : List Key), RpAll g.K g.fa F (ks.map kV) (ks.map keyB)
  | [] => .nil
  | k :: ks => .cons (keyB_rp k) (keysB_rp ks)
theorem lay_of {ds : List D} (h : sortOk ds = true) : PyData.canLayAll0 (toPys ds) = true := by
  obtain ⟨h1, _, _⟩ := sortOk_iff h
  have go : ∀ ds : List D, (∀ d ∈ ds, SeqAt.shaped (toPy d) = true) → PyData.canLayAll0 (toPys ds) = true := by
    intro ds
    induction ds with
    | nil => intro _; simp [toPys, PyData.canLayAll0]
    | cons d ds ih =>
      intro h
      rw [toPys, PyData.canLayAll0, SeqAt.canLay_of_shaped (h d List.mem_cons_self), ih fun e he => h e (List.mem_cons_of_mem _ he)]
      rfl
  exact go ds h1
theorem lock_keys {F H : Hp} (s : Same F H) : ∀ {kvs : List (List Key × V)} {bs : List Addr}, IsKeys H kvs bs → ∀ {F1 : Hp}, Grow F H F1 H → ∃ F', Grow F H F' H ∧ Same F1 F' ∧ RpAll g.K g.fa F' (bs.map V.ref) (kvs.map fun kv => kD kv.1)
  | _, _, .nil, F1, g1 => ⟨F1, g1, Same.refl _, .nil⟩
  | kv :: kvs, b :: bs, .cons h r, F1, g1 => by
    have g2 : Grow F H (upd F1 b (.tup (kv.1.map kV))) H := g1.tup h
    obtain ⟨F', g3, s3, r3⟩ := lock_keys s r g2
    refine ⟨F', g3, fun c o e => s3 _ _ ?_, .cons (.tup (s3 _ _ upd_same) (keysB_rp _)) r3⟩
    by_cases hb : c = b
    · subst hb
      have := g1.sub _ _ e
      rw [h] at this
      rw [upd_same]
      exact this
    · rw [upd_ne hb]
      exact e
theorem g_sort {K : PySem.W.Frag} (hK : g.K = K) : CallG g (rSortAll K) sortF := by
  subst hK
  intro σ F H vs bs Q s r p
  unfold sortF at p
  split at p
  · obtain ⟨v, rfl, rv⟩ := paired1 r
    split at p
    · rename_i kvs hk
      split at p
      · rename_i ho
        obtain ⟨a, xs, rfl, h1, h2, h3⟩ := dkOf_ok s rv hk
        have ek : xs.map (fun kv => kV kv.1) = (kvs.map (·.1)).map kV := by rw [← h2, List.map_map]; rfl
        have eb : kvs.map (fun kv => keyB kv.1) = (kvs.map (·.1)).map keyB := by rw [List.map_map]; rfl
        have rr : RpAll g.K g.fa F (xs.map fun kv => kV kv.1) (kvs.map fun kv => keyB kv.1) := by
          rw [ek, eb]
          exact keysB_rp _
        refine .inl ⟨a, xs, _, rfl, .inl h1, RpAll.dp s.fh rr (lay_of ho), by have e := congrArg List.length h2; simpa using e, ho, p.newL s (sortZ_rp rr)⟩
      · exact p.elim
    · split at p
      · rename_i kvs hk
        split at p
        · rename_i ho
          obtain ⟨a, xs, rfl, h1, h2, h3⟩ := dtOf_ok s rv hk
          have ek : xs.map (fun kv => kD kv.1) = kvs.map fun kv => kD kv.1 := by
            have e := congrArg (List.map kD) h2
            rw [List.map_map, List.map_map] at e
            exact e
          refine .inr (.inl ⟨a, xs, rfl, .inl h1, by rw [ek]; exact ho, fun q bs hq hb => ?_⟩)
          obtain ⟨F', g1, _, r1⟩ := lock_keys (g := g) s.fh hb (Grow.refl s.fh)
          have p' := p.later g1
          rw [← ek] at p'
          exact p'.newL (s.grow g1) (sortZ_rp r1) q hq
        · exact p.elim
      · split at p
        · rename_i ds hs
          split at p
          · rename_i ho
            obtain ⟨a, xs, rfl, h1, h2⟩ := seqL_ok s rv hs
            exact .inr (.inr ⟨a, xs, ds, rfl, SqL.of h1, RpAll.dp s.fh h2 (lay_of ho), h2.len, ho, p.newL s (sortZ_rp h2)⟩)
          · exact p.elim
        · exact p.elim
  · exact p.elim
end
end Fn
namespace Fn
open PySem PySem.Spec PyProof.Rows L2
section
variable {X : Cx} {g : G} {a b c : Expr} {pos : Pos} {fa fb fc : Env → Res B}
def tstB (b : B) : Res Bool := match b with
  | .dat (.bl k) => .ok k
  | _ => .bad
theorem tst_run {f : Env → Res B} {σ : L2.St} {H : Hp} {Q : Bool → Hp → Prop} (h : tFT g (fun ρ => (f ρ).bind tstB) σ H Q) : tF g f σ H fun x H' => ∃ k, x = .bl k ∧ Q k H' := by
  obtain ⟨F, ρ, s, p⟩ := h
  refine ⟨F, ρ, s, ?_⟩
  dsimp only at p
  cases e : f ρ with
  | ok b =>
    rw [e, Res.ok_bind] at p
    intro v F' H' g1 r1
    unfold tstB at p
    split at p
    · cases r1
      exact ⟨_, rfl, p F' H' g1⟩
    · exact p.elim
  | exc c =>
    rw [e, Res.exc_bind] at p
    exact p
  | bad =>
    rw [e] at p
    exact p
theorem ft_cmp {op : CmpOp} {r : R2} {f : B → B → Res B} (ho : OpR X (compareOp op) r) (hg : OpG g r f) (ha : PE X a (tF g fa)) (hb : PE X b (tF g fb)) (hm : behindInMarks op b = false) : PT X (.Compare a [op] [b] pos) (tFT g fun ρ => (bin2 f fa fb ρ).bind tstB) :=
  PT.imp (pt_cmpR ho ha hb hm) fun _ _ _ h => run2 hg (tst_run h)
def chn (f f' : B → B → Res B) (fa fb fc : Env → Res B) : Env → Res B := fun ρ => (fa ρ).bind fun x => (fb ρ).bind fun y => (f (rd x) (rd y)).bind fun z => match z with
  | .dat (.bl true) => (fc ρ).bind fun w => f' (rd y) (rd w)
  | .dat (.bl false) => .ok (.dat (.bl false))
  | _ => .bad
theorem chn_run {r r' : R2} {f f' : B → B → Res B} (hg : OpG g r f) (hg' : OpG g r' f') {σ : L2.St} {H : Hp} {Q : VK} (h : tF g (chn f f' fa fb fc) σ H Q) : tChain r r' (tF g fa) (tF g fb) (tF g fc) σ H Q := by
  obtain ⟨F, ρ, s, p⟩ := h
  unfold chn at p
  refine run1 s (fun bx v F1 H1 e1 g1 r1 => ?_) (fun c e => ?_) (fun e => ?_)
  · rw [e1, Res.ok_bind] at p
    have s1 := s.grow g1
    refine run1 s1 (fun by_ w F2 H2 e2 g2 r2 => ?_) (fun c e => ?_) (fun e => ?_)
    · rw [e2, Res.ok_bind] at p
      have s2 := s1.grow g2
      refine hg σ F2 H2 v w _ _ _ s2.sm (r1.mono g2) r2 ?_
      have p2 := p.later (g1.trans g2)
      cases e3 : f (rd bx) (rd by_) with
      | ok z =>
        rw [e3, Res.ok_bind] at p2
        intro zv F3 H3 g3 r3
        split at p2
        · cases r3
          refine ⟨true, rfl, ?_⟩
          rw [if_pos rfl]
          have s3 := s2.grow g3
          refine run1 s3 (fun bw u F4 H4 e4 g4 r4 => ?_) (fun c e => ?_) (fun e => ?_)
          · rw [e4, Res.ok_bind] at p2
            exact hg' _ F4 H4 w u _ _ Q (s3.sm.grow g4) ((r2.mono g3).mono g4) r4 (p2.later (g3.trans g4))
          · rw [e, Res.exc_bind] at p2
            exact fun F' H' gr => p2 F' H' (g3.trans gr)
          · rw [e] at p2
            exact p2
        · cases r3
          refine ⟨false, rfl, ?_⟩
          rw [if_neg Bool.false_ne_true]
          exact (p2.later g3).bl (s2.sm.grow g3)
        · exact p2.elim
      | exc c =>
        rw [e3, Res.exc_bind] at p2
        exact p2
      | bad =>
        rw [e3] at p2
        exact p2
    · rw [e, Res.exc_bind] at p
      exact fun F' H' gr => p F' H' (g1.trans gr)
    · rw [e] at p
      exact p
  · rw [e] at p
    exact p
  · rw [e] at p
    exact p
theorem mark2 {op op' : CmpOp} {b c : Expr} (hm : nset c = true) : lastMarks [op, op'] [b, c] = false := by
  show behindInMarks op' c = false
  exact nset_mark hm
theorem fe_chain {op op' : CmpOp} {r r' : R2} {f f' : B → B → Res B} (ho : OpR X (compareOp op) r) (hg : OpG g r f) (ho' : OpR X (compareOp op') r') (hg' : OpG g r' f') (ha : PE X a (tF g fa)) (hb : PE X b (tF g fb)) (hc : PE X c (tF g fc)) (hm : nset c = true) :
    PE X (.Compare a [op, op'] [b, c] pos) (tF g (chn f f' fa fb fc)) := PE.imp (pe_chain ho ho' ha hb hc (mark2 hm)) fun _ _ _ h => chn_run hg hg' h
theorem ft_chain {op op' : CmpOp} {r r' : R2} {f f' : B → B → Res B} (ho : OpR X (compareOp op) r) (hg : OpG g r f) (ho' : OpR X (compareOp op') r') (hg' : OpG g r' f') (ha : PE X a (tF g fa)) (hb : PE X b (tF g fb)) (hc : PE X c (tF g fc)) (hm : nset c = true) :
    PT X (.Compare a [op, op'] [b, c] pos) (tFT g fun ρ => (chn f f' fa fb fc ρ).bind tstB) := PT.imp (pt_chain ho ho' ha hb hc (mark2 hm)) fun _ _ _ h => chn_run hg hg' (tst_run h)
theorem runT {t : Env → Res Bool} {σ : L2.St} {F H : Hp} {ρ : Env} {Q : Bool → Hp → Prop} (s : St g F H σ ρ) (hok : ∀ k F1 H1, t ρ = .ok k → Grow F H F1 H1 → Q k H1) (hexc : ∀ c, t ρ = .exc c → ∀ F' H', Grow F H F' H' → g.E c σ H') (hbad : t ρ ≠ .bad) : tFT g t σ H Q := by
  refine ⟨F, ρ, s, ?_⟩
  cases e : t ρ with
  | ok k => exact fun F1 H1 g1 => hok k F1 H1 e g1
  | exc c => exact hexc c e
  | bad => exact hbad e
def notT (t : Env → Res Bool) : Env → Res Bool := fun ρ => (t ρ).bind fun k => .ok !k
def andT (t u : Env → Res Bool) : Env → Res Bool := fun ρ => (t ρ).bind fun k => if k = true then u ρ else .ok false
def orT (t u : Env → Res Bool) : Env → Res Bool := fun ρ => (t ρ).bind fun k => if k = true then .ok true else u ρ
theorem ft_not {t : Env → Res Bool} (ha : PT X a (tFT g t)) : PT X (.UnaryOp .Not a pos) (tFT g (notT t)) := by
  refine PT.imp (pt_not ha) fun σ H Q ⟨F, ρ, s, p⟩ => ?_
  unfold notT at p
  refine runT s (fun k F1 H1 e g1 => ?_) (fun c e => ?_) (fun e => ?_)
  · rw [e, Res.ok_bind] at p
    exact p F1 H1 g1
  · rw [e] at p
    exact p
  · rw [e] at p
    exact p
theorem ft_and {t u : Env → Res Bool} {rest : List Expr} (ha : PT X a (tFT g t)) (hb : PW X (.BoolOp .And (b :: rest) pos) (tFT g u)) : PW X (.BoolOp .And (a :: b :: rest) pos) (tFT g (andT t u)) := by
  have h := pw_and ha hb
  refine ⟨fun wh pins s σ H Q I hw => h.run wh pins s σ H Q I ?_⟩
  obtain ⟨F, ρ, st, p⟩ := hw
  unfold andT at p
  refine runT st (fun k F1 H1 e g1 => ?_) (fun c e => ?_) (fun e => ?_)
  · rw [e, Res.ok_bind] at p
    cases k with
    | true =>
      rw [if_pos rfl] at p ⊢
      exact ⟨F1, ρ, st.grow g1, p.later g1⟩
    | false =>
      rw [if_neg Bool.false_ne_true] at p ⊢
      exact p F1 H1 g1
  · rw [e] at p
    exact p
  · rw [e] at p
    exact p
theorem ft_or {t u : Env → Res Bool} {rest : List Expr} (ha : PT X a (tFT g t)) (hb : PW X (.BoolOp .Or (b :: rest) pos) (tFT g u)) : PW X (.BoolOp .Or (a :: b :: rest) pos) (tFT g (orT t u)) := by
  have h := pw_or ha hb
  refine ⟨fun wh pins s σ H Q I hw => h.run wh pins s σ H Q I ?_⟩
  obtain ⟨F, ρ, st, p⟩ := hw
  unfold orT at p
  refine runT st (fun k F1 H1 e g1 => ?_) (fun c e => ?_) (fun e => ?_)
  · rw [e, Res.ok_bind] at p
    cases k with
    | true =>
      rw [if_pos rfl] at p ⊢
      exact p F1 H1 g1
    | false =>
      rw [if_neg Bool.false_ne_true] at p ⊢
      exact ⟨F1, ρ, st.grow g1, p.later g1⟩
  · rw [e] at p
    exact p
  · rw [e] at p
    exact p
def iteV (t : Env → Res Bool) (fa fb : Env → Res B) : Env → Res B := fun ρ => (t ρ).bind fun k => if k = true then fa ρ else fb ρ
inductive Ty where
  | int | bool | str | tuple | list | dict
  deriving DecidableEq
def Ty.nm : Ty → String
  | .int => "int"
  | .bool => "bool"
  | .str => "str"
  | .tuple => "tuple"
  | .list => "list"
  | .dict => "dict"
def tyD : D → Option Ty
  | .non => none
  | .bl _ => some .bool
  | .int _ => some .int
  | .str _ => some .str
  | .tup _ => some .tuple
  | .ctup _ => some .tuple
  | .lst _ => some .list
  | .dk _ => some .dict
  | .dt _ => some .dict
  | .lk _ => none
  | .lt _ => none
  | .fn _ => none
def isTy (t : Ty) (d : D) : Bool := match tyD d with
  | some u => decide (u = t) || (decide (u = .bool) && decide (t = .int))
  | none => false
def isFn : D → Bool
  | .fn _ => true
  | .lk _ => true
  | .lt _ => true
  | _ => false
def isiB (t : Ty) (b : B) : Res B := if isFn (datOf b) = true then .bad else .ok (.dat (.bl (isTy t (datOf b))))
def tyN (o : Option Ty) : String := match o with
  | none => "NoneType"
  | some t => t.nm
theorem kit_all : ∀ (u : Option Ty) (t : Ty), kitB (tyN u) t.nm = some (match u with | some u => decide (u = t) || (decide (u = .bool) && decide (t = .int)) | none => false) := by
  intro u t
  cases u with
  | none => cases t <;> decide +kernel
  | some u => cases u <;> cases t <;> decide +kernel
theorem m_ty {K : PySem.W.Frag} {fa : Nat → Option Addr} {F H : Hp} {p : Addr} {o : HO} {m : M} (h : H p = some o) (r : RpM K fa F o m) : TyX K H (.ref p) (.type (tyN (tyD (frzM m)))) := by
  cases r with
  | l r => exact .base (.lst h)
  | k _ _ => exact .base (.dK h)
  | t _ _ => exact .base (.dT h)
theorem sqL_ty {K : PySem.W.Frag} {H : Hp} {p : Addr} {xs : List V} (h : SqL K H p xs) : TyX K H (.ref p) (.type "list") := by
  rcases h with (h | ⟨o, h⟩) | ⟨o, its, n, hk, hc, _⟩
  · exact .base (.lst h)
  · exact .base (.frz h)
  · exact .kList hk hc
theorem rr_ty {F H : Hp} {v : V} {b : B} (s : Sm g F H) (r : RR g F H v b) (hf : isFn (datOf b) = false) : TyX g.K H v (.type (tyN (tyD (datOf b)))) := by
  cases b with
  | dat d =>
    cases r with
    | non => exact .base .non
    | bl b => exact .base (.bl b)
    | int i => exact .base (.int i)
    | str x => exact .base (.str x)
    | tup h _ => exact .base (.tup (s.fh _ _ h))
    | ctup h _ =>
      rcases h with (h | ⟨o, h⟩) | ⟨o, its, n, hk, hc, _⟩
      · cases h
      · cases h
      · exact .kTuple hk hc
    | lst h _ => exact .base (.lst (s.fh _ _ h))
    | dk h _ _ => exact .base (.dK (s.fh _ _ h))
    | dt h _ _ => exact .base (.dT (s.fh _ _ h))
    | fn _ => cases hf
    | lk _ _ _ => cases hf
    | lt _ _ _ => cases hf
  | own m => exact r.elim
  | vw m =>
    obtain ⟨p, o, rfl, h, q⟩ := r
    exact m_ty h q
  | bor m =>
    obtain ⟨p, o, rfl, h, q⟩ := r
    exact m_ty (s.gh _ _ h) q
  | scr ns =>
    obtain ⟨p, rfl, h⟩ := r
    exact sqL_ty (s.gh.seq h)
  | err c => cases hf
  | nst sh ls => exact r.elim
theorem fe_isi {t : Ty} {x : Str} {p p2 : Pos} (hK : g.K = X.K) (hg : Gl X "isinstance") (hm : X.mg "isinstance" = none) (hx : x = Str.ofString t.nm) (hg2 : Gl X x) (hm2 : X.mg x = none) (hb : bootBuiltins x = some (.type t.nm)) (hn : nst a = true) (ha : PE X a (tF g fa)) :
    PE X (.Call (.Name "isinstance" p) [a, .Name x p2] [] pos) (tF g (one1 (isiB t) fa)) := by
  have h2 : PA X [a, .Name x p2] (tCons (tF g fa) (tCons (tC (.ty t.nm)) tNil)) := pa_cons ha (pa_cons (pe_bltn (v := .ty t.nm) hg2 hm2 hb rfl (by rw [hx]; cases t <;> decide) (by rw [hx]; cases t <;> decide)) pa_nil) (star_cons hn)
  refine PE.imp (pe_callB call_isi hg hm PyProof.Rows.boot_isinstance h2 (by decide) (by decide) (star_cons hn) (by rfl)) fun σ H Q ⟨F, ρ, s, q⟩ => ?_
  unfold one1 at q
  show tF g fa σ H _
  refine run1 s (fun bx v F1 H1 e1 g1 r1 => ?_) (fun c e => ?_) (fun e => ?_)
  · rw [e1, Res.ok_bind] at q
    unfold isiB at q
    by_cases hf : isFn (datOf (rd bx)) = true
    · rw [if_pos hf] at q
      exact q.elim
    · rw [if_neg hf] at q
      have s1 := (s.grow g1).sm
      refine ⟨v, _, _, _, _, rfl, ClsV.ty _, ?_, kit_ty (kit_all (tyD (datOf (rd bx))) t), ?_⟩
      · rw [← hK]
        exact rr_ty s1 r1 (by simpa using hf)
      · exact (q.later g1).bl s1
  · rw [e] at q
    exact q
  · rw [e] at q
    exact q
def PostO (g : G) (σ : L2.St) (F H : Hp) (r : Res (Option Int)) (Q : Option Int → Hp → Prop) : Prop := match r with
  | .ok b => ∀ F' H', Grow F H F' H' → Q b H'
  | .exc c => ∀ F' H', Grow F H F' H' → g.E c σ H'
  | .bad => False
def tFO (g : G) (f : Env → Res (Option Int)) : TO := fun σ H Q => ∃ F ρ, St g F H σ ρ ∧ PostO g σ F H (f ρ) Q
theorem PO.imp {e : Option Expr} {t t' : TO} (h : PO X e t) (i : ∀ σ H Q, t' σ H Q → t σ H Q) : PO X e t' := ⟨fun pins s σ H Q I w => h.run pins s σ H Q I (i σ H Q w)⟩
def partB (b : B) : Res (Option Int) := match b with
  | .dat (.int i) => .ok (some i)
  | _ => .bad
theorem fo_none : PO X none (tFO g fun _ => .ok none) := PO.imp po_none fun _ _ _ ⟨F, _, s, p⟩ => p F _ (Grow.refl s.sub)
theorem fo_some (ha : PE X a (tF g fa)) : PO X (some a) (tFO g fun ρ => (fa ρ).bind fun x => partB x) := by
  refine PO.imp (po_some ha) fun σ H Q ⟨F, ρ, s, p⟩ => ?_
  refine ⟨F, ρ, s, ?_⟩
  dsimp only at p
  cases e : fa ρ with
  | ok b =>
    rw [e, Res.ok_bind] at p
    intro v F' H' g1 r1
    unfold partB at p
    split at p
    · cases r1
      exact ⟨_, rfl, p F' H' g1⟩
    · exact p.elim
  | exc c =>
    rw [e] at p
    exact p
  | bad =>
    rw [e] at p
    exact p
def cutL {α : Type} (xs : List α) (lo hi : Option Int) : List α := (xs.drop (HT.sIx xs.length 0 lo)).take (HT.sIx xs.length xs.length hi - HT.sIx xs.length 0 lo)
def sliceB (b : B) (lo hi : Option Int) : Res B := match b with
  | .dat (.str x) => if x.length ≤ sizeLine then .ok (.dat (.str (cutS x lo hi))) else .bad
  | .dat (.tup xs) => .ok (.dat (.tup (cutL xs lo hi)))
  | .dat (.ctup xs) => if HT.sIx xs.length 0 lo = 0 ∧ HT.sIx xs.length xs.length hi = xs.length then .ok (.dat (.ctup xs)) else .ok (.dat (.tup (cutL xs lo hi)))
  | b => match seqI b with
    | some ds => .ok (.own (.l (cutL ds lo hi)))
    | none => .bad
theorem cut_rp {K : PySem.W.Frag} {fa : Nat → Option Addr} {F : Hp} {xs : List V} {ds : List D} (r : RpAll K fa F xs ds) (lo hi : Option Int) : RpAll K fa F (cutV xs lo hi) (cutL ds lo hi) := by
  unfold cutV cutL
  rw [r.len]
  exact (r.drop _).take _
def rSlF (K : PySem.W.Frag) : V → Option Int → Option Int → Hp → VK → Prop := fun x lo hi H Q => rSlS x lo hi H Q ∨ rSlA K x lo hi H Q ∨ rSlL K x lo hi H Q
theorem sl_F : SlR X (rSlF X.K) := SlR.or sl_str (SlR.or sl_tupA sl_list)
theorem cut_whole {α : Type} {xs : List α} {lo hi : Option Int} (h : HT.sIx xs.length 0 lo = 0 ∧ HT.sIx xs.length xs.length hi = xs.length) : cutL xs lo hi = xs := by
  unfold cutL
  rw [h.1, h.2, List.drop_zero, Nat.sub_zero, List.take_length]
theorem g_slice {F H : Hp} {v : V} {b : B} {lo hi : Option Int} {Q : VK} (s : Sm g F H) (r : RR g F H v b) (p : Post g σ F H (sliceB b lo hi) Q) : rSlF g.K v lo hi H Q := by
  unfold sliceB at p
  split at p
  · split at p
    · cases r
      exact .inl ⟨_, rfl, by assumption, p.str s⟩
    · exact p.elim
  · cases r with
    | tup h1 h2 =>
      refine .inr (.inl ⟨_, _, rfl, SqT.of (s.fh _ _ h1), fun hw => ?_, fun _ => p.newT s (cut_rp h2 lo hi)⟩)
      rw [h2.len] at hw
      rw [cut_whole hw] at p
      exact p.dat s (.tup h1 h2)
  · cases r with
    | ctup h1 h2 =>
      refine .inr (.inl ⟨_, _, rfl, sqT_none h1, fun hw => ?_, fun hw => ?_⟩)
      · rw [h2.len] at hw
        rw [if_pos hw] at p
        exact p.dat s (.ctup h1 h2)
      · rw [h2.len] at hw
        rw [if_neg hw] at p
        exact p.newT s (cut_rp h2 lo hi)
  · rename_i n1 n2 n3
    split at p
    · rename_i ds hs
      obtain ⟨a, xs, rfl, h1, h2⟩ := seqI_list s r hs n2 n3
      exact .inr (.inr ⟨a, xs, rfl, h1, p.newL s (cut_rp h2 lo hi)⟩)
    · exact p.elim
def slcV (fa : Env → Res B) (fl fh : Env → Res (Option Int)) : Env → Res B := fun ρ => (fa ρ).bind fun x => (fl ρ).bind fun l => (fh ρ).bind fun h => sliceB (rd x) l h
theorem fe_slice {lo hi : Option Expr} {fl fh : Env → Res (Option Int)} {p2 : Pos} (hK : g.K = X.K) (ha : PE X a (tF g fa)) (hl : PO X lo (tFO g fl)) (hh : PO X hi (tFO g fh)) : PE X (.Subscript a (.Slice lo hi none p2) pos) (tF g (slcV fa fl fh)) := by
  refine PE.imp (pe_slice sl_F ha hl hh) fun σ H Q ⟨F, ρ, s, p⟩ => ?_
  unfold slcV at p
  show tF g fa σ H _
  refine run1 s (fun bx v F1 H1 e1 g1 r1 => ?_) (fun c e => ?_) (fun e => ?_)
  · rw [e1, Res.ok_bind] at p
    have s1 := s.grow g1
    refine ⟨F1, ρ, s1, ?_⟩
    cases e2 : fl ρ with
    | ok l =>
      rw [e2, Res.ok_bind] at p
      intro F2 H2 g2
      refine ⟨F2, ρ, s1.grow g2, ?_⟩
      cases e3 : fh ρ with
      | ok h =>
        rw [e3, Res.ok_bind] at p
        intro F3 H3 g3
        rw [← hK]
        exact g_slice (((s1.grow g2).grow g3).sm) ((r1.mono g2).mono g3) (p.later ((g1.trans g2).trans g3))
      | exc c =>
        rw [e3, Res.exc_bind] at p
        exact fun F' H' gr => p F' H' ((g1.trans g2).trans gr)
      | bad =>
        rw [e3] at p
        exact p
    | exc c =>
      rw [e2, Res.exc_bind] at p
      exact fun F' H' gr => p F' H' (g1.trans gr)
    | bad =>
      rw [e2] at p
      exact p
  · rw [e] at p
    exact p
  · rw [e] at p
    exact p
structure En where
  name : Str
  n : Nat
  F : List B → Res B
def toArg : B → B
  | .vw m => .bor m
  | b => b
def gOf (K : PySem.W.Frag) (fa : Nat → Option Addr) (cls : Nat → Value) (F H : Hp) (E : XK) (p : Option (Addr × Obj)) : G := ⟨K, fa, F, H, fun c _ H' => E (cls c) none H', p⟩
def clsOf (fa : Nat → Option Addr) (c : Nat) : Value := match fa (1000 + c) with
  | some C => .ref C
  | none => .none
def spP (K : PySem.W.Frag) (fa : Nat → Option Addr) (cls : Nat → Value) (n : Nat) (Fk : List B → Res B) (p : Option (Addr × Obj)) : Sp := fun vs H Q E =>
  vs.length = n ∧ ∃ F bs, Same F H ∧ Paired (RR (gOf K fa cls F H E p) F H) vs bs ∧ Post (gOf K fa cls F H E p) [] F H (Fk bs) Q
abbrev spF (K : PySem.W.Frag) (fa : Nat → Option Addr) (cls : Nat → Value) (n : Nat) (Fk : List B → Res B) : Sp := spP K fa cls n Fk none
structure TabOk (X : Cx) (fa : Nat → Option Addr) (cls : Nat → Value) (lv : Nat) (tab : List En) : Prop where
  at_ : ∀ (k : Nat) (en : En), tab[k]? = some en → ∃ f fd ps, X.mg en.name = some (.ref f) ∧ fa k = some f ∧ PySem.W.keepIn X.K (.ref f) = true ∧ Binds X.K fd ps [] ∧ FnOk X.prog X.w X.K X.mg X.base (L2.CX X.prog X.w) lv f fd ps (spF X.K fa cls en.n en.F)
def Pz (X : Cx) (g : G) (cls : Nat → Value) : Prop := ∃ E' : L2.St → XK, (∀ σ, PassesAt (L2.CX X.prog X.w) X σ (E' σ)) ∧ ∀ c σ H', g.E c σ H' → E' σ (cls c) none H'
theorem arg_ok {cls : Nat → Value} {F H : Hp} {E : XK} (s : Sm g F H) : ∀ {vs : List V} {bs : List B}, Paired (RR g F H) vs bs → Paired (RR (gOf g.K g.fa cls F H E g.h) F H) vs (bs.map toArg)
  | _, _, .nil => .nil
  | v :: vs, b :: bs, .cons r rs => by
    refine .cons ?_ (arg_ok s rs)
    cases b with
    | dat d => exact r
    | own m => exact r.elim
    | vw m => exact r
    | bor m =>
      obtain ⟨p, o, e, h, q⟩ := r
      exact ⟨p, o, e, s.gh _ _ h, q⟩
    | scr ns =>
      obtain ⟨p, e, h⟩ := r
      exact ⟨p, e, s.gh.seq h⟩
    | err k => exact r
    | nst sh ls => exact r
theorem back_post {σ σ' : L2.St} {cls : Nat → Value} {F H : Hp} {E : XK} {r : Res B} {Q : VK} (hE : ∀ c H', g.E c σ H' → E (cls c) none H') (hb : ∀ b, r = .ok b → (∀ m, b ≠ .bor m) ∧ ∀ ns, b ≠ .scr ns) (h : Post g σ F H r Q) : Post (gOf g.K g.fa cls F H E g.h) σ' F H r Q := by
  cases r with
  | ok b =>
    intro v F' H' g1 r1
    refine h v F' H' g1 ?_
    cases b with
    | dat d => exact r1
    | own m => exact r1
    | vw m => exact r1
    | bor m => exact absurd rfl ((hb _ rfl).1 m)
    | scr ns => exact absurd rfl ((hb _ rfl).2 ns)
    | err k => exact r1
    | nst sh ls => exact r1
  | exc c => exact fun F' H' g1 => hE c H' (h F' H' g1)
  | bad => exact h
def retB (b : B) : Res B := match b with
  | .bor _ => .bad
  | .scr _ => .bad
  | .vw _ => .bad
  | .nst _ _ => .bad
  | b => .ok b
def callV (en : En) (bs : List B) : Res B := (en.F (bs.map toArg)).bind retB
theorem call_run {σ : L2.St} {X : Cx} {cls : Nat → Value} {en : En} {E : XK} (hK : g.K = X.K) (hE : ∀ c H', g.E c σ H' → E (cls c) none H') (F H : Hp) (vs : List V) (bs : List B) (Q : VK) (hn : bs.length = en.n) (s : Sm g F H) (r : Paired (RR g F H) vs bs) (p : Post g σ F H (callV en bs) Q) : spP X.K g.fa cls en.n en.F g.h vs H Q E := by
  refine ⟨by rw [Paired.length r]; exact hn, F, bs.map toArg, s.fh, by rw [← hK]; exact arg_ok s r, ?_⟩
  rw [← hK]
  unfold callV at p
  cases e : en.F (bs.map toArg) with
  | ok b =>
    rw [e, Res.ok_bind] at p
    refine back_post hE (fun b' e' => ?_) ?_
    · cases e'
      constructor
      · rintro m rfl
        exact p.elim
      · rintro ns rfl
        exact p.elim
    · cases b with
      | dat d => exact p
      | own m => exact p
      | vw m => exact p.elim
      | bor m => exact p.elim
      | scr ns => exact p.elim
      | err k => exact p
      | nst sh ls => exact p.elim
  | exc c =>
    rw [e, Res.exc_bind] at p
    exact fun F' H' g1 => hE c H' (p F' H' g1)
  | bad =>
    rw [e] at p
    exact p
def lenA (n : Nat) (bs : List B) : Res (List B) := if bs.length = n then .ok bs else .bad
theorem fe_call (hgh : g.h = none) {lv : Nat} {tab : List En} {cls : Nat → Value} {k : Nat} {en : En} {x : Str} {p : Pos} {e : Expr} {es : List Expr} {fs : Env → Res (List B)} (T : TabOk X g.fa cls lv tab) (hr : Room lv X.A) (hp : Pz X g cls) (hk : tab[k]? = some en) (hx : x = en.name) (hK : g.K = X.K) (hg : Gl X x)
    (ha : PA X (e :: es) (tFA g fs)) (hdb : (x == ("__debug__" : Str)) = false) (hst : (e :: es).all nst = true) : PE X (.Call (.Name x p) (e :: es) [] pos) (tF g fun ρ => (fs ρ).bind fun bs => (lenA en.n bs).bind (callV en)) := by
  obtain ⟨f, fd, ps, hm, _, hkp, hb, F⟩ := T.at_ k en hk
  obtain ⟨E', hpass, hE⟩ := hp
  rw [List.all_cons, Bool.and_eq_true] at hst
  subst hx
  refine PE.imp (pe_callS F hr hg hm hkp hb hpass ha hdb (star_cons hst.1) (star_none hst.2)) fun σ H Q h => ?_
  refine runA (r := fun vs H1 Q => spF X.K g.fa cls en.n en.F vs H1 Q (E' σ)) (fun F H vs bs Q s r p => ?_) h
  unfold lenA at p
  split at p
  · rename_i hn
    have := call_run hK (fun c H' => hE c σ H') F H vs bs Q hn s r p
    rw [hgh] at this
    exact this
  · exact p.elim
end
end Fn
namespace Fn
open PySem PySem.Spec PyProof.Rows L2
structure ItOk (g : G) (P : Hp → Hp → Prop) (J : It) (ds : List D) : Prop where
  go : ∀ i F H, P F H → i < ds.length → J.go i H
  stop : ∀ i F H, P F H → ds.length ≤ i → J.stop i H
  yld : ∀ i F H x H' d, P F H → ds[i]? = some d → J.yld i H x H' → ∃ F', Grow F H F' H' ∧ Rp g.K g.fa F' x d
def PP (g : G) (lk : Bool) (F1 H1 F H : Hp) : Prop := Same F1 F ∧ Same F H ∧ Same g.G0 H ∧ (lk = true → Same H1 H)
def PostI (g : G) (lk : Bool) (σ : L2.St) (F H : Hp) (r : Res (List D)) (R : It → Hp → Prop) : Prop := match r with
  | .ok ds => ∀ F1 H1 J, Grow F H F1 H1 → ItOk g (PP g lk F1 H1) J ds → R J H1
  | .exc c => ∀ F' H', Grow F H F' H' → g.E c σ H'
  | .bad => False
def tFI (g : G) (lk : Bool) (f : Env → Res (List D)) : TI := fun σ H R => ∃ F ρ, St g F H σ ρ ∧ PostI g lk σ F H (f ρ) R
theorem PI.imp {X : Cx} {tg e : Expr} {t t' : TI} (h : PI X tg e t) (i : ∀ σ H R, t' σ H R → t σ H R) : PI X tg e t' := ⟨fun pins s σ H R I w => h.run pins s σ H R I (i σ H R w)⟩
theorem PI.or {X : Cx} {tg e : Expr} {t u : TI} (h : PI X tg e t) (h' : PI X tg e u) : PI X tg e (fun σ H R => t σ H R ∨ u σ H R) :=
  ⟨fun pins s σ H R I w => w.elim (h.run pins s σ H R I) (h'.run pins s σ H R I)⟩
theorem PG.or {X : Cx} {tg : Expr} {t u : TG} (h : PG X tg t) (h' : PG X tg u) : PG X tg (fun v σ H Q => t v σ H Q ∨ u v σ H Q) :=
  ⟨fun pins s σ H v w Q I r q => q.elim (h.run pins s σ H v w Q I r) (h'.run pins s σ H v w Q I r)⟩
def itemsB (lk : Bool) (b : B) : Res (List D) := match b with
  | .dat (.str x) => .ok (x.cps.toList.map fun c => .str ⟨#[c]⟩)
  | .vw (.l ds) => if lk = true then .ok ds else .bad
  | b => match seqI b with
    | some ds => .ok ds
    | none => .bad
section
variable {X : Cx} {g : G} {a b : Expr} {pos : Pos} {fa fb : Env → Res B} {lk : Bool}
theorem list_it {F1 H1 : Hp} {p : Addr} {xs : List V} {ds : List D} (h : ∀ F H, PP g lk F1 H1 F H → SqL g.K H p xs) (r : RpAll g.K g.fa F1 xs ds) : ItOk g (PP g lk F1 H1) (Itl g.K p) ds where
  go := fun i F H q hi => ⟨xs, xs[i]'(by rw [r.len]; exact hi), h F H q, by simp⟩
  stop := fun i F H q hi => ⟨xs, h F H q, by rw [r.len]; exact hi⟩
  yld := fun i F H x H' d q hd hy => by
    obtain ⟨e, hy⟩ := hy
    subst e
    obtain ⟨v, h1, h2⟩ := r.get hd
    have e2 := hy xs (h F H' q)
    rw [h1] at e2
    cases e2
    exact ⟨F, Grow.refl q.2.1, h2.mono q.1⟩
theorem tup_it {F1 H1 : Hp} {p : Addr} {xs : List V} {ds : List D} (h : ∀ F H, PP g lk F1 H1 F H → SqT g.K H p xs) (r : RpAll g.K g.fa F1 xs ds) : ItOk g (PP g lk F1 H1) (Itt g.K p) ds where
  go := fun i F H q hi => ⟨xs, xs[i]'(by rw [r.len]; exact hi), h F H q, by simp⟩
  stop := fun i F H q hi => ⟨xs, h F H q, by rw [r.len]; exact hi⟩
  yld := fun i F H x H' d q hd hy => by
    obtain ⟨e, hy⟩ := hy
    subst e
    obtain ⟨v, h1, h2⟩ := r.get hd
    have e2 := hy xs (h F H' q)
    rw [h1] at e2
    cases e2
    exact ⟨F, Grow.refl q.2.1, h2.mono q.1⟩
theorem str_it {F1 H1 : Hp} {z : Str} : ItOk g (PP g lk F1 H1) (Its z) (z.cps.toList.map fun c => .str ⟨#[c]⟩) where
  go := fun i F H q hi => by
    rw [List.length_map, Array.length_toList] at hi
    exact hi
  stop := fun i F H q hi => by
    rw [List.length_map, Array.length_toList] at hi
    exact hi
  yld := fun i F H x H' d q hd hy => by
    obtain ⟨e, c, hc, hx⟩ := hy
    subst e hx
    rw [List.getElem?_map, Array.getElem?_toList, hc] at hd
    cases hd
    exact ⟨F, Grow.refl q.2.1, .str _⟩
theorem range_it {F1 H1 : Hp} {lo : Int} {n : Nat} : ItOk g (PP g lk F1 H1) (Itr lo n) ((List.range n).map fun (i : Nat) => D.int (lo + (i : Int))) where
  go := fun i F H q hi => by
    rw [List.length_map, List.length_range] at hi
    exact hi
  stop := fun i F H q hi => by
    rw [List.length_map, List.length_range] at hi
    exact hi
  yld := fun i F H x H' d q hd hy => by
    obtain ⟨e, hx⟩ := hy
    subst e hx
    rw [List.getElem?_map] at hd
    by_cases hi : i < n
    · rw [List.getElem?_range hi] at hd
      cases hd
      exact ⟨F, Grow.refl q.2.1, .int _⟩
    · rw [List.getElem?_eq_none (by simpa using hi)] at hd
      cases hd
theorem items_ok {F H F1 H1 : Hp} {v : V} {b : B} {ds : List D} {R : It → Hp → Prop} (s : Sm g F1 H1) (g1 : Grow F H F1 H1) (r : RR g F1 H1 v b) (h : itemsB lk b = .ok ds) (k : ∀ J, ItOk g (PP g lk F1 H1) J ds → R J H1) :
    (∃ a, v = .ref a ∧ (∃ xs, SqL g.K H1 a xs) ∧ R (Itl g.K a) H1) ∨ (∃ a, v = .ref a ∧ (∃ xs, SqT g.K H1 a xs) ∧ R (Itt g.K a) H1) ∨ ∃ z, v = .str z ∧ R (Its z) H1 := by
  have L : ∀ {p : Addr} {xs : List V}, (∀ F H, PP g lk F1 H1 F H → SqL g.K H p xs) → SqL g.K H1 p xs → RpAll g.K g.fa F1 xs ds → v = .ref p → (∃ a, v = .ref a ∧ (∃ xs, SqL g.K H1 a xs) ∧ R (Itl g.K a) H1) ∨ (∃ a, v = .ref a ∧ (∃ xs, SqT g.K H1 a xs) ∧ R (Itt g.K a) H1) ∨ ∃ z, v = .str z ∧ R (Its z) H1 :=
    fun {p xs} h1 h2 h3 e => .inl ⟨p, e, ⟨xs, h2⟩, k _ (list_it h1 h3)⟩
  have T : ∀ {p : Addr} {xs : List V}, (∀ F H, PP g lk F1 H1 F H → SqT g.K H p xs) → SqT g.K H1 p xs → RpAll g.K g.fa F1 xs ds → v = .ref p → (∃ a, v = .ref a ∧ (∃ xs, SqL g.K H1 a xs) ∧ R (Itl g.K a) H1) ∨ (∃ a, v = .ref a ∧ (∃ xs, SqT g.K H1 a xs) ∧ R (Itt g.K a) H1) ∨ ∃ z, v = .str z ∧ R (Its z) H1 :=
    fun {p xs} h1 h2 h3 e => .inr (.inl ⟨p, e, ⟨xs, h2⟩, k _ (tup_it h1 h3)⟩)
  unfold itemsB at h
  split at h
  · cases h
    cases r
    exact .inr (.inr ⟨_, rfl, k _ str_it⟩)
  · split at h
    · rename_i hl
      cases h
      obtain ⟨p, o, rfl, h1, h2⟩ := r
      cases h2 with
      | l h2 => exact L (fun F H q => SqL.of (q.2.2.2 hl _ _ h1)) (SqL.of h1) h2 rfl
    · cases h
  · rename_i n1 n2
    split at h
    · rename_i ds' hs
      cases h
      unfold seqI at hs
      split at hs
      · cases hs
        cases r with
        | tup h1 h2 => exact T (fun F H q => SqT.of (q.2.1 _ _ (q.1 _ _ h1))) (SqT.of (s.fh _ _ h1)) h2 rfl
      · cases hs
        cases r with
        | ctup h1 h2 => exact T (fun F H q => sqT_none h1) (sqT_none h1) h2 rfl
      · cases hs
        cases r with
        | lst h1 h2 => exact L (fun F H q => SqL.of (q.2.1 _ _ (q.1 _ _ h1))) (SqL.of (s.fh _ _ h1)) h2 rfl
      · rename_i xs
        exact absurd rfl (n2 xs)
      · cases hs
        obtain ⟨p, o, rfl, h1, h2⟩ := r
        cases h2 with
        | l h2 => exact L (fun F H q => SqL.of (q.2.2.1 _ _ h1)) (SqL.of (s.gh _ _ h1)) h2 rfl
      · cases hs
        obtain ⟨p, rfl, h1⟩ := r
        exact L (fun F H q => q.2.2.1.seq h1) (s.gh.seq h1) (RpAll.of_ints _) rfl
      · cases hs
    · cases h
theorem pi_any {tg : Expr} {tl : TE} (hl : PE X a tl) : PI X tg a fun σ H R => tl σ H fun x H1 => (∃ a, x = .ref a ∧ (∃ xs, SqL X.K H1 a xs) ∧ R (Itl X.K a) H1) ∨ (∃ a, x = .ref a ∧ (∃ xs, SqT X.K H1 a xs) ∧ R (Itt X.K a) H1) ∨ ∃ z, x = .str z ∧ R (Its z) H1 := by
  refine ⟨fun pins s σ H R I h => ?_⟩
  refine thn (hl.run pins s σ H _ I h) fun v s1 ⟨x, H1, I1, r1, q1⟩ => ?_
  rcases q1 with ⟨a, e, ⟨xs, hq⟩, q⟩ | ⟨a, e, ⟨xs, hq⟩, q⟩ | ⟨z, e, q⟩
  · subst e
    cases r1
    obtain ⟨its, rv, p, hz⟩ := I1.list hq
    refine wpAny_pyIter_list p.isList ?_
    refine ⟨s1.heap.objs.size, [s1.heap.objs.size], _, _, H1, rfl, I1.kept (t' := s1.toks) fun b o e => Heap.get?_push_of_some _ e, turn_list a _, ⟨_, Heap.get?_push_size _ rfl, rfl, rfl⟩, fun b hb => ?_, q⟩
    have e : b = s1.heap.objs.size := by simpa using hb
    subst e
    exact I1.fpOk (Nat.le_refl _) (I1.hok.fresh (Nat.le_refl _))
  · subst e
    cases r1
    obtain ⟨its, rv, p, hz⟩ := I1.tuple hq
    refine wpAny_pyIter_tuple (show s1.heap.IsTuple a its.toArray from p) ?_
    refine ⟨s1.heap.objs.size, [s1.heap.objs.size], _, _, H1, rfl, I1.kept (t' := s1.toks) fun b o e => Heap.get?_push_of_some _ e, turn_tuple a _, ⟨_, Heap.get?_push_size _ rfl, rfl, rfl⟩, fun b hb => ?_, q⟩
    have e : b = s1.heap.objs.size := by simpa using hb
    subst e
    exact I1.fpOk (Nat.le_refl _) (I1.hok.fresh (Nat.le_refl _))
  · subst e
    obtain ⟨t, rfl⟩ := r1
    cases ha : z.cps.all (· < 128)
    · exact wpAny_pyIter_wide ha (pi_one (tk := s1.toks) I1 _ (turn_str _ z t "str_iterator" (.inr rfl)) ⟨_, Heap.get?_push_size _ rfl, rfl, rfl⟩ q)
    · exact wpAny_pyIter_ascii ha (pi_one (tk := s1.toks) I1 _ (turn_str _ z t "str_ascii_iterator" (.inl rfl)) ⟨_, Heap.get?_push_size _ rfl, rfl, rfl⟩ q)
theorem fi_seq {tg : Expr} (hK : g.K = X.K) (ha : PE X a (tF g fa)) : PI X tg a (tFI g lk fun ρ => (fa ρ).bind fun x => itemsB lk (rd x)) := by
  refine PI.imp (pi_any ha) fun σ H R ⟨F, ρ, s, p⟩ => ?_
  dsimp only at p
  rw [← hK]
  refine run1 s (fun bx v F1 H1 e1 g1 r1 => ?_) (fun c e => ?_) (fun e => ?_)
  · rw [e1, Res.ok_bind] at p
    have s1 := s.grow g1
    cases e2 : itemsB lk (rd bx) with
    | ok ds =>
      rw [e2] at p
      exact items_ok s1.sm g1 r1 e2 fun J hJ => p F1 H1 J g1 hJ
    | exc c =>
      exfalso
      unfold itemsB at e2
      repeat (split at e2 <;> try cases e2)
    | bad =>
      rw [e2] at p
      exact p.elim
  · rw [e] at p
    exact p
  · rw [e] at p
    exact p
def rng (lo hi : Int) : List D := (List.range (hi - lo).toNat).map fun (i : Nat) => D.int (lo + (i : Int))
def rngA (bs : List B) : Res (List D) := match bs with
  | [.dat (.int j)] => if -(2 ^ 62) ≤ j ∧ j < 2 ^ 62 then .ok (rng 0 j) else .bad
  | [.dat (.int i), .dat (.int j)] => if -(2 ^ 62) ≤ i ∧ i < 2 ^ 62 ∧ -(2 ^ 62) ≤ j ∧ j < 2 ^ 62 then .ok (rng i j) else .bad
  | _ => .bad
theorem fi_range1 {tg : Expr} {p pos : Pos} {fs : Env → Res (List B)} (hg : Gl X "range") (hm : X.mg "range" = none) (hn : nst a = true) (ha : PA X [a] (tFA g fs)) (h1 : ∀ ρ bs, fs ρ = .ok bs → bs.length = 1) : PI X tg (.Call (.Name "range" p) [a] [] pos) (tFI g lk fun ρ => (fs ρ).bind rngA) := by
  refine PI.imp (pi_range1 hg hm ha (star_cons hn)) fun σ H R ⟨F, ρ, s, q⟩ => ?_
  refine ⟨F, ρ, s, ?_⟩
  dsimp only at q
  cases e : fs ρ with
  | ok bs =>
    rw [e, Res.ok_bind] at q
    intro vs F1 H1 g1 r1
    have hl := h1 ρ bs e
    match bs, hl, r1, q with
    | [b], _, r1, q =>
      obtain ⟨v, rfl, rv⟩ := paired1 r1
      unfold rngA at q
      split at q
      · rename_i j eb
        cases eb
        split at q
        · rename_i hj
          cases rv
          refine ⟨j, rfl, hj.1, hj.2, q F1 H1 _ g1 ?_⟩
          have z := range_it (g := g) (lk := lk) (F1 := F1) (H1 := H1) (lo := 0) (n := j.toNat)
          unfold rng
          rw [Int.sub_zero]
          exact z
        · exact q.elim
      · rename_i eb
        cases eb
      · exact q.elim
  | exc c =>
    rw [e, Res.exc_bind] at q
    exact q
  | bad =>
    rw [e] at q
    exact q
inductive Tg where
  | one (i : Nat)
  | many (is : List Nat)
  | pr (i : Nat) (is : List Nat)
  | rp (is : List Nat) (i : Nat)
def Tg.slots : Tg → List Nat
  | .one i => [i]
  | .many is => is
  | .pr i is => i :: is
  | .rp is i => i :: is
def putMany : List Nat → List D → Env → Env
  | i :: is, d :: ds, ρ => putMany is ds (ρ.set i (some (.dat d)))
  | _, _, ρ => ρ
def bindT (t : Tg) (d : D) (ρ : Env) : Option Env := match t with
  | .one i => some (ρ.set i (some (.dat d)))
  | .many is => match d with
    | .tup ds => if ds.length = is.length then some (putMany is ds ρ) else none
    | .ctup ds => if ds.length = is.length then some (putMany is ds ρ) else none
    | .lst ds => if ds.length = is.length then some (putMany is ds ρ) else none
    | _ => none
  | .pr i is => match d with
    | .tup [a, .tup ds] => if ds.length = is.length then some (putMany is ds (ρ.set i (some (.dat a)))) else none
    | _ => none
  | .rp is i => match d with
    | .tup [.tup ds, a] => if ds.length = is.length then some ((putMany is ds ρ).set i (some (.dat a))) else none
    | _ => none
def tFG (g : G) (t : Tg) : TG := fun v σ H Q => ∃ F ρ d ρ', St g F H σ ρ ∧ Rp g.K g.fa F v d ∧ bindT t d ρ = some ρ' ∧ ∀ σ', St g F H σ' ρ' → (∀ i, i ∉ t.slots → σ'[i]? = σ[i]?) → Q σ' H
theorem PG.imp {tg : Expr} {t t' : TG} (h : PG X tg t) (i : ∀ v σ H Q, t' v σ H Q → t v σ H Q) : PG X tg t' := ⟨fun pins s σ H v u Q I r w => h.run pins s σ H v u Q I r (i v σ H Q w)⟩
theorem fg_one {i : Nat} {x : Str} (hN : X.N.Nodup) (hi : X.N[i]? = some x) (hx : Loc X.env.scope x) (hf : X.fn x = true ∨ X.env.scope.names.lookup x = some .local) : PG X (.Name x pos) (tFG g (.one i)) :=
  PG.imp (pg_name hN hi hx hf) fun v σ H Q ⟨F, ρ, d, ρ', s, r, hb, q⟩ => by
    unfold bindT at hb
    cases hb
    exact q _ (s.put (b := .dat d) (Grow.refl s.sub) r i (by intro m z; cases z)) fun j hj => List.getElem?_set_ne (fun z => hj (by rw [z]; exact List.mem_singleton.mpr rfl))
def gPut : List Nat → TGs
  | [] => gNil
  | i :: is => gCons (gName i) (gPut is)
theorem put_run {F H : Hp} {Q : L2.St → Hp → Prop} : ∀ {is : List Nat} {ds : List D} {vs : List V} {σ : L2.St} {ρ : Env}, ds.length = is.length → RpAll g.K g.fa F vs ds → St g F H σ ρ → (∀ σ', St g F H σ' (putMany is ds ρ) → (∀ i, i ∉ is → σ'[i]? = σ[i]?) → Q σ' H) → gPut is vs σ H Q
  | [], [], _, σ, ρ, _, .nil, s, q => ⟨rfl, q σ s fun _ _ => rfl⟩
  | i :: is, d :: ds, _, σ, ρ, h, .cons r rs, s, q => by
    refine ⟨_, _, rfl, put_run (by simpa using h) rs (s.put (b := .dat d) (Grow.refl s.sub) r i (by intro m z; cases z)) fun σ' s' k => q σ' s' fun j hj => ?_⟩
    rw [List.mem_cons, not_or] at hj
    rw [k j hj.2, List.getElem?_set_ne (fun z => hj.1 z.symm)]
  | [], _ :: _, _, _, _, h, _, _, _ => by simp at h
  | _ :: _, [], _, _, _, h, _, _, _ => by simp at h
theorem fg_many {is : List Nat} {es : List Expr} {k : Nat} (hc : X.calm = true) (hK : g.K = X.K) (h : PGs X es (gPut is)) (hn : (assignEach es X.env).length = is.length) (hst : (assignEach es X.env).findIdx? (·.1) = none) : PG X (.Tuple es k pos) (tFG g (.many is)) := by
  refine PG.imp (PG.or (pg_tup hc h hn hst) (pg_lst hc h hn hst)) fun v σ H Q ⟨F, ρ, d, ρ', s, r, hb, q⟩ => ?_
  rw [← hK]
  unfold bindT at hb
  dsimp only at hb
  split at hb
  · split at hb
    · rename_i hl
      cases hb
      cases r with
      | tup h1 h2 => exact .inl ⟨_, _, rfl, SqT.of (s.sub _ _ h1), by rw [h2.len]; exact hl, put_run hl h2 s fun σ' s' k => q σ' s' k⟩
    · cases hb
  · split at hb
    · rename_i hl
      cases hb
      cases r with
      | ctup h1 h2 => exact .inl ⟨_, _, rfl, sqT_none h1, by rw [h2.len]; exact hl, put_run hl h2 s fun σ' s' k => q σ' s' k⟩
    · cases hb
  · split at hb
    · rename_i hl
      cases hb
      cases r with
      | lst h1 h2 => exact .inr ⟨_, _, rfl, SqL.of (s.sub _ _ h1), by rw [h2.len]; exact hl, put_run hl h2 s fun σ' s' k => q σ' s' k⟩
    · cases hb
  · cases hb
end
end Fn
namespace Fn
open PySem PySem.Spec PyProof.Rows L2
def wipeE (ρ : Env) : List Nat → Env
  | [] => ρ
  | v :: vs => (wipeE ρ vs).set v none
def datOnly (b : B) : Res (Option D) := match b with
  | .dat d => .ok (some d)
  | _ => .bad
def stepC (t : Tg) (c : Env → Res Bool) (fe : Env → Res B) (ρ : Env) (d : D) : Res (Option D) := match bindT t d ρ with
  | none => .bad
  | some ρ1 => match c ρ1 with
    | .ok true => (match fe ρ1 with
      | .ok b => datOnly (rd b)
      | _ => .bad)
    | .ok false => .ok none
    | _ => .bad
def mapC (f : D → Res (Option D)) : List D → Res (List D)
  | [] => .ok []
  | d :: ds => (f d).bind fun o => (mapC f ds).bind fun xs => .ok (o.toList ++ xs)
def compV (t : Tg) (it : Env → Res (List D)) (c : Env → Res Bool) (fe : Env → Res B) (vs : List Nat) : Env → Res B := fun ρ => (it ρ).bind fun ds =>
  if ds.length ≤ sizeLine then (mapC (stepC t c fe (wipeE ρ vs)) ds).bind fun out => .ok (.own (.l out)) else .bad
section
variable {X : Cx} {g : G}
theorem St.wipe {F H : Hp} {σ : L2.St} {ρ : Env} (s : St g F H σ ρ) : ∀ vs : List Nat, St g F H (L2.wipe σ vs) (wipeE ρ vs)
  | [] => s
  | v :: vs => (St.wipe s vs).drop v
def G.mute (g : G) : G := { g with E := fun _ _ _ => False }
theorem St.mute {F H : Hp} {σ : L2.St} {ρ : Env} (s : St g F H σ ρ) : St g.mute F H σ ρ := ⟨s.gr, s.len, fun i b h => let ⟨v, h1, h2⟩ := s.at_ i b h; ⟨v, h1, by cases b <;> exact h2⟩, s.apart⟩
theorem wipe_in {σ : L2.St} {i : Nat} : ∀ {vs : List Nat}, i ∈ vs → (L2.wipe σ vs)[i]? = if i < σ.length then some none else none
  | v :: vs, h => by
    unfold L2.wipe
    by_cases e : v = i
    · subst e
      by_cases hl : v < σ.length
      · rw [if_pos hl, List.getElem?_set_self (by rw [L2.wipe_length]; exact hl)]
      · rw [if_neg hl, List.getElem?_eq_none (by rw [List.length_set, L2.wipe_length]; omega)]
    · rw [List.getElem?_set_ne e]
      exact wipe_in ((List.mem_cons.mp h).resolve_left fun z => e z.symm)
theorem wipe_again {σ σ2 : L2.St} {vs : List Nat} (hl : σ2.length = σ.length) (h : ∀ i, i ∉ vs → σ2[i]? = (L2.wipe σ vs)[i]?) : L2.wipe σ2 vs = L2.wipe σ vs := by
  apply List.ext_getElem?
  intro i
  by_cases hi : i ∈ vs
  · rw [wipe_in hi, wipe_in hi, hl]
  · rw [L2.wipe_out hi, h i hi]
theorem putMany_len : ∀ (is : List Nat) (es : List D) (ρ : Env), (putMany is es ρ).length = ρ.length
  | [], _, _ => rfl
  | _ :: _, [], _ => rfl
  | a :: is, b :: es, ρ => by
    show (putMany is es (ρ.set a (some (.dat b)))).length = _
    rw [putMany_len is es, List.length_set]
theorem bindT_len {t : Tg} {d : D} {ρ ρ1 : Env} (hb : bindT t d ρ = some ρ1) : ρ1.length = ρ.length := by
  unfold bindT at hb
  split at hb
  · cases hb
    rw [List.length_set]
  · split at hb <;> first | (split at hb <;> first | (cases hb; exact putMany_len _ _ _) | cases hb) | cases hb
  · split at hb
    · split at hb
      · cases hb
        rw [putMany_len, List.length_set]
      · cases hb
    · cases hb
  · split at hb
    · split at hb
      · cases hb
        rw [List.length_set, putMany_len]
      · cases hb
    · cases hb
theorem fe_comp {t : Tg} {it : Env → Res (List D)} {c : Env → Res Bool} {fe : Env → Res B} {elt tg iter : Expr} {ifs : List Expr} {scope : Scope} {own : List (Str × Nat)} {pos : Pos} (hc : X.calm = true) (hN : X.N.Nodup) (hi : PI X tg iter (tFI g true it)) (ok : BlkOk X.N X.env.scope scope own)
    (hsl : ∀ i ∈ t.slots, i ∈ own.map (·.2))
    (hg : ∀ (s : Shared) (H : Hp) (C : Addr) (cl : List (Str × Addr)) (fp : List Addr), PG (X.blk s H scope (compEnvC scope cl C X.env) fp) tg (tFG g.mute t)) (ht : ∀ (s : Shared) (H : Hp) (C : Addr) (cl : List (Str × Addr)) (fp : List Addr), PTs (X.blk s H scope (compEnvC scope cl C X.env) fp) ifs (tFT g.mute c))
    (he : ∀ (s : Shared) (H : Hp) (C : Addr) (cl : List (Str × Addr)) (fp : List Addr), PE (X.blk s H scope (compEnvC scope cl C X.env) fp) elt (tF g.mute fe)) (hs : ∀ x, foldedSetIterable iter X.env x = pure x)
    {σ : L2.St} {H : Hp} {Q : VK} (h : tF g (compV t it c fe (own.map (·.2))) σ H Q) : tLc (tFI g true it) (tFG g.mute t) (tFT g.mute c) (tF g.mute fe) (own.map (·.2)) σ H Q := by
  obtain ⟨F, ρ, s, p⟩ := h
  unfold compV at p
  refine ⟨F, ρ, s, ?_⟩
  cases e : it ρ with
  | exc k =>
    rw [e, Res.exc_bind] at p
    exact p
  | bad =>
    rw [e] at p
    exact p
  | ok ds =>
    rw [e, Res.ok_bind] at p
    split at p
    · rename_i hz
      cases em : mapC (stepC t c fe (wipeE ρ (own.map (·.2)))) ds with
      | exc k =>
        exfalso
        have no : ∀ (ds : List D) (k : Nat), mapC (stepC t c fe (wipeE ρ (own.map (·.2)))) ds ≠ .exc k := by
          intro ds
          induction ds with
          | nil => intro k z; cases z
          | cons d ds ih =>
            intro k z
            unfold mapC at z
            cases e1 : stepC t c fe (wipeE ρ (own.map (·.2))) d with
            | ok o =>
              rw [e1, Res.ok_bind] at z
              cases e2 : mapC (stepC t c fe (wipeE ρ (own.map (·.2)))) ds with
              | ok xs => rw [e2] at z; cases z
              | exc k' => exact ih k' e2
              | bad => rw [e2] at z; cases z
            | exc k' =>
              unfold stepC at e1
              split at e1
              · cases e1
              · split at e1
                · split at e1
                  · unfold datOnly at e1
                    split at e1 <;> cases e1
                  · cases e1
                · cases e1
                · cases e1
            | bad => rw [e1] at z; cases z
        exact no ds k em
      | bad =>
        rw [em] at p
        exact p.elim
      | ok out =>
        rw [em, Res.ok_bind] at p
        intro F1 H1 J g1 hJ D hD
        have s1 : St g.mute F1 H1 (L2.wipe σ (own.map (·.2))) (wipeE ρ (own.map (·.2))) := ((s.grow g1).wipe _).mute
        have s1' := s.grow g1
        refine ⟨fun i m H => m = ds.length - i ∧ i ≤ ds.length ∧ ∃ F xs acc rest, Grow F1 H1 F H ∧ H D = some (.lst xs) ∧ F D = none ∧ RpAll g.K g.fa F xs acc ∧ acc.length ≤ i ∧ mapC (stepC t c fe (wipeE ρ (own.map (·.2)))) (ds.drop i) = .ok rest ∧ out = acc ++ rest,
          ⟨ds.length, by simp, Nat.zero_le _, F1, [], [], out, Grow.newH s1'.sub hD, upd_same, s1'.sub.free hD, .nil, Nat.le_refl _, by simpa using em, rfl⟩, ?_⟩
        rintro i m H2 ⟨rfl, hi2, F2, xs, acc, rest, g2, hx, hfx, hr, hal, hm, ho⟩
        have pp : PP g true F1 H1 F2 H2 := ⟨g2.fh, g2.sub, s1'.gr.hh.trans g2.hh, fun _ => g2.hh⟩
        by_cases hlt : i < ds.length
        · refine .inr ⟨hJ.go i F2 H2 pp hlt, fun H' => ∃ F xs acc rest, Grow F1 H1 F H' ∧ H' D = some (.lst xs) ∧ F D = none ∧ RpAll g.K g.fa F xs acc ∧ acc.length ≤ i + 1 ∧ mapC (stepC t c fe (wipeE ρ (own.map (·.2)))) (ds.drop (i + 1)) = .ok rest ∧ out = acc ++ rest,
            fun H' hn => ⟨ds.length - (i + 1), by omega, rfl, hlt, hn⟩, fun x H' hy => ?_⟩
          have hd : ds[i]? = some ds[i] := List.getElem?_eq_getElem hlt
          obtain ⟨F3, g3, r3⟩ := hJ.yld i F2 H2 x H' ds[i] pp hd hy
          have edrop : ds.drop i = ds[i] :: ds.drop (i + 1) := List.drop_eq_getElem_cons hlt
          rw [edrop] at hm
          unfold mapC at hm
          cases e1 : stepC t c fe (wipeE ρ (own.map (·.2))) ds[i] with
          | exc k => rw [e1] at hm; cases hm
          | bad => rw [e1] at hm; cases hm
          | ok o =>
            rw [e1, Res.ok_bind] at hm
            cases e2 : mapC (stepC t c fe (wipeE ρ (own.map (·.2)))) (ds.drop (i + 1)) with
            | exc k => rw [e2] at hm; cases hm
            | bad => rw [e2] at hm; cases hm
            | ok rest' =>
              rw [e2, Res.ok_bind] at hm
              have erest : rest = o.toList ++ rest' := by cases hm; rfl
              subst erest
              have g13 : Grow F1 H1 F3 H' := g2.trans g3
              have s3 := s1.grow g13
              have hx3 : H' D = some (.lst xs) := g3.hh _ _ hx
              have hf3 : F3 D = none := g3.new D _ hx (by intro _ z; cases z) hfx
              unfold stepC at e1
              split at e1
              · cases e1
              · rename_i ρ1 hb
                refine ⟨F3, wipeE ρ (own.map (·.2)), ds[i], ρ1, s3, r3, hb, fun σ2 s4 kp => ?_⟩
                refine ⟨wipe_again (by
                  have l1 := s4.len
                  have l2 := s3.len
                  have l3 : ρ1.length = (wipeE ρ (own.map (·.2))).length := by
                    exact bindT_len hb
                  rw [l1, l3, ← l2, L2.wipe_length]) fun j hj => kp j fun z => hj (hsl j z), ?_⟩
                refine ⟨F3, ρ1, s4, ?_⟩
                split at e1
                · rename_i hc1
                  rw [hc1]
                  intro F5 H5 g5
                  rw [if_pos rfl]
                  have s5 := s4.grow g5
                  split at e1
                  · rename_i b hfe
                    refine run1 s5 (fun bx v F6 H6 e6 g6 r6 => ?_) (fun c' e6 => by rw [hfe] at e6; cases e6) (by rw [hfe]; intro z; cases z)
                    rw [hfe] at e6
                    cases e6
                    unfold datOnly at e1
                    split at e1
                    · rename_i d' hd'
                      cases e1
                      rw [hd'] at r6
                      have g36 : Grow F3 H' F6 H6 := g5.trans g6
                      have hx6 : H6 D = some (.lst xs) := g36.hh _ _ hx3
                      have hf6 : F6 D = none := g36.new D _ hx3 (by intro _ z; cases z) hf3
                      refine ⟨xs, hx6, by rw [hr.len]; omega, F6, xs ++ [v], acc ++ [d'], rest', ⟨(g13.trans g36).fh, fun b u q => ?_, fun b u q => ?_, (g13.trans g36).new⟩, upd_same, hf6, (hr.mono (g3.fh.trans g36.fh)).app (.cons r6 .nil), by rw [List.length_append]; simpa using hal, rfl, by rw [ho, List.append_assoc]; rfl⟩
                      · rw [upd_ne (ne_of_none q hD)]
                        exact (g13.trans g36).hh _ _ q
                      · rw [upd_ne (ne_of_none q hf6)]
                        exact (g13.trans g36).sub _ _ q
                    · cases e1
                  · cases e1
                · rename_i hc1
                  rw [hc1]
                  intro F5 H5 g5
                  rw [if_neg Bool.false_ne_true]
                  cases e1
                  have hx5 : H5 D = some (.lst xs) := g5.hh _ _ hx3
                  have hf5 : F5 D = none := g5.new D _ hx3 (by intro _ z; cases z) hf3
                  exact ⟨F5, xs, acc, rest', g13.trans g5, hx5, hf5, hr.mono (g3.fh.trans g5.fh), by omega, rfl, ho⟩
                · cases e1
        · have e : i = ds.length := by omega
          subst e
          refine .inl ⟨hJ.stop _ F2 H2 pp (Nat.le_refl _), ?_⟩
          rw [List.drop_length] at hm
          cases hm
          rw [List.append_nil] at ho
          subst ho
          exact p _ F2 H2 (g1.trans g2) ⟨D, .lst xs, rfl, g1.hh.free hD, hx, hfx, .l hr⟩
    · exact p.elim
theorem fe_lc {t : Tg} {it : Env → Res (List D)} {c : Env → Res Bool} {fe : Env → Res B} {elt tg iter : Expr} {ifs : List Expr} {scope : Scope} {own : List (Str × Nat)} {pos : Pos} (hc : X.calm = true) (hN : X.N.Nodup) (hi : PI X tg iter (tFI g true it)) (ok : BlkOk X.N X.env.scope scope own)
    (hsl : ∀ i ∈ t.slots, i ∈ own.map (·.2))
    (hg : ∀ (s : Shared) (H : Hp) (C : Addr) (cl : List (Str × Addr)) (fp : List Addr), PG (X.blk s H scope (compEnvC scope cl C X.env) fp) tg (tFG g.mute t)) (ht : ∀ (s : Shared) (H : Hp) (C : Addr) (cl : List (Str × Addr)) (fp : List Addr), PTs (X.blk s H scope (compEnvC scope cl C X.env) fp) ifs (tFT g.mute c))
    (he : ∀ (s : Shared) (H : Hp) (C : Addr) (cl : List (Str × Addr)) (fp : List Addr), PE (X.blk s H scope (compEnvC scope cl C X.env) fp) elt (tF g.mute fe)) (hs : ∀ x, foldedSetIterable iter X.env x = pure x) : PE X (.ListComp elt [⟨tg, iter, ifs, 0⟩] scope pos) (tF g (compV t it c fe (own.map (·.2)))) :=
  PE.imp (pe_lc hc hN hi ok hg ht he hs) fun _ _ _ h => fe_comp (pos := pos) hc hN hi ok hsl hg ht he hs h
end
end Fn
namespace Fn
open PySem PySem.Spec PyProof.Rows L2
inductive Out where
  | nx (ρ : Env) | rt (b : B) | bk (ρ : Env) | ct (ρ : Env) | exc (c : Nat) (ρ : Env) | bad
def PostS (g : G) (E : Ends) (r : Out) : Prop := match r with
  | .nx ρ' => ∀ σ' F' H', St g F' H' σ' ρ' → E.nx σ' H'
  | .bk ρ' => ∀ σ' F' H', St g F' H' σ' ρ' → E.bk σ' H'
  | .ct ρ' => ∀ σ' F' H', St g F' H' σ' ρ' → E.ct σ' H'
  | .rt b => ∀ v F' H', Grow g.F0 g.G0 F' H' → RB g g.F0 g.G0 F' H' v b → E.rt v H'
  | .exc c ρ' => ∀ σ' F' H', St g F' H' σ' ρ' → g.E c σ' H'
  | .bad => False
def tFS (g : G) (f : Env → Out) : TS := fun E σ H => ∃ F ρ, St g F H σ ρ ∧ PostS g E (f ρ)
theorem PS.imp {X : Cx} {st : Stmt} {t t' : TS} (h : PS X st t) (i : ∀ E σ H, t' E σ H → t E σ H) : PS X st t' := ⟨fun pins s σ H E I w => h.run pins s σ H E I (i E σ H w)⟩
theorem PSs.imp {X : Cx} {st : List Stmt} {t t' : TS} (h : PSs X st t) (i : ∀ E σ H, t' E σ H → t E σ H) : PSs X st t' := ⟨fun pins s σ H E I w => h.run pins s σ H E I (i E σ H w)⟩
def seqS (f h : Env → Out) : Env → Out := fun ρ => match f ρ with
  | .nx ρ' => h ρ'
  | o => o
section
variable {X : Cx} {g : G} {a b c : Expr} {pos : Pos} {fa fb fc : Env → Res B} {st : Stmt} {rest : List Stmt} {f h : Env → Out}
theorem fs_nil : PSs X [] (tFS g fun ρ => .nx ρ) := PSs.imp pss_nil fun E σ H ⟨F, ρ, s, p⟩ => p σ F H s
theorem fs_cons (h1 : PS X st (tFS g f)) (h2 : PSs X rest (tFS g h)) : PSs X (st :: rest) (tFS g (seqS f h)) := by
  refine PSs.imp (pss_cons h1 h2) fun E σ H ⟨F, ρ, s, p⟩ => ⟨F, ρ, s, ?_⟩
  unfold seqS at p
  cases e : f ρ with
  | nx ρ' =>
    rw [e] at p
    exact fun σ' F' H' s' => ⟨F', ρ', s', p⟩
  | rt b => rw [e] at p; exact p
  | bk ρ' => rw [e] at p; exact p
  | ct ρ' => rw [e] at p; exact p
  | exc k ρ' => rw [e] at p; exact p
  | bad => rw [e] at p; exact p
theorem fs_one (h1 : PS X st (tFS g f)) : PSs X [st] (tFS g f) := PSs.imp (pss_one h1) fun _ _ _ h => h
def thenS (fa : Env → Res B) (k : B → Env → Out) : Env → Out := fun ρ => match fa ρ with
  | .ok b => k b ρ
  | .exc c => .exc c ρ
  | .bad => .bad
theorem then_run {k : B → Env → Out} {E : Ends} {σ : L2.St} {H : Hp} {Q : VK} (h : tFS g (thenS fa k) E σ H)
    (hk : ∀ F ρ b v F1 H1, St g F H σ ρ → Grow F H F1 H1 → RB g F H F1 H1 v b → PostS g E (k b ρ) → Q v H1) : tF g fa σ H Q := by
  obtain ⟨F, ρ, s, p⟩ := h
  refine ⟨F, ρ, s, ?_⟩
  unfold thenS at p
  cases e : fa ρ with
  | ok b =>
    rw [e] at p
    exact fun v F1 H1 g1 r1 => hk F ρ b v F1 H1 s g1 r1 p
  | exc c =>
    rw [e] at p
    exact fun F' H' g1 => p σ F' H' (s.grow g1)
  | bad =>
    rw [e] at p
    exact p
def okV : B → Bool
  | .vw _ => false
  | _ => true
theorem okV_ne {b : B} (h : okV b = true) : ∀ m, b ≠ .vw m := by
  rintro m rfl
  cases h
def setV (i : Nat) (b : B) (ρ : Env) : Out := if okV b = true then .nx (ρ.set i (some b)) else .bad
theorem fs_asg {i : Nat} {x : Str} {e : Expr} {pos' : Pos} (hN : X.N.Nodup) (hi : X.N[i]? = some x) (hx : Loc X.env.scope x) (he : PE X e (tF g fa)) (hs : swapsWith e (some (.Name x pos')) pos.line X.env = pure false) (hf : X.fn x = true ∨ X.env.scope.names.lookup x = some .local) :
    PS X (.Assign [.Name x pos'] e pos) (tFS g (thenS fa (setV i))) := by
  refine PS.imp (ps_set hN hi hx he hs hf) fun E σ H h => ?_
  refine then_run (k := setV i) (E := E) (Q := fun v H1 => E.nx (σ.set i (some v)) H1) h fun F ρ b v F1 H1 s g1 r1 p => ?_
  unfold setV at p
  split at p
  · rename_i nb
    exact p _ F1 H1 (s.put g1 r1 i (okV_ne nb))
  · exact p.elim
theorem fs_asgLc {t : Tg} {it : Env → Res (List D)} {cnd : Env → Res Bool} {fe : Env → Res B} {i : Nat} {y : Str} {py : Pos} {elt tg iter : Expr} {ifs : List Expr} {scope : Scope} {own : List (Str × Nat)} {pos spos : Pos} (hc : X.calm = true) (hN : X.N.Nodup) (hy : X.N[i]? = some y) (hyl : X.env.scope.names.lookup y = some .local)
    (hsw : swapsWith (.ListComp elt [⟨tg, iter, ifs, 0⟩] scope pos) (some (.Name y py)) spos.line X.env = pure true) (hi : PI X tg iter (tFI g true it)) (ok : BlkOk X.N X.env.scope scope own)
    (hsl : ∀ i ∈ t.slots, i ∈ own.map (·.2))
    (hg : ∀ (s : Shared) (H : Hp) (C : Addr) (cl : List (Str × Addr)) (fp : List Addr), PG (X.blk s H scope (compEnvC scope cl C X.env) fp) tg (tFG g.mute t)) (ht : ∀ (s : Shared) (H : Hp) (C : Addr) (cl : List (Str × Addr)) (fp : List Addr), PTs (X.blk s H scope (compEnvC scope cl C X.env) fp) ifs (tFT g.mute cnd))
    (he : ∀ (s : Shared) (H : Hp) (C : Addr) (cl : List (Str × Addr)) (fp : List Addr), PE (X.blk s H scope (compEnvC scope cl C X.env) fp) elt (tF g.mute fe)) (hs : ∀ x, foldedSetIterable iter X.env x = pure x) :
    PS X (.Assign [.Name y py] (.ListComp elt [⟨tg, iter, ifs, 0⟩] scope pos) spos) (tFS g (thenS (compV t it cnd fe (own.map (·.2))) (setV i))) := by
  refine PS.imp (ps_setLc hc hN hy hyl hsw hi ok hg ht he hs) fun E σ H h => ?_
  refine fe_comp (pos := pos) (Q := fun v H1 => E.nx (σ.set i (some v)) H1) hc hN hi ok hsl hg ht he hs ?_
  refine then_run (k := setV i) (E := E) (Q := fun v H1 => E.nx (σ.set i (some v)) H1) h fun F ρ b v F1 H1 s g1 r1 p => ?_
  unfold setV at p
  split at p
  · rename_i nb
    exact p _ F1 H1 (s.put g1 r1 i (okV_ne nb))
  · exact p.elim
def bindV (t : Tg) (b : B) (ρ : Env) : Out := match rd b with
  | .dat d => (match bindT t d ρ with | some ρ' => .nx ρ' | none => .bad)
  | _ => .bad
theorem fs_asgT {t : Tg} {tg e : Expr} (he : PE X e (tF g fa)) (hg : PG X tg (tFG g t)) (hs : swapsWithSole [tg] e pos.line X.env = pure false) (hw : swappedStores [tg] e X.env = pure none) (h1 : (assignEach [tg] X.env).map (·.2) = [assign tg X.env]) :
    PS X (.Assign [tg] e pos) (tFS g (thenS fa (bindV t))) := by
  refine PS.imp (ps_asg he hg hs hw h1) fun E σ H h => ?_
  refine then_run (k := bindV t) (E := E) (Q := fun v H1 => tFG g t v σ H1 E.nx) h fun F ρ b v F1 H1 s g1 r1 p => ?_
  unfold bindV at p
  obtain ⟨F2, g2, r2⟩ := r1.rd g1
  split at p
  · rename_i d hd
    split at p
    · rename_i ρ' hb
      rw [hd] at r2
      exact ⟨F2, ρ, d, ρ', s.grow g2, r2, hb, fun σ' s' _ => p σ' F2 H1 s'⟩
    · exact p.elim
  · exact p.elim
def par2 (i j : Nat) (fa fb : Env → Res B) : Env → Out := fun ρ => match fa ρ with
  | .ok x => (match fb ρ with
    | .ok y => if (okV x && okV y) = true then .nx ((ρ.set i (some x)).set j (some y)) else .bad
    | .exc c => .exc c ρ
    | .bad => .bad)
  | .exc c => .exc c ρ
  | .bad => .bad
theorem fs_par2 {i j : Nat} {x y : Str} {px py pt : Pos} {kt k2 pt2} (hc : X.calm = true) (hN : X.N.Nodup) (hi : X.N[i]? = some x) (hj : X.N[j]? = some y) (hij : i ≠ j)
    (hx : X.env.scope.names.lookup x = some .local) (hy : X.env.scope.names.lookup y = some .local) (hna : nst a = true) (hnb : nst b = true) (ha : PE X a (tF g fa)) (hb : PE X b (tF g fb))
    (hw : swappedStores [.Tuple [.Name x px, .Name y py] kt pt] (.Tuple [a, b] k2 pt2) X.env = pure (some [x, y])) (hs : swapsWithSole [.Tuple [.Name x px, .Name y py] kt pt] (.Tuple [a, b] k2 pt2) pos.line X.env = pure false) :
    PS X (.Assign [.Tuple [.Name x px, .Name y py] kt pt] (.Tuple [a, b] k2 pt2) pos) (tFS g (par2 i j fa fb)) := by
  refine PS.imp (ps_par hc hN hi hj hij hx hy (pa_cons ha (pa_cons hb pa_nil (star_cons hnb)) (star_cons hna)) hw hs) fun E σ H ⟨F, ρ, s, p⟩ => ?_
  unfold par2 at p
  show tF g fa σ H _
  refine ⟨F, ρ, s, ?_⟩
  cases e1 : fa ρ with
  | exc c => rw [e1] at p; exact fun F' H' g1 => p σ F' H' (s.grow g1)
  | bad => rw [e1] at p; exact p
  | ok x =>
    rw [e1] at p
    intro v F1 H1 g1 r1
    have s1 := s.grow g1
    refine ⟨F1, ρ, s1, ?_⟩
    dsimp only at p
    cases e2 : fb ρ with
    | exc c => rw [e2] at p; exact fun F' H' g2 => p σ F' H' (s1.grow g2)
    | bad => rw [e2] at p; exact p
    | ok y =>
      rw [e2] at p
      intro w F2 H2 g2 r2
      refine ⟨v, w, rfl, ?_⟩
      dsimp only at p
      split at p
      · rename_i ok
        rw [Bool.and_eq_true] at ok
        exact p _ F2 H2 ((s.put g1 r1 i (okV_ne ok.1)).put g2 r2 j (okV_ne ok.2))
      · exact p.elim
def ownAt (ρ : Env) (i : Nat) : Option M := match ρ[i]? with
  | some (some (.own m)) => some m
  | _ => none
theorem ownAt_ok {ρ : Env} {i : Nat} {m : M} (h : ownAt ρ i = some m) : ρ[i]? = some (some (.own m)) := by
  unfold ownAt at h
  split at h
  · cases h
    assumption
  · cases h
def appV (i : Nat) (fa : Env → Res B) : Env → Out := fun ρ => match ownAt ρ i with
  | some (.l ds) => (match fa ρ with
    | .ok b => (match rd b with
      | .dat d => if ds.length < sizeLine then .nx (ρ.set i (some (.own (.l (ds ++ [d]))))) else .bad
      | _ => .bad)
    | .exc c => .exc c ρ
    | .bad => .bad)
  | _ => .bad
theorem fs_append {i : Nat} {x : Str} {e : Expr} {p1 p2 p3 p4 : Pos} (hi : X.N[i]? = some x) (hv : Vis X.env.scope x) (hd : (x == ("__debug__" : Str)) = false) (hcd : (x == ("__classdict__" : Str)) = false) (hn : nst e = true) (hl : (p2.endLine == p3.line) = true) (he : PE X e (tF g fa)) :
    PS X (.Expr (.Call (.Attribute (.Name x p1) "append" p2) [e] [] p3) p4) (tFS g (appV i fa)) := by
  refine PS.imp (ps_expr (pe_bm PySem.F.plainAttrs_list PySem.F.slot_list_append PySem.F.type_list_append mt_append (pe_var hi hv hd hcd) (pa_cons he pa_nil (star_cons hn)) (by rfl) (by cases e <;> first | rfl | cases hn) hl (star_cons hn) (by rfl))) fun E σ H h => ?_
  show tVar i σ H fun v H1 => tyV X.K "list" v H1 ∧ tF g fa σ H1 fun w H2 => rAppend v [w] H2 fun _ H1 => E.nx σ H1
  obtain ⟨F, ρ, s, p⟩ := h
  unfold appV at p
  split at p
  · rename_i ds ho
    obtain ⟨q, o, a1, a2, a3, a4, a5⟩ := s.own_none (ownAt_ok ho)
    cases a5 with
    | l rl =>
      refine ⟨_, a1, Or.inl ⟨rfl, _, SqL.of a2⟩, ?_⟩
      refine run1 s (fun b v F1 H1 e2 g1 r1 => ?_) (fun c e => ?_) (fun e => ?_)
      · rw [e2] at p
        dsimp only at p
        split at p
        · rename_i d hd
          rw [hd] at r1
          split at p
          · rename_i hz
            refine ⟨q, _, v, rfl, rfl, g1.hh _ _ a2, by rw [rl.len]; exact hz, ?_⟩
            exact p σ F1 _ ((s.grow g1).change (ownAt_ok ho) a1 (.l ((rl.mono g1.fh).app (.cons r1 .nil))))
          · exact p.elim
        · exact p.elim
      · rw [e] at p
        exact fun F' H' g1 => p σ F' H' (s.grow g1)
      · rw [e] at p
        exact p
  · exact p.elim
theorem PS.or {t u : TS} (h : PS X st t) (h' : PS X st u) : PS X st (fun E σ H => t E σ H ∨ u E σ H) := ⟨fun pins s σ H E I w => w.elim (h.run pins s σ H E I) (h'.run pins s σ H E I)⟩
def storeM (m : M) (k : B) (d : D) : Option M := match m with
  | .k kvs => (match keyD (datOf k) with
    | some q => if kvs.length < sizeLine then some (.k (putD kvs q d)) else none
    | none => none)
  | .t kvs => (match tkey k with
    | some q => if kvs.length < sizeLine then some (.t (putD kvs q d)) else none
    | none => none)
  | .l xs => (match k with
    | .dat (.int j) => (match ixN xs.length j with
      | some n => some (.l (xs.set n d))
      | none => none)
    | _ => none)
def putS (i : Nat) (fk fv : Env → Res B) : Env → Out := fun ρ => match fv ρ with
  | .ok b => (match rd b, ownAt ρ i, fk ρ with
    | .dat d, some m, .ok k => (match storeM m (rd k) d with
      | some m' => .nx (ρ.set i (some (.own m')))
      | none => .bad)
    | .dat _, some _, .exc c => .exc c ρ
    | _, _, _ => .bad)
  | .exc c => .exc c ρ
  | .bad => .bad
def iteS (t : Env → Res Bool) (f h : Env → Out) : Env → Out := fun ρ => match t ρ with
  | .ok k => if k = true then f ρ else h ρ
  | .exc c => .exc c ρ
  | .bad => .bad
theorem fs_if {t : Env → Res Bool} {p q : List Stmt} (hc : PT X c (tFT g t)) (ha : PSs X p (tFS g f)) (hb : PSs X q (tFS g h)) : PS X (.If c p q pos) (tFS g (iteS t f h)) := by
  refine PS.imp (ps_if hc ha hb) fun E σ H ⟨F, ρ, s, w⟩ => ?_
  unfold iteS at w
  refine runT s (fun k F1 H1 e1 g1 => ?_) (fun c e => ?_) (fun e => ?_)
  · rw [e1] at w
    dsimp only at w
    split
    · rename_i hk
      rw [if_pos hk] at w
      exact ⟨F1, ρ, s.grow g1, w⟩
    · rename_i hk
      rw [if_neg hk] at w
      exact ⟨F1, ρ, s.grow g1, w⟩
  · rw [e] at w
    exact fun F' H' g1 => w σ F' H' (s.grow g1)
  · rw [e] at w
    exact w
def okRet : B → Bool
  | .dat _ => true
  | .own _ => true
  | _ => false
def retV (b : B) (_ : Env) : Out := if okRet b = true then .rt b else .bad
theorem fs_ret {e : Expr} (he : PE X e (tF g fa)) : PS X (.Return (some e) pos) (tFS g (thenS fa retV)) := by
  refine PS.imp (ps_ret he) fun E σ H h => then_run (k := retV) h fun F ρ b v F1 H1 s g1 r1 p => ?_
  unfold retV at p
  split at p
  · exact p v F1 H1 (s.gr.trans g1) (r1.later s.gr)
  · exact p.elim
def retN (i : Nat) (ρ : Env) : Out := match ρ[i]? with
  | some (some (.dat d)) => .rt (.dat d)
  | some (some (.own m)) => .rt (.own m)
  | _ => .bad
theorem fs_retN {i : Nat} {x : Str} {p1 : Pos} (hi : X.N[i]? = some x) (hv : Vis X.env.scope x) (hd : (x == ("__debug__" : Str)) = false) (hcd : (x == ("__classdict__" : Str)) = false) : PS X (.Return (some (.Name x p1)) pos) (tFS g (retN i)) := by
  refine PS.imp (ps_ret (pe_var hi hv hd hcd)) fun E σ H ⟨F, ρ, s, p⟩ => ?_
  unfold retN at p
  split at p
  · rename_i d e
    obtain ⟨v, h1, h2⟩ := s.at_ i _ e
    exact ⟨v, h1, p v F H s.gr h2⟩
  · rename_i m e
    obtain ⟨q, o, a1, a2, a3, a4, a5⟩ := s.own_none e
    exact ⟨_, a1, p _ F H s.gr ⟨q, o, rfl, a4, a2, a3, a5⟩⟩
  · exact p.elim
def lockE (i : Nat) (ρ : Env) : Env := match ownAt ρ i with
  | some m => ρ.set i (some (.dat (frzM m)))
  | none => ρ
theorem fs_lock {sts : List Stmt} (i : Nat) (h1 : PSs X sts (tFS g f)) : PSs X sts (tFS g fun ρ => f (lockE i ρ)) := by
  refine PSs.imp h1 fun E σ H ⟨F, ρ, s, p⟩ => ?_
  dsimp only at p
  unfold lockE at p
  split at p
  · rename_i m e
    obtain ⟨F', _, _, s'⟩ := s.lock (ownAt_ok e)
    exact ⟨F', _, s', p⟩
  · exact ⟨F, ρ, s, p⟩
def whileN (t : Env → Res Bool) (body : Env → Out) : Nat → Env → Out
  | 0, _ => .bad
  | n + 1, ρ => match t ρ with
    | .ok false => .nx ρ
    | .ok true => (match body ρ with
      | .nx ρ2 => whileN t body n ρ2
      | .ct ρ2 => whileN t body n ρ2
      | .bk ρ2 => .nx ρ2
      | .rt b => .rt b
      | .exc c ρ2 => .exc c ρ2
      | .bad => .bad)
    | .exc c => .exc c ρ
    | .bad => .bad
def whileS (m : Env → Nat) (t : Env → Res Bool) (body : Env → Out) : Env → Out := fun ρ => whileN t body (m ρ) ρ
theorem fs_while {t : Env → Res Bool} {body : List Stmt} (m : Env → Nat) (hp : PassesOwn (model X.prog X.w) X.A X.env X.xe) (hc : PT X c (tFT g t)) (hb : PSs X body (tFS g f)) : PS X (.While c body [] pos) (tFS g (whileS m t f)) := by
  refine PS.imp (ps_while hp hc hb) fun E σ H ⟨F, ρ, s, p⟩ => ?_
  refine ⟨fun n σ H => ∃ F ρ, St g F H σ ρ ∧ PostS g E (whileN t f n ρ), ⟨m ρ, F, ρ, s, p⟩, ?_⟩
  rintro n σ H ⟨F, ρ, s, p⟩
  cases n with
  | zero => exact p.elim
  | succ n =>
    unfold whileN at p
    refine runT s (fun k F1 H1 e1 g1 => ?_) (fun c e => ?_) (fun e => ?_)
    · rw [e1] at p
      cases k with
      | false => exact p σ F1 H1 (s.grow g1)
      | true =>
        dsimp only at p
        refine ⟨fun σ2 H2 => ∃ F2 ρ2, St g F2 H2 σ2 ρ2 ∧ PostS g E (whileN t f n ρ2), fun σ2 H2 h => ⟨n, Nat.lt_succ_self n, h⟩, F1, ρ, s.grow g1, ?_⟩
        cases eb : f ρ with
        | nx ρ2 => rw [eb] at p; exact fun σ4 F4 H4 s4 => ⟨F4, ρ2, s4, p⟩
        | ct ρ2 => rw [eb] at p; exact fun σ4 F4 H4 s4 => ⟨F4, ρ2, s4, p⟩
        | bk ρ2 => rw [eb] at p; exact p
        | rt b => rw [eb] at p; exact p
        | exc c ρ2 => rw [eb] at p; exact p
        | bad => rw [eb] at p; exact p
    · rw [e] at p
      exact fun F' H' g1 => p σ F' H' (s.grow g1)
    · rw [e] at p
      exact p
def loopF (t : Tg) (body : Env → Out) : List D → Env → Out
  | [], ρ => .nx ρ
  | d :: ds, ρ => match bindT t d ρ with
    | none => .bad
    | some ρ1 => match body ρ1 with
      | .nx ρ2 => loopF t body ds ρ2
      | .ct ρ2 => loopF t body ds ρ2
      | .bk ρ2 => .nx ρ2
      | .rt b => .rt b
      | .exc c ρ2 => .exc c ρ2
      | .bad => .bad
def forV (t : Tg) (it : Env → Res (List D)) (body : Env → Out) : Env → Out := fun ρ => match it ρ with
  | .ok ds => loopF t body ds ρ
  | .exc c => .exc c ρ
  | .bad => .bad
abbrev G.fl (g : G) (F0 : Hp) : G := { g with F0 := F0 }
theorem Grow.up {F H F1 H1 F2 H2 : Hp} (a : Grow F H F1 H1) (b : Grow F1 H F2 H2) : Grow F H F2 H2 := ⟨a.fh.trans b.fh, b.hh, b.sub, fun c o h n e => b.new c o h n (a.new c o h n e)⟩
theorem Grow.down {F H F1 F2 H2 : Hp} (a : Grow F H F2 H2) (e : Same F F1) (e' : Same F1 F2) : Grow F1 H F2 H2 := ⟨e', a.hh, a.sub, fun c o h n z => a.new c o h n (e.free z)⟩
theorem St.up {F1 H1 F H : Hp} {σ : L2.St} {ρ : Env} (a : Grow g.F0 g.G0 F1 H1) (s : St (g.fl F1) F H σ ρ) : St g F H σ ρ := ⟨a.up s.gr, s.len, fun i b h => let ⟨v, h1, h2⟩ := s.at_ i b h; ⟨v, h1, by cases b <;> exact h2⟩, s.apart⟩
theorem St.down {F1 F H : Hp} {σ : L2.St} {ρ : Env} (s : St g F H σ ρ) (e : Same g.F0 F1) (e' : Same F1 F) : St (g.fl F1) F H σ ρ := ⟨s.gr.down e e', s.len, fun i b h => let ⟨v, h1, h2⟩ := s.at_ i b h; ⟨v, h1, by cases b <;> exact h2⟩, s.apart⟩
theorem fs_for {t : Tg} {tg iter : Expr} {it : Env → Res (List D)} {body : List Stmt} (hp : PassesOwn (model X.prog X.w) X.A X.env X.xe) (hc : X.calm = true) (hi : PI X tg iter (tFI g false it)) (hg : PG X tg (tFG g t)) (hb : ∀ F0, PSs X body (tFS (g.fl F0) f))
    (hs : ∀ x, foldedSetIterable iter X.env x = pure x) : PS X (.For tg iter body [] pos) (tFS g (forV t it f)) := by
  have hb' : PSs X body (fun E σ H => ∃ F0, tFS (g.fl F0) f E σ H) := ⟨fun pins s σ H E I ⟨F0, w⟩ => (hb F0).run pins s σ H E I w⟩
  refine PS.imp (ps_for hp hc hi hg hb' hs) fun E σ H ⟨F, ρ, s, p⟩ => ⟨F, ρ, s, ?_⟩
  unfold forV at p
  cases e : it ρ with
  | exc c =>
    rw [e] at p
    exact fun F' H' g1 => p σ F' H' (s.grow g1)
  | bad =>
    rw [e] at p
    exact p
  | ok ds =>
    rw [e] at p
    intro F1 H1 J g1 ok
    refine ⟨fun i m σ' H' => m = ds.length - i ∧ i ≤ ds.length ∧ ∃ F' ρ', St g F' H' σ' ρ' ∧ PP g false F1 H1 F' H' ∧ PostS g E (loopF t f (ds.drop i) ρ'), ⟨_, rfl, Nat.zero_le _, F1, ρ, s.grow g1, ⟨Same.refl _, g1.sub, (s.gr.trans g1).hh, (fun z => by cases z)⟩, p⟩, ?_⟩
    rintro i m σ' H' ⟨rfl, hle, F', ρ', s', pp, q⟩
    by_cases hlt : i < ds.length
    · refine .inr ⟨ok.go i F' H' pp hlt, fun σ2 H2 => ∃ F2 ρ2, St g F2 H2 σ2 ρ2 ∧ PP g false F1 H1 F2 H2 ∧ PostS g E (loopF t f (ds.drop (i + 1)) ρ2), fun σ2 H2 ⟨F2, ρ2, s2, p2, q2⟩ => ⟨_, ?_, rfl, hlt, F2, ρ2, s2, p2, q2⟩, fun x H2 hy => ?_⟩
      · omega
      · have hd : ds[i]? = some ds[i] := List.getElem?_eq_getElem hlt
        obtain ⟨F2, g2, r2⟩ := ok.yld i F' H' x H2 _ pp hd hy
        have s2 := s'.grow g2
        rw [List.drop_eq_getElem_cons hlt] at q
        unfold loopF at q
        split at q
        · exact q.elim
        · rename_i ρ1 hb1
          have e01 : Same g.F0 F1 := s.gr.fh.trans g1.fh
          have a1 : Grow g.F0 g.G0 F1 H1 := s.gr.trans g1
          refine ⟨F2, ρ', _, ρ1, s2, r2, hb1, fun σ3 s3 _ => ⟨F1, F2, ρ1, s3.down e01 (pp.1.trans g2.fh), ?_⟩⟩
          cases eb : f ρ1 with
          | nx ρ2 =>
            rw [eb] at q
            exact fun σ4 F4 H4 s4 => ⟨F4, ρ2, s4.up a1, ⟨s4.gr.fh, s4.sub, s4.gr.hh, fun z => by cases z⟩, q⟩
          | ct ρ2 =>
            rw [eb] at q
            exact fun σ4 F4 H4 s4 => ⟨F4, ρ2, s4.up a1, ⟨s4.gr.fh, s4.sub, s4.gr.hh, fun z => by cases z⟩, q⟩
          | bk ρ2 =>
            rw [eb] at q
            exact fun σ4 F4 H4 s4 => q σ4 F4 H4 (s4.up a1)
          | rt b =>
            rw [eb] at q
            exact fun v F4 H4 g4 r4 => q v F4 H4 (a1.up g4) (by cases b <;> exact r4)
          | exc c ρ2 =>
            rw [eb] at q
            exact fun σ4 F4 H4 s4 => q σ4 F4 H4 (s4.up a1)
          | bad =>
            rw [eb] at q
            exact q
    · have he : i = ds.length := by omega
      subst he
      rw [List.drop_length] at q
      exact .inl ⟨ok.stop _ F' H' pp (Nat.le_refl _), q _ _ _ s'⟩
end
end Fn
namespace Fn
open PySem PySem.Spec PyProof.Rows L2
open L2H (RoomH PinOk cxH inv_startH)
structure FnP (P : Program) (w : World) (K : PySem.W.Frag) (mg : Str → Option Value) (base : Heap) (k : Nat) (f : Addr) (fd : FuncData) (ps : List Str) (sp : Option (Addr × Obj) → Sp) : Prop where
  len : ∀ p vs H Q E, sp p vs H Q E → vs.length = ps.length
  run : ∀ (p : Addr × Obj) (A : Around) (outer : List PySem.Env) (s : Shared) (H : Hp) (args : Args) (us : List Value) (vs : List V) (Q : VK) (E : XK), RoomH k A → PinOk outer H s p → Env0 P w K mg base A outer s H → BindsTo s fd args (ps.zip us) → Vals vs us → sp (some p) vs H Q E →
    codeAny (model P w) A (.call (.ref f) args) (CR (L2.CX P w) outer P w H s Q E) s
theorem FnP.mono {P : Program} {w : World} {K : PySem.W.Frag} {mg : Str → Option Value} {base : Heap} {j k : Nat} {f : Addr} {fd : FuncData} {ps : List Str} {sp : Option (Addr × Obj) → Sp} (F : FnP P w K mg base j f fd ps sp) (h : j ≤ k) : FnP P w K mg base k f fd ps sp :=
  ⟨F.len, fun p A outer s H args us vs Q E hr => F.run p A outer s H args us vs Q E (hr.mono h)⟩
section
variable {X : Cx} {k : Nat} {f : Addr} {fd : FuncData} {ps : List Str} {sp : Option (Addr × Obj) → Sp} {E : L2.St → XK} {x : Str} {q pos : Pos} {e : Expr} {es : List Expr} {t : TA}
end
end Fn
namespace Fn
open PySem PySem.Spec PyProof.Rows L2
structure Bt where
  bi : List Str
  cs : List (Str × D)
  hot : Bool := false
  ex : List Str := []
  rs : List Nat := []
  hs : List En := []
structure BiOk (K : PySem.W.Frag) (fa : Nat → Option Addr) (mg : Str → Option Value) (bt : Bt) : Prop where
  bi : ∀ x ∈ bt.bi, mg x = none
  cs : ∀ p ∈ bt.cs, ∃ v u, mg p.1 = some u ∧ RelV v u ∧ ∀ F, Rp K fa F v p.2
def subE (c c' : Nat) : Bool := c == c' || c' == 0
abbrev veM : List Value := [.type "ValueError", .type "Exception", .type "BaseException", .type "object"]
structure ErrOk (K : PySem.W.Frag) (C : Addr) : Prop where
  xk : PySem.W.excIn K C veM "ValueError.__new__" = true
  kp : PySem.W.keepIn K (.ref C) = true
  sb : PySem.W.subIn K (.ref C) (.type "BaseException") = some true
  ty : PySem.W.typeIn K (.ref C) = some (.type "type")
  ec : ExcC K C
  ve : PySem.W.subIn K (.ref C) (.type "ValueError") = some true
  sf : PySem.W.subIn K (.ref C) (.ref C) = some true
structure ExOk (K : PySem.W.Frag) (fa : Nat → Option Addr) (cls : Nat → Value) (mg : Str → Option Value) (bt : Bt) : Prop where
  at_ : ∀ c x, bt.ex[c]? = some x → ∃ C, mg x = some (.ref C) ∧ fa (1000 + c) = some C ∧ cls c = .ref C ∧ PySem.W.subIn K (.ref C) (.type "BaseException") = some true ∧ PySem.W.isClsIn K C = true ∧ PySem.W.typeIn K (.ref C) = some (.type "type")
  rs : ∀ c ∈ bt.rs, ∃ C, fa (1000 + c) = some C ∧ cls c = .ref C ∧ ErrOk K C
  sub : ∀ c ∈ bt.rs, ∀ c' C C', c' < bt.ex.length → fa (1000 + c) = some C → fa (1000 + c') = some C' → PySem.W.subIn K (.ref C) (.ref C') = some (subE c c')
structure HotOk (P : Program) (w : World) (K : PySem.W.Frag) (mg : Str → Option Value) (base : Heap) (fa : Nat → Option Addr) (cls : Nat → Value) (lv : Nat) (hs : List En) : Prop where
  at_ : ∀ (k : Nat) (en : En), hs[k]? = some en → ∃ f fd ps, mg en.name = some (.ref f) ∧ PySem.W.keepIn K (.ref f) = true ∧ Binds K fd ps [] ∧ FnP P w K mg base lv f fd ps (spP K fa cls en.n en.F)
theorem HotOk.mono {P : Program} {w : World} {K : PySem.W.Frag} {mg : Str → Option Value} {base : Heap} {fa : Nat → Option Addr} {cls : Nat → Value} {lv lv' : Nat} {hs : List En} (h : HotOk P w K mg base fa cls lv hs) (e : lv ≤ lv') : HotOk P w K mg base fa cls lv' hs :=
  ⟨fun k en q => let ⟨f, fd, ps, a, b, c, d⟩ := h.at_ k en q; ⟨f, fd, ps, a, b, c, d.mono e⟩⟩
theorem HotOk.nil {P : Program} {w : World} {K : PySem.W.Frag} {mg : Str → Option Value} {base : Heap} {fa : Nat → Option Addr} {cls : Nat → Value} {lv : Nat} : HotOk P w K mg base fa cls lv [] := ⟨fun k en q => by cases q⟩
theorem HotOk.snoc {P : Program} {w : World} {K : PySem.W.Frag} {mg : Str → Option Value} {base : Heap} {fa : Nat → Option Addr} {cls : Nat → Value} {lv : Nat} {hs : List En} (h : HotOk P w K mg base fa cls lv hs) {en : En} {f : Addr} {fd : FuncData} {ps : List Str} (hm : mg en.name = some (.ref f)) (hk : PySem.W.keepIn K (.ref f) = true) (hb : Binds K fd ps [])
    (F : FnP P w K mg base lv f fd ps (spP K fa cls en.n en.F)) : HotOk P w K mg base fa cls lv (hs ++ [en]) := ⟨fun k en' q => by
  by_cases hl : k < hs.length
  · rw [List.getElem?_append_left hl] at q
    exact h.at_ k en' q
  · rw [List.getElem?_append_right (Nat.le_of_not_lt hl)] at q
    cases z : k - hs.length with
    | zero => rw [z] at q; cases q; exact ⟨f, fd, ps, hm, hk, hb, F⟩
    | succ m => rw [z] at q; cases q⟩
structure CT (X : Cx) (g : G) (cls : Nat → Value) (k : Nat) (tab : List En) (N : List Str) (sc : Scope) (bt : Bt) : Prop where
  hK : g.K = X.K
  calm : bt.hot = false → X.calm = true
  hN : X.N = N
  nd : N.Nodup
  hS : X.env.scope = sc
  room : L2H.RoomH k X.A
  tab : TabOk X g.fa cls k tab
  pz : Pz X g cls
  bi : BiOk X.K g.fa X.mg bt
  hd : bt.hot = false → X.A.handled = none
  nh : bt.hot = false → g.h = none
  ph : ∀ p, g.h = some p → p ∈ X.pn
  eh : bt.hot = true → ∃ q, g.h = some q
  ex : ExOk X.K g.fa cls X.mg bt
  hs : HotOk X.prog X.w X.K X.mg X.base g.fa cls k bt.hs
def nmOk (x : Str) : Bool := !(x == ("__debug__" : Str)) && !(x == ("__classdict__" : Str)) && !(x == ("__name__" : Str))
def visC (sc : Scope) (x : Str) : Bool := match sc.names.lookup x with
  | some .local => true
  | some .cell => true
  | some .free => true
  | _ => false
def vOk (N : List Str) (sc : Scope) (i : Nat) (x : Str) : Bool := decide (N[i]? = some x) && visC sc x && nmOk x
def lOk (N : List Str) (sc : Scope) (i : Nat) (x : Str) : Bool := decide (N[i]? = some x) && decide (sc.names.lookup x = some .local)
def gOk (sc : Scope) (bt : Bt) (x : Str) : Bool := decide (sc.names.lookup x = some .globalImplicit) && decide (x ∈ bt.bi)
def dOk (sc : Scope) (x : Str) : Bool := decide (sc.names.lookup x = some .globalImplicit) && nmOk x
theorem nmOk_ok {x : Str} (h : nmOk x = true) : (x == ("__debug__" : Str)) = false ∧ (x == ("__classdict__" : Str)) = false ∧ (x == ("__name__" : Str)) = false := by
  unfold nmOk at h
  simp only [Bool.and_eq_true, Bool.not_eq_true'] at h
  exact ⟨h.1.1, h.1.2, h.2⟩
theorem visC_ok {sc : Scope} {x : Str} (h : visC sc x = true) : Vis sc x := by
  unfold visC at h
  split at h
  · rename_i e; exact .inl e
  · rename_i e; exact .inr (.inl e)
  · rename_i e; exact .inr (.inr e)
  · cases h
section
variable {X : Cx} {g : G} {cls : Nat → Value} {k : Nat} {tab : List En} {N : List Str} {sc : Scope} {bt : Bt} {a b c : Expr} {pos : Pos} {fa fb fc : Env → Res B}
theorem CT.fl (C : CT X g cls k tab N sc bt) (F0 : Hp) : CT X (g.fl F0) cls k tab N sc bt := ⟨C.hK, C.calm, C.hN, C.nd, C.hS, C.room, C.tab, C.pz, C.bi, C.hd, C.nh, C.ph, C.eh, C.ex, C.hs⟩
theorem CT.hu (C : CT X g cls k tab N sc bt) : X.A.units + 200 < cLine := by have := C.room.un; omega
theorem CT.gl (C : CT X g cls k tab N sc bt) {x : Str} (h : sc.names.lookup x = some .globalImplicit) : Gl X x := by
  show X.env.scope.names.lookup x = _
  rw [C.hS]
  exact h
theorem CT.bl (C : CT X g cls k tab N sc bt) {x : Str} (h : gOk sc bt x = true) : Gl X x ∧ X.mg x = none := by
  unfold gOk at h
  rw [Bool.and_eq_true, decide_eq_true_eq, decide_eq_true_eq] at h
  exact ⟨C.gl h.1, C.bi.bi x h.2⟩
theorem CT.vo (C : CT X g cls k tab N sc bt) {i : Nat} {x : Str} (h : vOk N sc i x = true) : X.N[i]? = some x ∧ Vis X.env.scope x ∧ (x == ("__debug__" : Str)) = false ∧ (x == ("__classdict__" : Str)) = false := by
  unfold vOk at h
  simp only [Bool.and_eq_true, decide_eq_true_eq] at h
  obtain ⟨⟨h1, h2⟩, h3⟩ := h
  exact ⟨by rw [C.hN]; exact h1, by rw [C.hS]; exact visC_ok h2, (nmOk_ok h3).1, (nmOk_ok h3).2.1⟩
theorem CT.lo (C : CT X g cls k tab N sc bt) {i : Nat} {x : Str} (h : lOk N sc i x = true) : X.N[i]? = some x ∧ X.env.scope.names.lookup x = some .local := by
  unfold lOk at h
  simp only [Bool.and_eq_true, decide_eq_true_eq] at h
  exact ⟨by rw [C.hN]; exact h.1, by rw [C.hS]; exact h.2⟩
theorem CT.nd' (C : CT X g cls k tab N sc bt) : X.N.Nodup := by rw [C.hN]; exact C.nd
theorem CT.var (C : CT X g cls k tab N sc bt) (i : Nat) {x : Str} (h : vOk N sc i x = true) : PE X (.Name x pos) (tF g (varB i)) := by
  obtain ⟨h1, h2, h3, h4⟩ := C.vo h
  exact PE.imp (pe_var h1 h2 h3 h4) fun _ _ _ q => var_run q
theorem fe_int {i : Int} {j} : PE X (.Constant (.int i) j pos) (tF g fun _ => .ok (.dat (.int i))) := PE.imp pe_int fun _ _ _ q => con_run (fun _ => .int i) q
theorem fe_bl {i : Bool} {j} : PE X (.Constant (.bool i) j pos) (tF g fun _ => .ok (.dat (.bl i))) := PE.imp pe_bl fun _ _ _ q => con_run (fun _ => .bl i) q
theorem fe_str {i : Str} {j} : PE X (.Constant (.str i) j pos) (tF g fun _ => .ok (.dat (.str i))) := PE.imp pe_str fun _ _ _ q => con_run (fun _ => .str i) q
theorem fe_non {j} : PE X (.Constant .none j pos) (tF g fun _ => .ok (.dat .non)) := PE.imp pe_non fun _ _ _ q => con_run (fun _ => .non) q
theorem CT.con (C : CT X g cls k tab N sc bt) (j : Nat) {x : Str} {d : D} (h : bt.cs[j]? = some (x, d)) (hg : dOk sc x = true) : PE X (.Name x pos) (tF g fun _ => .ok (.dat d)) := by
  unfold dOk at hg
  rw [Bool.and_eq_true, decide_eq_true_eq] at hg
  obtain ⟨v, u, h1, h2, h3⟩ := C.bi.cs (x, d) (List.mem_of_getElem? h)
  exact PE.imp (pe_glob (v := v) (C.gl hg.1) h1 h2 (nmOk_ok hg.2).1) fun _ _ _ q => con_run (fun F => by rw [C.hK]; exact h3 F) q
theorem CT.add (C : CT X g cls k tab N sc bt) (ha : PE X a (tF g fa)) (hb : PE X b (tF g fb)) : PE X (.BinOp a .Add b pos) (tF g (bin2 addB fa fb)) := fe_bin op_addF (g_add C.hK) ha hb
theorem CT.sub (C : CT X g cls k tab N sc bt) (ha : PE X a (tF g fa)) (hb : PE X b (tF g fb)) : PE X (.BinOp a .Sub b pos) (tF g (bin2 subB fa fb)) := fe_bin op_sub g_sub ha hb
theorem CT.mul (C : CT X g cls k tab N sc bt) (ha : PE X a (tF g fa)) (hb : PE X b (tF g fb)) : PE X (.BinOp a .Mult b pos) (tF g (bin2 mulB fa fb)) := fe_bin op_mulF g_mul ha hb
theorem CT.div (C : CT X g cls k tab N sc bt) (ha : PE X a (tF g fa)) (hb : PE X b (tF g fb)) : PE X (.BinOp a .FloorDiv b pos) (tF g (bin2 divB fa fb)) := fe_bin op_fdivG g_div ha hb
theorem CT.mod (C : CT X g cls k tab N sc bt) (ha : PE X a (tF g fa)) (hb : PE X b (tF g fb)) : PE X (.BinOp a .Mod b pos) (tF g (bin2 modB fa fb)) := fe_bin op_modG g_mod ha hb
theorem CT.pow (C : CT X g cls k tab N sc bt) (ha : PE X a (tF g fa)) (hb : PE X b (tF g fb)) : PE X (.BinOp a .Pow b pos) (tF g (bin2 powB fa fb)) := fe_bin op_pow g_pow ha hb
structure CmpW (X : Cx) (g : G) (op : CmpOp) (f : B → B → Res B) : Prop where
  ex : ∃ r, OpR X (compareOp op) r ∧ OpG g r f
theorem CT.hu64 (C : CT X g cls k tab N sc bt) : X.A.units + 64 < cLine := by have := C.hu; omega
theorem CT.hu100 (C : CT X g cls k tab N sc bt) : X.A.units + 100 < cLine := by have := C.hu; omega
def leF : B → B → Res B := cmpI fun i j => decide (i ≤ j)
def gtF : B → B → Res B := cmpI fun i j => decide (j < i)
def geF : B → B → Res B := cmpI fun i j => decide (j ≤ i)
theorem CT.eq (C : CT X g cls k tab N sc bt) : CmpW X g .Eq eqB := ⟨_, op_eqD C.hu64, g_eq C.hK⟩
theorem CT.ne (C : CT X g cls k tab N sc bt) : CmpW X g .NotEq neB := ⟨_, op_neD C.hu64, g_ne C.hK⟩
theorem CT.lt (C : CT X g cls k tab N sc bt) : CmpW X g .Lt ltB := ⟨_, op_ltF C.hu64, g_lt C.hK⟩
theorem CT.le (C : CT X g cls k tab N sc bt) : CmpW X g .LtE leF := ⟨_, op_le, g_cmpI⟩
theorem CT.gt (C : CT X g cls k tab N sc bt) : CmpW X g .Gt gtF := ⟨_, op_gt, g_cmpI⟩
theorem CT.ge (C : CT X g cls k tab N sc bt) : CmpW X g .GtE geF := ⟨_, op_ge, g_cmpI⟩
theorem CT.is (C : CT X g cls k tab N sc bt) : CmpW X g .Is (isB false) := ⟨_, op_isF, g_is⟩
theorem CT.inn (C : CT X g cls k tab N sc bt) : CmpW X g .In (inB false) := ⟨_, op_inF C.hu100, g_in C.hK⟩
theorem CT.nin (C : CT X g cls k tab N sc bt) : CmpW X g .NotIn (inB true) := ⟨_, op_notInF C.hu100, g_in C.hK⟩
theorem cmpE {op : CmpOp} {f : B → B → Res B} (w : CmpW X g op f) (ha : PE X a (tF g fa)) (hb : PE X b (tF g fb)) (hm : nset b = true) : PE X (.Compare a [op] [b] pos) (tF g (bin2 f fa fb)) := by
  obtain ⟨r, h1, h2⟩ := w.ex
  exact fe_cmp h1 h2 ha hb (nset_mark hm)
theorem cmpT {op : CmpOp} {f : B → B → Res B} (w : CmpW X g op f) (ha : PE X a (tF g fa)) (hb : PE X b (tF g fb)) (hm : nset b = true) : PT X (.Compare a [op] [b] pos) (tFT g fun ρ => (bin2 f fa fb ρ).bind tstB) := by
  obtain ⟨r, h1, h2⟩ := w.ex
  exact ft_cmp h1 h2 ha hb (nset_mark hm)
theorem chainE {op op' : CmpOp} {f f' : B → B → Res B} (w : CmpW X g op f) (w' : CmpW X g op' f') (ha : PE X a (tF g fa)) (hb : PE X b (tF g fb)) (hc : PE X c (tF g fc)) (hm : nset c = true) : PE X (.Compare a [op, op'] [b, c] pos) (tF g (chn f f' fa fb fc)) := by
  obtain ⟨r, h1, h2⟩ := w.ex
  obtain ⟨r', h1', h2'⟩ := w'.ex
  exact fe_chain h1 h2 h1' h2' ha hb hc hm
theorem chainT {op op' : CmpOp} {f f' : B → B → Res B} (w : CmpW X g op f) (w' : CmpW X g op' f') (ha : PE X a (tF g fa)) (hb : PE X b (tF g fb)) (hc : PE X c (tF g fc)) (hm : nset c = true) : PT X (.Compare a [op, op'] [b, c] pos) (tFT g fun ρ => (chn f f' fa fb fc ρ).bind tstB) := by
  obtain ⟨r, h1, h2⟩ := w.ex
  obtain ⟨r', h1', h2'⟩ := w'.ex
  exact ft_chain h1 h2 h1' h2' ha hb hc hm
theorem CT.val (C : CT X g cls k tab N sc bt) (ha : PE X a (tF g fa)) (hp : plainT a = true) : PT X a (tFT g (testV fa)) := ft_val C.hK hp ha
theorem CT.idx (C : CT X g cls k tab N sc bt) (ha : PE X a (tF g fa)) (hb : PE X b (tF g fb)) (hp : nsl b = true) : PE X (.Subscript a b pos) (tF g (bin2 idxB fa fb)) := fe_idx C.hu100 C.hK (nsl_ix hp) ha hb
theorem CT.slc (C : CT X g cls k tab N sc bt) {lo hi : Option Expr} {fl fh : Env → Res (Option Int)} {p2 : Pos} (ha : PE X a (tF g fa)) (hl : PO X lo (tFO g fl)) (hh : PO X hi (tFO g fh)) : PE X (.Subscript a (.Slice lo hi none p2) pos) (tF g (slcV fa fl fh)) := fe_slice C.hK ha hl hh
variable {x : Str} {p : Pos} {e : Expr} {es : List Expr} {fs : Env → Res (List B)}
structure BiW (X : Cx) (g : G) (x : Str) (f : List B → Res B) : Prop where
  ex : (∃ id r, CallR X (.builtin id) r ∧ bootBuiltins x = some (.builtin id) ∧ CallG g r f) ∨ ∃ T r, CallR X (.type T) r ∧ bootBuiltins x = some (.type T) ∧ CallG g r f
theorem CT.len (C : CT X g cls k tab N sc bt) : BiW X g "len" lenB := ⟨.inl ⟨_, _, c_len, PySem.boot_len, g_len C.hK⟩⟩
theorem CT.call (C : CT X g cls k tab N sc bt) {f : List B → Res B} (w : BiW X g x f) (ha : PA X (e :: es) (tFA g fs)) (hg : gOk sc bt x = true) (hn : nmOk x = true) (hst : (e :: es).all nst = true) : PE X (.Call (.Name x p) (e :: es) [] pos) (tF g fun ρ => (fs ρ).bind f) := by
  obtain ⟨h1, h2⟩ := C.bl hg
  obtain ⟨n1, _, n2⟩ := nmOk_ok hn
  have n3 : x ≠ "__name__" := fun z => by rw [z] at n2; revert n2; decide
  rcases w.ex with ⟨id, r, c1, c2, c3⟩ | ⟨T, r, c1, c2, c3⟩
  · exact fe_callB c1 h1 h2 c2 c3 ha n3 n1 hst
  · exact fe_callTy c1 h1 h2 c2 c3 ha n3 n1 hst
theorem CT.own (C : CT X g cls k tab N sc bt) (j : Nat) {en : En} (ha : PA X (e :: es) (tFA g fs)) (hk : tab[j]? = some en) (hx : x = en.name) (hg : dOk sc x = true) (hst : (e :: es).all nst = true) (hh : bt.hot = false := by rfl) : PE X (.Call (.Name x p) (e :: es) [] pos) (tF g fun ρ => (fs ρ).bind fun bs => (lenA en.n bs).bind (callV en)) := by
  unfold dOk at hg
  rw [Bool.and_eq_true, decide_eq_true_eq] at hg
  exact fe_call (C.nh hh) C.tab ⟨C.hd hh, C.room.dp, C.room.un⟩ C.pz hk hx C.hK (C.gl hg.1) ha (nmOk_ok hg.2).1 hst
theorem CT.isi (C : CT X g cls k tab N sc bt) (t : Ty) {p2 : Pos} (ha : PE X a (tF g fa)) (hx : x = Str.ofString t.nm) (h1 : gOk sc bt "isinstance" = true) (h2 : gOk sc bt x = true) (hb : bootBuiltins x = some (.type t.nm)) (hn : nst a = true) :
    PE X (.Call (.Name "isinstance" p) [a, .Name x p2] [] pos) (tF g (one1 (isiB t) fa)) := fe_isi C.hK (C.bl h1).1 (C.bl h1).2 hx (C.bl h2).1 (C.bl h2).2 hb hn ha
theorem iter_plain {iter : Expr} (h : nset iter = true) (env : PySem.Env) : ∀ x, foldedSetIterable iter env x = pure x := by
  intro x
  cases iter <;> first | rfl | cases h
theorem pass0L {X : Cx} : Passes (L2.CX X.prog X.w) X (fun _ _ _ => False) := L2.passL
theorem CT.blk (C : CT X g cls k tab N sc bt) (hh : bt.hot = false) {scope : Scope} (s : Shared) (H : Hp) (A : Addr) (cl : List (Str × Addr)) (fp : List Addr) : CT (X.blk s H scope (compEnvC scope cl A X.env) fp) g.mute cls k tab N (relS scope sc) bt :=
  ⟨C.hK, C.calm, C.hN, C.nd, by rw [← C.hS]; rfl, C.room, ⟨fun j en h => C.tab.at_ j en h⟩, ⟨fun _ _ _ _ => False, fun σ pins H s e s' I c => pass0L pins σ H s e s' I c, fun _ _ _ h => h⟩, C.bi, C.hd, C.nh, (fun p h => by rw [show g.mute.h = g.h from rfl, C.nh hh] at h; cases h), C.eh, C.ex, ⟨fun j en h => C.hs.at_ j en h⟩⟩
structure CB (X : Cx) (g : G) (cls : Nat → Value) (k : Nat) (tab : List En) (N : List Str) (sc : Scope) (bt : Bt) (scope : Scope) : Prop extends CT X g cls k tab N sc bt where
  fnb : ∀ x, scope.names.lookup x = some .cell → X.fn x = true
theorem CT.blkB (C : CT X g cls k tab N sc bt) (hh : bt.hot = false) {scope : Scope} (s : Shared) (H : Hp) (A : Addr) (cl : List (Str × Addr)) (fp : List Addr) : CB (X.blk s H scope (compEnvC scope cl A X.env) fp) g.mute cls k tab N (relS scope sc) bt scope :=
  ⟨C.blk hh s H A cl fp, fun x h => by show (scope.names.lookup x == some .cell) = true; rw [h]; rfl⟩
structure Inn (X : Cx) (g : G) (tg : Expr) (ifs : List Expr) (elt : Expr) (t : Tg) (c : Env → Res Bool) (fe : Env → Res B) : Prop where
  tg : PG X tg (tFG g t)
  ifs : PTs X ifs (tFT g c)
  elt : PE X elt (tF g fe)
def lcOk (N : List Str) (sc scope : Scope) (own : List (Str × Nat)) (t : Tg) (iter : Expr) : Bool := blkC N sc scope own && (t.slots.all fun i => decide (i ∈ own.map (·.2))) && nset iter
theorem CT.lc (C : CT X g cls k tab N sc bt) {t : Tg} {it : Env → Res (List D)} {c : Env → Res Bool} {fe : Env → Res B} {elt tg iter : Expr} {ifs : List Expr} {scope : Scope} (own : List (Str × Nat)) (hi : PI X tg iter (tFI g true it))
    (inn : ∀ {X' : Cx} {g' : G}, CB X' g' cls k tab N (relS scope sc) bt scope → Inn X' g' tg ifs elt t c fe) (ok : lcOk N sc scope own t iter = true) (hh : bt.hot = false := by rfl) : PE X (.ListComp elt [⟨tg, iter, ifs, 0⟩] scope pos) (tF g (compV t it c fe (own.map (·.2)))) := by
  unfold lcOk at ok
  simp only [Bool.and_eq_true, List.all_eq_true, decide_eq_true_eq] at ok
  obtain ⟨⟨h1, h2⟩, h3⟩ := ok
  exact fe_lc (C.calm hh) C.nd' hi (by rw [C.hN, C.hS]; exact blkOk_by h1) h2 (fun s H A cl fp => (inn (C.blkB hh s H A cl fp)).tg) (fun s H A cl fp => (inn (C.blkB hh s H A cl fp)).ifs) (fun s H A cl fp => (inn (C.blkB hh s H A cl fp)).elt) (iter_plain h3 _)
theorem ifs0 : PTs X [] (tFT g fun _ => .ok true) := ⟨fun pins s σ H Q I ⟨F, ρ, st, q⟩ => pts_nil.run pins s σ H Q I (q F H (Grow.refl st.sub))⟩
theorem ifs1 {t : Env → Res Bool} (h : PT X a (tFT g t)) : PTs X [a] (tFT g t) := pts_one h
theorem CT.g1 (C : CT X g cls k tab N sc bt) (i : Nat) (h : lOk N sc i x = true) : PG X (.Name x pos) (tFG g (.one i)) := fg_one C.nd' (C.lo h).1 (.inl (C.lo h).2) (.inr (C.lo h).2)
def namesOf : List Expr → Option (List Str)
  | [] => some []
  | .Name x _ :: r => (namesOf r).map (x :: ·)
  | _ => none
theorem CT.gs (C : CT X g cls k tab N sc bt) : ∀ (is : List Nat) (es : List Expr) (xs : List Str), namesOf es = some xs → xs.length = is.length → ((is.zip xs).all fun p => lOk N sc p.1 p.2) = true →
    PGs X es (gPut is) ∧ (assignEach es X.env).length = is.length ∧ (assignEach es X.env).findIdx? (·.1) = none
  | [], [], [], _, _, _ => ⟨pgs_nil, rfl, rfl⟩
  | i :: is, .Name x p :: es, xs, h, hl, ha => by
    unfold namesOf at h
    cases e : namesOf es with
    | none => rw [e] at h; cases h
    | some ys =>
      rw [e] at h
      cases h
      simp only [List.zip_cons_cons, List.all_cons, Bool.and_eq_true] at ha
      obtain ⟨q1, q2, q3⟩ := C.gs is es ys e (by simpa using hl) ha.2
      refine ⟨pgs_cons (pg_name C.nd' (C.lo ha.1).1 (.inl (C.lo ha.1).2) (.inr (C.lo ha.1).2)) q1, ?_, ?_⟩
      · show (_ :: assignEach es X.env).length = _
        rw [List.length_cons, q2, List.length_cons]
      · show List.findIdx? _ ((false, _) :: assignEach es X.env) = none
        rw [List.findIdx?_cons, q3]
        rfl
  | [], .Name _ _ :: _, xs, h, hl, _ => by
    unfold namesOf at h
    cases e : namesOf _ with
    | none => rw [e] at h; cases h
    | some ys => rw [e] at h; cases h; cases hl
  | _ :: _, [], xs, h, hl, _ => by cases h; cases hl
def gsOk (N : List Str) (sc : Scope) (is : List Nat) (es : List Expr) : Bool := match namesOf es with
  | some xs => decide (xs.length = is.length) && (is.zip xs).all fun p => lOk N sc p.1 p.2
  | none => false
theorem CT.gm (C : CT X g cls k tab N sc bt) (is : List Nat) {n : Nat} (h : gsOk N sc is es = true) (hh : bt.hot = false := by rfl) : PG X (.Tuple es n pos) (tFG g (.many is)) := by
  unfold gsOk at h
  split at h
  · rename_i xs e
    rw [Bool.and_eq_true, decide_eq_true_eq] at h
    obtain ⟨h1, h2, h3⟩ := C.gs is es xs e h.1 h.2
    exact fg_many (C.calm hh) C.hK h1 h2 h3
  · cases h
theorem CT.it (C : CT X g cls k tab N sc bt) {lk : Bool} {tg : Expr} (ha : PE X a (tF g fa)) : PI X tg a (tFI g lk fun ρ => (fa ρ).bind fun x => itemsB lk (rd x)) := fi_seq C.hK ha
theorem CT.rg1 (C : CT X g cls k tab N sc bt) {lk : Bool} {tg : Expr} (ha : PE X a (tF g fa)) (hg : gOk sc bt "range" = true) (hn : nst a = true) : PI X tg (.Call (.Name "range" p) [a] [] pos) (tFI g lk fun ρ => (consA fa (fun _ => .ok []) ρ).bind rngA) := by
  refine fi_range1 (C.bl hg).1 (C.bl hg).2 hn (fa_cons hn ha fa_nil) fun ρ bs h => ?_
  unfold consA at h
  cases e : fa ρ with
  | ok b => rw [e] at h; cases h; rfl
  | exc c => rw [e] at h; cases h
  | bad => rw [e] at h; cases h
end
end Fn
namespace Fn
open PySem PySem.Spec PyProof.Rows L2
theorem boot_abs : bootBuiltins "abs" = some (.builtin "abs") := by decide +kernel
theorem boot_any : bootBuiltins "any" = some (.builtin "any") := by decide +kernel
theorem boot_all : bootBuiltins "all" = some (.builtin "all") := by decide +kernel
theorem boot_min : bootBuiltins "min" = some (.builtin "min") := by decide +kernel
theorem boot_max : bootBuiltins "max" = some (.builtin "max") := by decide +kernel
theorem boot_sum : bootBuiltins "sum" = some (.builtin "sum") := by decide +kernel
theorem boot_sorted : bootBuiltins "sorted" = some (.builtin "sorted") := by decide +kernel
theorem boot_int : bootBuiltins "int" = some (.type "int") := by decide +kernel
theorem boot_str : bootBuiltins "str" = some (.type "str") := by decide +kernel
theorem boot_tuple : bootBuiltins "tuple" = some (.type "tuple") := by decide +kernel
theorem boot_list : bootBuiltins "list" = some (.type "list") := by decide +kernel
theorem boot_dict : bootBuiltins "dict" = some (.type "dict") := by decide +kernel
theorem boot_bool : bootBuiltins "bool" = some (.type "bool") := by decide +kernel
section
variable {X : Cx} {g : G} {cls : Nat → Value} {k : Nat} {tab : List En} {N : List Str} {sc : Scope} {bt : Bt} {a b c : Expr} {pos : Pos} {fa fb fc : Env → Res B} {f h : Env → Out} {x : Str} {e : Expr} {st : Stmt} {rest body : List Stmt}
theorem CT.abs (C : CT X g cls k tab N sc bt) : BiW X g "abs" absF := ⟨.inl ⟨_, _, call_abs, boot_abs, g_abs⟩⟩
theorem CT.min (C : CT X g cls k tab N sc bt) (hh : bt.hot = false := by rfl) : BiW X g "min" minF := ⟨.inl ⟨_, _, c_min (C.calm hh), boot_min, g_min C.hK⟩⟩
theorem CT.max (C : CT X g cls k tab N sc bt) (hh : bt.hot = false := by rfl) : BiW X g "max" maxF := ⟨.inl ⟨_, _, c_max (C.calm hh), boot_max, g_max C.hK⟩⟩
theorem CT.sum (C : CT X g cls k tab N sc bt) (hh : bt.hot = false := by rfl) : BiW X g "sum" sumF := ⟨.inl ⟨_, _, cr_sum (C.calm hh), boot_sum, g_sum C.hK⟩⟩
theorem CT.any (C : CT X g cls k tab N sc bt) (hh : bt.hot = false := by rfl) : BiW X g "any" anyF := ⟨.inl ⟨_, _, cr_any (C.calm hh), boot_any, g_any C.hK⟩⟩
theorem CT.all (C : CT X g cls k tab N sc bt) (hh : bt.hot = false := by rfl) : BiW X g "all" allF := ⟨.inl ⟨_, _, cr_all (C.calm hh), boot_all, g_all C.hK⟩⟩
theorem CT.int (C : CT X g cls k tab N sc bt) : BiW X g "int" intF := ⟨.inr ⟨_, _, call_int1, boot_int, g_int⟩⟩
theorem CT.str (C : CT X g cls k tab N sc bt) : BiW X g "str" strF := ⟨.inr ⟨_, _, call_str_int, boot_str, g_str⟩⟩
theorem CT.tup (C : CT X g cls k tab N sc bt) : BiW X g "tuple" tupF := ⟨.inr ⟨_, _, call_tuple_of, boot_tuple, g_tupF C.hK⟩⟩
theorem CT.lst (C : CT X g cls k tab N sc bt) : BiW X g "list" lstF := ⟨.inr ⟨_, _, call_list_of, boot_list, g_lstF C.hK⟩⟩
theorem CT.sort (C : CT X g cls k tab N sc bt) (hh : bt.hot = false := by rfl) : BiW X g "sorted" sortF := ⟨.inl ⟨_, _, c_sort (C.calm hh) C.hu, boot_sorted, g_sort C.hK⟩⟩
end
def dropS (_ : B) (ρ : Env) : Out := .nx ρ
theorem fs_expr {X : Cx} {g : G} {e : Expr} {fa : Env → Res B} {pos : Pos} (he : PE X e (tF g fa)) (hs : swapsWith e none pos.line X.env = pure false) : PS X (.Expr e pos) (tFS g (thenS fa dropS)) := by
  refine PS.imp (ps_expr he hs) fun E σ H h => ?_
  exact then_run (k := dropS) (E := E) (Q := fun _ H1 => E.nx σ H1) h fun F ρ b v F1 H1 s g1 r1 p => p σ F1 H1 (s.grow g1)
structure CS (X : Cx) (g : G) (cls : Nat → Value) (k : Nat) (tab : List En) (N : List Str) (sc : Scope) (bt : Bt) : Prop where
  ct : CT X g cls k tab N sc bt
  po : PassesOwn (model X.prog X.w) X.A X.env X.xe
  fn : ∀ x, X.fn x = true
  tk : ∃ W : WX, Takes X W ∧ ∀ c σ H, g.E c σ H → W (cls c) none σ H
  stk : X.stack = X.env :: X.outer
  frm : X.env.frame = some X.env.locals
def nlc : Expr → Bool
  | .ListComp .. => false
  | .SetComp .. => false
  | .DictComp .. => false
  | _ => true
theorem sw_no {e : Expr} {t : Option Expr} {l : Nat} {env : PySem.Env} (h : nlc e = true) : swapsWith e t l env = pure false := by
  cases e <;> first | rfl | cases h
def swC (sc scope : Scope) (t : Str) (l1 l2 : Nat) : Bool :=
  ((if sc.kind.isAnnotationScope then ScopeKind.function else sc.kind) == .function && sc.names.lookup t == some .local && l1 == l2) && !(scope.names.any fun (n, k) => n == t && (k == .local || k == .cell))
theorem sw_lc {elt : Expr} {gs : List Comprehension} {scope : Scope} {pos : Pos} {t : Str} {p : Pos} {l : Nat} {env : PySem.Env} {sc : Scope} (h : env.scope = sc) : swapsWith (.ListComp elt gs scope pos) (some (.Name t p)) l env = pure (swC sc scope t p.line pos.line) := by
  subst h
  rfl
def aOk (N : List Str) (sc : Scope) (i : Nat) (x : Str) : Bool := decide (N[i]? = some x) && (match sc.names.lookup x with
  | some .local => true
  | some .cell => true
  | _ => false)
section
variable {X : Cx} {g : G} {cls : Nat → Value} {k : Nat} {tab : List En} {N : List Str} {sc : Scope} {bt : Bt} {a b c : Expr} {pos : Pos} {fa fb fc : Env → Res B} {f h : Env → Out} {x y : Str} {e : Expr} {st : Stmt} {rest body : List Stmt} {i j : Nat} {t : Tg}
theorem CS.fl (C : CS X g cls k tab N sc bt) (F0 : Hp) : CS X (g.fl F0) cls k tab N sc bt := ⟨C.ct.fl F0, C.po, C.fn, C.tk, C.stk, C.frm⟩
theorem CS.ao (C : CS X g cls k tab N sc bt) {i : Nat} {x : Str} (h : aOk N sc i x = true) : X.N[i]? = some x ∧ Loc X.env.scope x := by
  unfold aOk at h
  rw [Bool.and_eq_true, decide_eq_true_eq] at h
  refine ⟨by rw [C.ct.hN]; exact h.1, ?_⟩
  rw [C.ct.hS]
  have h2 := h.2
  split at h2
  · rename_i e; exact .inl e
  · rename_i e; exact .inr e
  · cases h2
theorem CS.asg (C : CS X g cls k tab N sc bt) (i : Nat) {p : Pos} (he : PE X e (tF g fa)) (h : aOk N sc i x = true) (hl : nlc e = true) : PS X (.Assign [.Name x p] e pos) (tFS g (thenS fa (setV i))) :=
  fs_asg C.ct.nd' (C.ao h).1 (C.ao h).2 he (sw_no hl) (.inl (C.fn x))
theorem CS.asgLc (C : CS X g cls k tab N sc bt) (i : Nat) {it : Env → Res (List D)} {c : Env → Res Bool} {fe : Env → Res B} {elt tg iter : Expr} {ifs : List Expr} {scope : Scope} {p spos : Pos} (own : List (Str × Nat)) (hi : PI X tg iter (tFI g true it))
    (inn : ∀ {X' : Cx} {g' : G}, CB X' g' cls k tab N (relS scope sc) bt scope → Inn X' g' tg ifs elt t c fe) (ok : lcOk N sc scope own t iter = true) (h : aOk N sc i x = true) (hh : bt.hot = false := by rfl) : PS X (.Assign [.Name x p] (.ListComp elt [⟨tg, iter, ifs, 0⟩] scope pos) spos) (tFS g (thenS (compV t it c fe (own.map (·.2))) (setV i))) := by
  cases hs : swC sc scope x p.line pos.line with
  | false => exact fs_asg C.ct.nd' (C.ao h).1 (C.ao h).2 (C.ct.lc own hi inn ok hh) (by rw [sw_lc C.ct.hS, hs]) (.inl (C.fn x))
  | true =>
    have hl : X.env.scope.names.lookup x = some .local := by
      unfold swC at hs
      simp only [Bool.and_eq_true, beq_iff_eq] at hs
      rw [C.ct.hS]
      exact hs.1.1.2
    unfold lcOk at ok
    simp only [Bool.and_eq_true, List.all_eq_true, decide_eq_true_eq] at ok
    obtain ⟨⟨h1, h2⟩, h3⟩ := ok
    exact fs_asgLc (C.ct.calm hh) C.ct.nd' (C.ao h).1 hl (by rw [sw_lc C.ct.hS, hs]) hi (by rw [C.ct.hN, C.ct.hS]; exact blkOk_by h1) h2 (fun s H A cl fp => (inn (C.ct.blkB hh s H A cl fp)).tg) (fun s H A cl fp => (inn (C.ct.blkB hh s H A cl fp)).ifs) (fun s H A cl fp => (inn (C.ct.blkB hh s H A cl fp)).elt) (iter_plain h3 _)
theorem CS.g1 (C : CS X g cls k tab N sc bt) (i : Nat) (h : aOk N sc i x = true) : PG X (.Name x pos) (tFG g (.one i)) := fg_one C.ct.nd' (C.ao h).1 (C.ao h).2 (.inl (C.fn x))
theorem CS.gs (C : CS X g cls k tab N sc bt) : ∀ (is : List Nat) (es : List Expr) (xs : List Str), namesOf es = some xs → xs.length = is.length → ((is.zip xs).all fun p => aOk N sc p.1 p.2) = true →
    PGs X es (gPut is) ∧ (assignEach es X.env).length = is.length ∧ (assignEach es X.env).findIdx? (·.1) = none
  | [], [], [], _, _, _ => ⟨pgs_nil, rfl, rfl⟩
  | i :: is, .Name x p :: es, xs, h, hl, ha => by
    unfold namesOf at h
    cases e : namesOf es with
    | none => rw [e] at h; cases h
    | some ys =>
      rw [e] at h
      cases h
      simp only [List.zip_cons_cons, List.all_cons, Bool.and_eq_true] at ha
      obtain ⟨q1, q2, q3⟩ := C.gs is es ys e (by simpa using hl) ha.2
      refine ⟨pgs_cons (pg_name C.ct.nd' (C.ao ha.1).1 (C.ao ha.1).2 (.inl (C.fn _))) q1, ?_, ?_⟩
      · show (_ :: assignEach es X.env).length = _
        rw [List.length_cons, q2, List.length_cons]
      · show List.findIdx? _ ((false, _) :: assignEach es X.env) = none
        rw [List.findIdx?_cons, q3]
        rfl
  | [], .Name _ _ :: _, xs, h, hl, _ => by
    unfold namesOf at h
    cases e : namesOf _ with
    | none => rw [e] at h; cases h
    | some ys => rw [e] at h; cases h; cases hl
  | _ :: _, [], xs, h, hl, _ => by cases h; cases hl
def gsOkS (N : List Str) (sc : Scope) (is : List Nat) (es : List Expr) : Bool := match namesOf es with
  | some xs => decide (xs.length = is.length) && (is.zip xs).all fun p => aOk N sc p.1 p.2
  | none => false
theorem CS.gm (C : CS X g cls k tab N sc bt) (is : List Nat) {es : List Expr} {n : Nat} (h : gsOkS N sc is es = true) (hh : bt.hot = false := by rfl) : PG X (.Tuple es n pos) (tFG g (.many is)) := by
  unfold gsOkS at h
  split at h
  · rename_i xs e
    rw [Bool.and_eq_true, decide_eq_true_eq] at h
    obtain ⟨h1, h2, h3⟩ := C.gs is es xs e h.1 h.2
    exact fg_many (C.ct.calm hh) C.ct.hK h1 h2 h3
  · cases h
def ntu : Expr → Bool
  | .Tuple .. => false
  | _ => true
theorem CS.asgT (C : CS X g cls k tab N sc bt) {es : List Expr} {n : Nat} {p : Pos} (he : PE X e (tF g fa)) (hg : PG X (.Tuple es n p) (tFG g t)) (hl : nlc e = true) (ht : ntu e = true) : PS X (.Assign [.Tuple es n p] e pos) (tFS g (thenS fa (bindV t))) :=
  fs_asgT he hg (by cases e <;> first | rfl | cases hl) (by cases e <;> first | rfl | cases ht) rfl
def parC (sc : Scope) (x y : Str) (l1 l2 : Nat) (a b : Expr) : Bool :=
  ((if sc.kind.isAnnotationScope then ScopeKind.function else sc.kind) == .function) && (nst a && nst b) && (sc.names.lookup x == some .local && sc.names.lookup y == some .local) && (l2 == l1) && ([x, y].eraseDups.length == 2) && !([a, b].all (foldedForSure 8)) && !([a, b].all (constantsAlone 8))
theorem sw_par {x y : Str} {px py pt pt2 : Pos} {kt k2 : Nat} {env : PySem.Env} {sc : Scope} (h : env.scope = sc) (hc : parC sc x y px.line py.line a b = true) : swappedStores [.Tuple [.Name x px, .Name y py] kt pt] (.Tuple [a, b] k2 pt2) env = pure (some [x, y]) := by
  subst h
  unfold parC at hc
  simp only [Bool.and_eq_true, Bool.not_eq_true'] at hc
  obtain ⟨⟨⟨⟨⟨⟨c1, c2, c3⟩, c4, c5⟩, c6⟩, c7⟩, c8⟩, c9⟩ := hc
  have nsa : ∀ {e : Expr}, nst e = true → (match e with | .Starred .. => true | _ => false) = false := fun {e} h => by cases e <;> first | rfl | cases h
  have e1 : (env.blockKind != .function) = false := by
    show (!(env.blockKind == .function)) = false
    rw [show (env.blockKind == .function) = true from c1]
    rfl
  unfold swappedStores
  have q1 : (env.kindOf x == some .local) = true := c4
  have q2 : (env.kindOf y == some .local) = true := c5
  have q3 : (px.line == px.line) = true := by simp
  simp only [e1, List.length_cons, List.length_nil, List.any_cons, List.any_nil, nsa c2, nsa c3, List.filterMap_cons, List.filterMap_nil, List.head?_cons, Option.map_some, Option.getD_some, Expr.pos, q1, q2, q3, c6, c8, c9]
  simp at c7 ⊢
  refine (if_neg ?_).trans (if_pos c7)
  intro h
  rcases h with h | h
  · cases a <;> first | (cases h; done) | (cases c2; done)
  · cases b <;> first | (cases h; done) | (cases c3; done)
theorem CS.par2 (C : CS X g cls k tab N sc bt) (i j : Nat) {px py pt pt2 : Pos} {kt k2 : Nat} (ha : PE X a (tF g fa)) (hb : PE X b (tF g fb)) (h1 : lOk N sc i x = true) (h2 : lOk N sc j y = true) (hij : i ≠ j) (hc : parC sc x y px.line py.line a b = true) (hh : bt.hot = false := by rfl) :
    PS X (.Assign [.Tuple [.Name x px, .Name y py] kt pt] (.Tuple [a, b] k2 pt2) pos) (tFS g (Fn.par2 i j fa fb)) := by
  have hc' := hc
  unfold parC at hc'
  simp only [Bool.and_eq_true] at hc'
  exact fs_par2 (C.ct.calm hh) C.ct.nd' (C.ct.lo h1).1 (C.ct.lo h2).1 hij (C.ct.lo h1).2 (C.ct.lo h2).2 hc'.1.1.1.1.1.2.1 hc'.1.1.1.1.1.2.2 ha hb (sw_par C.ct.hS hc) rfl
theorem CS.app (C : CS X g cls k tab N sc bt) (i : Nat) {p1 p2 p3 p4 : Pos} (he : PE X e (tF g fa)) (h : vOk N sc i x = true) (hn : (nst e && (p2.endLine == p3.line)) = true) : PS X (.Expr (.Call (.Attribute (.Name x p1) "append" p2) [e] [] p3) p4) (tFS g (appV i fa)) := by
  obtain ⟨h1, h2, h3, h4⟩ := C.ct.vo h
  rw [Bool.and_eq_true] at hn
  exact fs_append h1 h2 h3 h4 hn.1 hn.2 he
theorem CS.ex (C : CS X g cls k tab N sc bt) {p : Pos} (he : PE X e (tF g fa)) (hl : nlc e = true) : PS X (.Expr e p) (tFS g (thenS fa dropS)) := fs_expr he (sw_no hl)
theorem CS.fo (C : CS X g cls k tab N sc bt) {tg iter : Expr} {it : Env → Res (List D)} (hi : PI X tg iter (tFI g false it)) (hg : PG X tg (tFG g t)) (hb : ∀ g', CS X g' cls k tab N sc bt → PSs X body (tFS g' f)) (hs : nset iter = true) (hh : bt.hot = false := by rfl) : PS X (.For tg iter body [] pos) (tFS g (forV t it f)) :=
  fs_for C.po (C.ct.calm hh) hi hg (fun F0 => hb _ (C.fl F0)) (iter_plain hs _)
theorem CS.wh (C : CS X g cls k tab N sc bt) (m : Env → Nat) {t : Env → Res Bool} (hc : PT X c (tFT g t)) (hb : PSs X body (tFS g f)) : PS X (.While c body [] pos) (tFS g (whileS m t f)) := fs_while m C.po hc hb
theorem CS.rn (C : CS X g cls k tab N sc bt) (i : Nat) {p1 : Pos} (h : vOk N sc i x = true) : PS X (.Return (some (.Name x p1)) pos) (tFS g (retN i)) := by
  obtain ⟨h1, h2, h3, h4⟩ := C.ct.vo h
  exact fs_retN h1 h2 h3 h4
end
def outR (o : Out) : Res B := match o with
  | .nx _ => .ok (.dat .non)
  | .rt b => .ok b
  | .exc c _ => .exc c
  | _ => .bad
def okArg : B → Bool
  | .own _ => false
  | .vw _ => false
  | .nst _ _ => false
  | _ => true
def envS (n : Nat) (bs : List B) : Env := bs.map some ++ List.replicate (n - bs.length) none
def defF (n : Nat) (body : Env → Out) (bs : List B) : Res B := if bs.all okArg = true then outR (body (envS n bs)) else .bad
theorem paired_get {α β : Type} {R : α → β → Prop} : ∀ {vs : List α} {bs : List β} {i : Nat} {b : β}, Paired R vs bs → bs[i]? = some b → ∃ v, vs[i]? = some v ∧ R v b
  | _, _, 0, _, .cons r _, h => by cases h; exact ⟨_, rfl, r⟩
  | _, _, i + 1, _, .cons _ rs, h => paired_get (i := i) rs h
theorem no_own {n : Nat} {bs : List B} {i : Nat} {b : B} {H : Hp} {v : V} {a : Addr} (ok : bs.all okArg = true) (h : (envS n bs)[i]? = some (some b)) (f : Ft H v b a) : False := by
  unfold envS at h
  by_cases hi : i < bs.length
  · rw [List.getElem?_append_left (by simpa using hi), List.getElem?_map] at h
    cases hb : bs[i]? with
    | none => rw [hb] at h; cases h
    | some b' =>
      rw [hb] at h
      cases h
      have := List.all_eq_true.mp ok _ (List.mem_of_getElem? hb)
      cases b with
      | own m => cases this
      | nst sh ls => cases this
      | _ => exact f.elim
  · rw [List.getElem?_append_right (by simpa using hi), List.getElem?_replicate] at h
    split at h <;> cases h
theorem start_st {K : PySem.W.Frag} {fa : Nat → Option Addr} {cls : Nat → Value} {F H : Hp} {E : XK} {N : List Str} {vs : List V} {bs : List B} (s : Same F H) {p : Option (Addr × Obj)} (r : Paired (RR (gOf K fa cls F H E p) F H) vs bs) (ok : bs.all okArg = true) :
    St (gOf K fa cls F H E p) F H (L2.start N vs) (envS N.length bs) := by
  have hl := r.length
  refine ⟨Grow.refl s, by unfold L2.start envS; simp [hl], fun i b h => ?_, fun i j b b' v v' a hij h1 h2 h3 h4 h5 h6 => no_own ok h1 h5⟩
  · unfold envS at h
    by_cases hi : i < bs.length
    · rw [List.getElem?_append_left (by simpa using hi), List.getElem?_map] at h
      cases hb : bs[i]? with
      | none => rw [hb] at h; cases h
      | some b' =>
        rw [hb] at h
        cases h
        obtain ⟨v, hv, rv⟩ := paired_get r hb
        refine ⟨v, by unfold L2.start; rw [List.getElem?_append_left (by rw [List.length_map, hl]; exact hi), List.getElem?_map, hv]; rfl, ?_⟩
        have ob := List.all_eq_true.mp ok b (List.mem_of_getElem? hb)
        cases b with
        | dat d => exact rv
        | own m => cases ob
        | vw m => cases ob
        | bor m => exact rv
        | scr ns => exact rv
        | err c => exact rv
        | nst sh ls => cases ob
    · rw [List.getElem?_append_right (by simpa using hi), List.getElem?_replicate] at h
      split at h <;> cases h
theorem body_run {K : PySem.W.Frag} {fa : Nat → Option Addr} {cls : Nat → Value} {F H : Hp} {E : XK} {p : Option (Addr × Obj)} {N : List Str} {body : Env → Out} {vs : List V} {bs : List B} {Q : VK} (h2 : Same F H) (h3 : Paired (RR (gOf K fa cls F H E p) F H) vs bs) (h4 : Post (gOf K fa cls F H E p) [] F H (defF N.length body bs) Q) :
    tFS (gOf K fa cls F H E p) body { nx := fun _ H' => Q .non H', rt := Q } (L2.start N vs) H := by
  unfold defF at h4
  split at h4
  · rename_i ok
    refine ⟨F, envS N.length bs, start_st h2 h3 ok, ?_⟩
    cases e : body (envS N.length bs) with
    | nx ρ =>
      rw [e] at h4
      exact fun σ' F' H' s' => h4 .non F' H' s'.gr .non
    | rt b =>
      rw [e] at h4
      exact fun v F' H' g1 r1 => h4 v F' H' g1 r1
    | bk ρ => rw [e] at h4; exact h4.elim
    | ct ρ => rw [e] at h4; exact h4.elim
    | exc c ρ =>
      rw [e] at h4
      exact fun σ' F' H' s' => h4 F' H' s'.gr
    | bad => rw [e] at h4; exact h4.elim
  · exact h4.elim
theorem def_ok {P : Program} {w : World} {K : PySem.W.Frag} {mg : Str → Option Value} {base : Heap} {fa : Nat → Option Addr} {cls : Nat → Value} {q : Str} {st : Stmt} {f : Addr} {fd : FuncData} {N ps : List Str} {k n : Nat} {body : Env → Out} {tab : List En} {bt : Bt} (Fu : Fun K q q st f fd)
    (S : FnScope N ps (defScope st)) (hn : ps.length = n) (hbi : BiOk K fa mg bt) (hex : ExOk K fa cls mg bt) (hhs : HotOk P w K mg base fa cls k bt.hs) (T : ∀ X : Cx, X.prog = P → X.w = w → X.K = K → X.mg = mg → X.base = base → TabOk X fa cls k tab)
    (hb : ∀ (X : Cx) (g : G), g.fa = fa → CS X g cls k tab N (defScope st) bt → PSs X (defBody st) (tFS g body)) (hnot : bt.hot = false := by rfl) : FnOk P w K mg base (L2.CX P w) (k + 1) f fd ps (spF K fa cls n (defF N.length body)) := by
  refine Fu.okX S (fun vs H Q E h => h.1.trans hn.symm) fun cdv A outer s H vs Q E hr ⟨h1, F, bs, h2, h3, h4⟩ => ?_
  let X := cxOf (L2.CX P w) P w K mg base N q (defScope st) f cdv A outer s H E
  have tk : Takes X (fun cls d _ H => E cls d H) := takes_of (X := X) rfl rfl rfl rfl
  have C : CS X (gOf K fa cls F H E none) cls k tab N (defScope st) bt :=
    ⟨⟨rfl, fun _ => rfl, rfl, S.nd, rfl, ⟨hr.dp, hr.un⟩, T X rfl rfl rfl rfl rfl, ⟨fun _ => E, fun σ => passAt tk σ, fun _ _ _ h => h⟩, hbi, fun _ => hr.hd, fun _ => rfl, (fun _ z => by cases z), (fun z => by rw [hnot] at z; cases z), hex, hhs⟩, passes_of (X := X) (E₁ := fun e' s'' => L2.CX P w outer H s E e' s'') rfl, fun _ => rfl, ⟨_, tk, fun _ _ _ h => h⟩, rfl, rfl⟩
  exact ⟨_, hb X _ rfl C, body_run h2 h3 h4⟩
end Fn
namespace Fn
open PySem PySem.Spec PyProof.Rows L2
def nilA : Env → Res (List B) := fun _ => .ok []
def litI (i : Int) : Env → Res B := fun _ => .ok (.dat (.int i))
def litS (x : Str) : Env → Res B := fun _ => .ok (.dat (.str x))
def litB (b : Bool) : Env → Res B := fun _ => .ok (.dat (.bl b))
def litN : Env → Res B := fun _ => .ok (.dat .non)
def newK : Env → Res B := fun _ => .ok (.own (.k []))
def newT : Env → Res B := fun _ => .ok (.own (.t []))
def callF (f : List B → Res B) (fs : Env → Res (List B)) : Env → Res B := fun ρ => (fs ρ).bind f
def ownF (en : En) (fs : Env → Res (List B)) : Env → Res B := fun ρ => (fs ρ).bind fun bs => (lenA en.n bs).bind (callV en)
def tstF (f : Env → Res B) : Env → Res Bool := fun ρ => (f ρ).bind tstB
def yesF : Env → Res Bool := fun _ => .ok true
def itF (lk : Bool) (f : Env → Res B) : Env → Res (List D) := fun ρ => (f ρ).bind fun x => itemsB lk (rd x)
def rgF (fs : Env → Res (List B)) : Env → Res (List D) := fun ρ => (fs ρ).bind rngA
def noP : Env → Res (Option Int) := fun _ => .ok none
def atP (f : Env → Res B) : Env → Res (Option Int) := fun ρ => (f ρ).bind fun x => partB x
def nxS : Env → Out := fun ρ => .nx ρ
def bkS : Env → Out := fun ρ => .bk ρ
def ctS : Env → Out := fun ρ => .ct ρ
def rtN : Env → Out := fun _ => .rt (.dat .non)
def litD (d : D) : Env → Res B := fun _ => .ok (.dat d)
def lockS (i : Nat) (f : Env → Out) : Env → Out := fun ρ => f (lockE i ρ)
open Classical in
noncomputable def mW (t : Env → Res Bool) (body : Env → Out) (ρ : Env) : Nat := if h : ∃ n, whileN t body n ρ ≠ .bad then Classical.choose h else 0
noncomputable def whileC (t : Env → Res Bool) (body : Env → Out) : Env → Out := whileS (mW t body) t body
section
variable {X : Cx} {g : G} {cls : Nat → Value} {k : Nat} {tab : List En} {N : List Str} {sc : Scope} {bt : Bt} {c : Expr} {pos : Pos} {f : Env → Out} {body : List Stmt}
theorem CS.wc (C : CS X g cls k tab N sc bt) {t : Env → Res Bool} (hc : PT X c (tFT g t)) (hb : PSs X body (tFS g f)) : PS X (.While c body [] pos) (tFS g (whileC t f)) := C.wh _ hc hb
end
structure TabW (P : Program) (w : World) (K : PySem.W.Frag) (mg : Str → Option Value) (base : Heap) (fa : Nat → Option Addr) (cls : Nat → Value) (lv : Nat) (tab : List En) : Prop where
  at_ : ∀ (k : Nat) (en : En), tab[k]? = some en → ∃ f fd ps, mg en.name = some (.ref f) ∧ fa k = some f ∧ PySem.W.keepIn K (.ref f) = true ∧ Binds K fd ps [] ∧ FnOk P w K mg base (L2.CX P w) lv f fd ps (spF K fa cls en.n en.F)
section
variable {P : Program} {w : World} {K : PySem.W.Frag} {mg : Str → Option Value} {base : Heap} {fa : Nat → Option Addr} {cls : Nat → Value} {lv : Nat} {tab : List En}
theorem TabW.nil : TabW P w K mg base fa cls lv [] := ⟨fun k en h => by cases h⟩
theorem TabW.snoc (T : TabW P w K mg base fa cls lv tab) {en : En} {f : Addr} {fd : FuncData} {ps : List Str} (F : FnOk P w K mg base (L2.CX P w) (lv + 1) f fd ps (spF K fa cls en.n en.F)) (hm : mg en.name = some (.ref f)) (hfa : fa tab.length = some f) (hk : PySem.W.keepIn K (.ref f) = true) (hb : Binds K fd ps []) :
    TabW P w K mg base fa cls (lv + 1) (tab ++ [en]) := ⟨fun k en' h => by
  by_cases hl : k < tab.length
  · rw [List.getElem?_append_left hl] at h
    obtain ⟨f', fd', ps', a1, a2, a3, a4, a5⟩ := T.at_ k en' h
    exact ⟨f', fd', ps', a1, a2, a3, a4, a5.mono (Nat.le_succ lv)⟩
  · rw [List.getElem?_append_right (Nat.le_of_not_lt hl)] at h
    have e : k = tab.length := by
      by_cases z : k - tab.length = 0
      · omega
      · obtain ⟨m, hm2⟩ := Nat.exists_eq_succ_of_ne_zero z
        rw [hm2] at h
        cases h
    subst e
    rw [Nat.sub_self] at h
    cases h
    exact ⟨f, fd, ps, hm, hfa, hk, hb, F⟩⟩
theorem TabW.use (T : TabW P w K mg base fa cls lv tab) : ∀ X : Cx, X.prog = P → X.w = w → X.K = K → X.mg = mg → X.base = base → TabOk X fa cls lv tab := fun X h1 h2 h3 h4 h5 => by
  subst h1 h2 h3 h4 h5
  exact ⟨T.at_⟩
theorem TabW.more (T : TabW P w K mg base fa cls lv tab) {en : En} {q : Str} {st : Stmt} {f : Addr} {fd : FuncData} {N ps : List Str} {body : Env → Out} {bt : Bt} (Fu : Fun K q q st f fd) (S : FnScope N ps (defScope st)) (hbi : BiOk K fa mg bt) (hex : ExOk K fa cls mg bt) (hhs : HotOk P w K mg base fa cls lv bt.hs)
    (he : en = ⟨q, ps.length, defF N.length body⟩) (hb : ∀ (X : Cx) (g : G), CS X g cls lv tab N (defScope st) bt → PSs X (defBody st) (tFS g body)) (hm : mg q = some (.ref f)) (hfa : fa tab.length = some f) (hbd : Binds K fd ps []) (hnot : bt.hot = false := by rfl) : TabW P w K mg base fa cls (lv + 1) (tab ++ [en]) := by
  subst he
  refine T.snoc (en := ⟨q, ps.length, defF N.length body⟩) ?_ hm hfa Fu.kp hbd
  exact def_ok Fu S rfl hbi hex hhs T.use (fun X g _ C => hb X g C) hnot
end
def spLaw (K : PySem.W.Frag) : Sp := fun vs H Q _ => ∃ (a : Addr) (ns : List Int), vs = [.ref a] ∧ SqL K H a (ns.map V.int) ∧ ns.length ≤ 63 ∧ ∀ H', Q (.bl true) H'
theorem spLaw_of {K : PySem.W.Frag} {fa : Nat → Option Addr} {cls : Nat → Value} {L : List B → Res B} (h : ∀ ns : List Int, ns.length ≤ 63 → L [.scr ns] = .ok (.dat (.bl true))) : ∀ vs H Q E, spLaw K vs H Q E → spF K fa cls 1 L vs H Q E := by
  rintro vs H Q E ⟨a, ns, rfl, hS, hl, q⟩
  refine ⟨rfl, fun _ => none, [.scr ns], (fun _ _ z => by cases z), .cons ⟨a, rfl, hS⟩ .nil, ?_⟩
  rw [h ns hl]
  intro v F' H' g1 r1
  cases r1
  exact q H'
theorem no_exc {P : Program} {w : World} (H : Hp) (s : Shared) (e : Value) (s' : Shared) (z : L2.CX P w [] H s (fun _ _ _ => False) e s') : False := by
  obtain ⟨_, _, _, _, _, _, _, _, _, _, _, _, z⟩ := z
  exact z.elim
theorem walk {l : PySem.W.OpenLaw} {q : Program} {loose : List Str} {XP : (Str → Option Value) → Heap → Prop} {YP : World → Heap → Prop} {d : DefRec} {K : Params → PySem.W.Frag} {x : Str} (n : Nat) (hr : Room n callerA) (hn : l.most = some 63) (hdf : d.params.defaults = [])
    (hY : ∀ (w : World) (h : Heap), YP w h → (K w.params).In h)
    (F : ∀ (w : World) (mg : Str → Option Value) (fa : Addr) (h : Heap), (K w.params).In h → h.Ns mainGlobals mg → mg d.name = some (.ref fa) →
      ∃ fd : FuncData, (∀ (s : Shared) (u : Value), BindsTo s fd ⟨[u], []⟩ [(x, u)]) ∧ ∀ base : Heap, (K w.params).In base → base.Ns mainGlobals mg → FnOk l.prog w (K w.params) mg base (L2.CX l.prog w) n fa fd [x] (spLaw (K w.params))) :
    PySem.W.WalkO q loose XP YP l.row.toRowW d [] (fun f vs => PySem.call f vs) :=
  L2.walk_of (n := 63) (k := n) (x := x) (CX := fun w => L2.CX l.prog w) (sp := fun w => spLaw (K w.params)) hn (by decide) hdf hr hY F (fun _ _ a ns hl _ hS => ⟨a, ns, rfl, hS, hl, fun _ => rfl⟩) fun _ H s e s' z => no_exc H s e s' z
end Fn
namespace Fn
open PySem PySem.Spec PyProof.Rows L2
abbrev Sm64 (i : Int) : Prop := i.natAbs < 2 ^ 64
theorem log2_lt {n : Nat} (h : n < 2 ^ 64) : n.log2 < 64 := by
  by_cases z : n = 0
  · subst z; decide
  · exact (Nat.log2_lt z).mpr h
theorem mod_ok {i j : Int} (h : j ≠ 0) : modB (.dat (.int i)) (.dat (.int j)) = .ok (.dat (.int (i.fmod j))) := by
  unfold modB int2
  dsimp only
  rw [if_pos (decide_eq_true h)]
theorem mod_pos {i j : Int} (h : 0 < j) : modB (.dat (.int i)) (.dat (.int j)) = .ok (.dat (.int (i % j))) := by
  rw [mod_ok (by omega), Int.fmod_eq_emod_of_nonneg _ (by omega)]
theorem div_pos {i j : Int} (h : 0 < j) (hj : Sm64 j) : divB (.dat (.int i)) (.dat (.int j)) = .ok (.dat (.int (i / j))) := by
  unfold divB int2
  dsimp only
  rw [if_pos (by rw [Bool.and_eq_true, decide_eq_true_eq, decide_eq_true_eq]; exact ⟨by omega, by have := log2_lt hj; omega⟩), Int.fdiv_eq_ediv_of_nonneg _ (by omega)]
theorem add_ii {i j : Int} : addB (.dat (.int i)) (.dat (.int j)) = .ok (.dat (.int (i + j))) := rfl
theorem sub_ii {i j : Int} : subB (.dat (.int i)) (.dat (.int j)) = .ok (.dat (.int (i - j))) := rfl
theorem and_ii {i j : Int} : andB (.dat (.int i)) (.dat (.int j)) = .ok (.dat (.int (Builtin.bitAnd i j))) := rfl
theorem pow_ok {i j : Int} (h : 0 ≤ j) (h2 : j ≤ 1000000) (hi : Sm64 i) : powB (.dat (.int i)) (.dat (.int j)) = .ok (.dat (.int (i ^ j.toNat))) := by
  unfold powB int2
  dsimp only
  rw [if_pos (by rw [Bool.and_eq_true, Bool.and_eq_true, decide_eq_true_eq, decide_eq_true_eq, decide_eq_true_eq]; exact ⟨⟨h, h2⟩, hi⟩)]
theorem lt_ii {i j : Int} : ltB (.dat (.int i)) (.dat (.int j)) = .ok (.dat (.bl (decide (i < j)))) := rfl
theorem gt_ii {i j : Int} : gtF (.dat (.int i)) (.dat (.int j)) = .ok (.dat (.bl (decide (j < i)))) := rfl
theorem le_ii {i j : Int} : leF (.dat (.int i)) (.dat (.int j)) = .ok (.dat (.bl (decide (i ≤ j)))) := rfl
theorem ge_ii {i j : Int} : geF (.dat (.int i)) (.dat (.int j)) = .ok (.dat (.bl (decide (j ≤ i)))) := rfl
theorem eq_ii {i j : Int} : eqB (.dat (.int i)) (.dat (.int j)) = .ok (.dat (.bl (decide (i = j)))) := by
  show Res.ok (B.dat (D.bl (PyData.eqv (.int i) (.int j)))) = _
  simp [PyData.eqv, Bool.beq_eq_decide_eq]
theorem ne_ii {i j : Int} : neB (.dat (.int i)) (.dat (.int j)) = .ok (.dat (.bl (!decide (i = j)))) := by
  show Res.ok (B.dat (D.bl (!PyData.eqv (.int i) (.int j)))) = _
  simp [PyData.eqv, Bool.beq_eq_decide_eq]
theorem abs_i {i : Int} : absF [.dat (.int i)] = .ok (.dat (.int (i.natAbs : Int))) := by
  show Res.ok (B.dat (D.int (if i < 0 then _ else _))) = _
  split <;> (congr; omega)
theorem min_ii {i j : Int} : minF [.dat (.int i), .dat (.int j)] = .ok (.dat (.int (min i j))) := by
  show Res.ok (B.dat (D.int (if j < i then j else i))) = _
  rw [Int.min_def]
  split <;> split <;> first | rfl | (congr; omega)
theorem max_ii {i j : Int} : maxF [.dat (.int i), .dat (.int j)] = .ok (.dat (.int (max i j))) := by
  show Res.ok (B.dat (D.int (if j > i then j else i))) = _
  rw [Int.max_def]
  split <;> split <;> first | rfl | (congr; omega)
theorem int_bl {b : Bool} : intF [.dat (.bl b)] = .ok (.dat (.int (if b = true then 1 else 0))) := rfl
theorem len_tup {ds : List D} : lenB [.dat (.tup ds)] = .ok (.dat (.int ds.length)) := rfl
theorem len_lst {ds : List D} : lenB [.dat (.lst ds)] = .ok (.dat (.int ds.length)) := rfl
theorem len_vw {ds : List D} : lenB [.vw (.l ds)] = .ok (.dat (.int ds.length)) := rfl
theorem len_bor {ds : List D} : lenB [.bor (.l ds)] = .ok (.dat (.int ds.length)) := rfl
theorem len_scr {ns : List Int} : lenB [.scr ns] = .ok (.dat (.int ns.length)) := by
  show Res.ok (B.dat (D.int ((ns.map D.int).length : Int))) = _
  rw [List.length_map]
theorem idx_tup {ds : List D} {k : Int} {d : D} (h : atI ds k = some d) : idxB (.dat (.tup ds)) (.dat (.int k)) = .ok (.dat d) := by
  show (match atI ds k with | some d => (.ok (.dat d) : Res B) | none => .bad) = _
  rw [h]
theorem idx_lst {ds : List D} {k : Int} {d : D} (h : atI ds k = some d) : idxB (.dat (.lst ds)) (.dat (.int k)) = .ok (.dat d) := by
  show (match atI ds k with | some d => (.ok (.dat d) : Res B) | none => .bad) = _
  rw [h]
theorem atI_map {α β : Type} (f : α → β) {xs : List α} {k : Int} {d : α} (h : atI xs k = some d) : atI (xs.map f) k = some (f d) := by
  unfold atI at h ⊢
  rw [List.length_map]
  cases e : ixN xs.length k with
  | none => rw [e] at h; cases h
  | some j =>
    rw [e] at h
    show (xs.map f)[j]? = _
    rw [List.getElem?_map, show xs[j]? = some d from h]
    rfl
theorem idx_scr {ns : List Int} {k d : Int} (h : atI ns k = some d) : idxB (.scr ns) (.dat (.int k)) = .ok (.dat (.int d)) := by
  show (match atI (ns.map D.int) k with | some d => (.ok (.dat d) : Res B) | none => .bad) = _
  rw [atI_map D.int h]
theorem atI_lt {α : Type} {xs : List α} {k : Int} (h0 : 0 ≤ k) (h : k < xs.length) : atI xs k = some (xs[k.toNat]'(by omega)) := by
  have e : k = ((k.toNat : Nat) : Int) := by omega
  have q : xs[k.toNat]? = some (xs[k.toNat]'(by omega)) := List.getElem?_eq_getElem (by omega)
  have := atI_nat q
  rw [← e] at this
  exact this
theorem def_rt {n : Nat} {body : Env → Out} {bs : List B} {r : Res B} (h1 : bs.all okArg = true) (h : outR (body (envS n bs)) = r) : defF n body bs = r := by
  unfold defF
  rw [if_pos h1, h]
theorem le_sz {n : Nat} (h : n ≤ 1000) : n ≤ sizeLine := Nat.le_of_lt (small1000 h)
theorem loop_nx {t : Tg} {body : Env → Out} (I : Nat → Env → Prop) {ds : List D} : ∀ (n : Nat) {ρ : Env}, n ≤ ds.length → I n ρ →
    (∀ i d ρ, ds[i]? = some d → I i ρ → ∃ ρ1 ρ2, bindT t d ρ = some ρ1 ∧ (body ρ1 = .nx ρ2 ∨ body ρ1 = .ct ρ2) ∧ I (i + 1) ρ2) → ∃ ρ', loopF t body (ds.drop n) ρ = .nx ρ' ∧ I ds.length ρ' := by
  intro n
  generalize hk : ds.length - n = k
  induction k generalizing n with
  | zero =>
    intro ρ hn h st
    have e : n = ds.length := by omega
    subst e
    rw [List.drop_length]
    exact ⟨ρ, rfl, h⟩
  | succ k ih =>
    intro ρ hn h st
    have hlt : n < ds.length := by omega
    obtain ⟨ρ1, ρ2, h1, h2, h3⟩ := st n ds[n] ρ (List.getElem?_eq_getElem hlt) h
    obtain ⟨ρ', h4, h5⟩ := ih (n + 1) (by omega) hlt h3 st
    refine ⟨ρ', ?_, h5⟩
    rw [List.drop_eq_getElem_cons hlt]
    unfold loopF
    rw [h1]
    dsimp only
    rcases h2 with h2 | h2 <;> (rw [h2]; exact h4)
theorem loop_all {t : Tg} {body : Env → Out} (I : Nat → Env → Prop) {ds : List D} {ρ : Env} (h : I 0 ρ) (st : ∀ i d ρ, ds[i]? = some d → I i ρ → ∃ ρ1 ρ2, bindT t d ρ = some ρ1 ∧ (body ρ1 = .nx ρ2 ∨ body ρ1 = .ct ρ2) ∧ I (i + 1) ρ2) :
    ∃ ρ', loopF t body ds ρ = .nx ρ' ∧ I ds.length ρ' := loop_nx I 0 (Nat.zero_le _) h st
theorem rng_1 {n : Int} (h1 : -2 ^ 62 ≤ n) (h2 : n < 2 ^ 62) : rngA [.dat (.int n)] = .ok (rng 0 n) := by
  unfold rngA
  dsimp only
  rw [if_pos ⟨h1, h2⟩]
theorem cat_tt {P Q : List D} (h : P.length + Q.length ≤ 1000) : addB (.dat (.tup P)) (.dat (.tup Q)) = .ok (.dat (.tup (P ++ Q))) := by
  show (if P.length + Q.length ≤ sizeLine then (.ok (.dat (.tup (P ++ Q))) : Res B) else .bad) = _
  exact if_pos (le_sz h)
theorem cut_take {α : Type} (xs : List α) (n : Nat) : cutL xs none (some (n : Int)) = xs.take n := by
  unfold cutL
  rw [HT.sIx_none, HT.sIx_nat, List.drop_zero, Nat.sub_zero, ← List.take_take, List.take_length]
abbrev txs (xs : List Str) : List D := xs.map D.str
abbrev Lays (xs : List Str) : Prop := ∀ x ∈ xs, PyData.strOk x = true
theorem lay_strs : ∀ {xs : List Str}, Lays xs → PyData.canLayAll0 (toPys (txs xs)) = true ∧ PyData.depthAll (toPys (txs xs)) = 0
  | [], _ => ⟨rfl, rfl⟩
  | x :: xs, h => by
    obtain ⟨h1, h2⟩ := lay_strs (xs := xs) fun y hy => h y (List.mem_cons_of_mem _ hy)
    show (PyData.canLay0 (.str x) && PyData.canLayAll0 (toPys (txs xs))) = true ∧ Nat.max (PyData.depth (.str x)) (PyData.depthAll (toPys (txs xs))) = 0
    rw [h1, h2]
    simp only [PyData.canLay0, PyData.depth, h x List.mem_cons_self]
    exact ⟨rfl, rfl⟩
theorem shaped_str {x : Str} (h : PyData.strOk x = true) : SeqAt.shaped (toPy (.str x)) = true := by
  show (PyData.canLay0 (.str x) && decide (PyData.depth (.str x) ≤ 64)) = true
  simp only [PyData.canLay0, PyData.depth, h]
  rfl
theorem shaped_strs {xs : List Str} (h : Lays xs) : SeqAt.shaped (.tuple (toPys (txs xs))) = true ∧ SeqAt.shaped (.list (toPys (txs xs))) = true := by
  obtain ⟨h1, h2⟩ := lay_strs h
  constructor
  · show (PyData.canLay0 (.tuple _) && decide (PyData.depth (.tuple _) ≤ 64)) = true
    simp only [PyData.canLay0, PyData.depth, h1, h2]
    rfl
  · show (PyData.canLay0 (.list _) && decide (PyData.depth (.list _) ≤ 64)) = true
    simp only [PyData.canLay0, PyData.depth, h1, h2]
    rfl
theorem in_strs {x : Str} {xs : List Str} (hx : PyData.strOk x = true) (h : Lays xs) : inB false (.dat (.str x)) (.dat (.tup (txs xs))) = .ok (.dat (.bl (decide (x ∈ xs)))) := by
  show ((inSeq (.str x) (txs xs) true).bind fun k => (.ok (.dat (.bl (k != false))) : Res B)) = _
  unfold inSeq
  rw [if_pos (by rw [Bool.and_eq_true]; exact ⟨shaped_str hx, (shaped_strs h).2⟩), Res.ok_bind]
  congr 3
  rw [Bool.bne_false]
  induction xs with
  | nil => rfl
  | cons y ys ih =>
    show (PyData.eqv (.str y) (.str x) || (txs ys).any _) = _
    rw [ih fun z hz => h z (List.mem_cons_of_mem _ hz)]
    simp only [PyData.eqv, List.mem_cons]
    by_cases e : y = x
    · subst e; simp
    · have e' : ¬ x = y := fun z => e z.symm
      simp [e, e']
theorem leD_law : PySem.W.TotalLe leD := PySem.W.sortLe_total (PyProof.Rows.listOrd PyProof.Rows.itemOrd) false fun b : D => PySem.W.keyToks (toPy b)
theorem leD_iff {a b : D} : leD a b = true ↔ PyProof.Rows.lexLt PyProof.Rows.itemOrd (PySem.W.keyToks (toPy b)) (PySem.W.keyToks (toPy a)) = false := by
  show (!PyProof.Rows.lexLt PyProof.Rows.itemOrd _ _) = true ↔ _
  rw [Bool.not_eq_true']
theorem leD_anti {a b : D} (h1 : leD a b = true) (h2 : leD b a = true) : PySem.W.keyToks (toPy a) = PySem.W.keyToks (toPy b) :=
  PyProof.Rows.lex_total _ _ (leD_iff.mp h2) (leD_iff.mp h1)
theorem sortD_pair (ds : List D) : (ds.mergeSort leD).Pairwise fun a b => leD a b = true :=
  List.pairwise_mergeSort leD_law.trans (fun a b => by rw [Bool.or_eq_true]; exact leD_law.total a b) ds
theorem leD_str {x y : Str} (h1 : leD (.str x) (.str y) = true) (h2 : leD (.str y) (.str x) = true) : x = y := by
  have e := leD_anti h1 h2
  simp only [toPy, PySem.W.keyToks, List.cons.injEq, Sum.inr.injEq, and_true] at e
  exact PySem.W.str_of_cps e
theorem txs_of : ∀ {ds : List D}, (∀ d ∈ ds, ∃ x, d = .str x) → ∃ xs, ds = txs xs
  | [], _ => ⟨[], rfl⟩
  | d :: ds, h => by
    obtain ⟨x, rfl⟩ := h d List.mem_cons_self
    obtain ⟨xs, rfl⟩ := txs_of fun e he => h e (List.mem_cons_of_mem _ he)
    exact ⟨x :: xs, rfl⟩
def unS : D → Str
  | .str x => x
  | _ => Str.empty
theorem unS_txs (xs : List Str) : (txs xs).map unS = xs := by
  rw [List.map_map]
  exact List.map_id' xs
theorem txs_perm {xs ys : List Str} (h : (txs xs).Perm (txs ys)) : xs.Perm ys := by
  have := h.map unS
  rw [unS_txs, unS_txs] at this
  exact this
theorem sortOk_txs {xs : List Str} (h : Lays xs) : sortOk (txs xs) = true := by
  unfold sortOk
  rw [toPys_map]
  simp only [Bool.and_eq_true, Bool.or_eq_true, List.all_eq_true, List.mem_map]
  refine ⟨?_, ?_, .inr ?_⟩
  · rintro _ ⟨_, ⟨x, hx, rfl⟩, rfl⟩
    exact shaped_str (h x hx)
  · rintro _ ⟨_, ⟨x, hx, rfl⟩, rfl⟩ _ ⟨_, ⟨y, hy, rfl⟩, rfl⟩
    simp [toPy, PySem.W.alike]
  · rintro _ ⟨_, ⟨x, hx, rfl⟩, rfl⟩
    rfl
end Fn
namespace Fn
open PySem PySem.Spec PyProof.Rows L2
section
variable {ρ ρ' : Env} {f h : Env → Out} {fa fb fc : Env → Res B} {fs : Env → Res (List B)} {i j k : Nat} {b x y : B} {c c' : Nat} {d : D} {m : M} {ds : List D} {bs : List B} {ns : List Int}
def Out.sq (o : Out) (h : Env → Out) : Out := match o with
  | .nx ρ => h ρ
  | o => o
theorem e_seq : seqS f h ρ = (f ρ).sq h := by unfold seqS Out.sq; cases f ρ <;> rfl
theorem sq_nx : (Out.nx ρ).sq h = h ρ := (rfl)
theorem sq_rt : (Out.rt b).sq h = .rt b := (rfl)
theorem sq_bk : (Out.bk ρ).sq h = .bk ρ := (rfl)
theorem sq_ct : (Out.ct ρ).sq h = .ct ρ := (rfl)
theorem sq_exc : (Out.exc c ρ).sq h = .exc c ρ := (rfl)
def thenK (r : Res B) (k : B → Env → Out) (ρ : Env) : Out := match r with
  | .ok b => k b ρ
  | .exc c => .exc c ρ
  | .bad => .bad
variable {kk : B → Env → Out}
theorem e_then : thenS fa kk ρ = thenK (fa ρ) kk ρ := (rfl)
theorem then_ok : thenK (.ok b) kk ρ = kk b ρ := (rfl)
theorem then_exc : thenK (.exc c) kk ρ = .exc c ρ := (rfl)
theorem set_dat : setV i (.dat d) ρ = .nx (ρ.set i (some (.dat d))) := (rfl)
theorem set_own : setV i (.own m) ρ = .nx (ρ.set i (some (.own m))) := (rfl)
theorem set_bor : setV i (.bor m) ρ = .nx (ρ.set i (some (.bor m))) := (rfl)
theorem set_scr : setV i (.scr ns) ρ = .nx (ρ.set i (some (.scr ns))) := (rfl)
def setL (i : Nat) (b : B) (ρ : Env) : Out := match setV i b ρ with
  | .nx ρ' => .nx (lockE i ρ')
  | o => o
theorem ret_dat : retV (.dat d) ρ = .rt (.dat d) := (rfl)
theorem ret_own : retV (.own m) ρ = .rt (.own m) := (rfl)
theorem rd_dat : rd (.dat d) = .dat d := (rfl)
theorem rd_own : rd (.own m) = .dat (frzM m) := (rfl)
theorem rd_vw : rd (.vw m) = .vw m := (rfl)
theorem rd_bor : rd (.bor m) = .bor m := (rfl)
theorem rd_scr : rd (.scr ns) = .scr ns := (rfl)
theorem frz_l : frzM (.l ds) = .lst ds := (rfl)
theorem frz_k {kvs : List (Key × D)} : frzM (.k kvs) = .dk kvs := (rfl)
theorem frz_t {kvs : List (List Key × D)} : frzM (.t kvs) = .dt kvs := (rfl)
def look (o : Option (Option B)) : Res B := match o with
  | some (some (.dat d)) => .ok (.dat d)
  | some (some (.own m)) => .ok (.vw m)
  | some (some (.bor m)) => .ok (.bor m)
  | some (some (.scr ns)) => .ok (.scr ns)
  | some (some (.err c)) => .ok (.err c)
  | _ => .bad
theorem e_var : varB i ρ = look ρ[i]? := (rfl)
theorem look_dat : look (some (some (.dat d))) = .ok (.dat d) := (rfl)
theorem look_own : look (some (some (.own m))) = .ok (.vw m) := (rfl)
theorem look_bor : look (some (some (.bor m))) = .ok (.bor m) := (rfl)
theorem look_scr : look (some (some (.scr ns))) = .ok (.scr ns) := (rfl)
theorem look_err : look (some (some (.err c))) = .ok (.err c) := (rfl)
theorem rd_err : rd (.err c) = .err c := (rfl)
theorem arg_err : toArg (.err c) = .err c := (rfl)
theorem set_err : setV i (.err c) ρ = .nx (ρ.set i (some (.err c))) := (rfl)
def lookN (o : Option (Option B)) : Out := match o with
  | some (some (.dat d)) => .rt (.dat d)
  | some (some (.own m)) => .rt (.own m)
  | _ => .bad
theorem e_retN : retN i ρ = lookN ρ[i]? := (rfl)
theorem lookN_dat : lookN (some (some (.dat d))) = .rt (.dat d) := (rfl)
theorem lookN_own : lookN (some (some (.own m))) = .rt (.own m) := (rfl)
def bin2K (f : B → B → Res B) (ra rb : Res B) : Res B := ra.bind fun x => rb.bind fun y => f (rd x) (rd y)
variable {f2 : B → B → Res B} {f1 : B → Res B} {r ra rb : Res B}
theorem e_bin2 : bin2 f2 fa fb ρ = bin2K f2 (fa ρ) (fb ρ) := (rfl)
theorem bin2_ok : bin2K f2 (.ok x) (.ok y) = f2 (rd x) (rd y) := (rfl)
theorem bin2_exc : bin2K f2 (.exc c) rb = .exc c := (rfl)
theorem bin2_exc2 : bin2K f2 (.ok x) (.exc c) = .exc c := (rfl)
def one1K (f : B → Res B) (r : Res B) : Res B := r.bind fun x => f (rd x)
theorem e_one1 : one1 f1 fa ρ = one1K f1 (fa ρ) := (rfl)
theorem one1_ok : one1K f1 (.ok x) = f1 (rd x) := (rfl)
theorem one1_exc : one1K f1 (.exc c) = .exc c := (rfl)
def consK (ra : Res B) (rs : Res (List B)) : Res (List B) := ra.bind fun x => rs.bind fun xs => .ok (rd x :: xs)
theorem e_cons : consA fa fs ρ = consK (fa ρ) (fs ρ) := (rfl)
theorem cons_okK : consK (.ok x) (.ok bs) = .ok (rd x :: bs) := (rfl)
theorem cons_exc {rs : Res (List B)} : consK (.exc c) rs = .exc c := (rfl)
theorem cons_exc2 : consK (.ok x) (.exc c) = .exc c := (rfl)
theorem e_nil : nilA ρ = .ok [] := (rfl)
variable {g : List B → Res B}
theorem e_call : callF g fs ρ = (fs ρ).bind g := (rfl)
theorem bnd_ok {α β : Type} {a : α} {f : α → Res β} : (Res.ok a).bind f = f a := (rfl)
theorem bnd_exc {α β : Type} {f : α → Res β} : (Res.exc c : Res α).bind f = .exc c := (rfl)
def callE (en : En) (bs : List B) : Res B := (lenA en.n bs).bind (callV en)
theorem e_own {en : En} : ownF en fs ρ = (fs ρ).bind (callE en) := (rfl)
theorem arg_dat : toArg (.dat d) = .dat d := (rfl)
theorem arg_vw : toArg (.vw m) = .bor m := (rfl)
theorem arg_bor : toArg (.bor m) = .bor m := (rfl)
theorem arg_scr : toArg (.scr ns) = .scr ns := (rfl)
theorem retB_dat : retB (.dat d) = .ok (.dat d) := (rfl)
theorem retB_own : retB (.own m) = .ok (.own m) := (rfl)
theorem e_tst : tstF fa ρ = (fa ρ).bind tstB := (rfl)
theorem tst_bl {v : Bool} : tstB (.dat (.bl v)) = .ok v := (rfl)
def testK (r : Res B) : Res Bool := r.bind fun x => truB (rd x)
theorem e_testV : testV fa ρ = testK (fa ρ) := (rfl)
theorem test_ok : testK (.ok x) = truB (rd x) := (rfl)
theorem test_exc : testK (.exc c) = .exc c := (rfl)
theorem tru_bl {v : Bool} : truB (.dat (.bl v)) = .ok v := (rfl)
theorem tru_int {n : Int} : truB (.dat (.int n)) = .ok (n != 0) := (rfl)
theorem tru_non : truB (.dat .non) = .ok false := (rfl)
theorem tru_tup : truB (.dat (.tup ds)) = .ok (!ds.isEmpty) := (rfl)
theorem tru_lst : truB (.dat (.lst ds)) = .ok (!ds.isEmpty) := (rfl)
theorem tru_vw : truB (.vw (.l ds)) = .ok (!ds.isEmpty) := (rfl)
variable {t u : Env → Res Bool} {s : Res Bool} {p q : Bool}
def notK (r : Res Bool) : Res Bool := r.bind fun k => .ok !k
theorem e_notT : notT t ρ = notK (t ρ) := (rfl)
theorem notK_ok : notK (.ok p) = .ok !p := (rfl)
theorem notK_exc : notK (.exc c) = .exc c := (rfl)
def andTK (r : Res Bool) (u : Env → Res Bool) (ρ : Env) : Res Bool := r.bind fun k => if k = true then u ρ else .ok false
def orTK (r : Res Bool) (u : Env → Res Bool) (ρ : Env) : Res Bool := r.bind fun k => if k = true then .ok true else u ρ
theorem e_and : andT t u ρ = andTK (t ρ) u ρ := by unfold andT andTK; cases t ρ <;> first | rfl | (rename_i a; cases a <;> rfl)
theorem e_or : orT t u ρ = orTK (t ρ) u ρ := by unfold orT orTK; cases t ρ <;> first | rfl | (rename_i a; cases a <;> rfl)
theorem and_t : andTK (.ok true) u ρ = u ρ := (rfl)
theorem and_f : andTK (.ok false) u ρ = .ok false := (rfl)
theorem or_t : orTK (.ok true) u ρ = .ok true := (rfl)
theorem or_f : orTK (.ok false) u ρ = u ρ := (rfl)
theorem and_exc : andTK (.exc c) u ρ = .exc c := (rfl)
theorem or_exc : orTK (.exc c) u ρ = .exc c := (rfl)
def iteVK (r : Res Bool) (fa fb : Env → Res B) (ρ : Env) : Res B := r.bind fun k => if k = true then fa ρ else fb ρ
theorem e_iteV : iteV t fa fb ρ = iteVK (t ρ) fa fb ρ := by unfold iteV iteVK; cases t ρ <;> first | rfl | (rename_i a; cases a <;> rfl)
theorem iteV_t : iteVK (.ok true) fa fb ρ = fa ρ := (rfl)
theorem iteV_f : iteVK (.ok false) fa fb ρ = fb ρ := (rfl)
def andVK (r : Res B) (fb : Env → Res B) (ρ : Env) : Res B := r.bind fun x => match x with
  | .dat (.bl true) => fb ρ
  | .dat (.bl false) => .ok (.dat (.bl false))
  | _ => .bad
def orVK (r : Res B) (fb : Env → Res B) (ρ : Env) : Res B := r.bind fun x => match x with
  | .dat (.bl false) => fb ρ
  | .dat (.bl true) => .ok (.dat (.bl true))
  | _ => .bad
theorem e_andV : andV fa fb ρ = andVK (fa ρ) fb ρ := (rfl)
theorem e_orV : orV fa fb ρ = orVK (fa ρ) fb ρ := (rfl)
theorem andV_t : andVK (.ok (.dat (.bl true))) fb ρ = fb ρ := (rfl)
theorem andV_f : andVK (.ok (.dat (.bl false))) fb ρ = .ok (.dat (.bl false)) := (rfl)
theorem andV_exc : andVK (.exc c) fb ρ = .exc c := (rfl)
theorem orV_t : orVK (.ok (.dat (.bl true))) fb ρ = .ok (.dat (.bl true)) := (rfl)
theorem orV_f : orVK (.ok (.dat (.bl false))) fb ρ = fb ρ := (rfl)
theorem orV_exc : orVK (.exc c) fb ρ = .exc c := (rfl)
def iteSK (r : Res Bool) (f h : Env → Out) (ρ : Env) : Out := match r with
  | .ok k => if k = true then f ρ else h ρ
  | .exc c => .exc c ρ
  | .bad => .bad
theorem e_iteS : iteS t f h ρ = iteSK (t ρ) f h ρ := (rfl)
theorem iteS_t : iteSK (.ok true) f h ρ = f ρ := (rfl)
theorem iteS_f : iteSK (.ok false) f h ρ = h ρ := (rfl)
theorem iteS_exc : iteSK (.exc c) f h ρ = .exc c ρ := (rfl)
def itK (lk : Bool) (r : Res B) : Res (List D) := r.bind fun x => itemsB lk (rd x)
variable {lk : Bool}
theorem e_it : itF lk fa ρ = itK lk (fa ρ) := (rfl)
theorem itK_ok : itK lk (.ok x) = itemsB lk (rd x) := (rfl)
theorem itK_exc : itK lk (.exc c) = .exc c := (rfl)
theorem it_tup : itemsB lk (.dat (.tup ds)) = .ok ds := (rfl)
theorem it_ctup : itemsB lk (.dat (.ctup ds)) = .ok ds := (rfl)
theorem it_lst : itemsB lk (.dat (.lst ds)) = .ok ds := (rfl)
theorem it_bor : itemsB lk (.bor (.l ds)) = .ok ds := (rfl)
theorem it_vw : itemsB true (.vw (.l ds)) = .ok ds := (rfl)
theorem it_scr : itemsB lk (.scr ns) = .ok (ns.map .int) := (rfl)
theorem it_str {z : Str} : itemsB lk (.dat (.str z)) = .ok (z.cps.toList.map fun c => .str ⟨#[c]⟩) := (rfl)
noncomputable def rgZ : List B → Res (List D) := Classical.choose (⟨rngA, rfl⟩ : ∃ f, f = rngA)
theorem rgZ_eq : rgZ = rngA := Classical.choose_spec (⟨rngA, rfl⟩ : ∃ f, f = rngA)
noncomputable def shlZ : B → B → Res B := Classical.choose (⟨shlB, rfl⟩ : ∃ f, f = shlB)
theorem e_shl : shlB = shlZ := (Classical.choose_spec (⟨shlB, rfl⟩ : ∃ f, f = shlB)).symm
noncomputable def powZ : B → B → Res B := Classical.choose (⟨powB, rfl⟩ : ∃ f, f = powB)
theorem e_pow : powB = powZ := (Classical.choose_spec (⟨powB, rfl⟩ : ∃ f, f = powB)).symm
theorem e_rg : rgF fs ρ = (fs ρ).bind rgZ := by rw [rgZ_eq]; rfl
theorem e_noP : noP ρ = .ok none := (rfl)
theorem e_atP : atP fa ρ = (fa ρ).bind partB := (rfl)
theorem part_int {n : Int} : partB (.dat (.int n)) = .ok (some n) := (rfl)
def slcK (r : Res B) (rl rh : Res (Option Int)) : Res B := r.bind fun x => rl.bind fun l => rh.bind fun h => sliceB (rd x) l h
variable {fl fh : Env → Res (Option Int)} {lo hi : Option Int}
theorem e_slc : slcV fa fl fh ρ = slcK (fa ρ) (fl ρ) (fh ρ) := (rfl)
theorem slc_okK : slcK (.ok x) (.ok lo) (.ok hi) = sliceB (rd x) lo hi := (rfl)
variable {tg : Tg} {it : Env → Res (List D)} {vs : List Nat}
def compD (tg : Tg) (t : Env → Res Bool) (fe : Env → Res B) (ρ : Env) (ds : List D) : Res B := if ds.length ≤ sizeLine then (mapC (stepC tg t fe ρ) ds).bind fun out => .ok (.own (.l out)) else .bad
def compK (tg : Tg) (t : Env → Res Bool) (fe : Env → Res B) (ρ : Env) (r : Res (List D)) : Res B := r.bind (compD tg t fe ρ)
theorem e_comp : compV tg it t fe vs ρ = compK tg t fe (wipeE ρ vs) (it ρ) := (rfl)
theorem compK_ok {fe : Env → Res B} : compK tg t fe ρ (.ok ds) = compD tg t fe ρ ds := (rfl)
theorem compK_exc {fe : Env → Res B} : compK tg t fe ρ (.exc c) = .exc c := (rfl)
theorem wipe_nil : wipeE ρ [] = ρ := (rfl)
theorem wipe_cons : wipeE ρ (i :: vs) = (wipeE ρ vs).set i none := (rfl)
def forK (tg : Tg) (body : Env → Out) (r : Res (List D)) (ρ : Env) : Out := match r with
  | .ok ds => loopF tg body ds ρ
  | .exc c => .exc c ρ
  | .bad => .bad
theorem e_for : forV tg it f ρ = forK tg f (it ρ) ρ := (rfl)
theorem forK_ok : forK tg f (.ok ds) ρ = loopF tg f ds ρ := (rfl)
theorem forK_exc : forK tg f (.exc c) ρ = .exc c ρ := (rfl)
def bindO (o : Option Env) : Out := match o with
  | some ρ' => .nx ρ'
  | none => .bad
theorem bindV_dat : bindV tg (.dat d) ρ = bindO (bindT tg d ρ) := (rfl)
theorem bindV_own : bindV tg (.own m) ρ = bindO (bindT tg (frzM m) ρ) := (rfl)
theorem bindO_some : bindO (some ρ) = .nx ρ := (rfl)
variable {is : List Nat}
theorem bt_one : bindT (.one i) d ρ = some (ρ.set i (some (.dat d))) := (rfl)
theorem bt_tup (h : ds.length = is.length) : bindT (.many is) (.tup ds) ρ = some (putMany is ds ρ) := if_pos h
theorem bt_ctup (h : ds.length = is.length) : bindT (.many is) (.ctup ds) ρ = some (putMany is ds ρ) := if_pos h
theorem bt_lst (h : ds.length = is.length) : bindT (.many is) (.lst ds) ρ = some (putMany is ds ρ) := if_pos h
theorem pm_nil : putMany [] ds ρ = ρ := (rfl)
theorem pm_nil2 : putMany is [] ρ = ρ := by cases is <;> rfl
theorem pm_cons : putMany (i :: is) (d :: ds) ρ = putMany is ds (ρ.set i (some (.dat d))) := (rfl)
def par2K (i j : Nat) (ra rb : Res B) (ρ : Env) : Out := match ra with
  | .ok x => (match rb with
    | .ok y => if (okV x && okV y) = true then .nx ((ρ.set i (some x)).set j (some y)) else .bad
    | .exc c => .exc c ρ
    | .bad => .bad)
  | .exc c => .exc c ρ
  | .bad => .bad
theorem e_par2 : par2 i j fa fb ρ = par2K i j (fa ρ) (fb ρ) ρ := (rfl)
variable {d' : D} {m' : M}
theorem par2_dd : par2K i j (.ok (.dat d)) (.ok (.dat d')) ρ = .nx ((ρ.set i (some (.dat d))).set j (some (.dat d'))) := (rfl)
theorem par2_od : par2K i j (.ok (.own m)) (.ok (.dat d')) ρ = .nx ((ρ.set i (some (.own m))).set j (some (.dat d'))) := (rfl)
theorem par2_do : par2K i j (.ok (.dat d)) (.ok (.own m')) ρ = .nx ((ρ.set i (some (.dat d))).set j (some (.own m'))) := (rfl)
theorem par2_oo : par2K i j (.ok (.own m)) (.ok (.own m')) ρ = .nx ((ρ.set i (some (.own m))).set j (some (.own m'))) := (rfl)
def lockO (i : Nat) (ρ : Env) (o : Option (Option B)) : Env := match o with
  | some (some (.own m)) => ρ.set i (some (.dat (frzM m)))
  | _ => ρ
theorem e_lock : lockE i ρ = lockO i ρ ρ[i]? := by
  unfold lockE lockO ownAt
  split <;> split <;> first | rfl | (rename_i h1 _ _ h2; rw [h2] at h1; simp_all) | simp_all
theorem lock_own : lockO i ρ (some (some (.own m))) = ρ.set i (some (.dat (frzM m))) := (rfl)
theorem lock_dat : lockO i ρ (some (some (.dat d))) = ρ := (rfl)
theorem lock_bor : lockO i ρ (some (some (.bor m))) = ρ := (rfl)
theorem lock_none : lockO i ρ (some none) = ρ := (rfl)
theorem e_lockS : lockS i f ρ = f (lockE i ρ) := (rfl)
theorem setL_dat (h : i < ρ.length) : setL i (.dat d) ρ = .nx (ρ.set i (some (.dat d))) := by
  unfold setL
  rw [set_dat]
  dsimp only
  rw [e_lock, List.getElem?_set_self h]
  rfl
theorem setL_own (h : i < ρ.length) : setL i (.own m) ρ = .nx (ρ.set i (some (.dat (frzM m)))) := by
  unfold setL
  rw [set_own]
  dsimp only
  rw [e_lock, List.getElem?_set_self h]
  show Out.nx ((ρ.set i _).set i _) = _
  rw [List.set_set]
theorem setL_bor (h : i < ρ.length) : setL i (.bor m) ρ = .nx (ρ.set i (some (.bor m))) := by
  unfold setL
  rw [set_bor]
  dsimp only
  rw [e_lock, List.getElem?_set_self h]
  rfl
theorem outR_nx : outR (.nx ρ) = .ok (.dat .non) := (rfl)
theorem outR_rt : outR (.rt b) = .ok b := (rfl)
theorem outR_exc : outR (.exc c ρ) = .exc c := (rfl)
theorem e_litI {n : Int} : litI n ρ = .ok (.dat (.int n)) := (rfl)
theorem e_litS {z : Str} : litS z ρ = .ok (.dat (.str z)) := (rfl)
theorem e_litB : litB p ρ = .ok (.dat (.bl p)) := (rfl)
theorem e_litN : litN ρ = .ok (.dat .non) := (rfl)
theorem e_litD : litD d ρ = .ok (.dat d) := (rfl)
theorem e_newK : newK ρ = .ok (.own (.k [])) := (rfl)
theorem e_newT : newT ρ = .ok (.own (.t [])) := (rfl)
theorem e_nx : nxS ρ = .nx ρ := (rfl)
theorem e_bk : bkS ρ = .bk ρ := (rfl)
theorem e_ct : ctS ρ = .ct ρ := (rfl)
theorem e_rtN : rtN ρ = .rt (.dat .non) := (rfl)
theorem e_yes : yesF ρ = .ok true := (rfl)
def ownOf (o : Option (Option B)) : Option M := match o with
  | some (some (.own m)) => some m
  | _ => none
def appK (i : Nat) (o : Option M) (r : Res B) (ρ : Env) : Out := match o with
  | some (.l ds) => (match r with
    | .ok b => (match rd b with
      | .dat d => if ds.length < sizeLine then .nx (ρ.set i (some (.own (.l (ds ++ [d]))))) else .bad
      | _ => .bad)
    | .exc c => .exc c ρ
    | .bad => .bad)
  | _ => .bad
theorem e_app : appV i fa ρ = appK i (ownOf ρ[i]?) (fa ρ) ρ := (rfl)
theorem own_of : ownOf (some (some (.own m))) = some m := (rfl)
theorem app_dat (h : ds.length < sizeLine) : appK i (some (.l ds)) (.ok (.dat d)) ρ = .nx (ρ.set i (some (.own (.l (ds ++ [d]))))) := if_pos h
theorem app_own (h : ds.length < sizeLine) : appK i (some (.l ds)) (.ok (.own m)) ρ = .nx (ρ.set i (some (.own (.l (ds ++ [frzM m]))))) := if_pos h
theorem app_exc : appK i (some (.l ds)) (.exc c) ρ = .exc c ρ := (rfl)
def putK (i : Nat) (rv : Res B) (o : Option M) (rk : Res B) (ρ : Env) : Out := match rv with
  | .ok b => (match rd b, o, rk with
    | .dat d, some m, .ok k => (match storeM m (rd k) d with
      | some m' => .nx (ρ.set i (some (.own m')))
      | none => .bad)
    | .dat _, some _, .exc c => .exc c ρ
    | _, _, _ => .bad)
  | .exc c => .exc c ρ
  | .bad => .bad
theorem e_put : putS i fa fb ρ = putK i (fb ρ) (ownOf ρ[i]?) (fa ρ) ρ := (rfl)
def putO (i : Nat) (o : Option M) (ρ : Env) : Out := match o with
  | some m' => .nx (ρ.set i (some (.own m')))
  | none => .bad
theorem put_dat : putK i (.ok (.dat d)) (some m) (.ok x) ρ = putO i (storeM m (rd x) d) ρ := (rfl)
theorem put_own : putK i (.ok (.own m')) (some m) (.ok x) ρ = putO i (storeM m (rd x) (frzM m')) ρ := (rfl)
theorem putO_some : putO i (some m) ρ = .nx (ρ.set i (some (.own m))) := (rfl)
variable {fe : Env → Res B}
theorem mapC_nil {g : D → Res (Option D)} : mapC g [] = .ok [] := (rfl)
def consC (r : Res (Option D)) (rs : Res (List D)) : Res (List D) := r.bind fun o => rs.bind fun xs => .ok (o.toList ++ xs)
theorem mapC_cons {g : D → Res (Option D)} : mapC g (d :: ds) = consC (g d) (mapC g ds) := (rfl)
theorem consC_ok {o : Option D} : consC (.ok o) (.ok ds) = .ok (o.toList ++ ds) := (rfl)
def stepV (r : Res Bool) (fe : Env → Res B) (ρ : Env) : Res (Option D) := match r with
  | .ok true => (match fe ρ with
    | .ok b => datOnly (rd b)
    | _ => .bad)
  | .ok false => .ok none
  | _ => .bad
def stepK (o : Option Env) (t : Env → Res Bool) (fe : Env → Res B) : Res (Option D) := match o with
  | none => .bad
  | some ρ1 => stepV (t ρ1) fe ρ1
theorem e_step : stepC tg t fe ρ d = stepK (bindT tg d ρ) t fe := (rfl)
theorem stepK_some : stepK (some ρ) t fe = stepV (t ρ) fe ρ := (rfl)
def datR (r : Res B) : Res (Option D) := match r with
  | .ok b => datOnly (rd b)
  | _ => .bad
theorem stepV_t : stepV (.ok true) fe ρ = datR (fe ρ) := (rfl)
theorem stepV_f : stepV (.ok false) fe ρ = .ok none := (rfl)
theorem datR_dat : datR (.ok (.dat d)) = .ok (some d) := (rfl)
theorem datR_own : datR (.ok (.own m)) = .ok (some (frzM m)) := (rfl)
theorem loop_nil : loopF tg f [] ρ = .nx ρ := (rfl)
def loopK (o : Out) (tg : Tg) (body : Env → Out) (ds : List D) : Out := match o with
  | .nx ρ2 => loopF tg body ds ρ2
  | .ct ρ2 => loopF tg body ds ρ2
  | .bk ρ2 => .nx ρ2
  | .rt b => .rt b
  | .exc c ρ2 => .exc c ρ2
  | .bad => .bad
theorem loop_one (h : bindT tg d ρ = some ρ') : loopF tg f (d :: ds) ρ = loopK (f ρ') tg f ds := by
  conv => lhs; unfold loopF
  rw [h]
  rfl
theorem lk_nx : loopK (.nx ρ) tg f ds = loopF tg f ds ρ := (rfl)
theorem lk_ct : loopK (.ct ρ) tg f ds = loopF tg f ds ρ := (rfl)
theorem lk_bk : loopK (.bk ρ) tg f ds = .nx ρ := (rfl)
theorem lk_rt : loopK (.rt b) tg f ds = .rt b := (rfl)
theorem lk_exc : loopK (.exc c ρ) tg f ds = .exc c ρ := (rfl)
section
variable {α : Type} {as : List α} {e : α → D}
theorem mapC_if (k : α → Bool) (h : α → D) : ∀ {as : List α}, (∀ a ∈ as, stepC tg t fe ρ (e a) = .ok (if k a = true then some (h a) else none)) → mapC (stepC tg t fe ρ) (as.map e) = .ok ((as.filter k).map h)
  | [], _ => rfl
  | a :: as, hs => by
    rw [List.map_cons, mapC_cons, hs a List.mem_cons_self, mapC_if k h fun b hb => hs b (List.mem_cons_of_mem _ hb), consC_ok, List.filter_cons]
    cases k a <;> rfl
theorem compD_if (k : α → Bool) (h : α → D) (hl : as.length ≤ sizeLine) (hs : ∀ a ∈ as, stepC tg t fe ρ (e a) = .ok (if k a = true then some (h a) else none)) :
    compD tg t fe ρ (as.map e) = .ok (.own (.l ((as.filter k).map h))) := by
  unfold compD
  rw [if_pos (by rw [List.length_map]; exact hl), mapC_if k h hs]
  rfl
theorem compD_all (h : α → D) (hl : as.length ≤ sizeLine) (hs : ∀ a ∈ as, stepC tg t fe ρ (e a) = .ok (some (h a))) :
    compD tg t fe ρ (as.map e) = .ok (.own (.l (as.map h))) := by
  rw [compD_if (fun _ => true) h hl fun a ha => by rw [hs a ha]; rfl, List.filter_eq_self.mpr fun _ _ => rfl]
theorem compD_D (h : D → D) (hl : ds.length ≤ sizeLine) (hs : ∀ a ∈ ds, stepC tg t fe ρ a = .ok (some (h a))) :
    compD tg t fe ρ ds = .ok (.own (.l (ds.map h))) := by
  have := compD_all (e := id) h hl hs
  rwa [List.map_id] at this
theorem loop_same : ∀ {as : List α}, (∀ a ∈ as, ∃ ρ1, bindT tg (e a) ρ = some ρ1 ∧ (f ρ1 = .nx ρ ∨ f ρ1 = .ct ρ)) → loopF tg f (as.map e) ρ = .nx ρ
  | [], _ => rfl
  | a :: as, hs => by
    obtain ⟨ρ1, h1, h2⟩ := hs a List.mem_cons_self
    rw [List.map_cons, loop_one h1]
    have ih := loop_same fun b hb => hs b (List.mem_cons_of_mem _ hb)
    rcases h2 with h2 | h2 <;> rw [h2] <;> exact ih
theorem loop_any (p : α → Bool) : ∀ {as : List α}, (∀ a ∈ as, ∃ ρ1, bindT tg (e a) ρ = some ρ1 ∧ (f ρ1 = (if p a = true then .rt b else .nx ρ) ∨ f ρ1 = (if p a = true then .rt b else .ct ρ))) → loopF tg f (as.map e) ρ = if as.any p = true then .rt b else .nx ρ
  | [], _ => rfl
  | a :: as, hs => by
    obtain ⟨ρ1, h1, h2⟩ := hs a List.mem_cons_self
    rw [List.map_cons, loop_one h1, List.any_cons]
    have ih := loop_any p fun b hb => hs b (List.mem_cons_of_mem _ hb)
    rcases h2 with h2 | h2 <;> (rw [h2]; cases p a <;> simp only [Bool.true_or, Bool.false_or, if_true, Bool.false_eq_true, if_false, lk_rt, lk_nx, lk_ct]; exact ih)
theorem loop_fold {σ : Type} (enc : σ → Env) (st : σ → α → σ) (I : List α → σ → Prop) : ∀ {as : List α} {s : σ}, I as s → (∀ a as s, I (a :: as) s → I as (st s a) ∧ ∃ ρ1, bindT tg (e a) (enc s) = some ρ1 ∧ (f ρ1 = .nx (enc (st s a)) ∨ f ρ1 = .ct (enc (st s a)))) → loopF tg f (as.map e) (enc s) = .nx (enc (as.foldl st s)) ∧ I [] (as.foldl st s)
  | [], _, hi, _ => ⟨rfl, hi⟩
  | a :: as, s, hi, hs => by
    obtain ⟨h0, ρ1, h1, h2⟩ := hs a as s hi
    have ih := loop_fold enc st I h0 hs
    rw [List.map_cons, loop_one h1, List.foldl_cons]
    rcases h2 with h2 | h2 <;> (rw [h2]; exact ih)
end
def mapO (w : Env → Env) (o : Out) : Out := match o with
  | .nx ρ => .nx (w ρ)
  | .bk ρ => .bk (w ρ)
  | .ct ρ => .ct (w ρ)
  | o => o
def forget (ws : List Nat) (f : Env → Out) : Env → Out := fun ρ => mapO (fun ρ => wipeE ρ ws) (f ρ)
def fgK (ws : List Nat) (o : Out) : Out := mapO (fun ρ => wipeE ρ ws) o
theorem e_forget {ws : List Nat} : forget ws f ρ = fgK ws (f ρ) := (rfl)
theorem fg_nx {ws : List Nat} : fgK ws (.nx ρ) = .nx (wipeE ρ ws) := (rfl)
theorem fg_bk {ws : List Nat} : fgK ws (.bk ρ) = .bk (wipeE ρ ws) := (rfl)
theorem fg_ct {ws : List Nat} : fgK ws (.ct ρ) = .ct (wipeE ρ ws) := (rfl)
theorem fg_rt {ws : List Nat} : fgK ws (.rt b) = .rt b := (rfl)
theorem fg_exc {ws : List Nat} : fgK ws (.exc c ρ) = .exc c ρ := (rfl)
end
section
variable {g : G} {f : Env → Out} {X : Cx} {st : Stmt} {sts : List Stmt}
theorem St.fewer {F H : Hp} {σ : L2.St} {ρ : Env} (s : St g F H σ ρ) (i : Nat) : St g F H σ (ρ.set i none) := by
  refine ⟨s.gr, by simp [s.len], fun j b h => ?_, fun j k b1 b2 v1 v2 a hjk h1 h2 h3 h4 h5 h6 => ?_⟩
  · rcases set_some h with ⟨rfl, h1, h2⟩ | ⟨h1, h2⟩
    · cases h1
    · exact s.at_ j b h2
  · rcases set_some h1 with ⟨rfl, e1, l1⟩ | ⟨n1, e1⟩
    · cases e1
    rcases set_some h2 with ⟨rfl, e2, l2⟩ | ⟨n2, e2⟩
    · cases e2
    exact s.apart j k b1 b2 v1 v2 a hjk e1 e2 h3 h4 h5 h6
theorem St.fewers {F H : Hp} {σ : L2.St} : ∀ {ws : List Nat} {ρ : Env}, St g F H σ ρ → St g F H σ (wipeE ρ ws)
  | [], _, s => s
  | w :: ws, ρ, s => (St.fewers (ws := ws) s).fewer w
theorem post_forget {ws : List Nat} {E : Ends} {o : Out} (h : PostS g E (mapO (fun ρ => wipeE ρ ws) o)) : PostS g E o := by
  cases o with
  | nx ρ => exact fun σ F H s => h σ F H s.fewers
  | bk ρ => exact fun σ F H s => h σ F H s.fewers
  | ct ρ => exact fun σ F H s => h σ F H s.fewers
  | rt b => exact h
  | exc c ρ => exact h
  | bad => exact h
theorem fs_forget (ws : List Nat) (h : PS X st (tFS g f)) : PS X st (tFS g (forget ws f)) := PS.imp h fun E σ H ⟨F, ρ, s, p⟩ => ⟨F, ρ, s, post_forget p⟩
theorem fs_forgets (ws : List Nat) (h : PSs X sts (tFS g f)) : PSs X sts (tFS g (forget ws f)) := PSs.imp h fun E σ H ⟨F, ρ, s, p⟩ => ⟨F, ρ, s, post_forget p⟩
theorem post_lock {i : Nat} {E : Ends} {ρ : Env} (h : PostS g E (.nx (lockE i ρ))) : PostS g E (.nx ρ) := fun σ F H s => by
  unfold lockE at h
  cases e : ownAt ρ i with
  | none => rw [e] at h; exact h σ F H s
  | some m =>
    rw [e] at h
    obtain ⟨F', _, _, s'⟩ := s.lock (ownAt_ok e)
    exact h σ F' H s'
theorem fs_setL {fa : Env → Res B} {i : Nat} (h : PS X st (tFS g (thenS fa (setV i)))) : PS X st (tFS g (thenS fa (setL i))) := PS.imp h fun E σ H ⟨F, ρ, s, p⟩ => ⟨F, ρ, s, by
  unfold thenS at p ⊢
  cases e : fa ρ with
  | ok b =>
    rw [e] at p
    dsimp only at p ⊢
    unfold setL at p
    unfold setV at p ⊢
    split
    · rename_i hb
      rw [if_pos hb] at p
      exact post_lock p
    · rename_i hb
      rw [if_neg hb] at p
      exact p
  | exc c => rw [e] at p; exact p
  | bad => rw [e] at p; exact p⟩
end
end Fn
namespace HT
open PySem PySem.Spec PyProof.Rows
section
variable {prog : Program} {w : World} {A : Around} {E : Value → Shared → Prop} {s : Shared}
theorem fm_congr {α β : Type} {f g : α → Option β} : ∀ {l : List α}, (∀ a ∈ l, f a = g a) → l.filterMap f = l.filterMap g
  | [], _ => rfl
  | a :: l, h => by
    rw [List.filterMap_cons, List.filterMap_cons, h a List.mem_cons_self, fm_congr fun b hb => h b (List.mem_cons_of_mem _ hb)]
theorem adjust_back (n : Nat) : Builtin.Slice.sliceAdjust none none (-1) (n : Int) = ((n : Int) - 1, -1) := by
  unfold Builtin.Slice.sliceAdjust
  simp only [show ((-1 : Int) < 0) from by omega, if_true]
theorem places_back (n : Nat) : Builtin.Slice.slicePlaces ((n : Int) - 1) (-1) (-1) = n := by
  unfold Builtin.Slice.slicePlaces
  simp only [show ¬ ((-1 : Int) > 0) from by omega, if_false, Int.neg_neg, Int.ediv_one]
  split <;> omega
theorem pick_back (xs : Array Value) : ((List.range xs.size).filterMap fun (k : Nat) => xs[(((xs.size : Int) - 1) + (k : Int) * (-1)).toNat]?).toArray = xs.toList.reverse.toArray := by
  have e : ∀ k ∈ List.range xs.size, xs[(((xs.size : Int) - 1) + (k : Int) * (-1)).toNat]? = xs[xs.size - 1 - k]? := fun k hk => by
    have := List.mem_range.mp hk
    congr 1
    omega
  rw [fm_congr e]
  have := PySem.W.krv_range xs.size
  rw [← PySem.W.krv_all xs, ← List.filterMap_reverse, ← this, List.filterMap_map]
  rfl
theorem sliceApplied_back {sl : Addr} {vl vu vs : Value} {n : Nat} {Q : Int × Int × Nat → Shared → Prop} (hs : s.heap.IsSliceOf sl vl vu vs) (pl : IsPart vl none) (pu : IsPart vu none) (ps : IsPart vs (some (-1)))
    (h : Q ((n : Int) - 1, -1, n) s) : wpAny (model prog w) A (Builtin.Slice.sliceApplied (.ref sl) (pure (n : Int))) Q E s := by
  obtain ⟨os, hos, hcs, hds⟩ := id hs
  unfold Builtin.Slice.sliceApplied Builtin.Slice.sliceFields
  refine wpAny_bind (wpAny_bind (wpAny_field hos hds (x := vl) rfl (wpAny_bind (wpAny_field hos hds (x := vu) rfl (wpAny_bind (wpAny_field hos hds (x := vs) rfl (wpAny_pure ?_)))))))
  refine wpAny_bind (slicePart_ ps ?_)
  show wpAny _ _ (if ((-1 : Int) == 0) = true then _ else _) _ _ s
  rw [if_neg (by decide)]
  refine wpAny_bind (slicePart_ pl (wpAny_bind (slicePart_ pu (wpAny_bind (wpAny_pure ?_)))))
  show wpAny _ _ (match Builtin.Slice.sliceAdjust none none (-1) (n : Int) with | (lo, hi) => pure (lo, (-1 : Int), Builtin.Slice.slicePlaces lo hi (-1))) _ _ s
  rw [adjust_back n]
  show wpAny _ _ (pure ((n : Int) - 1, (-1 : Int), Builtin.Slice.slicePlaces ((n : Int) - 1) (-1) (-1))) _ _ s
  rw [places_back]
  exact wpAny_pure h
theorem getItem_tuple_back {t sl : Addr} {items : Array Value} {vl vu vs : Value} {Q : Value → Shared → Prop} (ht : IsTup s.heap t items) (hs : s.heap.IsSliceOf sl vl vu vs) (pl : IsPart vl none) (pu : IsPart vu none) (ps : IsPart vs (some (-1)))
    (h : Q (.ref s.heap.objs.size) { s with heap := s.heap.push { cls := .type "tuple", data := .seq items.toList.reverse.toArray } })
    (hsz : items.size ≤ sizeLine) : wpAny (model prog w) A (getItem (.ref t) (.ref sl)) Q E s := by
  have htake : sizeOk (.seq items.toList.reverse.toArray) := by
    show items.toList.reverse.toArray.size ≤ sizeLine
    rw [List.size_toArray, List.length_reverse, Array.length_toList]
    exact hsz
  obtain ⟨os, hos, hcs, hds⟩ := id hs
  have hTs : s.TypeIs (.ref sl) "slice" := ⟨os, hos, hcs⟩
  unfold getItem
  try with_reducible refine wpAny_holding ?_
  first | refine wpAny_bind (wpAny_pure ?_) | skip
  refine wpAny_bind (wpAny_sequenceKey ht.typeIs (by decide) ?_)
  refine wpAny_bind (wpAny_callSpecial?_slot (name := Str.ofString "__getitem__") ht.typeIs PyProof.Rows.slot_tuple_getitem
    (wpAny_call_entry PyProof.Rows.slot_tuple_getitem ht.typeIs entry_tuple_getitem ?_ (args_tuple_getitem _ _)))
  show wpAny _ _ (Builtin.Tuple.tupleItemsOf (.ref t) >>= _) _ _ s
  refine wpAny_bind (tupleItemsOf_ ht ?_)
  refine wpAny_bind (wpAny_typeOf hTs ?_)
  rw [if_pos (by decide)]
  refine wpAny_bind (sliceApplied_back hs pl pu ps ?_)
  show wpAny _ _ (if (((items.size : Int) - 1) == 0 && (-1 : Int) == 1 && items.size == items.size) = true then _ else _) _ _ s
  rw [if_neg (by rw [show ((-1 : Int) == 1) = false from rfl, Bool.and_false, Bool.false_and]; decide), pick_back]
  first
    | exact wpAny_bind (m := Builtin.Tuple.tupleExact _) (wpAny_newObj_type (wpAny_pure ⟨_, rfl, wpAny_pure h⟩) htake)
    | exact wpAny_bind (m := Builtin.Tuple.tupleExact _) (wpAny_newObj_type (wpAny_bind (wpAny_pure (wpAny_pure ⟨_, rfl, wpAny_pure h⟩))) htake)
    | exact wpAny_bind (wpAny_bind (m := Builtin.Tuple.tupleExact _) (wpAny_newObj_type (wpAny_pure (wpAny_pure ⟨_, rfl, wpAny_pure h⟩)) htake))
    | exact wpAny_bind (wpAny_bind (m := Builtin.Tuple.tupleExact _) (wpAny_newObj_type (wpAny_pure ⟨_, rfl, wpAny_pure h⟩) htake))
end
end HT
namespace Fn
open PySem PySem.Spec PyProof.Rows L2
section
variable {X : Cx} {g : G} {e : Expr} {te : TE} {pos : Pos}
def rBack (K : PySem.W.Frag) : V → Hp → VK → Prop := fun x H Q => ∃ a xs, x = .ref a ∧ ((SqL K H a xs ∧ ∀ p, H p = none → Q (.ref p) (upd H p (.lst xs.reverse))) ∨ (SqT K H a xs ∧ ∀ p, H p = none → Q (.ref p) (upd H p (.tup xs.reverse))))
def tBack (K : PySem.W.Frag) (te : TE) : TE := fun σ H Q => te σ H fun x H1 => rBack K x H1 Q
theorem pe_back {k : Nat} {p1 p2 p3 : Pos} (he : PE X e te) : PE X (.Subscript e (.Slice none none (some (.UnaryOp .USub (.Constant (.int 1) k p1) p2)) p3) pos) (tBack X.K te) := by
  refine ⟨fun pins s σ H Q I h => ?_⟩
  refine Subscript_ (thn (he.run pins s σ H _ I h) fun v s1 ⟨x, H1, I1, r1, q1⟩ => ?_)
  obtain ⟨a, xs, ex, hx⟩ := q1
  subst ex
  cases r1
  have hst : PO X (some (.UnaryOp .USub (.Constant (.int 1) k p1) p2)) (tPart (tUn (rU fun i => .int (-i)) (tC (.int 1)))) := po_some (pe_un un_neg pe_int)
  refine wpAny_Slice (thn (po_none.run pins s1 σ H1 (fun o H2 => o = none ∧ H2 = H1) I1 ⟨rfl, rfl⟩) fun vl s2 ⟨l, H2, I2, pl, el, e2⟩ => ?_)
  subst el e2
  refine thn (po_none.run pins s2 σ H2 (fun o H3 => o = none ∧ H3 = H2) I2 ⟨rfl, rfl⟩) fun vu s3 ⟨u, H3, I3, pu, eu, e3⟩ => ?_
  subst eu e3
  refine thn (hst.run pins s3 σ H3 (fun o H4 => o = some (-1) ∧ H4 = H3) I3 ⟨1, rfl, -1, rfl, rfl, rfl⟩) fun vs s4 ⟨o, H4, I4, ps, eo, e4⟩ => ?_
  subst eo e4
  have I5 : Inv X pins σ H4 { s4 with heap := s4.heap.push { cls := .type "slice", data := .fields #[vl, vu, vs] } } := I4.kept (t' := s4.toks) fun b ob q => Heap.get?_push_of_some _ q
  show wpAny (model X.prog X.w) X.A (subscriptTail e (.Slice none none (some (.UnaryOp .USub (.Constant (.int 1) k p1) p2)) p3) (.ref a) (.ref s4.heap.objs.size)) (EP X pins σ Q) X.xe { s4 with heap := s4.heap.push { cls := .type "slice", data := .fields #[vl, vu, vs] } }
  rcases hx with ⟨hx, q⟩ | ⟨hx, q⟩
  · obtain ⟨its, r, ht, hz⟩ := I5.list hx
    have hlen := r.length
    refine tail_any (ops := [.ref a, .ref s4.heap.objs.size]) ht.isList.typeIs (PySem.slot_list_getitem.lookup) ?_ (by with_unfolding_all rfl)
    refine wpAny_getItem_list_slice ht.isList (Heap.IsSliceOf.new _ vl vu vs) pl pu ps (by decide) ?_ (by rw [List.size_toArray]; omega)
    rw [PySem.W.krv_pick]
    refine ⟨.ref _, _, I5.laid (t' := s4.toks) (o := .lst xs.reverse) (fun b ob q => Heap.get?_push_of_some _ q) (Nat.le_refl _) ?_, rfl, q _ (I5.hok.fresh (Nat.le_refl _))⟩
    exact ⟨by rw [List.length_reverse]; exact hz, _, 0, r.reverse, Heap.get?_push_size _ rfl⟩
  · obtain ⟨its, r, ht, hz⟩ := I5.tuple hx
    have hlen := r.length
    refine tail_any (ops := [.ref a, .ref s4.heap.objs.size]) ht.typeIs (PyProof.Rows.slot_tuple_getitem.lookup) ?_ (by with_unfolding_all rfl)
    refine HT.getItem_tuple_back ht (Heap.IsSliceOf.new _ vl vu vs) pl pu ps ?_ (by rw [List.size_toArray]; omega)
    refine ⟨.ref _, _, I5.laid (t' := s4.toks) (o := .tup xs.reverse) (fun b ob q => Heap.get?_push_of_some _ q) (Nat.le_refl _) ?_, rfl, q _ (I5.hok.fresh (Nat.le_refl _))⟩
    exact ⟨by rw [List.length_reverse]; exact hz, _, r.reverse, IsTup.new _ _⟩
def backB (b : B) : Res B := match b with
  | .dat (.tup xs) => .ok (.dat (.tup xs.reverse))
  | .dat (.ctup xs) => .ok (.dat (.tup xs.reverse))
  | b => match seqI b with
    | some ds => .ok (.own (.l ds.reverse))
    | none => .bad
theorem g_back {σ : L2.St} {F H : Hp} {v : V} {b : B} {Q : VK} (s : Sm g F H) (r : RR g F H v b) (p : Post g σ F H (backB b) Q) : rBack g.K v H Q := by
  unfold backB at p
  split at p
  · cases r with
    | tup h1 h2 => exact ⟨_, _, rfl, .inr ⟨SqT.of (s.fh _ _ h1), p.newT s h2.rev⟩⟩
  · cases r with
    | ctup h1 h2 => exact ⟨_, _, rfl, .inr ⟨sqT_none h1, p.newT s h2.rev⟩⟩
  · rename_i n2 n3
    split at p
    · rename_i ds hs
      obtain ⟨a, xs, rfl, h1, h2⟩ := seqI_list s r hs n2 n3
      exact ⟨a, xs, rfl, .inl ⟨h1, p.newL s h2.rev⟩⟩
    · exact p.elim
theorem fe_back {fa : Env → Res B} {k : Nat} {p1 p2 p3 : Pos} (hK : g.K = X.K) (ha : PE X e (tF g fa)) : PE X (.Subscript e (.Slice none none (some (.UnaryOp .USub (.Constant (.int 1) k p1) p2)) p3) pos) (tF g (one1 backB fa)) := by
  refine PE.imp (pe_back ha) fun σ H Q ⟨F, ρ, s, p⟩ => ?_
  refine run1 s (fun b v F1 H1 e g1 r => ?_) (fun c e F' H' g1 => ?_) (fun e => ?_)
  · rw [← hK]
    refine g_back (σ := σ) ⟨(s.grow g1).sub, (s.grow g1).gr.hh⟩ r ?_
    unfold one1 at p
    rw [e, Res.ok_bind] at p
    exact p.later g1
  · unfold one1 at p
    rw [e] at p
    exact p F' H' g1
  · unfold one1 at p
    rw [e] at p
    exact p
theorem back_tup {ds : List D} : backB (.dat (.tup ds)) = .ok (.dat (.tup ds.reverse)) := rfl
theorem back_lst {ds : List D} : backB (.dat (.lst ds)) = .ok (.own (.l ds.reverse)) := rfl
variable {cls : Nat → Value} {k : Nat} {tab : List En} {N : List Str} {sc : Scope} {bt : Bt}
theorem CT.back (C : CT X g cls k tab N sc bt) {fa : Env → Res B} {k : Nat} {p1 p2 p3 : Pos} (ha : PE X e (tF g fa)) : PE X (.Subscript e (.Slice none none (some (.UnaryOp .USub (.Constant (.int 1) k p1) p2)) p3) pos) (tF g (one1 backB fa)) := fe_back C.hK ha
end
end Fn
namespace PySem.SeqAt
open PySem PySem.Calls PyProof.Rows
section
variable {A : Around} {s : Shared}
theorem call_tuple_lt0 {prog : Program} {w : World} {E : Value → Shared → Prop} {Q : Value → Shared → Prop} {l b : Addr} {items items2 : Array Value} {e r : Nat → Bool} (hl : s.heap.IsTuple l items) (hb : s.heap.IsTuple b items2)
    (he : ∀ j (h1 : j < items.size) (h2 : j < items2.size), EqAt A.in1 s items[j] items2[j] (e j)) (hr : ∀ j (h1 : j < items.size) (h2 : j < items2.size), e j = false → RcLt A.in1 s items[j] items2[j] (r j))
    (h : Q (.bool (firstLt e r (decide (items.size < items2.size)) (List.range (min items.size items2.size)))) s) : wpAny (model prog w) A (call (.builtin "tuple.__lt__") [.ref l, .ref b]) Q E s := by
  obtain ⟨⟨cls, dd, data, sl⟩, ho, hc, n, hd⟩ := id hl
  obtain ⟨⟨cls2, dd2, data2, sl2⟩, ho2, hc2, n2, hd2⟩ := id hb
  simp only at hc hd hc2 hd2
  subst hc hd hc2 hd2
  exact call_meets F.slot_tuple_lt ⟨_, ho, rfl⟩ F.entry_tuple_lt (F.args_tuple_lt_2 _ _) (tuple_ltAt l b items items2 n n2 dd dd2 sl sl2 e r) ⟨ho, ho2, he, hr, h⟩
end
end PySem.SeqAt
namespace PySem.W
open PySem PySem.Calls PyProof.Rows PySem.SeqAt
section
variable {prog : Program} {w : World} {A : Around} {E : Value → Shared → Prop} {s : Shared}
theorem oneLt_tuples {xs ys : List PyData} {a b : Value} {as bs : List Addr} {Q : Bool → Shared → Prop} (ra : Reads s.heap a (.tuple xs) as) (rb : Reads s.heap b (.tuple ys) bs) (hal : alikeAll xs ys = true)
    (hu : A.units + min (PyData.depth (.tuple xs)) (PyData.depth (.tuple ys)) < cLine) (hq : Q (dataLt (.tuple xs) (.tuple ys)) s) : wpAny (model prog w) A (oneLt' true a b) Q E s := by
  cases ra with
  | @tuple l o vs n _ as₁ h1 h2 h3 h4 =>
    cases rb with
    | @tuple l' o' vs' n' _ bs₁ k1 k2 k3 k4 =>
      have n1 : vs.size = xs.length := by simpa using ReadsAll.length _ _ _ h4
      have n2 : vs'.size = ys.length := by simpa using ReadsAll.length _ _ _ k4
      rw [dataLt_tuple, ← firstLt_toks xs ys hal, ← n1, ← n2] at hq
      rw [oneLt'_eq]
      simp only [if_true]
      refine wpAny_bind (wpAny_cRoomFor (room_here hu) ?_)
      refine wpAny_bind (wpAny_callSpecialIfBound?_slot (T := "tuple") ⟨_, h1, h2⟩ F.slot_tuple_lt (call_tuple_lt0 (e := pairEq xs ys) (r := fun j => dataLt (xs.getD j .none) (ys.getD j .none)) ⟨_, h1, h2, _, h3⟩ ⟨_, k1, k2, _, k3⟩ (fun j j1 j2 => ?_) (fun j j1 j2 hj => ?_) ?_))
      · have := eqAt_alikeAll xs ys A.in1 s vs.toList vs'.toList _ _ h4 k4 hal (room_in hu) j (by simpa using j1) (by simpa using j2)
        simpa using this
      · have := rcLt_alikeAll xs ys A.in1 s vs.toList vs'.toList _ _ h4 k4 hal (room_in hu) j (by simpa using j1) (by simpa using j2) hj
        simpa using this
      · exact wpAny_truthy_bool hq
theorem mapM_is {M : Model} {α β : Type} {f : α → Sem β} {g : α → β} : ∀ (l : List α) {Q : List β → Shared → Prop}, (∀ v ∈ l, ∀ (Q' : β → Shared → Prop), Q' (g v) s → wpAny M A (f v) Q' E s) → Q (l.map g) s → wpAny M A (l.mapM f) Q E s
  | [], _, _, h => by rw [List.mapM_nil]; exact wpAny_pure h
  | x :: l, Q, hf, h => by
    rw [List.mapM_cons]
    exact wpAny_bind (hf x (.head _) _ (wpAny_bind (mapM_is l (Q := fun bs s' => wpAny M A (pure (g x :: bs)) Q E s') (fun v hv => hf v (.tail _ hv)) (wpAny_pure h))))
theorem kae_kind {vs : List Value} {Q : SortKind → Shared → Prop} (h2 : 2 ≤ vs.length) (hT : ∀ v ∈ vs, ∃ a its, v = .ref a ∧ s.heap.IsTuple a its) (h0 : ∀ v, vs.head? = some v → ∃ a, v = .ref a ∧ s.heap.IsTuple a #[]) (h : Q oneType' s) : wpAny (model prog w) A (keyKind' vs.toArray) Q E s := by
  obtain ⟨v₁, v₂, rest, rfl⟩ : ∃ v₁ v₂ rest, vs = v₁ :: v₂ :: rest := by
    match vs, h2 with
    | [], h2 => simp at h2
    | [_], h2 => simp at h2
    | v₁ :: v₂ :: rest, _ => exact ⟨v₁, v₂, rest, rfl⟩
  rw [keyKind'_eq, List.mapM_toArray, map_eq_pure_bind]
  let g : Value → Option Value := fun v => open Classical in if q : ∃ its, ∃ a, v = .ref a ∧ s.heap.IsTuple a its then (Classical.choose q)[0]? else none
  have uniq : ∀ {a : Addr} {its its' : Array Value}, s.heap.IsTuple a its → s.heap.IsTuple a its' → its = its' := by
    rintro a its its' ⟨o, ho, _, n, hd⟩ ⟨o', ho', _, n', hd'⟩
    rw [ho] at ho'; cases ho'; rw [hd] at hd'; cases hd'; rfl
  have gs : ∀ a its, s.heap.IsTuple a its → g (.ref a) = its[0]? := by
    intro a its hi
    have q : ∃ its, ∃ a', Value.ref a = .ref a' ∧ s.heap.IsTuple a' its := ⟨its, a, rfl, hi⟩
    have e : g (.ref a) = (Classical.choose q)[0]? := dif_pos q
    rw [e]
    obtain ⟨a', h1, h2⟩ := Classical.choose_spec q
    cases h1
    rw [uniq h2 hi]
  refine wpAny_bind (wpAny_bind (mapM_is (g := g) _ (fun v hv Q' hq => ?_) (wpAny_pure ?_)))
  · obtain ⟨a, its, rfl, hi⟩ := hT v hv
    rw [kas_first_eq]
    obtain ⟨o, ho, hc, n, hd⟩ := id hi
    refine wpAny_bind (wpAny_typeOf ⟨o, ho, hc⟩ ?_)
    rw [if_neg (by decide)]
    rw [gs a its hi] at hq
    exact wpAny_bind (listItems_at ho hd (wpAny_pure hq))
  · obtain ⟨a, rfl, hi⟩ := h0 v₁ rfl
    have g1 : g (.ref a) = none := by rw [gs a _ hi]; rfl
    rw [List.map_cons, g1]
    rw [if_neg (by simp), if_neg (by simp)]
    rw [oneTypeOnly'_eq, List.mapM_toArray, map_eq_pure_bind]
    refine wpAny_bind (wpAny_bind (wpAny_bind (kas_mapM (r := Value.type "tuple") _ (fun v hv Q' hq => ?_) (wpAny_pure ?_))))
    · obtain ⟨a, its, rfl, o, ho, hc, n, hd⟩ := hT v hv
      exact wpAny_typeOf ⟨o, ho, hc⟩ hq
    have hall : ((List.map (fun _ => Value.type "tuple") (Value.ref a :: v₂ :: rest)).toArray.all fun x => x == Value.type "tuple") = true := by
      simp only [List.all_toArray, List.all_map, List.all_eq_true]
      intro _ _
      exact beq_self_eq_true _
    have h0 : (List.map (fun _ => Value.type "tuple") (Value.ref a :: v₂ :: rest)).toArray[0]? = some (Value.type "tuple") := by simp
    rw [h0]
    simp only [hall, if_true]
    exact wpAny_pure (wpAny_pure h)
def Sortable0 (ds : List PyData) : Prop := ds.head? = some (.tuple []) ∧ ∀ d, d ∈ ds → ∃ xs, d = .tuple xs
theorem SortsAt.data0 {vs : List Value} {ds : List PyData} (e : EachIs (fun v d => ∃ as, Reads s.heap v d as) vs ds) (hal : AllAlike ds) (hk : Sortable0 ds) (hu : ∀ d, d ∈ ds → A.units + d.depth < cLine) : SortsAt prog w A s (dataKind s.heap ds) vs := by
  have room : ∀ {d d' : PyData}, d ∈ ds → A.units + min d.depth d'.depth < cLine := fun {d d'} hd => Nat.lt_of_le_of_lt (Nat.add_le_add_left (Nat.min_le_left _ _) _) (hu d hd)
  refine ⟨fun v hv => ?_, oneType', ?_, fun h2 E Q hq => ?_⟩
  · obtain ⟨d, hd, as, r⟩ := e.left v hv
    exact ⟨_, dataKind_some hal hd r⟩
  · intro E x y a b Q ha hb hq
    obtain ⟨d, as, hd, ra, rfl⟩ := dataKind_inv ha
    obtain ⟨d', as', hd', rb, rfl⟩ := dataKind_inv hb
    rw [keyLt'_oneType]
    obtain ⟨xs, rfl⟩ := hk.2 d hd
    obtain ⟨ys, rfl⟩ := hk.2 d' hd'
    exact oneLt_tuples ra rb (by simpa [alike] using hal _ hd _ hd') (room hd) hq
  · refine kae_kind h2 (fun v hv => ?_) (fun v hv => ?_) hq
    · obtain ⟨d, hd, as, r⟩ := e.left v hv
      obtain ⟨xs, rfl⟩ := hk.2 d hd
      cases r with
      | @tuple l o vs n _ as₁ k1 k2 k3 k4 => exact ⟨l, vs, rfl, o, k1, k2, n, k3⟩
    · cases e with
      | nil => cases hv
      | @cons v' d vs' ds' r t =>
        cases hv
        obtain ⟨as, r⟩ := r
        have e0 : d = .tuple [] := Option.some.inj hk.1
        subst e0
        cases r with
        | @tuple l o vs n _ as₁ k1 k2 k3 k4 =>
          have : vs = #[] := by
            have := ReadsAll.length _ _ _ k4
            exact Array.eq_empty_of_size_eq_zero (by simpa using this)
          subst this
          exact ⟨l, rfl, o, k1, k2, n, k3⟩
end
end PySem.W
namespace PySem.W
open PySem PySem.Calls PyProof.Rows PySem.SeqAt
section
variable {prog : Program} {w : World} {A : Around} {E : Value → Shared → Prop} {s : Shared} {β : Type} {R : Value → β → Prop} {enc : β → PyData} {vs : List Value} {bs : List β}
theorem list_sort_data2 {a : Addr} {n : Nat} {Q : Value → Shared → Prop} (ho : s.heap.get? a = some (seqObj "list" vs.toArray n)) (e : EachIs R vs bs) (er : EachIs (fun v b => ∃ as, Reads s.heap v (enc b) as ∧ a ∉ as) vs bs) (hal : AllAlike (bs.map enc)) (hk : Sortable (bs.map enc) ∨ Sortable0 (bs.map enc)) (hL : bs.length ≤ sizeLine)
    (hu : ∀ b, b ∈ bs → A.units + 1 + (enc b).depth < cLine) (h : ∀ out, out.length = bs.length → EachIs R out (bs.mergeSort (dataLe false enc)) → Q .none { s with heap := sortedHeap s.heap a vs (List.toArray out) }) :
    wpAny (model prog w) A (call (.builtin "list.sort") [.ref a]) Q E s := by
  have er' : EachIs (fun v b => ∃ as, Reads (sortingHeap s.heap a vs) v (enc b) as) vs bs := each_keepBut (h' := sortingHeap s.heap a vs) (fun _ _ hb q => sortingHeap_old hb q) (fun o q => by rw [ho] at q; rw [← Option.some.inj q]) hal er
  have S : SortsAt prog w A.in1 { s with heap := sortingHeap s.heap a vs } (dataKind (sortingHeap s.heap a vs) (bs.map enc)) vs := by
    rcases hk with hk | hk
    · exact SortsAt.data (s := { s with heap := sortingHeap s.heap a vs }) (each_map (R := fun v d => ∃ as, Reads (sortingHeap s.heap a vs) v d as) enc er') hal hk (bound_map hu)
    · exact SortsAt.data0 (s := { s with heap := sortingHeap s.heap a vs }) (each_map (R := fun v d => ∃ as, Reads (sortingHeap s.heap a vs) v d as) enc er') hal hk (bound_map hu)
  refine wpAny_call_entry slot_list_sort ⟨_, ho, rfl⟩ entry_list_sort (list_sort_vals (κ := dataKind (sortingHeap s.heap a vs) (bs.map enc)) ho S (by rw [e.length]; exact hL) ⟨.none, rfl, ?_⟩) (args_list_sort _)
  exact h _ (by rw [sortVals_length false rfl]; exact e.length) (sortVals_data false e er' hal)
end
end PySem.W
namespace Fn
open PySem PySem.Spec PyProof.Rows L2
def isTupP : PyData → Bool
  | .tuple _ => true
  | _ => false
def head0 : List PyData → Bool
  | .tuple [] :: _ => true
  | _ => false
def sortOk2 (ds : List D) : Bool := (toPys ds).all SeqAt.shaped && ((toPys ds).all (fun a => (toPys ds).all fun b => PySem.W.alike a b) && ((toPys ds).all isTup1 || ((toPys ds).all isPlain || (head0 (toPys ds) && (toPys ds).all isTupP))))
theorem sortOk2_iff {ds : List D} (h : sortOk2 ds = true) : (∀ d ∈ ds, SeqAt.shaped (toPy d) = true) ∧ PySem.W.AllAlike (ds.map toPy) ∧ (PySem.W.Sortable (ds.map toPy) ∨ PySem.W.Sortable0 (ds.map toPy)) := by
  unfold sortOk2 at h
  rw [Bool.and_eq_true, Bool.and_eq_true, Bool.or_eq_true, Bool.or_eq_true, Bool.and_eq_true] at h
  obtain ⟨h1, h2, h3⟩ := h
  rcases h3 with h3 | h3 | h3
  · obtain ⟨a, b, c⟩ := sortOk_iff (ds := ds) (by unfold sortOk; rw [h1, h2, h3]; rfl)
    exact ⟨a, b, .inl c⟩
  · obtain ⟨a, b, c⟩ := sortOk_iff (ds := ds) (by unfold sortOk; rw [h1, h2, h3, Bool.or_true]; rfl)
    exact ⟨a, b, .inl c⟩
  · rw [toPys_map] at h1 h2 h3
    rw [List.all_eq_true] at h1 h2
    obtain ⟨h3, h4⟩ := h3
    rw [List.all_eq_true] at h4
    refine ⟨fun d hd => h1 _ (List.mem_map.mpr ⟨d, hd, rfl⟩), fun d hd d' hd' => List.all_eq_true.mp (h2 d hd) d' hd', .inr ⟨?_, fun d hd => ?_⟩⟩
    · unfold head0 at h3
      split at h3
      · rename_i e; rw [e]; rfl
      · cases h3
    · have := h4 d hd
      cases d with
      | tuple xs => exact ⟨xs, rfl⟩
      | _ => cases this
section
variable {X : Cx} {pins : List (Addr × Obj)} {σ : L2.St} {H : Hp} {s : Shared}
theorem sort_new2 {A : Around} {E : Value → Shared → Prop} {xs : List V} {us : List Value} {ds : List D} {Q : VK} {tk : Nat} {h' : Heap} (hu : A.units + 100 < cLine) (I : Inv X pins σ H { s with heap := h', toks := tk }) (rv : Vals xs us) (hd : DpAll X.K H xs (toPys ds)) (hl : xs.length = ds.length)
    (ho : sortOk2 ds = true) (hz : xs.length ≤ sizeLine) (q : ∀ p, H p = none → Q (.ref p) (upd H p (.lst ((sortZ xs ds).map (·.1))))) :
    wpAny (model X.prog X.w) A (call (.builtin "list.sort") [.ref h'.objs.size]) (fun _ s' => EP X pins σ Q (.ref h'.objs.size) s') E { s with heap := h'.push (seqObj "list" us.toArray 0), toks := tk } := by
  obtain ⟨o1, o2, o3⟩ := sortOk2_iff ho
  obtain ⟨e1, e2⟩ := each_of I rv hd
  have hlz : (xs.zip ds).length = xs.length := by rw [List.length_zip, ← hl]; exact Nat.min_self _
  have hoL : (h'.push (seqObj "list" us.toArray 0)).get? h'.objs.size = some (seqObj "list" us.toArray 0) := Heap.get?_push_size _ rfl
  have e3 : PySem.W.EachIs (fun v (b : V × D) => ∃ as, Reads (h'.push (seqObj "list" us.toArray 0)) v (toPy b.2) as ∧ h'.objs.size ∉ as) us (xs.zip ds) := by
    have go : ∀ {vs : List Value} {bs : List (V × D)}, (∀ b ∈ bs, SeqAt.shaped (toPy b.2) = true) → PySem.W.EachIs (fun v (b : V × D) => ∃ as, Reads h' v (toPy b.2) as) vs bs → PySem.W.EachIs (fun v (b : V × D) => ∃ as, Reads (h'.push (seqObj "list" us.toArray 0)) v (toPy b.2) as ∧ h'.objs.size ∉ as) vs bs := by
      intro vs bs hs e
      induction e with
      | nil => exact .nil
      | cons r t ih =>
        obtain ⟨as, rr⟩ := r
        refine .cons ⟨as, PyProof.Rows.Reads.keeps (fun b o e => Heap.get?_push_of_some _ e) rr, fun hm => Nat.lt_irrefl _ (reads_lt _ _ _ (SeqAt.canLay_of_shaped (hs _ List.mem_cons_self)) rr _ hm)⟩ (ih fun b hb => hs b (List.mem_cons_of_mem _ hb))
    exact go (fun b hb => o1 b.2 (List.of_mem_zip hb).2) e2
  refine PySem.W.list_sort_data2 (bs := xs.zip ds) (enc := fun b => toPy b.2) (s := { s with heap := h'.push (seqObj "list" us.toArray 0), toks := tk }) hoL e1 e3
    (by rw [map_toPy_zip hl]; exact o2) (by rw [map_toPy_zip hl]; exact o3) (by rw [hlz]; exact hz) (fun b hb => ?_) fun out ho1 ho2 => ?_
  · have := SeqAt.depth_of_shaped (o1 b.2 (List.of_mem_zip hb).2)
    omega
  · have hv : Vals ((sortZ xs ds).map (·.1)) out := each_vals ho2
    have hlen : ((sortZ xs ds).map (·.1)).length ≤ sizeLine := by rw [hv.length, ho1, hlz]; exact hz
    obtain ⟨e', he'⟩ := PyProof.Rows.sortedHeap_at (vs := us) (out := out.toArray) hoL
    refine ⟨.ref h'.objs.size, upd H h'.objs.size (.lst ((sortZ xs ds).map (·.1))), I.laid (t' := tk) (fun b u e => ?_) (Nat.le_refl _) (show ObjOk X.prog X.w _ _ _ (.lst ((sortZ xs ds).map (·.1))) from ⟨hlen, out, e', hv, he'⟩), rfl, q _ (I.hok.fresh (Nat.le_refl _))⟩
    have hb : b < h'.objs.size := Heap.lt_size e
    rw [PyProof.Rows.sortedHeap_old (Nat.ne_of_lt hb) (by rw [size_push']; exact Nat.lt_succ_of_lt hb)]
    exact Heap.get?_push_of_some _ e
def rSortS (K : PySem.W.Frag) : List V → Hp → VK → Prop := fun vs H Q => ∃ (a : Addr) (xs : List V) (ds : List D), vs = [.ref a] ∧ (SqL K H a xs ∨ SqT K H a xs) ∧ DpAll K H xs (toPys ds) ∧ xs.length = ds.length ∧ sortOk2 ds = true ∧
  ∀ p, H p = none → Q (.ref p) (upd H p (.lst ((sortZ xs ds).map (·.1))))
theorem cr_sortS (hc : X.calm = true) (hu : X.A.units + 200 < cLine) : CallR X (.builtin "sorted") (rSortS X.K) := by
  intro pins s σ H vs us Q I r h
  obtain ⟨a, xs, ds, rfl, hs, hdp, hl, ho, q⟩ := h
  rw [Vals.ref1 r]
  obtain ⟨T, o, its, n, hT, hg, hcl, hdt, rv, hz⟩ : ∃ (T : String) (o : Obj) (its : List Value) (n : Nat), (T = "list" ∨ T = "tuple") ∧ s.heap.get? a = some o ∧ o.cls = .type T ∧ o.data = .seq its.toArray n ∧ Vals xs its ∧ xs.length ≤ sizeLine := by
    rcases hs with hs | hs
    · obtain ⟨its, rv, pl, hz⟩ := I.list hs
      obtain ⟨o, h1, h2, n, h3⟩ := pl.isList
      exact ⟨"list", o, its, n, .inl rfl, h1, h2, h3, rv, hz⟩
    · obtain ⟨its, rv, pl, hz⟩ := I.tuple hs
      obtain ⟨o, h1, h2, n, h3⟩ := pl
      exact ⟨"tuple", o, its, n, .inr rfl, h1, h2, h3, rv, hz⟩
  refine Calls.call_function_entry PyProof.Rows.kind_sorted PyProof.Rows.plain_sorted PyProof.Rows.entry_sorted (PyProof.Rows.args_sorted1 _) ?_
  unfold Builtin.«sorted»
  refine wpAny_bind (m := checkCount "sorted" 1 1 _) (wpAny_pure ?_)
  refine wpAny_bind (wpAny_collect_seq a hT hg hcl hdt (fun h' hk => ?_) (by rw [List.size_toArray, ← rv.length]; exact hz))
  have I1 : Inv X pins σ H { s with heap := h', toks := s.toks } := I.kept (t' := s.toks) hk
  refine wpAny_bind (wpAny_newList ?_ (by show its.length ≤ _; rw [← rv.length]; exact hz))
  refine wpAny_bind (wpAny_holding (wpAny_mono (sort_new2 (A := X.A.in1) (E := X.xe) (s := s) (tk := s.toks) (Q := Q) (by show X.A.units + 1 + 100 < cLine; omega) I1 rv hdp hl ho hz q) (fun _ s' x => ?_) fun _ _ e => e))
  exact wpAny_pure ⟨_, rfl, x⟩
end
section
variable {g : G}
theorem lay_of2 {ds : List D} (h : sortOk2 ds = true) : PyData.canLayAll0 (toPys ds) = true := by
  obtain ⟨h1, _, _⟩ := sortOk2_iff h
  have go : ∀ ds : List D, (∀ d ∈ ds, SeqAt.shaped (toPy d) = true) → PyData.canLayAll0 (toPys ds) = true := by
    intro ds
    induction ds with
    | nil => intro _; simp [toPys, PyData.canLayAll0]
    | cons d ds ih =>
      intro h
      rw [toPys, PyData.canLayAll0, SeqAt.canLay_of_shaped (h d List.mem_cons_self), ih fun e he => h e (List.mem_cons_of_mem _ he)]
      rfl
  exact go ds h1
def isDict : B → Bool
  | .dat (.dk _) => true
  | .dat (.dt _) => true
  | .vw (.k _) => true
  | .vw (.t _) => true
  | .bor (.k _) => true
  | .bor (.t _) => true
  | _ => false
def sortG (bs : List B) : Res B := match bs with
  | [b] => if isDict b = true then sortF [b] else (match seqI b with
    | some ds => if sortOk2 ds = true then .ok (.own (.l (ds.mergeSort leD))) else .bad
    | none => .bad)
  | _ => .bad
theorem g_sortG {K : PySem.W.Frag} (hK : g.K = K) : CallG g (fun xs H Q => rSortAll K xs H Q ∨ rSortS K xs H Q) sortG := by
  intro σ F H vs bs Q s r p
  unfold sortG at p
  split at p
  · split at p
    · exact .inl (g_sort hK σ F H vs _ Q s r p)
    · subst hK
      obtain ⟨v, rfl, rv⟩ := paired1 r
      split at p
      · rename_i ds hs
        split at p
        · rename_i ho
          have fin : ∀ (a : Addr) (xs : List V), v = .ref a → (SqL g.K H a xs ∨ SqT g.K H a xs) → RpAll g.K g.fa F xs ds → rSortS g.K [v] H Q := fun a xs ev hq hr => by
            subst ev
            exact ⟨a, xs, ds, rfl, hq, RpAll.dp s.fh hr (lay_of2 ho), hr.len, ho, p.newL s (sortZ_rp hr)⟩
          rename_i b _ _
          by_cases t1 : ∃ xs, b = .dat (.tup xs)
          · obtain ⟨xs, rfl⟩ := t1
            cases hs
            cases rv with
            | tup h1 h2 => exact .inr (fin _ _ rfl (.inr (SqT.of (s.fh _ _ h1))) h2)
          · by_cases t2 : ∃ xs, b = .dat (.ctup xs)
            · obtain ⟨xs, rfl⟩ := t2
              cases hs
              cases rv with
              | ctup h1 h2 => exact .inr (fin _ _ rfl (.inr (sqT_none h1)) h2)
            · obtain ⟨a, xs, e, h1, h2⟩ := seqI_list s rv hs (fun xs z => t1 ⟨xs, z⟩) (fun xs z => t2 ⟨xs, z⟩)
              exact .inr (fin a xs e (.inl h1) h2)
        · exact p.elim
      · exact p.elim
  · exact p.elim
variable {X : Cx} {cls : Nat → Value} {k : Nat} {tab : List En} {N : List Str} {sc : Scope} {bt : Bt}
theorem CT.sortG (C : CT X g cls k tab N sc bt) (hh : bt.hot = false := by rfl) : BiW X g "sorted" Fn.sortG := ⟨.inl ⟨_, _, CallR.or (c_sort (C.calm hh) C.hu) (cr_sortS (C.calm hh) C.hu), boot_sorted, g_sortG C.hK⟩⟩
end
end Fn
namespace Fn
open PySem PySem.Spec PyProof.Rows L2
section
variable {X : Cx} {g : G} {cls : Nat → Value} {k : Nat} {tab : List En} {N : List Str} {sc : Scope} {bt : Bt} {a b e : Expr} {fa fb : Env → Res B} {p1 p2 p3 p4 : Pos}
def ixOf (ds : List D) (d : D) : Option Nat := ds.findIdx? fun z => PyData.eqv (toPy z) (toPy d)
def indexB (a b : B) : Res B := match seqL a with
  | some ds => if (SeqAt.shaped (.list (toPys ds)) && SeqAt.shaped (toPy (datOf b))) = true then (match ixOf ds (datOf b) with
    | some j => .ok (.dat (.int (j : Nat)))
    | none => .bad) else .bad
  | none => .bad
def indexE (fa fb : Env → Res B) : Env → Res B := fun ρ => (fa ρ).bind fun x => match seqL (rd x) with
  | some _ => (fb ρ).bind fun y => indexB (rd x) (rd y)
  | none => .bad
def indexK (ra rb : Res B) : Res B := ra.bind fun x => match seqL (rd x) with
  | some _ => rb.bind fun y => indexB (rd x) (rd y)
  | none => .bad
theorem e_index {ρ : Env} : indexE fa fb ρ = indexK (fa ρ) (fb ρ) := (rfl)
theorem index_ok {x y : B} : indexK (.ok x) (.ok y) = indexB (rd x) (rd y) := by
  show (match seqL (rd x) with | some _ => indexB (rd x) (rd y) | none => .bad) = _
  unfold indexB
  cases seqL (rd x) <;> rfl
def mutP (f : M → Option M) (i : Nat) : Env → Out := fun ρ => match ownAt ρ i with
  | some m => (match f m with
    | some m' => .nx (ρ.set i (some (.own m')))
    | none => .bad)
  | none => .bad
def mutK (f : M → Option M) (i : Nat) (o : Option M) (ρ : Env) : Out := match o with
  | some m => (match f m with
    | some m' => .nx (ρ.set i (some (.own m')))
    | none => .bad)
  | none => .bad
theorem e_mut {f : M → Option M} {i : Nat} {ρ : Env} : mutP f i ρ = mutK f i (ownOf ρ[i]?) ρ := (rfl)
def revM : M → Option M
  | .l ds => some (.l ds.reverse)
  | _ => none
theorem mut_rev {ds : List D} {i : Nat} {ρ : Env} : mutK revM i (some (.l ds)) ρ = .nx (ρ.set i (some (.own (.l ds.reverse)))) := (rfl)
theorem CS.rev (C : CS X g cls k tab N sc bt) (i : Nat) {x : Str} (h : vOk N sc i x = true) (hl : (p2.endLine == p3.line) = true) : PS X (.Expr (.Call (.Attribute (.Name x p1) "reverse" p2) [] [] p3) p4) (tFS g (mutP revM i)) := by
  obtain ⟨h1, h2, h3, h4⟩ := C.ct.vo h
  refine PS.imp (ps_expr (pe_bm0 PySem.F.plainAttrs_list PySem.F.slot_list_reverse PySem.F.type_list_reverse mt_reverse (pe_var h1 h2 h3 h4) (by rfl) hl) (by rfl)) fun E σ H h => ?_
  show tVar i σ H fun v H1 => tyV X.K "list" v H1 ∧ rReverse v [] H1 fun _ H1 => E.nx σ H1
  obtain ⟨F, ρ, s, p⟩ := h
  unfold mutP at p
  split at p
  · rename_i m ho
    obtain ⟨q, o, a1, a2, a3, a4, a5⟩ := s.own_none (ownAt_ok ho)
    cases a5 with
    | l rl =>
      refine ⟨_, a1, Or.inl ⟨rfl, _, SqL.of a2⟩, q, _, rfl, rfl, a2, ?_⟩
      exact p σ F _ (s.change (ownAt_ok ho) a1 (.l rl.rev))
    | k _ _ => exact p.elim
    | t _ _ => exact p.elim
  · exact p.elim
def extV (i : Nat) (fa : Env → Res B) : Env → Out := fun ρ => match ownAt ρ i with
  | some (.l ds) => (match fa ρ with
    | .ok b => (match seqL (rd b) with
      | some es => if ds.length + es.length ≤ sizeLine then .nx (ρ.set i (some (.own (.l (ds ++ es))))) else .bad
      | none => .bad)
    | .exc c => .exc c ρ
    | .bad => .bad)
  | _ => .bad
def extK (i : Nat) (o : Option M) (r : Res B) (ρ : Env) : Out := match o with
  | some (.l ds) => (match r with
    | .ok b => (match seqL (rd b) with
      | some es => if ds.length + es.length ≤ sizeLine then .nx (ρ.set i (some (.own (.l (ds ++ es))))) else .bad
      | none => .bad)
    | .exc c => .exc c ρ
    | .bad => .bad)
  | _ => .bad
theorem e_ext {i : Nat} {ρ : Env} : extV i fa ρ = extK i (ownOf ρ[i]?) (fa ρ) ρ := (rfl)
theorem ext_own {i : Nat} {ρ : Env} {ds es : List D} (h : ds.length + es.length ≤ 1000) : extK i (some (.l ds)) (.ok (.own (.l es))) ρ = .nx (ρ.set i (some (.own (.l (ds ++ es))))) := if_pos (le_sz h)
theorem ext_dat {i : Nat} {ρ : Env} {ds es : List D} (h : ds.length + es.length ≤ 1000) : extK i (some (.l ds)) (.ok (.dat (.lst es))) ρ = .nx (ρ.set i (some (.own (.l (ds ++ es))))) := if_pos (le_sz h)
theorem CS.ext (C : CS X g cls k tab N sc bt) (i : Nat) {x : Str} (he : PE X e (tF g fa)) (h : vOk N sc i x = true) (hn : (nst e && (p2.endLine == p3.line)) = true) : PS X (.Expr (.Call (.Attribute (.Name x p1) "extend" p2) [e] [] p3) p4) (tFS g (extV i fa)) := by
  obtain ⟨h1, h2, h3, h4⟩ := C.ct.vo h
  rw [Bool.and_eq_true] at hn
  refine PS.imp (ps_expr (pe_bm PySem.F.plainAttrs_list PySem.F.slot_list_extend PySem.F.type_list_extend mt_extend (pe_var h1 h2 h3 h4) (pa_cons he pa_nil (star_cons hn.1)) (by rfl) (by cases e <;> first | rfl | cases hn.1) hn.2 (star_cons hn.1) (by rfl))) fun E σ H h => ?_
  show tVar i σ H fun v H1 => tyV X.K "list" v H1 ∧ tF g fa σ H1 fun w H2 => rExtend v [w] H2 fun _ H1 => E.nx σ H1
  obtain ⟨F, ρ, s, p⟩ := h
  unfold extV at p
  split at p
  · rename_i ds ho
    obtain ⟨q, o, a1, a2, a3, a4, a5⟩ := s.own_none (ownAt_ok ho)
    cases a5 with
    | l rl =>
      refine ⟨_, a1, Or.inl ⟨rfl, _, SqL.of a2⟩, ?_⟩
      refine run1 s (fun b v F1 H1 e2 g1 r1 => ?_) (fun c e => ?_) (fun e => ?_)
      · rw [e2] at p
        dsimp only at p
        split at p
        · rename_i es hs
          obtain ⟨a, zs, rfl, z1, z2⟩ := seqL_ok (s.grow g1).sm r1 hs
          split at p
          · rename_i hz
            refine ⟨q, a, _, zs, rfl, rfl, g1.hh _ _ a2, z1, by rw [rl.len, z2.len]; exact hz, ?_⟩
            exact p σ F1 _ ((s.grow g1).change (ownAt_ok ho) a1 (.l ((rl.mono g1.fh).app z2)))
          · exact p.elim
        · exact p.elim
      · rw [e] at p
        exact fun F' H' g1 => p σ F' H' (s.grow g1)
      · rw [e] at p
        exact p
  · exact p.elim
end
end Fn
namespace Fn
open PySem PySem.Spec PyProof.Rows L2
section
variable {ρ : Env} {fa fb fc : Env → Res B} {f f' : B → B → Res B} {b x y : B} {c : Nat} {d : D} {m : M} {ds es : List D} {bs : List B} {ns : List Int} {p q : Bool} {i j k n : Int}
def chnV (f' : B → B → Res B) (r : Res B) (y : B) (fc : Env → Res B) (ρ : Env) : Res B := r.bind fun z => match z with
  | .dat (.bl true) => bin2K f' (.ok y) (fc ρ)
  | .dat (.bl false) => .ok (.dat (.bl false))
  | _ => .bad
def chnK (f f' : B → B → Res B) (ra rb : Res B) (fc : Env → Res B) (ρ : Env) : Res B := ra.bind fun x => rb.bind fun y => chnV f' (f (rd x) (rd y)) y fc ρ
theorem e_chn : chn f f' fa fb fc ρ = chnK f f' (fa ρ) (fb ρ) fc ρ := (rfl)
theorem chn_ok : chnK f f' (.ok x) (.ok y) fc ρ = chnV f' (f (rd x) (rd y)) y fc ρ := (rfl)
theorem chnV_t : chnV f' (.ok (.dat (.bl true))) y fc ρ = bin2K f' (.ok y) (fc ρ) := (rfl)
theorem chnV_f : chnV f' (.ok (.dat (.bl false))) y fc ρ = .ok (.dat (.bl false)) := (rfl)
def lstK (o : Option (List D)) : Res B := match o with
  | some ds => if ds.length ≤ sizeLine then .ok (.own (.l ds)) else .bad
  | none => .bad
def tupK (o : Option (List D)) : Res B := match o with
  | some ds => if ds.length ≤ sizeLine then .ok (.dat (.tup ds)) else .bad
  | none => .bad
theorem e_lstB : lstB bs = lstK (dats bs) := (rfl)
theorem e_tupB : tupB bs = tupK (dats bs) := (rfl)
def datsO (d : D) (o : Option (List D)) : Option (List D) := match o with
  | some ds => some (d :: ds)
  | none => none
theorem dats_nil : dats [] = some [] := (rfl)
theorem dats_cons : dats (.dat d :: bs) = datsO d (dats bs) := (rfl)
theorem datsO_some : datsO d (some ds) = some (d :: ds) := (rfl)
theorem lstK_ok (h : ds.length ≤ 1000) : lstK (some ds) = .ok (.own (.l ds)) := if_pos (le_sz h)
theorem tupK_ok (h : ds.length ≤ 1000) : tupK (some ds) = .ok (.dat (.tup ds)) := if_pos (le_sz h)
theorem len_S {z : Str} (h : z.length ≤ 1000) : lenB [.dat (.str z)] = .ok (.dat (.int z.length)) := if_pos (le_sz h)
theorem neg_i : negB (.dat (.int i)) = .ok (.dat (.int (-i))) := (rfl)
theorem not_bl : notB (.dat (.bl p)) = .ok (.dat (.bl !p)) := (rfl)
theorem tupF_lst : tupF [.dat (.lst ds)] = .ok (.dat (.tup ds)) := (rfl)
theorem tupF_tup : tupF [.dat (.tup ds)] = .ok (.dat (.tup ds)) := (rfl)
theorem tupF_vw : tupF [.vw (.l ds)] = .ok (.dat (.tup ds)) := (rfl)
theorem tupF_bor : tupF [.bor (.l ds)] = .ok (.dat (.tup ds)) := (rfl)
theorem lstF_tup : lstF [.dat (.tup ds)] = .ok (.own (.l ds)) := (rfl)
theorem lstF_lst : lstF [.dat (.lst ds)] = .ok (.own (.l ds)) := (rfl)
theorem int_i : intF [.dat (.int i)] = .ok (.dat (.int i)) := (rfl)
theorem is_t : isB false (.dat (.bl p)) (.dat (.bl q)) = .ok (.dat (.bl (decide (p = q)))) := by show Res.ok (B.dat (D.bl _)) = _; rw [Bool.bne_false]
theorem isn_t : isB true (.dat (.bl p)) (.dat (.bl q)) = .ok (.dat (.bl (!decide (p = q)))) := by show Res.ok (B.dat (D.bl _)) = _; rw [Bool.bne_true]
theorem is_n : isB false (.dat d) (.dat .non) = .ok (.dat (.bl (isNone d))) := by show Res.ok (B.dat (D.bl _)) = _; rw [Bool.bne_false]; rfl
theorem isn_n : isB true (.dat d) (.dat .non) = .ok (.dat (.bl (!isNone d))) := by show Res.ok (B.dat (D.bl _)) = _; rw [Bool.bne_true]; rfl
theorem eq_bl : eqB (.dat (.bl p)) (.dat (.bl q)) = .ok (.dat (.bl (decide (p = q)))) := by
  show Res.ok (B.dat (D.bl (PyData.eqv (.bool p) (.bool q)))) = _
  cases p <;> cases q <;> rfl
theorem ne_bl : neB (.dat (.bl p)) (.dat (.bl q)) = .ok (.dat (.bl (!decide (p = q)))) := by
  show Res.ok (B.dat (D.bl (!PyData.eqv (.bool p) (.bool q)))) = _
  cases p <;> cases q <;> rfl
theorem sortOk_two {ds : List D} (h : sortOk ds = true) : sortOk2 ds = true := by
  unfold sortOk at h
  unfold sortOk2
  rw [Bool.and_eq_true, Bool.and_eq_true, Bool.or_eq_true] at h
  obtain ⟨h1, h2, h3⟩ := h
  rw [h1, h2]
  rcases h3 with h3 | h3 <;> rw [h3] <;> simp
theorem sort_l {ds : List D} (h : sortOk2 ds = true) : sortG [.dat (.lst ds)] = .ok (.own (.l (ds.mergeSort leD))) := if_pos h
def D.isS : D → Bool
  | .str _ => true
  | _ => false
def D.isT : D → Bool
  | .tup _ => true
  | .ctup _ => true
  | _ => false
def D.isF : D → Bool
  | .fn _ => true
  | .lk _ => true
  | .lt _ => true
  | _ => false
theorem isi_bl {t : Ty} : isiB t (.dat (.bl p)) = .ok (.dat (.bl (isTy t (.bl p)))) := (rfl)
theorem isi_str (h : d.isF = false) : isiB .str (.dat d) = .ok (.dat (.bl d.isS)) := by cases d <;> first | rfl | cases h
theorem isi_tup (h : d.isF = false) : isiB .tuple (.dat d) = .ok (.dat (.bl d.isT)) := by cases d <;> first | rfl | cases h
variable {α : Type} {as : List α} {h : α → Bool} {g : α → Int}
theorem blsD_as : ∀ {as : List α}, blsD (as.map fun a => D.bl (h a)) = some (as.map h)
  | [] => rfl
  | a :: as => by rw [List.map_cons]; unfold blsD; rw [blsD_as]; rfl
theorem intsD_as : ∀ {as : List α}, intsD (as.map fun a => D.int (g a)) = some (as.map g)
  | [] => rfl
  | a :: as => by rw [List.map_cons]; unfold intsD; rw [intsD_as]; rfl
theorem all_map : allF [.dat (.lst (as.map fun a => D.bl (h a)))] = .ok (.dat (.bl (as.all h))) := by
  show (match blsD (as.map fun a => D.bl (h a)) with | some ns => (.ok (.dat (.bl (ns.all id))) : Res B) | none => .bad) = _
  rw [blsD_as]
  simp [List.all_map]
theorem any_map : anyF [.dat (.lst (as.map fun a => D.bl (h a)))] = .ok (.dat (.bl (as.any h))) := by
  show (match blsD (as.map fun a => D.bl (h a)) with | some ns => (.ok (.dat (.bl (ns.any id))) : Res B) | none => .bad) = _
  rw [blsD_as]
  simp [List.any_map]
theorem sum_map : sumF [.dat (.lst (as.map fun a => D.int (g a)))] = .ok (.dat (.int (as.map g).sum)) := by
  show (match intsD (as.map fun a => D.int (g a)) with | some ns => (.ok (.dat (.int ns.sum)) : Res B) | none => .bad) = _
  rw [intsD_as]
def pick (ds : List D) (k : Int) : D := ds.getD k.toNat .non
theorem atI_pick (h0 : 0 ≤ k) (h1 : k < (ds.length : Int)) : atI ds k = some (pick ds k) := by
  rw [atI_lt h0 h1]
  unfold pick
  rw [List.getD_eq_getElem?_getD, List.getElem?_eq_getElem (by omega)]
  rfl
theorem idx_pT (h0 : 0 ≤ k) (h1 : k < (ds.length : Int)) : idxB (.dat (.tup ds)) (.dat (.int k)) = .ok (.dat (pick ds k)) := idx_tup (atI_pick h0 h1)
theorem idx_pL (h0 : 0 ≤ k) (h1 : k < (ds.length : Int)) : idxB (.dat (.lst ds)) (.dat (.int k)) = .ok (.dat (pick ds k)) := idx_lst (atI_pick h0 h1)
theorem pick_mem (h0 : 0 ≤ k) (h1 : k < (ds.length : Int)) : pick ds k ∈ ds := by
  unfold pick
  rw [List.getD_eq_getElem?_getD, List.getElem?_eq_getElem (by omega : k.toNat < ds.length)]
  exact List.getElem_mem _
theorem pick_map {e : α → D} [Inhabited α] (h0 : 0 ≤ k) (h1 : k < (as.length : Int)) : pick (as.map e) k = e (as.getD k.toNat default) := by
  unfold pick
  rw [List.getD_eq_getElem?_getD, List.getD_eq_getElem?_getD, List.getElem?_map, List.getElem?_eq_getElem (by omega : k.toNat < as.length)]
  rfl
theorem ixI {l : List Int} (h0 : 0 ≤ k) (h1 : k < (l.length : Int)) : idxB (.dat (.lst (l.map .int))) (.dat (.int k)) = .ok (.dat (.int (l.getD k.toNat 0))) := by
  rw [idx_pL h0 (by rwa [List.length_map]), pick_map h0 h1]; rfl
theorem pick_S {l : List Str} (h0 : 0 ≤ k) (h1 : k < (l.length : Int)) : pick (l.map .str) k = .str (l.getD k.toNat Str.empty) := by
  unfold pick
  rw [List.getD_eq_getElem?_getD, List.getD_eq_getElem?_getD, List.getElem?_map, List.getElem?_eq_getElem (by omega : k.toNat < l.length)]
  rfl
theorem ixS {l : List Str} (h0 : 0 ≤ k) (h1 : k < (l.length : Int)) : idxB (.dat (.lst (l.map .str))) (.dat (.int k)) = .ok (.dat (.str (l.getD k.toNat Str.empty))) := by
  rw [idx_pL h0 (by rwa [List.length_map]), pick_S h0 h1]
theorem slc_tup {lo hi : Option Int} : sliceB (.dat (.tup ds)) lo hi = .ok (.dat (.tup (cutL ds lo hi))) := (rfl)
theorem slc_l {lo hi : Option Int} : sliceB (.dat (.lst ds)) lo hi = .ok (.own (.l (cutL ds lo hi))) := (rfl)
theorem slc_vw {lo hi : Option Int} : sliceB (.vw (.l ds)) lo hi = .ok (.own (.l (cutL ds lo hi))) := (rfl)
theorem slc_bor {lo hi : Option Int} : sliceB (.bor (.l ds)) lo hi = .ok (.own (.l (cutL ds lo hi))) := (rfl)
theorem slc_str {lo hi : Option Int} {z : Str} (h : z.length ≤ 1000) : sliceB (.dat (.str z)) lo hi = .ok (.dat (.str (cutS z lo hi))) := if_pos (le_sz h)
theorem sIx_pos {n e : Nat} (h : 0 ≤ k) : HT.sIx n e (some k) = min k.toNat n := by
  have := HT.sIx_nat n e k.toNat
  rwa [show ((k.toNat : Nat) : Int) = k from by omega] at this
theorem cut_drop {l : List α} (h : 0 ≤ k) : cutL l (some k) none = l.drop k.toNat := by
  unfold cutL
  rw [sIx_pos h, HT.sIx_none, List.take_of_length_le (by rw [List.length_drop]; omega)]
  by_cases z : k.toNat ≤ l.length
  · rw [Nat.min_eq_left z]
  · rw [Nat.min_eq_right (by omega), List.drop_of_length_le (Nat.le_refl _), List.drop_of_length_le (by omega)]
theorem cut_tak {l : List α} (h : 0 ≤ k) : cutL l none (some k) = l.take k.toNat := by
  have := cut_take l k.toNat
  rwa [show ((k.toNat : Nat) : Int) = k from by omega] at this
theorem cat_t (h : ds.length + es.length ≤ 1000) : addB (.dat (.tup ds)) (.dat (.tup es)) = .ok (.dat (.tup (ds ++ es))) := cat_tt h
theorem cat_l (h : ds.length + es.length ≤ 1000) : addB (.dat (.lst ds)) (.dat (.lst es)) = .ok (.own (.l (ds ++ es))) := if_pos (le_sz h)
theorem cat_v (h : ds.length + es.length ≤ 1000) : addB (.vw (.l ds)) (.dat (.lst es)) = .ok (.own (.l (ds ++ es))) := if_pos (le_sz h)
theorem cat_s {y z : Str} (h : y.length + z.length ≤ 1000) : addB (.dat (.str y)) (.dat (.str z)) = .ok (.dat (.str (y ++ z))) := if_pos (le_sz h)
theorem app_l (h : ds.length < 1000) {i : Nat} {ρ : Env} : appK i (some (.l ds)) (.ok (.dat d)) ρ = .nx (ρ.set i (some (.own (.l (ds ++ [d]))))) := app_dat (Nat.lt_of_lt_of_le h (le_sz (Nat.le_refl _)))
theorem app_m (h : ds.length < 1000) {i : Nat} {ρ : Env} : appK i (some (.l ds)) (.ok (.own m)) ρ = .nx (ρ.set i (some (.own (.l (ds ++ [frzM m]))))) := app_own (Nat.lt_of_lt_of_le h (le_sz (Nat.le_refl _)))
theorem rg1 (h0 : -1000000000 ≤ k) (h1 : k ≤ 1000000000) : rgZ [.dat (.int k)] = .ok ((List.range k.toNat).map fun (i : Nat) => D.int i) := by
  rw [rgZ_eq, rng_1 (by omega) (by omega)]
  unfold rng
  rw [Int.sub_zero]
  simp only [Int.zero_add]
end
theorem pow_z {i k : Int} (h : 0 ≤ k) (h2 : k ≤ 1000) (hi : Sm64 i) : powZ (.dat (.int i)) (.dat (.int k)) = .ok (.dat (.int (i ^ k.toNat))) := by
  rw [← e_pow]; exact pow_ok h (by omega) hi
def fit : Nat → D → Bool
  | 0, .tup ds => ds.isEmpty
  | 0, .lst ds => ds.isEmpty
  | n + 1, .tup ds => decide (ds.length ≤ 1000) && ds.all (fit n)
  | n + 1, .lst ds => decide (ds.length ≤ 1000) && ds.all (fit n)
  | _, .str x => PyData.strOk x && decide (x.length ≤ 1000)
  | _, .ctup _ => false
  | _, .fn _ => false
  | _, .lk _ => false
  | _, .lt _ => false
  | _, _ => true
theorem fit_up : ∀ {n : Nat} {d : D}, fit n d = true → fit (n + 1) d = true
  | 0, .tup ds, h => by
    have e : ds = [] := List.isEmpty_iff.mp h
    subst e; rfl
  | 0, .lst ds, h => by
    have e : ds = [] := List.isEmpty_iff.mp h
    subst e; rfl
  | n + 1, .tup ds, h => by
    unfold fit at h ⊢
    rw [Bool.and_eq_true, List.all_eq_true] at h ⊢
    exact ⟨h.1, fun d hd => fit_up (h.2 d hd)⟩
  | n + 1, .lst ds, h => by
    unfold fit at h ⊢
    rw [Bool.and_eq_true, List.all_eq_true] at h ⊢
    exact ⟨h.1, fun d hd => fit_up (h.2 d hd)⟩
  | 0, .str x, h => h
  | _ + 1, .str x, h => h
  | 0, .non, _ => rfl
  | _ + 1, .non, _ => rfl
  | 0, .bl _, _ => rfl
  | _ + 1, .bl _, _ => rfl
  | 0, .int _, _ => rfl
  | _ + 1, .int _, _ => rfl
  | 0, .dk _, _ => rfl
  | _ + 1, .dk _, _ => rfl
  | 0, .dt _, _ => rfl
  | _ + 1, .dt _, _ => rfl
theorem fit_le {n m : Nat} {d : D} (h : n ≤ m) (f : fit n d = true) : fit m d = true := by
  induction h with
  | refl => exact f
  | step _ ih => exact fit_up ih
theorem fit_noF {n : Nat} {d : D} (h : fit n d = true) : d.isF = false := by
  cases d <;> first | rfl | (cases n <;> cases h)
theorem fit_str {n : Nat} {x : Str} (h : fit n (.str x) = true) : PyData.strOk x = true ∧ x.length ≤ 1000 := by
  have : (PyData.strOk x && decide (x.length ≤ 1000)) = true := by cases n <;> exact h
  rw [Bool.and_eq_true, decide_eq_true_eq] at this
  exact this
theorem fit_tup {n : Nat} {ds : List D} (h : fit n (.tup ds) = true) : ds.length ≤ 1000 ∧ ∀ d ∈ ds, fit n d = true := by
  cases n with
  | zero =>
    have e : ds = [] := List.isEmpty_iff.mp h
    subst e
    exact ⟨Nat.zero_le _, fun _ q => nomatch q⟩
  | succ n =>
    have : (decide (ds.length ≤ 1000) && ds.all (fit n)) = true := h
    rw [Bool.and_eq_true, decide_eq_true_eq, List.all_eq_true] at this
    exact ⟨this.1, fun d hd => fit_up (this.2 d hd)⟩
class ISz (i : Int) (n : outParam Nat) : Prop where
  h : i.natAbs < 2 ^ n
theorem ISz.up {i : Int} {n m : Nat} (a : ISz i n) (h : n ≤ m) : ISz i m := ⟨Nat.lt_of_lt_of_le a.h (Nat.pow_le_pow_right (by decide) h)⟩
theorem isz_of {i : Int} {n : Nat} (h1 : -(2 ^ n) < i) (h2 : i < 2 ^ n) : ISz i n := ⟨by
  have : ((2 ^ n : Nat) : Int) = 2 ^ n := by simp
  omega⟩
instance isz_lit {k : Nat} : ISz (no_index (OfNat.ofNat k)) (k.log2 + 1) := ⟨by
  show ((k : Nat) : Int).natAbs < _
  rw [Int.natAbs_natCast]
  exact Nat.lt_log2_self⟩
class Ps (k : Nat) : Prop where
  h : 0 < k
instance ps_succ {k : Nat} : Ps (k + 1) := ⟨Nat.succ_pos k⟩
instance isz_neg {i : Int} {n : Nat} [a : ISz i n] : ISz (-i) n := ⟨by rw [Int.natAbs_neg]; exact a.h⟩
theorem two_pow_add {a b n m : Nat} (h1 : a < 2 ^ n) (h2 : b < 2 ^ m) : a + b < 2 ^ (max n m + 1) := by
  have := Nat.lt_of_lt_of_le h1 (Nat.pow_le_pow_right (by decide) (Nat.le_max_left n m))
  have := Nat.lt_of_lt_of_le h2 (Nat.pow_le_pow_right (by decide) (Nat.le_max_right n m))
  rw [Nat.pow_succ]
  omega
instance isz_add {i j : Int} {n m : Nat} [a : ISz i n] [b : ISz j m] : ISz (i + j) (max n m + 1) := ⟨Nat.lt_of_le_of_lt (Int.natAbs_add_le i j) (two_pow_add a.h b.h)⟩
instance isz_sub {i j : Int} {n m : Nat} [a : ISz i n] [b : ISz j m] : ISz (i - j) (max n m + 1) := ⟨Nat.lt_of_le_of_lt (Int.natAbs_sub_le i j) (two_pow_add a.h b.h)⟩
instance isz_mul {i j : Int} {n m : Nat} [a : ISz i n] [b : ISz j m] : ISz (i * j) (n + m) := ⟨by
  rw [Int.natAbs_mul, Nat.pow_add]
  exact Nat.mul_lt_mul'' a.h b.h⟩
instance isz_mod {i : Int} {k : Nat} [hp : Ps k] : ISz (i % (no_index (OfNat.ofNat k))) (k.log2 + 1) := ⟨by
  have h : 0 < k := hp.h
  show (i % ((k : Nat) : Int)).natAbs < _
  have h1 := Int.emod_nonneg i (show ((k : Nat) : Int) ≠ 0 by omega)
  have h2 := Int.emod_lt_of_pos i (show (0 : Int) < ((k : Nat) : Int) by omega)
  have h3 : k < 2 ^ (k.log2 + 1) := Nat.lt_log2_self
  omega⟩
instance isz_div {i : Int} {n : Nat} [a : ISz i n] {j : Int} : ISz (i / j) n := ⟨Nat.lt_of_le_of_lt (Int.natAbs_ediv_le_natAbs i j) a.h⟩
theorem isz_log {i : Int} {n : Nat} (a : ISz i n) : i.natAbs.log2 ≤ n := by
  by_cases z : i.natAbs = 0
  · rw [z]; exact Nat.zero_le _
  · exact Nat.le_of_lt ((Nat.log2_lt z).mpr a.h)
theorem mul_z {i j : Int} {n m : Nat} [a : ISz i n] [b : ISz j m] (h : n + m < 1000000) : mulB (.dat (.int i)) (.dat (.int j)) = .ok (.dat (.int (i * j))) := by
  unfold mulB
  dsimp only
  have := isz_log a
  have := isz_log b
  rw [if_pos (by omega)]
theorem div_z {i j : Int} {m : Nat} [b : ISz j m] (h : 0 < j) (h2 : m < 8999) : divB (.dat (.int i)) (.dat (.int j)) = .ok (.dat (.int (i / j))) := by
  unfold divB int2
  dsimp only
  have := isz_log b
  rw [if_pos (by rw [Bool.and_eq_true, decide_eq_true_eq, decide_eq_true_eq]; exact ⟨by omega, by omega⟩), Int.fdiv_eq_ediv_of_nonneg _ (by omega)]
end Fn
namespace Fn
open PySem PySem.Spec PyProof.Rows L2
abbrev sC (l : List Nat) : Str := ⟨l.toArray⟩
theorem sC_inj {a b : List Nat} (h : sC a = sC b) : a = b := by
  injection h with h
  simpa using h
theorem idx_str {x : Str} {k : Int} {c : Nat} (h : atI x.cps.toList k = some c) (hl : x.length ≤ 1000) : idxB (.dat (.str x)) (.dat (.int k)) = .ok (.dat (.str (sC [c]))) := by
  show (match atI x.cps.toList k with | some c => (if x.length ≤ sizeLine then (.ok (.dat (.str ⟨#[c]⟩)) : Res B) else .bad) | none => .bad) = _
  rw [h]
  exact if_pos (le_sz hl)
theorem idxL {ds : List D} {n : Nat} {d : D} (k : Int) (hk : k = (n : Int)) (h : ds[n]? = some d) : idxB (.dat (.lst ds)) (.dat (.int k)) = .ok (.dat d) := by
  subst hk
  exact idx_lst (atI_nat h)
theorem rep_ok {c : Nat} {m : Int} (h1 : 0 ≤ m) (h2 : m ≤ 1000) : mulB (.dat (.str (sC [c]))) (.dat (.int m)) = .ok (.dat (.str (sC (List.replicate m.toNat c)))) := by
  show (if -1000 ≤ m ∧ m ≤ 1000 ∧ (sC [c]).length ≤ 1000 then (.ok (.dat (.str (repS (sC [c]) m))) : Res B) else .bad) = _
  rw [if_pos ⟨by omega, h2, by show 1 ≤ 1000; decide⟩]
  unfold repS
  congr 4
  simp
theorem cat_ok {a b : List Nat} (h : a.length + b.length ≤ 1000) : addB (.dat (.str (sC a))) (.dat (.str (sC b))) = .ok (.dat (.str (sC (a ++ b)))) := by
  show (if (sC a).length + (sC b).length ≤ sizeLine then (.ok (.dat (.str (sC a ++ sC b))) : Res B) else .bad) = _
  rw [if_pos (le_sz (by show a.toArray.size + b.toArray.size ≤ 1000; simpa using h))]
  congr 3
  show (⟨a.toArray ++ b.toArray⟩ : Str) = _
  simp
def abc : Str := "abcdefghijklmnopqrstuvwxyz"
theorem abc_cps : abc.cps.toList = (List.range 26).map (97 + ·) := by decide +kernel
theorem letter {j : Int} (h0 : 0 ≤ j) (h1 : j < 26) : idxB (.dat (.str abc)) (.dat (.int j)) = .ok (.dat (.str (sC [97 + j.toNat]))) := by
  refine idx_str ?_ (by decide +kernel)
  rw [abc_cps]
  have e : j = ((j.toNat : Nat) : Int) := by omega
  have q : ((List.range 26).map (97 + ·))[j.toNat]? = some (97 + j.toNat) := by
    rw [List.getElem?_map, List.getElem?_range (by omega)]
    rfl
  have := atI_nat q
  rw [← e] at this
  exact this
def abc8 : Str := "abcdefgh"
theorem abc8_cps : abc8.cps.toList = (List.range 8).map (97 + ·) := by decide +kernel
theorem letter8 {k : Nat} (h1 : k < 8) : idxB (.dat (.str abc8)) (.dat (.int (k : Int))) = .ok (.dat (.str (sC [97 + k]))) := by
  refine idx_str ?_ (by decide +kernel)
  rw [abc8_cps]
  exact atI_nat (by rw [List.getElem?_map, List.getElem?_range (by omega)]; rfl)
def nmC (x0 x1 x2 x3 : Int) (k : Nat) : List Nat :=
  if x1 % 4 = 1 then (97 + k) :: List.replicate (x3 % 8).toNat (97 + (x2 % 26).toNat)
  else if x1 % 4 = 2 then List.replicate (1 + k) (97 + (x2 % 26).toNat)
  else if x1 % 4 = 3 then [97 + (x2 % 26).toNat, 97 + ((x3 + 5 * (k : Int)) % 26).toNat, 97 + (x0 % 26).toNat]
  else List.replicate (1 + (x2 + 3 * (k : Int)) % (if x3 % 2 = 0 then 1 else 5)).toNat (97 + ((x0 + 7 * (k : Int)) % 26).toNat)
theorem repl_head {n m a b : Nat} (h : List.replicate n a = List.replicate m b) (hn : 0 < n) : a = b := by
  cases n with
  | zero => omega
  | succ n =>
    cases m with
    | zero => simp at h
    | succ m =>
      rw [List.replicate_succ, List.replicate_succ] at h
      injection h
theorem nmC_inj {x0 x1 x2 x3 : Int} {k j : Nat} (hk : k < 8) (hj : j < 8) (h : nmC x0 x1 x2 x3 k = nmC x0 x1 x2 x3 j) : k = j := by
  unfold nmC at h
  split at h
  · injection h with h _
    omega
  · split at h
    · have := congrArg List.length h
      rw [List.length_replicate, List.length_replicate] at this
      omega
    · split at h
      · injection h with _ h
        injection h with h _
        omega
      · have := repl_head h (by split <;> omega)
        omega
def isNm (x : Str) : Prop := 1 ≤ x.length ∧ x.length ≤ 8 ∧ ∀ c ∈ x.cps.toList, 97 ≤ c ∧ c < 123
theorem isNm_ok {x : Str} (h : isNm x) : PyData.strOk x = true := by
  show x.cps.all (fun c => decide (c < 0x110000)) = true
  rw [← Array.all_toList, List.all_eq_true]
  exact fun c hc => decide_eq_true (by have := h.2.2 c hc; omega)
theorem nmC_nm (x0 x1 x2 x3 : Int) {k : Nat} (hk : k < 8) : isNm (sC (nmC x0 x1 x2 x3 k)) := by
  have main : 1 ≤ (nmC x0 x1 x2 x3 k).length ∧ (nmC x0 x1 x2 x3 k).length ≤ 8 ∧ ∀ c ∈ nmC x0 x1 x2 x3 k, 97 ≤ c ∧ c < 123 := by
    unfold nmC
    split
    · refine ⟨by simp, by simp only [List.length_cons, List.length_replicate]; omega, fun c hc => ?_⟩
      rcases List.mem_cons.mp hc with rfl | hc
      · omega
      · have := List.eq_of_mem_replicate hc
        omega
    · split
      · refine ⟨by simp only [List.length_replicate]; omega, by simp only [List.length_replicate]; omega, fun c hc => ?_⟩
        have := List.eq_of_mem_replicate hc
        omega
      · split
        · refine ⟨by simp, by simp, fun c hc => ?_⟩
          simp only [List.mem_cons, List.not_mem_nil, or_false] at hc
          rcases hc with rfl | rfl | rfl <;> omega
        · refine ⟨by simp only [List.length_replicate]; split <;> omega, by simp only [List.length_replicate]; split <;> omega, fun c hc => ?_⟩
          have := List.eq_of_mem_replicate hc
          omega
  exact ⟨main.1, main.2.1, by simpa using main.2.2⟩
structure Nms (ns : List Str) (n : Nat) : Prop where
  len : ns.length = n
  nm : ∀ x ∈ ns, isNm x
  nd : ns.Nodup
  srt : (txs ns).Pairwise fun a b => leD a b = true
theorem Nms.lay {ns : List Str} {n : Nat} (h : Nms ns n) : Lays ns := fun x hx => isNm_ok (h.nm x hx)
theorem txs_sort (ns0 : List Str) : ∃ ns : List Str, (txs ns0).mergeSort leD = txs ns ∧ ns.Perm ns0 := by
  have all : ∀ d ∈ (txs ns0).mergeSort leD, ∃ x, d = .str x := fun d hd => by
    obtain ⟨x, _, rfl⟩ := List.mem_map.mp (List.mem_mergeSort.mp hd)
    exact ⟨x, rfl⟩
  obtain ⟨ns, hns⟩ := txs_of all
  exact ⟨ns, hns, txs_perm (by rw [← hns]; exact List.mergeSort_perm (txs ns0) leD)⟩
theorem sort_txs {ns0 ns : List Str} (h : Lays ns0) (hs : (txs ns0).mergeSort leD = txs ns) : sortG [.dat (.lst (txs ns0))] = .ok (.own (.l (txs ns))) := by
  rw [sort_l (sortOk_two (sortOk_txs h)), hs]
theorem nms_draw (x0 x1 x2 x3 : Int) {n : Nat} (hn : n ≤ 8) : ∃ ns : List Str, Nms ns n ∧ sortG [.dat (.lst ((List.range n).map fun k => D.str (sC (nmC x0 x1 x2 x3 k))))] = .ok (.own (.l (txs ns))) := by
  let ns0 : List Str := (List.range n).map fun k => sC (nmC x0 x1 x2 x3 k)
  have e0 : ((List.range n).map fun k => D.str (sC (nmC x0 x1 x2 x3 k))) = txs ns0 := by simp [ns0, txs]
  have nm0 : ∀ x ∈ ns0, isNm x := by
    intro x hx
    obtain ⟨k, hk, rfl⟩ := List.mem_map.mp hx
    exact nmC_nm _ _ _ _ (by have := List.mem_range.mp hk; omega)
  have nd0 : ns0.Nodup := by
    refine List.pairwise_map.mpr (List.Pairwise.imp_of_mem (fun {a b} ha hb hne h => ?_) (List.nodup_range (n := n)))
    have := List.mem_range.mp ha
    have := List.mem_range.mp hb
    exact hne (nmC_inj (by omega) (by omega) (sC_inj h))
  obtain ⟨ns, hns, hp⟩ := txs_sort ns0
  refine ⟨ns, ⟨?_, fun x hx => nm0 x (hp.mem_iff.mp hx), hp.nodup_iff.mpr nd0, by rw [← hns]; exact sortD_pair _⟩, ?_⟩
  · rw [hp.length_eq]; simp [ns0]
  · rw [e0]
    exact sort_txs (fun x hx => isNm_ok (nm0 x hx)) hns
theorem idx_26 {z : Int} : idxB (.dat (.str "abcdefghijklmnopqrstuvwxyz")) (.dat (.int (z % 26))) = .ok (.dat (.str (sC [97 + (z % 26).toNat]))) := letter (by omega) (by omega)
end Fn
namespace Fn
open PySem PySem.Spec PyProof.Rows L2
theorem loop_inv {tg : Tg} {f : Env → Out} {α : Type} {e : α → D} (I : List α → Env → Prop) : ∀ {as : List α} {ρ : Env}, I as ρ → (∀ a as ρ, I (a :: as) ρ → ∃ ρ1 ρ2, bindT tg (e a) ρ = some ρ1 ∧ (f ρ1 = .nx ρ2 ∨ f ρ1 = .ct ρ2) ∧ I as ρ2) → ∃ ρ', loopF tg f (as.map e) ρ = .nx ρ' ∧ I [] ρ'
  | [], ρ, hi, _ => ⟨ρ, rfl, hi⟩
  | a :: as, ρ, hi, hs => by
    obtain ⟨ρ1, ρ2, h1, h2, h3⟩ := hs a as ρ hi
    obtain ⟨ρ', h4, h5⟩ := loop_inv I h3 hs
    refine ⟨ρ', ?_, h5⟩
    rw [List.map_cons, loop_one h1]
    rcases h2 with h2 | h2 <;> (rw [h2]; exact h4)
abbrev pD (p : Str × Str) : D := .tup [.str p.1, .str p.2]
structure Prs (ns : List Str) (ps : List (Str × Str)) : Prop where
  l : ∀ p ∈ ps, p.1 ∈ ns
  r : ∀ p ∈ ps, p.2 ∈ ns
structure Gph (ns : List Str) (ps : List (Str × Str)) : Prop where
  nm : Nms ns ns.length
  pos : 0 < ns.length
  le : ns.length ≤ 7
  pr : Prs ns ps
  few : ps.length ≤ 12
end Fn
namespace Fn
open PySem PySem.Spec PyProof.Rows L2
theorem loop_anyD {tg : Tg} {f : Env → Out} {b : B} {ρ : Env} (p : D → Bool) {ds : List D} (h : ∀ a ∈ ds, ∃ ρ1, bindT tg a ρ = some ρ1 ∧ (f ρ1 = (if p a = true then .rt b else .nx ρ) ∨ f ρ1 = (if p a = true then .rt b else .ct ρ))) : loopF tg f ds ρ = if ds.any p = true then .rt b else .nx ρ := by
  have := loop_any (e := id) p h
  rwa [List.map_id] at this
theorem loop_sameD {tg : Tg} {f : Env → Out} {ρ : Env} {ds : List D} (h : ∀ a ∈ ds, ∃ ρ1, bindT tg a ρ = some ρ1 ∧ (f ρ1 = .nx ρ ∨ f ρ1 = .ct ρ)) : loopF tg f ds ρ = .nx ρ := by
  have := loop_same (e := id) h
  rwa [List.map_id] at this
theorem lt_D {a b : D} : ltB (.dat a) (.dat b) = (ltD a b).bind fun k => .ok (.dat (.bl k)) := rfl
def okT (r : Res Bool) : Bool := match r with
  | .ok b => b
  | _ => false
def risB (ds : List D) : Bool := (List.range (ds.length - 1)).all fun k => okT (ltD (pick ds (k : Int)) (pick ds ((k : Int) + 1)))
abbrev aToZ : Str := "abcdefghijklmnopqrstuvwxyz"
def nmB (x : Str) : Bool := decide (1 ≤ x.length) && (decide (x.length ≤ 8) && x.cps.toList.all fun c => strIn ⟨#[c]⟩ aToZ)
def isNmD : D → Bool
  | .str x => nmB x
  | _ => false
theorem isNmD_str {d : D} (h : isNmD d = true) : ∃ x, d = .str x ∧ nmB x = true := by
  cases d <;> first | exact ⟨_, rfl, h⟩ | cases h
theorem isS_str {d : D} (h : d.isS = true) : ∃ x, d = .str x := by
  cases d <;> first | exact ⟨_, rfl⟩ | cases h
theorem isT_tup {n : Nat} {d : D} (f : fit n d = true) (h : d.isT = true) : ∃ ds, d = .tup ds := by
  cases d <;> first | exact ⟨_, rfl⟩ | (exfalso; simp [D.isT] at h; done) | (exfalso; cases n <;> simp [fit] at f)
theorem in_tt {x y : Str} : inB false (.dat (.str x)) (.dat (.str y)) = .ok (.dat (.bl (strIn x y))) := by
  show Res.ok (B.dat (D.bl (strIn x y != false))) = _
  rw [Bool.bne_false]
theorem nin_ns {x : Str} {xs : List Str} (hx : PyData.strOk x = true) (h : Lays xs) : inB true (.dat (.str x)) (.dat (.tup (xs.map .str))) = .ok (.dat (.bl (!decide (x ∈ xs)))) := by
  have := in_strs hx h
  show ((inSeq (.str x) (txs xs) true).bind fun k => (.ok (.dat (.bl (k != true))) : Res B)) = _
  have h2 : ((inSeq (.str x) (txs xs) true).bind fun k => (.ok (.dat (.bl (k != false))) : Res B)) = .ok (.dat (.bl (decide (x ∈ xs)))) := this
  cases e : inSeq (.str x) (txs xs) true with
  | ok b =>
    rw [e] at h2
    have : (b != false) = decide (x ∈ xs) := by
      have h3 : Res.ok (B.dat (D.bl (b != false))) = Res.ok (B.dat (D.bl (decide (x ∈ xs)))) := h2
      simpa using h3
    show Res.ok (B.dat (D.bl (b != true))) = _
    rw [← this]
    cases b <;> rfl
  | exc c => rw [e] at h2; cases h2
  | bad => rw [e] at h2; cases h2
theorem lt_all {ds : List D} (h : ∀ d ∈ ds, ∀ e ∈ ds, ∃ b, ltD d e = .ok b) (k : Nat) (hk : k < ds.length - 1) : ∃ b, ltD (pick ds (k : Int)) (pick ds ((k : Int) + 1)) = .ok b :=
  h _ (pick_mem (by omega) (by omega)) _ (pick_mem (by omega) (by omega))
theorem lt_nms {ds : List D} (h : ds.all isNmD = true) : ∀ d ∈ ds, ∀ e ∈ ds, ∃ b, ltD d e = .ok b := by
  rw [List.all_eq_true] at h
  intro d hd e he
  obtain ⟨x, rfl, _⟩ := isNmD_str (h d hd)
  obtain ⟨y, rfl, _⟩ := isNmD_str (h e he)
  exact ⟨_, rfl⟩
theorem fit_lays {n : Nat} {ns : List D} (f : ∀ d ∈ ns, fit n d = true) (h : ns.all isNmD = true) : ∃ xs : List Str, ns = txs xs ∧ Lays xs := by
  rw [List.all_eq_true] at h
  obtain ⟨xs, rfl⟩ := txs_of fun d hd => let ⟨x, e, _⟩ := isNmD_str (h d hd); ⟨x, e⟩
  exact ⟨xs, rfl, fun x hx => (fit_str (f (.str x) (List.mem_map.mpr ⟨x, hx, rfl⟩))).1⟩
end Fn
namespace Fn
open PySem PySem.Spec PyProof.Rows L2
structure Shp (d : D) (n : Nat) : Prop where
  lay : PyData.canLay0 (toPy d) = true
  dep : PyData.depth (toPy d) ≤ n
theorem Shp.shaped {d : D} {n : Nat} (h : Shp d n) (hn : n ≤ 64) : SeqAt.shaped (toPy d) = true := by
  show (PyData.canLay0 (toPy d) && decide (PyData.depth (toPy d) ≤ 64)) = true
  rw [h.lay, decide_eq_true (Nat.le_trans h.dep hn)]
  rfl
theorem Shp.up {d : D} {n m : Nat} (h : Shp d n) (hn : n ≤ m) : Shp d m := ⟨h.lay, Nat.le_trans h.dep hn⟩
theorem shp_int (i : Int) : Shp (.int i) 0 := ⟨rfl, Nat.le_refl _⟩
theorem shp_str {x : Str} (h : PyData.strOk x = true) : Shp (.str x) 0 := ⟨by show PyData.canLay0 (.str x) = true; simp only [PyData.canLay0, h], by show PyData.depth (.str x) ≤ 0; simp [PyData.depth]⟩
theorem shp_all {n : Nat} : ∀ {ds : List D}, (∀ d ∈ ds, Shp d n) → PyData.canLayAll0 (toPys ds) = true ∧ PyData.depthAll (toPys ds) ≤ n
  | [], _ => ⟨rfl, Nat.zero_le _⟩
  | d :: ds, h => by
    obtain ⟨h1, h2⟩ := shp_all (ds := ds) fun e he => h e (List.mem_cons_of_mem _ he)
    obtain ⟨h3, h4⟩ := h d List.mem_cons_self
    constructor
    · show (PyData.canLay0 (toPy d) && PyData.canLayAll0 (toPys ds)) = true
      rw [h1, h3]; rfl
    · show max (PyData.depth (toPy d)) (PyData.depthAll (toPys ds)) ≤ n
      omega
theorem shp_tup {n : Nat} {ds : List D} (h : ∀ d ∈ ds, Shp d n) : Shp (.tup ds) (n + 1) := by
  obtain ⟨h1, h2⟩ := shp_all h
  constructor
  · show PyData.canLay0 (.tuple (toPys ds)) = true
    simp only [PyData.canLay0, h1]
  · show PyData.depth (.tuple (toPys ds)) ≤ _
    simp only [PyData.depth]
    omega
theorem shp_lst {n : Nat} {ds : List D} (h : ∀ d ∈ ds, Shp d n) : Shp (.lst ds) (n + 1) := by
  obtain ⟨h1, h2⟩ := shp_all h
  constructor
  · show PyData.canLay0 (.list (toPys ds)) = true
    simp only [PyData.canLay0, h1]
  · show PyData.depth (.list (toPys ds)) ≤ _
    simp only [PyData.depth]
    omega
theorem ne_shp {a b : D} {n m : Nat} (ha : Shp a n) (hb : Shp b m) (hn : n ≤ 64) (hm : m ≤ 64) : neB (.dat a) (.dat b) = .ok (.dat (.bl (!PyData.eqv (toPy a) (toPy b)))) := by
  unfold neB eqD
  rw [if_pos (by rw [show datOf (.dat a) = a from rfl, show datOf (.dat b) = b from rfl, ha.shaped hn, hb.shaped hm]; rfl)]
  rfl
theorem ne_nil {ds : List D} {n : Nat} (h : ∀ d ∈ ds, Shp d n) (hn : n ≤ 60) : neB (.dat (.tup ds)) (.dat (.tup [])) = .ok (.dat (.bl (!ds.isEmpty))) := by
  rw [ne_shp (shp_tup h) (shp_tup (n := 0) (ds := []) fun _ z => nomatch z) (by omega) (by omega)]
  cases ds <;> simp [toPy, toPys, PyData.eqv, PyData.eqvAll]
theorem strOk_iff {x : Str} : PyData.strOk x = true ↔ ∀ c ∈ x.cps.toList, c < 0x110000 := by
  show x.cps.all (fun c => decide (c < 0x110000)) = true ↔ _
  rw [← Array.all_toList, List.all_eq_true]
  exact ⟨fun h c hc => of_decide_eq_true (h c hc), fun h c hc => decide_eq_true (h c hc)⟩
theorem str_len {x : Str} : x.length = x.cps.toList.length := Array.length_toList.symm
theorem cutS_ok {x : Str} (h : PyData.strOk x = true) (lo hi : Option Int) : PyData.strOk (cutS x lo hi) = true ∧ (cutS x lo hi).length ≤ x.length := by
  constructor
  · rw [strOk_iff] at h ⊢
    intro c hc
    have : c ∈ (x.cps.toList.drop (HT.sIx x.length 0 lo)).take (HT.sIx x.length x.length hi - HT.sIx x.length 0 lo) := by simpa [cutS] using hc
    exact h c (List.mem_of_mem_drop (List.mem_of_mem_take this))
  · show ((x.cps.toList.drop (HT.sIx x.length 0 lo)).take (HT.sIx x.length x.length hi - HT.sIx x.length 0 lo)).toArray.size ≤ _
    rw [List.size_toArray, List.length_take, List.length_drop, str_len]
    omega
theorem app_cps (x y : Str) : (x ++ y).cps.toList = x.cps.toList ++ y.cps.toList := by
  show (x.cps ++ y.cps).toList = _
  rw [Array.toList_append]
theorem app_len (x y : Str) : (x ++ y).length = x.length + y.length := by
  rw [str_len, app_cps, List.length_append, ← str_len, ← str_len]
theorem app_ok2 {x y : Str} (hx : PyData.strOk x = true) (hy : PyData.strOk y = true) : PyData.strOk (x ++ y) = true := by
  rw [strOk_iff] at *
  intro c hc
  rw [app_cps] at hc
  rcases List.mem_append.mp hc with h | h
  · exact hx c h
  · exact hy c h
theorem idx_chr {x : Str} {k : Int} (hx : PyData.strOk x = true) (hl : x.length ≤ 1000) (h0 : 0 ≤ k) (h1 : k < (x.length : Int)) : ∃ y : Str, idxB (.dat (.str x)) (.dat (.int k)) = .ok (.dat (.str y)) ∧ PyData.strOk y = true ∧ y.length = 1 := by
  rw [str_len] at h1
  refine ⟨_, idx_str (atI_lt h0 h1) hl, ?_, rfl⟩
  rw [strOk_iff] at *
  intro c hc
  have : c = x.cps.toList[k.toNat]'(by omega) := by simpa using hc
  rw [this]
  exact hx _ (List.getElem_mem _)
theorem fit_s {n : Nat} {x : Str} (hx : PyData.strOk x = true) (hl : x.length ≤ 1000) : fit n (.str x) = true := by
  have : (PyData.strOk x && decide (x.length ≤ 1000)) = true := by rw [hx, decide_eq_true hl]; rfl
  cases n <;> exact this
theorem fit_t {n : Nat} {ds : List D} (hl : ds.length ≤ 1000) (h : ∀ d ∈ ds, fit n d = true) : fit (n + 1) (.tup ds) = true := by
  show (decide (ds.length ≤ 1000) && ds.all (fit n)) = true
  rw [decide_eq_true hl, List.all_eq_true.mpr h]; rfl
theorem fit_l {n : Nat} {ds : List D} (hl : ds.length ≤ 1000) (h : ∀ d ∈ ds, fit n d = true) : fit (n + 1) (.lst ds) = true := by
  show (decide (ds.length ≤ 1000) && ds.all (fit n)) = true
  rw [decide_eq_true hl, List.all_eq_true.mpr h]; rfl
theorem all_nil_ {p : D → Prop} : ∀ d ∈ ([] : List D), p d := fun _ h => nomatch h
theorem all_cons_ {p : D → Prop} {a : D} {ds : List D} (h : p a) (t : ∀ d ∈ ds, p d) : ∀ d ∈ a :: ds, p d := fun d hd => by
  rcases List.mem_cons.mp hd with rfl | hd
  · exact h
  · exact t d hd
theorem all_app_ {p : D → Prop} {ds es : List D} (h : ∀ d ∈ ds, p d) (t : ∀ d ∈ es, p d) : ∀ d ∈ ds ++ es, p d := fun d hd => by
  rcases List.mem_append.mp hd with hd | hd
  · exact h d hd
  · exact t d hd
theorem all_take_ {p : D → Prop} {ds : List D} (h : ∀ d ∈ ds, p d) (n : Nat) : ∀ d ∈ ds.take n, p d := fun d hd => h d (List.mem_of_mem_take hd)
theorem all_drop_ {p : D → Prop} {ds : List D} (h : ∀ d ∈ ds, p d) (n : Nat) : ∀ d ∈ ds.drop n, p d := fun d hd => h d (List.mem_of_mem_drop hd)
theorem all_rev_ {p : D → Prop} {ds : List D} (h : ∀ d ∈ ds, p d) : ∀ d ∈ ds.reverse, p d := fun d hd => h d (List.mem_reverse.mp hd)
theorem all_map_ {p : D → Prop} {α : Type} {as : List α} {f : α → D} (h : ∀ a ∈ as, p (f a)) : ∀ d ∈ as.map f, p d := fun d hd => by
  obtain ⟨a, ha, rfl⟩ := List.mem_map.mp hd
  exact h a ha
end Fn
namespace Fn
open PySem PySem.Spec PyProof.Rows L2
structure Plc where
  n : Str
  a : Int
  b : Int
  c : Int
  d : Int
structure PlOk (top : Int) (p : Plc) : Prop where
  a0 : 0 ≤ p.a
  a1 : p.a ≤ 99
  b0 : 0 ≤ p.b
  b1 : p.b ≤ 99
  c0 : p.d * top ≤ p.c
  c1 : p.c ≤ 999
  d0 : 0 ≤ p.d
  d1 : p.d ≤ 99
abbrev Tie := (Str × Str) × Int
structure Tgood (ns : List Str) (t : Tie) : Prop where
  l : t.1.1 ∈ ns
  r : t.1.2 ∈ ns
  ne : t.1.1 ≠ t.1.2
  lo : 1 ≤ t.2
  hi : t.2 ≤ 999
structure WebOk (top : Int) (ps : List Plc) (ts : List Tie) : Prop where
  t1 : 1 ≤ top
  t9 : top ≤ 9
  nm : Nms (ps.map Plc.n) ps.length
  pos : 0 < ps.length
  le : ps.length ≤ 8
  pl : ∀ p ∈ ps, PlOk top p
  ti : ∀ t ∈ ts, Tgood (ps.map Plc.n) t
  few : ts.length ≤ 16
  tnd : (ts.map (·.1)).Nodup
  tsr : ((ts.map (·.1)).map pD).Pairwise fun a b => leD a b = true
end Fn
namespace Fn
open PySem PySem.Spec PyProof.Rows L2
theorem leD_str2 {x y : Str} : leD (.str x) (.str y) = decide (x.cps.toList ≤ y.cps.toList) := by
  have := congrFun (congrFun (PySem.W.dataLe_str (fun z : Str => z)) x) y
  exact this
theorem str_eq {x y : Str} (h : x.cps.toList = y.cps.toList) : x = y := by
  cases x; cases y
  congr 1
  exact Array.toList_inj.mp h
abbrev Strict (ns : List Str) : Prop := ns.Pairwise fun a b => a.cps.toList < b.cps.toList
theorem strict_of {ns : List Str} (hn : ns.Nodup) (hs : (txs ns).Pairwise fun a b => leD a b = true) : Strict ns := by
  have h2 : ns.Pairwise fun a b => leD (.str a) (.str b) = true := List.pairwise_map.mp hs
  refine (List.pairwise_and_iff.mpr ⟨hn, h2⟩).imp fun {a b} h => ?_
  rw [leD_str2, decide_eq_true_eq] at h
  exact Std.lt_of_le_of_ne h.2 fun e => h.1 (str_eq e)
def risL : List Str → Bool
  | x :: y :: r => decide (x.cps.toList < y.cps.toList) && risL (y :: r)
  | _ => true
theorem risB_cons {d e : D} {ds : List D} : risB (d :: e :: ds) = (okT (ltD d e) && risB (e :: ds)) := by
  unfold risB
  rw [show (d :: e :: ds).length - 1 = ((e :: ds).length - 1) + 1 by simp, List.range_succ_eq_map, List.all_cons, List.all_map]
  have e0 : pick (d :: e :: ds) ((0 : Nat) : Int) = d := rfl
  have e1 : pick (d :: e :: ds) (((0 : Nat) : Int) + 1) = e := rfl
  rw [e0, e1]
  congr 1
theorem risB_txs : ∀ {xs : List Str}, risB (txs xs) = risL xs
  | [] => rfl
  | [x] => rfl
  | x :: y :: r => by
    show risB (.str x :: .str y :: txs r) = _
    rw [risB_cons, risL]
    have := risB_txs (xs := y :: r)
    rw [← this]
    rfl
def posN (ns : List Str) (x : Str) : Nat := (ixOf (txs ns) (.str x)).getD 0
theorem ix_txs {ns : List Str} {x : Str} (h : x ∈ ns) : ∃ hl : posN ns x < ns.length, ns[posN ns x] = x ∧ ixOf (txs ns) (.str x) = some (posN ns x) := by
  have ev : ∀ y : Str, PyData.eqv (toPy (.str y)) (toPy (.str x)) = decide (y = x) := fun y => by
    show PyData.eqv (.str y) (.str x) = _
    simp [PyData.eqv, Bool.beq_eq_decide_eq]
  cases e : ixOf (txs ns) (.str x) with
  | none =>
    have := List.findIdx?_eq_none_iff.mp e (.str x) (List.mem_map.mpr ⟨x, h, rfl⟩)
    rw [ev] at this
    simp at this
  | some i =>
    have hp : posN ns x = i := by unfold posN; rw [e]; rfl
    obtain ⟨hl, h1, h2⟩ := List.findIdx?_eq_some_iff_getElem.mp e
    rw [List.length_map] at hl
    rw [hp]
    refine ⟨hl, ?_, rfl⟩
    rw [List.getElem_map, ev, decide_eq_true_eq] at h1
    exact h1
theorem shp_txs {xs : List Str} (h : Lays xs) : Shp (.tup (txs xs)) 1 := shp_tup (all_map_ fun x hx => shp_str (h x hx))
def inD (ns : List Str) : D → Bool
  | .str x => decide (x ∈ ns)
  | _ => false
end Fn
namespace Fn
open PySem PySem.Spec PyProof.Rows L2
def errI (rs : List Nat) (c' : Nat) (b : B) : Res B := match b with
  | .err c => if c ∈ rs then .ok (.dat (.bl (subE c c'))) else .bad
  | _ => .bad
def errV (rs : List Nat) (b : B) : Res B := match b with
  | .err c => if c ∈ rs then .ok (.dat (.bl true)) else .bad
  | _ => .bad
def noErrB : B → Bool
  | .err _ => false
  | _ => true
def noErrO : Option B → Bool
  | some b => noErrB b
  | none => true
def noErr (ρ : Env) : Bool := ρ.all noErrO
def Bt.ht (bt : Bt) : Bt := { bt with hot := true }
section
variable {X : Cx} {g : G} {cls : Nat → Value} {k : Nat} {tab : List En} {N : List Str} {sc : Scope} {bt : Bt} {a : Expr} {pos pos2 p p2 p3 : Pos} {fa : Env → Res B} {x y m : Str} {j : Nat}
theorem CS.rz (C : CS X g cls k tab N sc bt) (c : Nat) (h : bt.ex[c]? = some x) (hr : c ∈ bt.rs) (hg : dOk sc x = true) (hh : bt.hot = false := by rfl) :
    PS X (.Raise (some (.Call (.Name x p) [.Constant (.str m) j p2] [] pos)) none pos2) (tFS g fun ρ => .exc c ρ) := by
  obtain ⟨W, tk, hW⟩ := C.tk
  obtain ⟨D, hm, hf, hc, _⟩ := C.ct.ex.at_ c x h
  obtain ⟨D', hf', hc', eo⟩ := C.ct.ex.rs c hr
  obtain rfl : D' = D := Option.some.inj (hf'.symm.trans hf)
  unfold dOk at hg
  rw [Bool.and_eq_true, decide_eq_true_eq] at hg
  refine PS.imp (ps_raise (C.ct.calm hh) tk (pmk_own PySem.F.excBase_ValueError eo.xk hm eo.kp (raises_own eo.sb eo.ty) (C.ct.gl hg.1) (nmOk_ok hg.2).1)) fun E σ H ⟨F, ρ, s, p⟩ => ?_
  show W (.ref D') none σ H
  rw [← hc]
  exact hW c σ H (p σ F H s)
theorem CS.tr (C : CS X g cls k tab N sc bt) {pn : List (Addr × Obj)} {xe : Value → Shared → Prop} {W : WX} (tk : Takes (X.tr pn xe) W) (po : PassesOwn (model X.prog X.w) X.A X.env xe) (hh : bt.hot = false) : CS (X.tr pn xe) { g with E := fun c σ H => W (cls c) none σ H, h := none } cls k tab N sc bt :=
  ⟨⟨C.ct.hK, C.ct.calm, C.ct.hN, C.ct.nd, C.ct.hS, C.ct.room, ⟨fun j en h => C.ct.tab.at_ j en h⟩, ⟨WE W, fun σ => passAt tk σ, fun _ _ _ h => h⟩, C.ct.bi, C.ct.hd, fun _ => rfl, (fun p h => by cases h), (fun z => by rw [hh] at z; cases z), C.ct.ex, ⟨fun j en h => C.ct.hs.at_ j en h⟩⟩,
    po, C.fn, ⟨W, tk, fun _ _ _ h => h⟩, C.stk, C.frm⟩
theorem CS.suite (C : CS X g cls k tab N sc bt) {a : Addr} {oe : Obj} {pn : List (Addr × Obj)} : CS (X.suite a ((a, oe) :: pn)) { g with E := fun _ _ _ => False, h := some (a, oe) } cls k tab N sc bt.ht :=
  ⟨⟨C.ct.hK, (fun z => by cases z), C.ct.hN, C.ct.nd, C.ct.hS, ⟨C.ct.room.dp, C.ct.room.un⟩, ⟨fun j en h => C.ct.tab.at_ j en h⟩, ⟨fun _ _ _ _ => False, fun σ pins H s e s' I c => pass0L pins σ H s e s' I c, fun _ _ _ h => h⟩, ⟨C.ct.bi.bi, C.ct.bi.cs⟩, (fun z => by cases z), (fun z => by cases z), (fun p h => by cases h; exact List.mem_cons_self), (fun _ => ⟨_, rfl⟩), ⟨C.ct.ex.at_, C.ct.ex.rs, C.ct.ex.sub⟩, ⟨fun j en h => C.ct.hs.at_ j en h⟩⟩,
    PassesOwn.never, C.fn, ⟨_, takes_none5, fun _ _ _ h => h⟩, C.stk, C.frm⟩
def leaveH (w : Env → Env) : Out → Out
  | .nx ρ => if noErr (w ρ) = true then .nx (w ρ) else .bad
  | .bk ρ => if noErr (w ρ) = true then .bk (w ρ) else .bad
  | .ct ρ => if noErr (w ρ) = true then .ct (w ρ) else .bad
  | .rt b => if noErrB b = true then .rt b else .bad
  | _ => .bad
def hdl (o : Option Nat) (c : Nat) (fh : Env → Out) (ρ : Env) : Out := match o with
  | none => leaveH id (fh ρ)
  | some i => leaveH (fun ρ => ρ.set i none) (fh (ρ.set i (some (.err c))))
def tryK (rs : List Nat) (c' : Nat) (o : Option Nat) (fh : Env → Out) (r : Out) : Out := match r with
  | .exc c ρ => if c ∈ rs then (if subE c c' = true then hdl o c fh ρ else .exc c ρ) else .bad
  | r => r
def tryS (rs : List Nat) (c' : Nat) (o : Option Nat) (fb fh : Env → Out) : Env → Out := fun ρ => tryK rs c' o fh (fb ρ)
section
variable {fb fh : Env → Out} {body suite : List Stmt} {b₀ : Stmt} {n : Str} {np pos' : Pos}
end
end
end Fn
namespace Fn
open PySem PySem.Spec PyProof.Rows L2
section
variable {X : Cx} {g : G} {cls : Nat → Value} {k : Nat} {tab : List En} {N : List Str} {sc : Scope} {bt : Bt} {a b e : Expr} {fa fb : Env → Res B} {p1 p2 p3 p4 : Pos}
def boolsOf : List D → Option (List Bool)
  | [] => some []
  | .bl b :: ds => (boolsOf ds).map (b :: ·)
  | _ => none
def countB (a b : B) : Res B := match seqL a, b with
  | some ds, .dat (.bl k) => (match boolsOf ds with
    | some bs => .ok (.dat (.int (bs.countP (· == k) : Nat)))
    | none => .bad)
  | _, _ => .bad
def countE (fa fb : Env → Res B) : Env → Res B := fun ρ => (fa ρ).bind fun x => match seqL (rd x) with
  | some _ => (fb ρ).bind fun y => countB (rd x) (rd y)
  | none => .bad
def countK (ra rb : Res B) : Res B := ra.bind fun x => match seqL (rd x) with
  | some _ => rb.bind fun y => countB (rd x) (rd y)
  | none => .bad
theorem e_count {ρ : Env} : countE fa fb ρ = countK (fa ρ) (fb ρ) := (rfl)
end
section
variable {ρ : Env} {f h fb fh : Env → Out} {fa : Env → Res B} {rs : List Nat} {c c' i : Nat} {o : Option Nat} {b : B} {w : Env → Env} {d : D} {m : M} {ns : List Int} {x : Option B}
theorem e_try : tryS rs c' o fb fh ρ = tryK rs c' o fh (fb ρ) := (rfl)
theorem tryK_nx : tryK rs c' o fh (.nx ρ) = .nx ρ := (rfl)
theorem tryK_rt : tryK rs c' o fh (.rt b) = .rt b := (rfl)
theorem tryK_bk : tryK rs c' o fh (.bk ρ) = .bk ρ := (rfl)
theorem tryK_ct : tryK rs c' o fh (.ct ρ) = .ct ρ := (rfl)
theorem tryK_exc (h1 : c ∈ rs) (h2 : subE c c' = true) : tryK rs c' o fh (.exc c ρ) = hdl o c fh ρ := by
  show (if c ∈ rs then (if subE c c' = true then hdl o c fh ρ else .exc c ρ) else .bad) = _
  rw [if_pos h1, if_pos h2]
theorem tryK_pass (h1 : c ∈ rs) (h2 : subE c c' = false) : tryK rs c' o fh (.exc c ρ) = .exc c ρ := by
  show (if c ∈ rs then (if subE c c' = true then hdl o c fh ρ else .exc c ρ) else .bad) = _
  rw [if_pos h1, if_neg (by rw [h2]; exact Bool.false_ne_true)]
def leaveN : Out → Out := leaveH id
def leaveS (i : Nat) : Out → Out := leaveH fun ρ => ρ.set i none
theorem hdl_none : hdl none c fh ρ = leaveN (fh ρ) := (rfl)
theorem hdl_some : hdl (some i) c fh ρ = leaveS i (fh (ρ.set i (some (.err c)))) := (rfl)
theorem leaveN_nx (h : noErr ρ = true) : leaveN (.nx ρ) = .nx ρ := if_pos h
theorem leaveN_ct (h : noErr ρ = true) : leaveN (.ct ρ) = .ct ρ := if_pos h
theorem leaveN_bk (h : noErr ρ = true) : leaveN (.bk ρ) = .bk ρ := if_pos h
theorem leaveN_rt (h : noErrB b = true) : leaveN (.rt b) = .rt b := if_pos h
theorem leaveS_nx (h : noErr (ρ.set i none) = true) : leaveS i (.nx ρ) = .nx (ρ.set i none) := if_pos h
theorem leaveS_ct (h : noErr (ρ.set i none) = true) : leaveS i (.ct ρ) = .ct (ρ.set i none) := if_pos h
theorem leaveS_bk (h : noErr (ρ.set i none) = true) : leaveS i (.bk ρ) = .bk (ρ.set i none) := if_pos h
theorem leaveS_rt (h : noErrB b = true) : leaveS i (.rt b) = .rt b := if_pos h
theorem noErr_nil : noErr [] = true := (rfl)
theorem noErr_cons : noErr (x :: ρ) = (noErrO x && noErr ρ) := (rfl)
theorem noErrO_none : noErrO none = true := (rfl)
theorem noErrO_dat : noErrO (some (.dat d)) = true := (rfl)
theorem noErrO_own : noErrO (some (.own m)) = true := (rfl)
theorem noErrO_bor : noErrO (some (.bor m)) = true := (rfl)
theorem noErrO_scr : noErrO (some (.scr ns)) = true := (rfl)
theorem noErrB_dat : noErrB (.dat d) = true := (rfl)
theorem noErrB_own : noErrB (.own m) = true := (rfl)
theorem errI_t (h1 : c ∈ rs) (h2 : subE c c' = true) : errI rs c' (.err c) = .ok (.dat (.bl true)) := by
  show (if c ∈ rs then _ else _) = _
  rw [if_pos h1, h2]
theorem errI_f (h1 : c ∈ rs) (h2 : subE c c' = false) : errI rs c' (.err c) = .ok (.dat (.bl false)) := by
  show (if c ∈ rs then _ else _) = _
  rw [if_pos h1, h2]
theorem errV_t (h1 : c ∈ rs) : errV rs (.err c) = .ok (.dat (.bl true)) := if_pos h1
def rzS (c : Nat) : Env → Out := fun ρ => .exc c ρ
theorem e_rz : rzS c ρ = .exc c ρ := (rfl)
theorem retB_err : retB (.err c) = .ok (.err c) := (rfl)
end
end Fn
namespace Fn
open PySem PySem.Spec PyProof.Rows L2
structure FrB (q : Rat) (n : Nat) : Prop where
  nn : q.num.natAbs < 2 ^ n
  dd : q.den < 2 ^ n
theorem FrB.up {q : Rat} {n m : Nat} (a : FrB q n) (h : n ≤ m) : FrB q m := ⟨Nat.lt_of_lt_of_le a.nn (Nat.pow_le_pow_right (by decide) h), Nat.lt_of_lt_of_le a.dd (Nat.pow_le_pow_right (by decide) h)⟩
theorem FrB.zd {q : Rat} {n : Nat} (a : FrB q n) : ISz (q.den : Int) n := ⟨by rw [Int.natAbs_natCast]; exact a.dd⟩
theorem divInt_num_le (a b : Int) : (Rat.divInt a b).num.natAbs ≤ a.natAbs := by
  rw [Rat.num_divInt]
  refine Nat.le_trans (Int.natAbs_ediv_le_natAbs _ _) ?_
  rw [Int.natAbs_mul]
  have : b.sign.natAbs ≤ 1 := by rw [Int.natAbs_sign]; split <;> omega
  exact Nat.le_trans (Nat.mul_le_mul_right _ this) (by omega)
theorem divInt_den_le {a b : Int} (h : b ≠ 0) : (Rat.divInt a b).den ≤ b.natAbs := by
  rw [Rat.den_divInt, if_neg h]
  exact Nat.div_le_self _ _
theorem divInt_frB {a b : Int} {n : Nat} (h : b ≠ 0) (h1 : a.natAbs < 2 ^ n) (h2 : b.natAbs < 2 ^ n) : FrB (Rat.divInt a b) n := ⟨Nat.lt_of_le_of_lt (divInt_num_le a b) h1, Nat.lt_of_le_of_lt (divInt_den_le h) h2⟩
theorem den_ne {q : Rat} : (q.den : Int) ≠ 0 := by have := q.den_pos; omega
theorem mul_den_ne {p q : Rat} : (p.den : Int) * (q.den : Int) ≠ 0 := Int.mul_ne_zero den_ne den_ne
theorem fr_add (p q : Rat) : Rat.divInt (p.num * q.den + q.num * p.den) (p.den * q.den) = p + q := by
  rw [← Rat.divInt_add_divInt _ _ den_ne den_ne, Rat.num_divInt_den, Rat.num_divInt_den]
theorem fr_sub (p q : Rat) : Rat.divInt (p.num * q.den - q.num * p.den) (p.den * q.den) = p - q := by
  rw [← Rat.divInt_sub_divInt _ _ den_ne den_ne, Rat.num_divInt_den, Rat.num_divInt_den]
theorem fr_mul (p q : Rat) : Rat.divInt (p.num * q.num) (p.den * q.den) = p * q := by
  rw [← Rat.divInt_mul_divInt, Rat.num_divInt_den, Rat.num_divInt_den]
theorem fr_div (p q : Rat) : Rat.divInt (p.num * q.den) (p.den * q.num) = p / q := by
  rw [Rat.div_def, Rat.inv_def, ← Rat.divInt_mul_divInt, Rat.num_divInt_den]
theorem pow_mul_lt {a b n m : Nat} (h1 : a < 2 ^ n) (h2 : b < 2 ^ m) : a * b < 2 ^ (n + m) := by
  rw [Nat.pow_add]
  rcases Nat.eq_zero_or_pos b with z | z
  · rw [z, Nat.mul_zero]; exact Nat.mul_pos (Nat.two_pow_pos _) (Nat.two_pow_pos _)
  · exact Nat.lt_of_lt_of_le ((Nat.mul_lt_mul_right z).mpr h1) (Nat.mul_le_mul_left _ (Nat.le_of_lt h2))
theorem FrB.add {p q : Rat} {n m : Nat} (a : FrB p n) (b : FrB q m) : FrB (p + q) (n + m + 1) := by
  rw [← fr_add]
  refine divInt_frB mul_den_ne ?_ ?_
  · have h1 := pow_mul_lt a.nn b.dd
    have h2 := pow_mul_lt b.nn a.dd
    rw [Nat.add_comm m n] at h2
    have h3 := Int.natAbs_add_le (p.num * q.den) (q.num * p.den)
    rw [Int.natAbs_mul, Int.natAbs_mul, Int.natAbs_natCast, Int.natAbs_natCast] at h3
    rw [Nat.pow_succ]; omega
  · rw [Int.natAbs_mul, Int.natAbs_natCast, Int.natAbs_natCast]
    have := pow_mul_lt a.dd b.dd
    rw [Nat.pow_succ]; omega
theorem FrB.sub {p q : Rat} {n m : Nat} (a : FrB p n) (b : FrB q m) : FrB (p - q) (n + m + 1) := by
  rw [← fr_sub]
  refine divInt_frB mul_den_ne ?_ ?_
  · have h1 := pow_mul_lt a.nn b.dd
    have h2 := pow_mul_lt b.nn a.dd
    rw [Nat.add_comm m n] at h2
    have h3 := Int.natAbs_sub_le (p.num * q.den) (q.num * p.den)
    rw [Int.natAbs_mul, Int.natAbs_mul, Int.natAbs_natCast, Int.natAbs_natCast] at h3
    rw [Nat.pow_succ]; omega
  · rw [Int.natAbs_mul, Int.natAbs_natCast, Int.natAbs_natCast]
    have := pow_mul_lt a.dd b.dd
    rw [Nat.pow_succ]; omega
theorem FrB.mul {p q : Rat} {n m : Nat} (a : FrB p n) (b : FrB q m) : FrB (p * q) (n + m) := by
  rw [← fr_mul]
  refine divInt_frB mul_den_ne ?_ ?_
  · rw [Int.natAbs_mul]; exact pow_mul_lt a.nn b.nn
  · rw [Int.natAbs_mul, Int.natAbs_natCast, Int.natAbs_natCast]; exact pow_mul_lt a.dd b.dd
theorem FrB.div {p q : Rat} {n m : Nat} (a : FrB p n) (b : FrB q m) (h : q ≠ 0) : FrB (p / q) (n + m) := by
  rw [← fr_div]
  have hn : q.num ≠ 0 := fun z => h (Rat.num_eq_zero.mp z)
  refine divInt_frB (Int.mul_ne_zero den_ne hn) ?_ ?_
  · rw [Int.natAbs_mul, Int.natAbs_natCast]; exact pow_mul_lt a.nn b.dd
  · rw [Int.natAbs_mul, Int.natAbs_natCast]; exact pow_mul_lt a.dd b.nn
end Fn
namespace Fn
open PySem PySem.Spec PyProof.Rows L2
def pB (cut : List Str) (p : Plc) : Int := if p.n ∈ cut then p.c else p.a
def pL (cut : List Str) (p : Plc) : Int := if p.n ∈ cut then -p.d else p.b
def tieB (cut : List Str) (t : Tie) : Int := if t.1.1 ∈ cut ∧ t.1.2 ∉ cut then t.2 else 0
def lnB (cut : List Str) (ps : List Plc) (ts : List Tie) : Int := (ps.map (pB cut)).sum + (ts.map (tieB cut)).sum
def lnL (cut : List Str) (ps : List Plc) : Int := (ps.map (pL cut)).sum
end Fn
namespace Fn
open PySem PySem.Spec PyProof.Rows L2
theorem drop_any {b : B} {ρ : Env} : dropS b ρ = .nx ρ := (rfl)
mutual
def pur : D → Bool
  | .non => true
  | .int _ => true
  | .str _ => true
  | .tup ds => purs ds
  | .lst ds => purs ds
  | _ => false
def purs : List D → Bool
  | [] => true
  | d :: ds => pur d && purs ds
end
mutual
theorem eqv_pur : ∀ {a b : D}, pur a = true → pur b = true → (PyData.eqv (toPy a) (toPy b) = true ↔ a = b)
  | .non, b, _, hb => by cases b <;> simp_all [pur, toPy, PyData.eqv]
  | .int i, b, _, hb => by cases b <;> simp_all [pur, toPy, PyData.eqv]
  | .str x, b, _, hb => by cases b <;> simp_all [pur, toPy, PyData.eqv]
  | .tup ds, b, ha, hb => by
    cases b with
    | tup es =>
      have := eqvs_pur (as := ds) (bs := es) (by simpa [pur] using ha) (by simpa [pur] using hb)
      simp only [toPy, PyData.eqv, D.tup.injEq]
      exact this
    | _ => simp_all [pur, toPy, PyData.eqv]
  | .lst ds, b, ha, hb => by
    cases b with
    | lst es =>
      have := eqvs_pur (as := ds) (bs := es) (by simpa [pur] using ha) (by simpa [pur] using hb)
      simp only [toPy, PyData.eqv, D.lst.injEq]
      exact this
    | _ => simp_all [pur, toPy, PyData.eqv]
theorem eqvs_pur : ∀ {as bs : List D}, purs as = true → purs bs = true → (PyData.eqvAll (toPys as) (toPys bs) = true ↔ as = bs)
  | [], [], _, _ => by simp [toPys, PyData.eqvAll]
  | [], b :: bs, _, _ => by simp [toPys, PyData.eqvAll]
  | a :: as, [], _, _ => by simp [toPys, PyData.eqvAll]
  | a :: as, b :: bs, ha, hb => by
    simp only [purs, Bool.and_eq_true] at ha hb
    have h1 := eqv_pur ha.1 hb.1
    have h2 := eqvs_pur ha.2 hb.2
    simp only [toPys, PyData.eqvAll, Bool.and_eq_true, List.cons.injEq, h1, h2]
end
end Fn
namespace Fn
open PySem PySem.Spec PyProof.Rows L2
theorem ris_strict : ∀ {xs : List Str}, Strict xs → risL xs = true
  | [], _ => rfl
  | [x], _ => rfl
  | x :: y :: r, h => by
    rw [risL, decide_eq_true ((List.pairwise_cons.mp h).1 y List.mem_cons_self), Bool.true_and]
    exact ris_strict (List.pairwise_cons.mp h).2
theorem cut_len_ {α : Type} {l : List α} {lo hi : Option Int} : (cutL l lo hi).length ≤ l.length := by
  unfold cutL
  rw [List.length_take, List.length_drop]
  omega
end Fn
namespace Fn
open PySem PySem.Spec PyProof.Rows L2
def errT (rs cs : List Nat) (b : B) : Res B := match b with
  | .err c => if c ∈ rs then .ok (.dat (.bl (cs.any (subE c)))) else .bad
  | _ => .bad
section
variable {X : Cx} {g : G} {cls : Nat → Value} {k : Nat} {tab : List En} {N : List Str} {sc : Scope} {bt : Bt} {a : Expr} {pos pos2 p p2 p3 : Pos} {fa : Env → Res B} {x y m : Str} {j : Nat}
end
section
variable {rs cs : List Nat} {c : Nat}
theorem errT_t (h1 : c ∈ rs) (h2 : cs.any (subE c) = true) : errT rs cs (.err c) = .ok (.dat (.bl true)) := by
  show (if c ∈ rs then _ else _) = _
  rw [if_pos h1, h2]
theorem errT_f (h1 : c ∈ rs) (h2 : cs.any (subE c) = false) : errT rs cs (.err c) = .ok (.dat (.bl false)) := by
  show (if c ∈ rs then _ else _) = _
  rw [if_pos h1, h2]
end
section
variable {X : Cx} {g : G} {cls : Nat → Value} {k : Nat} {tab : List En} {N : List Str} {sc : Scope} {bt : Bt} {a : Expr} {pos p p2 p3 : Pos} {fa : Env → Res B}
end
end Fn
namespace Fn
open PySem PySem.Spec PyProof.Rows L2
def inS (p : Plc) (q : Rat) : Rat := (p.a : Rat) + (p.b : Rat) * q
def ouS (p : Plc) (q : Rat) : Rat := (p.c : Rat) - (p.d : Rat) * q
theorem ne_pur_b {a b : D} {n m : Nat} {x : Bool} (ha : Shp a n) (hb : Shp b m) (hn : n ≤ 64) (hm : m ≤ 64) (pa : pur a = true) (pb : pur b = true) (h : x = true ↔ a = b) : neB (.dat a) (.dat b) = .ok (.dat (.bl !x)) := by
  rw [ne_shp ha hb hn hm]
  have : PyData.eqv (toPy a) (toPy b) = x := by rw [Bool.eq_iff_iff, eqv_pur pa pb, h]
  rw [this]
end Fn
namespace PySem
open PySem PySem.W PySem.Calls PyProof.Rows
set_option maxHeartbeats 1000000 in
theorem fn_enum_newT (l : Addr) (items : Array Value) (n : Nat) (dct : Option Addr) (sl : Array (Option Value)) :
    Meets (Builtin.«enumerate.__new__» ⟨[.type "enumerate", .ref l], []⟩) (fun _ R s => s.heap.IsTuple l items ∧
      R (.ok (.ret (.ref (s.heap.push { cls := .type "tuple_iterator", data := .fields #[.ref l, .int 0 0] }).objs.size)))
        { s with heap := (s.heap.push { cls := .type "tuple_iterator", data := .fields #[.ref l, .int 0 0] }).push { cls := .type "enumerate", data := .fields #[.none, .bool false, .ref s.heap.objs.size, rawInt 0, .none, .none] } }) :=
  .of_wp fun prog w A R s ⟨hL, h⟩ => by
    obtain ⟨hp, g, d, tk, os⟩ := s
    have hsub := sub_enumerate
    obtain ⟨o, ho, hc, _⟩ := id hL
    wp_walk
    refine wpAny_stack_any fun st => wpAny_pure ?_
    split
    · rename_i c _ _ _ _ _
      cases (c == Value.type "enumerate")
      · wp_walk using wpAny_loadPart' ho, wpAny_pyIter_tuple hL
        exact ⟨_, rfl, h⟩
      · wp_walk using wpAny_loadPart' ho, wpAny_pyIter_tuple hL
        exact ⟨_, rfl, h⟩
    · wp_walk using wpAny_loadPart' ho, wpAny_pyIter_tuple hL
      exact ⟨_, rfl, h⟩
section
variable {prog : Program} {w : World} {A : Around} {E : Value → Shared → Prop} {s : Shared}
theorem fn_call_enumT {l : Addr} {items : Array Value} {Q : Value → Shared → Prop} (hL : s.heap.IsTuple l items)
    (h : ∀ h', IsEnum h' (s.heap.objs.size + 1) s.heap.objs.size 0 .none → h'.IsTupleIter s.heap.objs.size l 0 → h'.objs.size = s.heap.objs.size + 2 →
      (∀ b o, s.heap.get? b = some o → h'.get? b = some o) → Q (.ref (s.heap.objs.size + 1)) { s with heap := h' }) :
    wpAny (model prog w) A (call (.type "enumerate") [.ref l]) Q E s := by
  refine callType_new F.called_enumerate (by decide) (F.typeCall_enumerate_1 _) (F.newCall_enumerate_1 _) (fun obj => F.args_object_init_2 obj _) F.entry_enumerate_new
    (fn_enum_newT l items 0 none #[]) ⟨hL, ?_⟩
  have hz : (s.heap.push { cls := .type "tuple_iterator", data := .fields #[.ref l, .int 0 0] }).objs.size = s.heap.objs.size + 1 := Heap.size_push ..
  show _ ∧ _
  rw [hz]
  have he : IsEnum ((s.heap.push { cls := .type "tuple_iterator", data := .fields #[.ref l, .int 0 0] }).push
      { cls := .type "enumerate", data := .fields #[.none, .bool false, .ref s.heap.objs.size, rawInt 0, .none, .none] }) (s.heap.objs.size + 1) s.heap.objs.size 0 .none := by
    have := Heap.get?_push_size (s.heap.push { cls := .type "tuple_iterator", data := .fields #[.ref l, .int 0 0] })
      (o := { cls := .type "enumerate", data := .fields #[.none, .bool false, .ref s.heap.objs.size, rawInt 0, .none, .none] }) rfl
    rw [hz] at this; exact this
  refine ⟨⟨_, he, rfl⟩, h _ he ⟨_, Heap.get?_push_of_some _ (Heap.get?_push_size _ rfl), rfl, rfl⟩ (by rw [Heap.size_push, hz]) fun b o x => Heap.get?_push_of_some _ (Heap.get?_push_of_some _ x)⟩
end
end PySem
namespace L2
open PySem PySem.Spec PyProof.Rows
def IteT (K : PySem.W.Frag) (a : Addr) : It :=
  ⟨fun i H => ∃ (xs : List V) (x : V), SqT K H a xs ∧ xs[i]? = some x, fun i H v H' => ∃ T x, v = .ref T ∧ H T = none ∧ H' = upd H T (.tup [.int (i : Nat), x]) ∧ ∀ xs, SqT K H a xs → xs[i]? = some x, fun i H => ∃ xs : List V, SqT K H a xs ∧ xs.length ≤ i⟩
theorem turn_enumT {P : Program} {w : World} {K : PySem.W.Frag} {elts : List Expr} {kk : Nat} {tpos : Pos} (a e it : Addr) (hea : a ≠ e) (hia : a ≠ it) :
    Turn P w K (.Tuple elts kk tpos) (IteT K a) [e, it] e (fun i h => (∃ old, IsEnum h e it ((i : Nat) : Int) old) ∧ h.IsTupleIter it a i ∧ e ≠ it) where
  mem := by simp
  obj := fun i h st b hb => by
    obtain ⟨⟨old, he⟩, ⟨o, ho, hc, hd⟩, _⟩ := st
    have e' : b = e ∨ b = it := by simpa using hb
    rcases e' with z | z
    · rw [z]; exact ⟨_, he, fun v q => nomatch q⟩
    · rw [z]; exact ⟨o, ho, fun v q => by rw [hd] at q; cases q⟩
  keep := fun i h h' st k => let ⟨⟨old, he⟩, hi, hne⟩ := st; ⟨⟨old, k e (by simp) _ he⟩, hi.at fun o q => k it (by simp) o q, hne⟩
  item := by
    intro X hP hw hK hc i pins s σ H E I hf st hg
    subst hP hw hK
    obtain ⟨⟨old, he⟩, hit, hne⟩ := st
    obtain ⟨xs, x, hq, hx⟩ := hg
    obtain ⟨its, rv, p, hz⟩ := I.tuple hq
    obtain ⟨u, hu, ru⟩ := rv.get hx
    have hel : e < s.heap.objs.size := Heap.lt_size he
    have hil : it < s.heap.objs.size := by obtain ⟨_, q, _⟩ := hit; exact Heap.lt_size q
    have hu' : its.toArray[i]? = some u := by simpa using hu
    have hlt : i < its.toArray.size := (Array.getElem?_eq_some_iff.mp hu').1
    have D := Draws.tuple (prog := X.prog) (w := X.w) (A := X.A.in1) (show X.A.in1.handled = none from I.ok.hd hc) it a hia its.toArray
    refine wpAny_pyNext_enum_itemD D he ⟨hit, p⟩ hlt hne (by simp [hne, Ne.symm hea]) fun x' h' tk hP ho hs' hT hsz hk => ?_
    obtain rfl : x' = u := by rw [hu'] at hP; exact (Option.some.inj hP).symm
    refine ⟨_, rfl, wpAny_letOwnedTupleGo_enum (s := { s with heap := h', toks := tk + 1 }) ho fun h'' he' sb => ?_⟩
    have hT2 : h''.get? s.heap.objs.size = some { cls := .type "tuple", data := .seq #[.int i tk, x'] } := (sb.2 _ (Nat.ne_of_gt hel)).trans hT
    have new : ObjOk X.prog X.w (upd H s.heap.objs.size (.tup [.int (i : Nat), x])) h'' s.heap.objs.size (.tup [.int (i : Nat), x]) :=
      ⟨by show 2 ≤ sizeLine; decide, [.int i tk, x'], .cons ⟨_, rfl⟩ (.cons ru .nil), ⟨_, hT2, rfl, _, rfl⟩⟩
    have I1 : Inv X pins σ (upd H s.heap.objs.size (.tup [.int (i : Nat), x])) { s with heap := h'', toks := tk + 1 } :=
      I.turnedNew (ch := [e, it]) (fun b ob hb q => (sb.2 b (fun z => hb (by simp [z]))).trans (hk b ob (fun z => hb (by simp [z])) (fun z => hb (by simp [z])) q)) hf (Nat.le_refl _) new
    refine ⟨.ref s.heap.objs.size, _, I1, rfl, ⟨_, x, rfl, I.hok.fresh (Nat.le_refl _), rfl, fun ys hy => by rw [I.tuple_inj hy hq]; exact hx⟩, ⟨⟨x', ?_⟩, hs'.1.at fun o q => (sb.2 it (Ne.symm hne)).trans q, hne⟩, fun b hb => ?_⟩
    · have e1 : ((i + 1 : Nat) : Int) = (i : Int) + 1 := by omega
      rw [e1]; exact he'
    · have hb' : b < s.heap.objs.size := by
        have e' : b = e ∨ b = it := by simpa using hb
        rcases e' with z | z
        · rw [z]; exact hel
        · rw [z]; exact hil
      rw [upd_ne (Nat.ne_of_lt hb')]
      exact (hf b hb).1
  done := by
    intro X hP hw hK hc i pins s σ H E I hf st hg
    subst hP hw hK
    obtain ⟨⟨old, he⟩, hit, hne⟩ := st
    obtain ⟨xs, hq, hx⟩ := hg
    obtain ⟨its, rv, p, hz⟩ := I.tuple hq
    obtain ⟨f0, f1, f2, f3, f4, f5⟩ := hf it (by simp)
    have hl := rv.length
    have hh : X.A.in1.handled = none := I.ok.hd hc
    have D : Draws X.prog X.w X.A.in1 it [it, a] i (fun _ _ => True) (fun j h => j = i ∧ h.IsTupleIter it a i ∧ h.IsTuple a its.toArray) :=
      { live := fun _ _ st => let ⟨o, ho, _⟩ := st.2.1; ⟨o, ho⟩
        frame := fun _ _ _ st hk => ⟨st.1, st.2.1.at fun o e => hk it (by simp) o e, st.2.2.at fun o e => hk a (by simp) o e⟩
        item := fun j s Q E hj st hQ => absurd st.1 (Nat.ne_of_lt hj)
        done := fun s Q E st hE => wpAny_nextOf_tuple_end hh st.2.1 st.2.2 (by simp; omega) hE }
    exact wpAny_pyNext_enum_endD D he ⟨rfl, hit, p⟩ fun h' eb => ⟨rfl, I.turned (t' := s.toks) (fun b o hb q => eb b o hb q) f0 f1 f3 f4 f5⟩
  self := fun A i s Q E st h => let ⟨⟨_, he⟩, _⟩ := st; wpAny_pyIter_enum he h
def iEnumT (K : PySem.W.Frag) (ta : TA) : TI := fun σ H R => ta σ H fun vs H1 => ∃ a xs, vs = [.ref a] ∧ ((SqL K H1 a xs ∧ R (Ite K a) H1) ∨ (SqT K H1 a xs ∧ R (IteT K a) H1))
theorem pi_enumT {X : Cx} {e : Expr} {ta : TA} {p pos tpos : Pos} {elts : List Expr} {kk : Nat} (hg : Gl X "enumerate") (hm : X.mg "enumerate" = none) (ha : PA X [e] ta) (hs : starEach [e] X.env = [(false, eval e X.env)]) :
    PI X (.Tuple elts kk tpos) (.Call (.Name "enumerate" p) [e] [] pos) (iEnumT X.K ta) := by
  refine ⟨fun pins s σ H R I h => ?_⟩
  refine Call_ (ld_blt I hg hm boot_enumerate (PyProof.Rows.callWith_type1 (thn (ha.run pos pins s σ H _ I h) fun us s1 ⟨vs, H1, I1, r1, q1⟩ => ?_) hs rfl))
  obtain ⟨a, xs, ex, q1⟩ := q1
  subst ex
  cases r1 with
  | cons r rr =>
    cases rr
    cases r
    have fr : ∀ b, b ∈ [s1.heap.objs.size + 1, s1.heap.objs.size] → FpOk X pins H1 b := fun b hb => by
      have e' : b = s1.heap.objs.size + 1 ∨ b = s1.heap.objs.size := by simpa using hb
      have hle : s1.heap.objs.size ≤ b := by
        rcases e' with z | z
        · rw [z]; exact Nat.le_add_right _ _
        · rw [z]; exact Nat.le_refl _
      exact I1.fpOk hle (I1.hok.fresh hle)
    rcases q1 with ⟨hq, q⟩ | ⟨hq, q⟩
    · obtain ⟨its, rv, p', hz⟩ := I1.list hq
      refine call_enumerate_list p'.isList fun h' he hit hsz hk => wpAny_pyIter_enum he ?_
      have I2 : Inv X pins σ H1 { s1 with heap := h' } := I1.kept (t' := s1.toks) hk
      exact ⟨s1.heap.objs.size + 1, [s1.heap.objs.size + 1, s1.heap.objs.size], _, _, H1, rfl, I2, turn_enum a (s1.heap.objs.size + 1) s1.heap.objs.size, ⟨⟨.none, he⟩, hit, Nat.succ_ne_self _⟩, fr, q⟩
    · obtain ⟨its, rv, p', hz⟩ := I1.tuple hq
      obtain ⟨o, ho, _⟩ := id p'
      have hlt := Heap.lt_size ho
      refine fn_call_enumT (show s1.heap.IsTuple a its.toArray from p') fun h' he hit hsz hk => wpAny_pyIter_enum he ?_
      have I2 : Inv X pins σ H1 { s1 with heap := h' } := I1.kept (t' := s1.toks) hk
      exact ⟨s1.heap.objs.size + 1, [s1.heap.objs.size + 1, s1.heap.objs.size], _, _, H1, rfl, I2, turn_enumT a (s1.heap.objs.size + 1) s1.heap.objs.size (Nat.ne_of_lt (Nat.lt_succ_of_lt hlt)) (Nat.ne_of_lt hlt), ⟨⟨.none, he⟩, hit, Nat.succ_ne_self _⟩, fr, q⟩
end L2
namespace Fn
open PySem PySem.Spec PyProof.Rows L2 RZ
def tupsB : B → Option (List D)
  | .dat (.tup ds) => some ds
  | .dat (.ctup ds) => some ds
  | _ => none
def lstsB (lk : Bool) : B → Option (List D)
  | .dat (.lst ds) => some ds
  | .vw (.l ds) => if lk = true then some ds else none
  | .bor (.l ds) => some ds
  | .scr ns => some (ns.map .int)
  | _ => none
def zipD (xs ys : List D) : List D := List.zipWith (fun a b => D.tup [a, b]) xs ys
def enD (xs : List D) : List D := zipD ((List.range xs.length).map fun (i : Nat) => D.int i) xs
def enA (lk : Bool) (bs : List B) : Res (List D) := match bs with
  | [a] => (match tupsB a with
    | some xs => .ok (enD xs)
    | none => (match lstsB lk a with
      | some xs => .ok (enD xs)
      | none => .bad))
  | _ => .bad
section
variable {X : Cx} {g : G} {a b : Expr} {pos p : Pos} {fa fb : Env → Res B} {lk : Bool} {F1 H1 : Hp} {v : V} {c : B} {ds : List D}
theorem tups_at (s : Sm g F1 H1) (r : RR g F1 H1 v c) (h : tupsB c = some ds) : ∃ a xs, v = .ref a ∧ (∀ F H, PP g lk F1 H1 F H → SqT g.K H a xs) ∧ SqT g.K H1 a xs ∧ RpAll g.K g.fa F1 xs ds := by
  unfold tupsB at h
  split at h
  · cases h
    cases r with
    | tup h1 h2 => exact ⟨_, _, rfl, (fun F H q => SqT.of (q.2.1 _ _ (q.1 _ _ h1))), SqT.of (s.fh _ _ h1), h2⟩
  · cases h
    cases r with
    | ctup h1 h2 => exact ⟨_, _, rfl, (fun F H q => sqT_none h1), sqT_none h1, h2⟩
  · cases h
theorem lsts_at (s : Sm g F1 H1) (r : RR g F1 H1 v c) (h : lstsB lk c = some ds) : ∃ a xs, v = .ref a ∧ (∀ F H, PP g lk F1 H1 F H → SqL g.K H a xs) ∧ SqL g.K H1 a xs ∧ RpAll g.K g.fa F1 xs ds := by
  unfold lstsB at h
  split at h
  · cases h
    cases r with
    | lst h1 h2 => exact ⟨_, _, rfl, (fun F H q => SqL.of (q.2.1 _ _ (q.1 _ _ h1))), SqL.of (s.fh _ _ h1), h2⟩
  · split at h
    · rename_i hl
      cases h
      obtain ⟨p, o, rfl, h1, h2⟩ := r
      cases h2 with
      | l h2 => exact ⟨_, _, rfl, (fun F H q => SqL.of (q.2.2.2 hl _ _ h1)), SqL.of h1, h2⟩
    · cases h
  · cases h
    obtain ⟨p, o, rfl, h1, h2⟩ := r
    cases h2 with
    | l h2 => exact ⟨_, _, rfl, (fun F H q => SqL.of (q.2.2.1 _ _ h1)), SqL.of (s.gh _ _ h1), h2⟩
  · cases h
    obtain ⟨p, rfl, h1⟩ := r
    exact ⟨_, _, rfl, (fun F H q => q.2.2.1.seq h1), s.gh.seq h1, RpAll.of_ints _⟩
  · cases h
theorem zip_get {xs ys : List D} {i : Nat} {d : D} (h : (zipD xs ys)[i]? = some d) : ∃ x y, xs[i]? = some x ∧ ys[i]? = some y ∧ d = .tup [x, y] := by
  unfold zipD at h
  rw [List.getElem?_zipWith] at h
  cases e1 : xs[i]? with
  | none => rw [e1] at h; cases h
  | some x =>
    cases e2 : ys[i]? with
    | none => rw [e1, e2] at h; cases h
    | some y => rw [e1, e2] at h; cases h; exact ⟨x, y, rfl, rfl, rfl⟩
theorem zip_len {xs ys : List D} : (zipD xs ys).length = min xs.length ys.length := List.length_zipWith
theorem en_len {xs : List D} : (enD xs).length = xs.length := by
  unfold enD
  rw [zip_len, List.length_map, List.length_range, Nat.min_self]
theorem en_get {xs : List D} {i : Nat} {d : D} (h : (enD xs)[i]? = some d) : ∃ x, xs[i]? = some x ∧ d = .tup [.int (i : Nat), x] := by
  obtain ⟨n, x, h1, h2, rfl⟩ := zip_get h
  refine ⟨x, h2, ?_⟩
  rw [List.getElem?_map] at h1
  have hi : i < xs.length := (List.getElem?_eq_some_iff.mp h2).1
  rw [List.getElem?_range hi] at h1
  cases h1
  rfl
theorem pair_new {F H : Hp} {T : Addr} {x y : V} {dx dy : D} (q : Same F H) (hT : H T = none) (hx : Rp g.K g.fa F x dx) (hy : Rp g.K g.fa F y dy) : ∃ F', Grow F H F' (upd H T (.tup [x, y])) ∧ Rp g.K g.fa F' (.ref T) (.tup [dx, dy]) :=
  ⟨upd F T (.tup [x, y]), Grow.newF q hT, .tup upd_same (.cons (hx.mono (same_upd (q.free hT))) (.cons (hy.mono (same_upd (q.free hT))) .nil))⟩
theorem en_it {p1 : Addr} {xs : List V} {ds : List D} (h1 : ∀ F H, PP g lk F1 H1 F H → SqL g.K H p1 xs) (r1 : RpAll g.K g.fa F1 xs ds) : ItOk g (PP g lk F1 H1) (Ite g.K p1) (enD ds) where
  go := fun i F H q hi => by
    rw [en_len] at hi
    exact ⟨xs, xs[i]'(by rw [r1.len]; omega), h1 F H q, by simp⟩
  stop := fun i F H q hi => by
    rw [en_len] at hi
    exact ⟨xs, h1 F H q, by rw [r1.len]; exact hi⟩
  yld := fun i F H x H' d q hd hy => by
    obtain ⟨T, x, rfl, hT, rfl, gx⟩ := hy
    obtain ⟨dx, e1, rfl⟩ := en_get hd
    obtain ⟨v1, k1, k2⟩ := r1.get e1
    have z1 := gx xs (h1 F H q)
    rw [k1] at z1
    cases z1
    exact pair_new q.2.1 hT (.int _) (k2.mono q.1)
theorem en_itT {p1 : Addr} {xs : List V} {ds : List D} (h1 : ∀ F H, PP g lk F1 H1 F H → SqT g.K H p1 xs) (r1 : RpAll g.K g.fa F1 xs ds) : ItOk g (PP g lk F1 H1) (IteT g.K p1) (enD ds) where
  go := fun i F H q hi => by
    rw [en_len] at hi
    exact ⟨xs, xs[i]'(by rw [r1.len]; omega), h1 F H q, by simp⟩
  stop := fun i F H q hi => by
    rw [en_len] at hi
    exact ⟨xs, h1 F H q, by rw [r1.len]; exact hi⟩
  yld := fun i F H x H' d q hd hy => by
    obtain ⟨T, x, rfl, hT, rfl, gx⟩ := hy
    obtain ⟨dx, e1, rfl⟩ := en_get hd
    obtain ⟨v1, k1, k2⟩ := r1.get e1
    have z1 := gx xs (h1 F H q)
    rw [k1] at z1
    cases z1
    exact pair_new q.2.1 hT (.int _) (k2.mono q.1)
theorem PostI.of {σ : L2.St} {F H : Hp} {r : Res (List D)} {R : It → Hp → Prop} {ds : List D} (p : PostI g lk σ F H r R) (e : r = .ok ds) {F1 H1 : Hp} (g1 : Grow F H F1 H1) {J : It} (ok : ItOk g (PP g lk F1 H1) J ds) : R J H1 := by
  subst e
  exact p F1 H1 J g1 ok
theorem fi_enum {elts : List Expr} {kk : Nat} {tpos : Pos} {fs : Env → Res (List B)} (hK : g.K = X.K) (hg : Gl X "enumerate") (hm : X.mg "enumerate" = none) (hn : nst a = true) (ha : PA X [a] (tFA g fs)) : PI X (.Tuple elts kk tpos) (.Call (.Name "enumerate" p) [a] [] pos) (tFI g lk fun ρ => (fs ρ).bind (enA lk)) := by
  refine PI.imp (pi_enumT hg hm ha (star_cons hn)) fun σ H R ⟨F, ρ, s, q⟩ => ⟨F, ρ, s, ?_⟩
  dsimp only at q
  cases e : fs ρ with
  | exc c => rw [e, Res.exc_bind] at q; exact q
  | bad => rw [e] at q; exact q
  | ok bs =>
    rw [e, Res.ok_bind] at q
    intro vs F1 H1 g1 r1
    have s1 := (s.grow g1).sm
    unfold enA at q
    split at q
    · rename_i a
      cases r1 with
      | cons ra rn =>
        cases rn
        split at q
        · rename_i xs t1
          obtain ⟨p1, us, rfl, k1, k2, k3⟩ := tups_at (lk := lk) s1 ra t1
          rw [← hK]
          exact ⟨p1, us, rfl, .inr ⟨k2, q F1 H1 _ g1 (en_itT k1 k3)⟩⟩
        · split at q
          · rename_i xs t1
            obtain ⟨p1, us, rfl, k1, k2, k3⟩ := lsts_at (lk := lk) s1 ra t1
            rw [← hK]
            exact ⟨p1, us, rfl, .inl ⟨k2, q F1 H1 _ g1 (en_it k1 k3)⟩⟩
          · exact q.elim
    · exact q.elim
end
end Fn
namespace Fn
open PySem PySem.Spec PyProof.Rows L2
def kIx : List Key → Key → Option Nat
  | [], _ => none
  | k' :: ks, k => if k' = k then some 0 else (kIx ks k).map (· + 1)
theorem zip_val {k : Key} : ∀ {ks : List Key} {vs : List V}, ks.length = vs.length → (kIx ks k = none → valV (ks.zip vs) k = none) ∧ (∀ n, kIx ks k = some n → ∃ v, vs[n]? = some v ∧ valV (ks.zip vs) k = some v)
  | [], [], _ => ⟨fun _ => rfl, fun n h => by cases h⟩
  | [], _ :: _, h => by simp at h
  | _ :: _, [], h => by simp at h
  | a :: ks, v :: vs, h => by
    have h' : ks.length = vs.length := by simpa using h
    obtain ⟨i1, i2⟩ := zip_val (k := k) h'
    unfold kIx
    by_cases e : a = k
    · rw [if_pos e]
      refine ⟨fun z => (by cases z), fun n z => ?_⟩
      cases z
      exact ⟨v, rfl, valV_pos e⟩
    · rw [if_neg e]
      refine ⟨fun z => ?_, fun n z => ?_⟩
      · rw [List.zip_cons_cons, valV_neg e]
        exact i1 (by cases hk : kIx ks k with
          | none => rfl
          | some m => rw [hk] at z; cases z)
      · cases hk : kIx ks k with
        | none => rw [hk] at z; cases z
        | some m =>
          rw [hk] at z
          cases z
          obtain ⟨w, h1, h2⟩ := i2 m hk
          exact ⟨w, h1, by rw [List.zip_cons_cons, valV_neg e]; exact h2⟩
section
variable {g : G} {F H F' H' : Hp} {σ : L2.St} {ρ : Env} {i : Nat} {ks : List Key} {ls : List (List D)} {k : Key}
theorem St.nst_at (s : St g F H σ ρ) {sh : Sh} (h : ρ[i]? = some (some (.nst sh ls))) : ∃ p qs, σ[i]? = some (some (.ref p)) ∧ NstOk g.K g.fa g.G0 F H p sh qs ls := by
  obtain ⟨v, h1, p, qs, rfl, n⟩ := s.at_ i _ h
  exact ⟨p, qs, h1, n⟩
theorem St.nstNew (s : St g F H σ ρ) (h : ρ[i]? = some (some (.own (.k [])))) : St g F H σ (ρ.set i (some (.nst (.k []) []))) := by
  obtain ⟨p, o, h1, h2, h3, h4, h5⟩ := s.own_none h
  cases h5 with
  | @k kvs _ e r =>
    have hz : kvs = [] := List.map_eq_nil_iff.mp e
    subst hz
    refine s.turn h h1 (Same.refl F) s.gr (fun a _ _ => ⟨rfl, fun _ f => f⟩) ⟨p, [], rfl, ⟨h2, .inl h3, h4, rfl, rfl, List.nodup_nil, (by simp), fun i q ds z => by simp at z⟩⟩ fun a ha => ?_
    rcases ha with ha | ⟨p', o', e1, e2, e3⟩
    · exact .inl ha
    · cases e1
      rw [h2] at e2
      cases e2
      cases e3
theorem St.nstApp (s : St g F H σ ρ) {sh : Sh} (h : ρ[i]? = some (some (.nst sh ls))) {p : Addr} {qs : List Addr} (hp : σ[i]? = some (some (.ref p))) (n : NstOk g.K g.fa g.G0 F H p sh qs ls) {m : Nat} {q : Addr} {ds : List D} {xs : List V} {y : V} {d : D}
    (hq : qs[m]? = some q) (hd : ls[m]? = some ds) (hx : H q = some (.lst xs)) (r : Rp g.K g.fa F y d) : St g F (upd H q (.lst (xs ++ [y]))) σ (ρ.set i (some (.nst sh (ls.set m (ds ++ [d]))))) := by
  have hqm : q ∈ qs := List.mem_of_getElem? hq
  have npq : p ≠ q := fun z => n.np (z ▸ hqm)
  obtain ⟨xs', e1, e2, e3, e4⟩ := n.child m q ds hq hd
  rw [hx] at e1
  cases e1
  refine s.turn h hp (Same.refl F) ⟨s.gr.fh, fun b u z => ?_, fun b u z => ?_, s.gr.new⟩ (fun a _ ha => ⟨upd_ne fun z => ha (.inr ⟨p, _, rfl, n.top, n.kid.mpr (z ▸ hqm)⟩), fun _ f => f⟩) ⟨p, qs, rfl, ⟨by rw [upd_ne npq]; exact n.top, n.pf, n.pg, by rw [List.length_set]; exact n.len, by rw [List.length_set]; exact n.fit, n.nd, n.np, fun j q' ds' h1 h2 => ?_⟩⟩ fun a ha => ?_
  · rw [upd_ne (ne_of_none z e3)]; exact s.gr.hh _ _ z
  · rw [upd_ne (ne_of_none z e2)]; exact s.sub _ _ z
  · by_cases hj : j = m
    · subst hj
      rw [hq] at h1
      cases h1
      rw [List.getElem?_set_self (by exact (List.getElem?_eq_some_iff.mp hd).1)] at h2
      cases h2
      exact ⟨_, upd_same, e2, e3, e4.app (.cons r .nil)⟩
    · rw [List.getElem?_set_ne (Ne.symm hj)] at h2
      obtain ⟨ws, f1, f2, f3, f4⟩ := n.child j q' ds' h1 h2
      have ne : q' ≠ q := fun z => by
        subst z
        have l1 := (List.getElem?_eq_some_iff.mp h1).1
        have l2 := (List.getElem?_eq_some_iff.mp hq).1
        exact hj ((List.getElem_inj (h₀ := l1) (h₁ := l2) n.nd).mp (by rw [(List.getElem?_eq_some_iff.mp h1).2, (List.getElem?_eq_some_iff.mp hq).2]))
      exact ⟨ws, by rw [upd_ne ne]; exact f1, f2, f3, f4⟩
  · rcases ha with ha | ⟨p', o', z1, z2, z3⟩
    · exact .inl (.inl ha)
    · cases z1
      rw [upd_ne npq] at z2
      exact .inl (.inr ⟨p, o', rfl, z2, z3⟩)
theorem St.nstAdd (s : St g F H σ ρ) (h : ρ[i]? = some (some (.nst (.k ks) ls))) {p q : Addr} {qs : List Addr} (hp : σ[i]? = some (some (.ref p))) (n : NstOk g.K g.fa g.G0 F H p (.k ks) qs ls) (e : Grow F H F' H') (hq : H q = none) (hq' : H' q = some (.lst [])) (fq : F' q = none) :
    NstOk g.K g.fa g.G0 F' (upd H' p (.dK (ks.zip (qs.map V.ref) ++ [(k, .ref q)]))) p (.k (ks ++ [k])) (qs ++ [q]) (ls ++ [[]]) ∧ St g F' (upd H' p (.dK (ks.zip (qs.map V.ref) ++ [(k, .ref q)]))) σ (ρ.set i (some (.nst (.k (ks ++ [k])) (ls ++ [[]])))) := by
  have npq : q ≠ p := fun z => by rw [z, n.top] at hq; cases hq
  have fit : ks.length = ls.length := n.fit
  have hF : F' p = none := by
    rcases n.pf with f | f
    · exact e.new p _ n.top (fun xs z => by cases z) f
    · cases f
  have kid : ∀ {a : Addr}, a ∈ qs → a ≠ p := fun z y => n.np (y ▸ z)
  have hnew : q ∉ qs := fun z => by
    obtain ⟨_, _, z1, _⟩ := n.at' z
    rw [hq] at z1
    cases z1
  have ok : NstOk g.K g.fa g.G0 F' (upd H' p (.dK (ks.zip (qs.map V.ref) ++ [(k, .ref q)]))) p (.k (ks ++ [k])) (qs ++ [q]) (ls ++ [[]]) := by
    refine ⟨?_, .inl hF, n.pg, by rw [List.length_append, List.length_append, n.len]; rfl, by show (ks ++ [k]).length = (ls ++ [[]]).length; rw [List.length_append, List.length_append, fit]; rfl, ?_, ?_, fun j q' ds' h1 h2 => ?_⟩
    · rw [upd_same]
      show some (HO.dK _) = some (HO.dK ((ks ++ [k]).zip ((qs ++ [q]).map V.ref)))
      rw [List.map_append, List.zip_append (by rw [List.length_map, n.len]; exact fit)]
      rfl
    · exact List.nodup_append.mpr ⟨n.nd, by simp, fun a ha b hb => by
        rw [List.mem_singleton] at hb
        subst hb
        exact fun z => hnew (z ▸ ha)⟩
    · rw [List.mem_append, List.mem_singleton]
      rintro (z | z)
      · exact n.np z
      · exact npq z.symm
    · by_cases hj : j < qs.length
      · rw [List.getElem?_append_left hj] at h1
        rw [List.getElem?_append_left (by rw [← n.len]; exact hj)] at h2
        obtain ⟨ws, f1, f2, f3, f4⟩ := n.child j q' ds' h1 h2
        exact ⟨ws, by rw [upd_ne (kid (List.mem_of_getElem? h1))]; exact e.hh _ _ f1, e.new _ _ f1 (fun xs z => by cases z) f2, f3, f4.mono e.fh⟩
      · have hz : j = qs.length := by
          have := (List.getElem?_eq_some_iff.mp h1).1
          rw [List.length_append, List.length_singleton] at this
          omega
        subst hz
        rw [List.getElem?_append_right (Nat.le_refl _), Nat.sub_self] at h1
        rw [n.len, List.getElem?_append_right (Nat.le_refl _), Nat.sub_self] at h2
        cases h1
        cases h2
        exact ⟨[], by rw [upd_ne npq]; exact hq', fq, s.gr.hh.free hq, .nil⟩
  refine ⟨ok, s.turn h hp e.fh ⟨s.gr.fh.trans e.fh, fun b u z => ?_, fun b u z => ?_, fun a o ha na fa => e.new a o (s.gr.hh _ _ ha) na (s.gr.new a o ha na fa)⟩ (fun a ⟨o, ho⟩ ha => ⟨?_, fun na f => e.new a o ho (na o ho) f⟩) ⟨p, _, rfl, ok⟩ fun a ha => ?_⟩
  · rw [upd_ne (ne_of_none z n.pg)]; exact e.hh _ _ (s.gr.hh _ _ z)
  · rw [upd_ne (ne_of_none z hF)]; exact e.sub _ _ z
  · rw [upd_ne fun z => ha (.inl (by rw [z])), ho]
    exact e.hh _ _ ho
  · rcases ha with ha | ⟨p', o', z1, z2, z3⟩
    · exact .inl (.inl ha)
    · cases z1
      rw [ok.top] at z2
      cases z2
      have z4 := ok.kid.mp z3
      rw [List.mem_append, List.mem_singleton] at z4
      rcases z4 with z4 | z4
      · exact .inl (.inr ⟨p, _, rfl, n.top, n.kid.mpr z4⟩)
      · subst z4
        exact .inr hq
end
def closeE (i : Nat) (ρ : Env) : Env := match ρ[i]? with
  | some (some (.nst (.k ks) ls)) => ρ.set i (some (.own (.k (ks.zip (ls.map .lst)))))
  | _ => ρ
def closeS (i : Nat) (f : Env → Out) : Env → Out := fun ρ => f (closeE i ρ)
def sdAt (b : Option (Option B)) : Option (List Key × List (List D)) := match b with
  | some (some (.nst (.k ks) ls)) => some (ks, ls)
  | some (some (.own (.k []))) => some ([], [])
  | _ => none
def sdK (ks : List Key) (ls : List (List D)) (k : Key) : List Key × List (List D) × Nat := match kIx ks k with
  | some n => (ks, ls, n)
  | none => (ks ++ [k], ls ++ [[]], ks.length)
def sdV (i : Nat) (p : List Key × List (List D) × Nat) (fv : Env → Res B) (ρ : Env) : Out := match fv (ρ.set i (some (.nst (.k p.1) p.2.1))) with
  | .ok b => (match rd b, p.2.1[p.2.2]? with
    | .dat d, some ds => if ds.length < sizeLine then .nx (ρ.set i (some (.nst (.k p.1) (p.2.1.set p.2.2 (ds ++ [d]))))) else .bad
    | _, _ => .bad)
  | .exc c => .exc c (ρ.set i (some (.nst (.k p.1) p.2.1)))
  | .bad => .bad
def sdS (i : Nat) (fk fv : Env → Res B) : Env → Out := fun ρ => match sdAt ρ[i]? with
  | some (ks, ls) => (match fk ρ with
    | .ok bk => (match keyD (datOf (rd bk)) with
      | some k => if ks.length < sizeLine then sdV i (sdK ks ls k) fv ρ else .bad
      | none => .bad)
    | .exc c => .exc c ρ
    | .bad => .bad)
  | none => .bad
section
variable {X : Cx} {g : G} {f : Env → Out} {fk fv fa fz : Env → Res B}
theorem set_set_env {ρ : Env} {i : Nat} {a b : Option B} : (ρ.set i a).set i b = ρ.set i b := List.set_set ..
theorem set_same_env {ρ : Env} {i : Nat} {x : Option B} (h : ρ[i]? = some x) : ρ.set i x = ρ := by
  apply List.ext_getElem?
  intro j
  by_cases hj : i = j
  · subst hj
    rw [List.getElem?_set_self (List.getElem?_eq_some_iff.mp h).1, h]
  · rw [List.getElem?_set_ne hj]
theorem NstOk.grow {K : PySem.W.Frag} {fa' : Nat → Option Addr} {G0 F H F' H' : Hp} {p : Addr} {sh : Sh} {qs : List Addr} {ls : List (List D)} (n : NstOk K fa' G0 F H p sh qs ls) (e : Grow F H F' H') : NstOk K fa' G0 F' H' p sh qs ls := by
  refine ⟨e.hh _ _ n.top, ?_, n.pg, n.len, n.fit, n.nd, n.np, fun i q ds h1 h2 => ?_⟩
  · rcases n.pf with f | f
    · cases sh with
      | k ks => exact .inl (e.new p _ n.top (fun xs z => by cases z) f)
      | t => exact .inr rfl
      | l => exact .inl (e.new p _ n.top (fun xs z => by cases z) f)
      | kt ks => exact .inl (e.new p _ n.top (fun xs z => by cases z) f)
    · exact .inr f
  · obtain ⟨xs, f1, f2, f3, f4⟩ := n.child i q ds h1 h2
    exact ⟨xs, e.hh _ _ f1, e.new _ _ f1 (fun xs z => by cases z) f2, f3, f4.mono e.fh⟩
theorem sd_fin {i m : Nat} {ks : List Key} {ls : List (List D)} {qs : List Addr} {p q : Addr} {E : Ends} {σ : L2.St} {F H : Hp} {ρ : Env} (s : St g F H σ (ρ.set i (some (.nst (.k ks) ls)))) (hi : i < ρ.length) (hp : σ[i]? = some (some (.ref p))) (n : NstOk g.K g.fa g.G0 F H p (.k ks) qs ls) (hq : qs[m]? = some q)
    (h : PostS g E (sdV i (ks, ls, m) fv ρ)) : tyV X.K "list" (.ref q) H ∧ tF g fv σ H fun w H2 => rAppend (.ref q) [w] H2 fun _ H1 => E.nx σ H1 := by
  have hml : m < ls.length := by rw [← n.len]; exact (List.getElem?_eq_some_iff.mp hq).1
  have hd := List.getElem?_eq_getElem hml
  obtain ⟨xs, f1, f2, f3, f4⟩ := n.child m q _ hq hd
  refine ⟨Or.inl ⟨rfl, _, SqL.of f1⟩, ?_⟩
  have hset : (ρ.set i (some (.nst (.k ks) ls)))[i]? = some (some (.nst (.k ks) ls)) := List.getElem?_set_self hi
  unfold sdV at h
  dsimp only at h
  refine run1 s (fun b w F1 H1 e1 g1 r1 => ?_) (fun c e => ?_) (fun e => ?_)
  · rw [e1] at h
    dsimp only at h
    split at h
    · rename_i d ds hb hds
      rw [hb] at r1
      rw [hd] at hds
      cases hds
      split at h
      · rename_i hz
        have n1 := n.grow g1
        obtain ⟨xs', k1, k2, k3, k4⟩ := n1.child m q _ hq hd
        refine ⟨q, xs', w, rfl, rfl, k1, by rw [k4.len]; exact hz, ?_⟩
        have s2 := (s.grow g1).nstApp hset hp n1 hq hd k1 r1
        rw [set_set_env] at s2
        exact h σ F1 _ s2
      · exact h.elim
    · exact h.elim
  · rw [e] at h
    exact fun F' H' g1 => h σ F' H' (s.grow g1)
  · rw [e] at h
    exact h
theorem fs_sdap {lexp : Expr} {i : Nat} {x : Str} {ek ev : Expr} {p1 p2 p3 p5 p6 p7 : Pos} (hi : X.N[i]? = some x) (hv : Vis X.env.scope x) (hd : (x == ("__debug__" : Str)) = false) (hcd : (x == ("__classdict__" : Str)) = false) (hnk : nst ek = true) (hn : nst ev = true) (hl1 : (p2.endLine == p3.line) = true) (hl2 : (p5.endLine == p6.line) = true) (hek : PE X ek (tF g fk)) (hev : PE X ev (tF g fv)) (hl0 : PE X lexp (tF g fun _ => .ok (.own (.l [])))) (hnl : nst lexp = true) :
    PS X (.Expr (.Call (.Attribute (.Call (.Attribute (.Name x p1) "setdefault" p2) [ek, lexp] [] p3) "append" p5) [ev] [] p6) p7) (tFS g (sdS i fk fv)) := by
  refine PS.imp (ps_expr (pe_bm PySem.F.plainAttrs_list PySem.F.slot_list_append PySem.F.type_list_append mt_append (pe_dsetd (pe_var hi hv hd hcd) hek hl0 ⟨by rfl, by
      rw [star_cons hnk, star_cons hnl]; rfl, hl1, by rw [star_cons hnk, star_cons hnl]; rfl⟩) (pa_cons hev pa_nil (star_cons hn)) (by rfl) (by cases ev <;> first | rfl | cases hn) hl2 (star_cons hn) (by rfl))) fun E σ H h => ?_
  show tDSetd (tVar i) (tF g fk) (tF g fun _ => .ok (.own (.l []))) σ H fun v H1 => tyV X.K "list" v H1 ∧ tF g fv σ H1 fun w H2 => rAppend v [w] H2 fun _ H1 => E.nx σ H1
  obtain ⟨F, ρ, s, p⟩ := h
  unfold sdS at p
  split at p
  · rename_i ks ls ho
    have hil : i < ρ.length := by
      unfold sdAt at ho
      split at ho
      · rename_i e; exact (List.getElem?_eq_some_iff.mp e).1
      · rename_i e; exact (List.getElem?_eq_some_iff.mp e).1
      · cases ho
    have base : ∀ {F1 H1 : Hp}, St g F1 H1 σ ρ → St g F1 H1 σ (ρ.set i (some (.nst (.k ks) ls))) := fun {F1 H1} s1 => by
      unfold sdAt at ho
      split at ho
      · rename_i e
        cases ho
        rw [set_same_env e]
        exact s1
      · rename_i e
        cases ho
        exact s1.nstNew e
      · cases ho
    have hset : (ρ.set i (some (.nst (.k ks) ls)))[i]? = some (some (.nst (.k ks) ls)) := List.getElem?_set_self hil
    obtain ⟨p0, qs0, hσ, n0⟩ := (base s).nst_at hset
    refine ⟨_, hσ, p0, rfl, .inl ⟨_, Rd.of n0.top⟩, ?_⟩
    refine run1 s (fun bk y F1 H1 e1 g1 r1 => ?_) (fun c e => ?_) (fun e => ?_)
    · rw [e1] at p
      dsimp only at p
      split at p
      · rename_i k hk
        have ey := rr_key r1 hk
        split at p
        · rename_i hz
          have st := base (s.grow g1)
          have n := n0.grow g1
          refine ⟨F1, _, st, fun z F2 H2 g2 rb => ?_⟩
          obtain ⟨q, o, rfl, hq, hq', fq, rm⟩ := rb
          cases rm with
          | l rl =>
            cases rl
            have fit : ks.length = ls.length := n.fit
            have hlen : ks.length = (qs0.map V.ref).length := by rw [List.length_map, n.len]; exact fit
            obtain ⟨i1, i2⟩ := zip_val (k := k) hlen
            have hlz : (ks.zip (qs0.map V.ref)).length < sizeLine := by rw [List.length_zip, ← hlen, Nat.min_self]; exact hz
            refine ⟨_, k, g2.hh _ _ n.top, ey, hlz, fun v hv => ?_, fun hv => ?_⟩
            · cases hx : kIx ks k with
              | none => rw [i1 hx] at hv; cases hv
              | some m =>
                obtain ⟨w, w1, w2⟩ := i2 m hx
                rw [w2] at hv
                cases hv
                rw [List.getElem?_map] at w1
                cases hqm : qs0[m]? with
                | none => rw [hqm] at w1; cases w1
                | some qm =>
                  rw [hqm] at w1
                  cases w1
                  unfold sdK at p
                  rw [hx] at p
                  exact sd_fin (st.grow g2) hil hσ (n.grow g2) hqm p
            · cases hx : kIx ks k with
              | some m =>
                obtain ⟨w, w1, w2⟩ := i2 m hx
                rw [w2] at hv
                cases hv
              | none =>
                unfold sdK at p
                rw [hx] at p
                obtain ⟨n3, s3⟩ := st.nstAdd (k := k) hset hσ n g2 hq hq' fq
                rw [putK_new (.ref q) hv]
                rw [set_set_env] at s3
                have hq0 : qs0.length = ks.length := by rw [hlen, List.length_map]
                exact sd_fin s3 hil hσ n3 (by rw [List.getElem?_append_right (Nat.le_of_eq hq0), hq0, Nat.sub_self]; rfl) p
        · exact p.elim
      · exact p.elim
    · rw [e] at p
      exact fun F' H' g1 => p σ F' H' (s.grow g1)
    · rw [e] at p
      exact p
  · exact p.elim
def dispV (fk fv : Env → Res B) : Env → Res B := fun ρ => match fk ρ with
  | .ok a => (match fv ρ with
    | .ok b => (match keyD (datOf (rd a)), rd b with
      | some k, .dat d => .ok (.own (.k [(k, d)]))
      | _, _ => .bad)
    | .exc c => .exc c
    | .bad => .bad)
  | .exc c => .exc c
  | .bad => .bad
def dget2V (fa fk fz : Env → Res B) : Env → Res B := fun ρ => match fa ρ with
  | .ok a => if (dkOf (rd a)).isSome then (match fk ρ with
    | .ok k => (match fz ρ with
      | .ok z => (match dgetB (rd a) (rd k), rd z with
        | some (some d), _ => .ok (.dat d)
        | some none, .dat d => .ok (.dat d)
        | _, _ => .bad)
      | .exc c => .exc c
      | .bad => .bad)
    | .exc c => .exc c
    | .bad => .bad) else .bad
  | .exc c => .exc c
  | .bad => .bad
end
end Fn
namespace L2
open PySem PySem.Spec PyProof.Rows
def IterB (b : Bool) (h : Heap) (it a : Addr) (i : Nat) : Prop := match b with
  | true => h.IsListIter it a i
  | false => h.IsTupleIter it a i
def AtB (b : Bool) (h : Heap) (a : Addr) (items : Array Value) : Prop := match b with
  | true => h.IsList a items
  | false => h.IsTuple a items
def itB (b : Bool) (a : Addr) : Obj := match b with
  | true => { cls := .type "list_iterator", data := .fields #[.ref a, .int 0 0] }
  | false => { cls := .type "tuple_iterator", data := .fields #[.ref a, .int 0 0] }
theorem IterB.new {b : Bool} {h : Heap} {it a : Addr} (e : h.get? it = some (itB b a)) : IterB b h it a 0 := by
  cases b <;> exact ⟨_, e, rfl, rfl⟩
theorem IterB.at_ {b : Bool} {h h' : Heap} {it a : Addr} {i : Nat} (x : IterB b h it a i) (e : ∀ o, h.get? it = some o → h'.get? it = some o) : IterB b h' it a i := by
  cases b
  · exact Heap.IsTupleIter.at x e
  · exact Heap.IsListIter.at x e
theorem IterB.obj {b : Bool} {h : Heap} {it a : Addr} {i : Nat} (x : IterB b h it a i) : ∃ o, h.get? it = some o ∧ ∃ vs, o.data = .fields vs := by
  cases b <;> (obtain ⟨o, e, _, d⟩ := x; exact ⟨o, e, _, d⟩)
theorem AtB.lt {b : Bool} {h : Heap} {a : Addr} {items : Array Value} (x : AtB b h a items) : a < h.objs.size := by
  cases b <;> (obtain ⟨o, e, _⟩ := x; exact Heap.lt_size e)
section
variable {X : Cx} {pins : List (Addr × Obj)} {σ : St} {H : Hp} {s : Shared} {a : Addr} {xs ys : List V} {b : Bool}
end
end L2
namespace Fn
open PySem PySem.Spec PyProof.Rows L2
def sqD (lk : Bool) (b : B) : Option (Bool × List D) := match tupsB b with
  | some ds => some (false, ds)
  | none => (lstsB lk b).map (true, ·)
def zip3D (xs ys zs : List D) : List D := List.zipWith (fun a p => match p with | (b, c) => D.tup [a, b, c]) xs (ys.zip zs)
def zipE (lk : Bool) (bs : List B) : Res (List D) := match bs with
  | [a, b] => (match sqD lk a, sqD lk b with
    | some (_, xs), some (_, ys) => .ok (zipD xs ys)
    | _, _ => .bad)
  | [a, b, c] => (match sqD lk a, sqD lk b, sqD lk c with
    | some (_, xs), some (_, ys), some (_, zs) => .ok (zip3D xs ys zs)
    | _, _, _ => .bad)
  | _ => .bad
section
variable {X : Cx} {g : G} {a b c : Expr} {pos p : Pos} {fs : Env → Res (List B)} {lk : Bool} {F1 H1 : Hp} {v : V} {bb : B} {ds : List D} {k : Bool}
end
end Fn
namespace Fn
open PySem PySem.Spec PyProof.Rows L2
section
variable {X : Cx} {g : G} {cls : Nat → Value} {k : Nat} {tab : List En} {N : List Str} {sc : Scope} {bt : Bt} {a b c : Expr} {pos p p2 p3 : Pos} {fa fb fc : Env → Res B}
theorem CT.enu (C : CT X g cls k tab N sc bt) {lk : Bool} {elts : List Expr} {kk : Nat} {tpos : Pos} (ha : PE X a (tF g fa)) (hg : gOk sc bt "enumerate" = true) (hn : nst a = true) : PI X (.Tuple elts kk tpos) (.Call (.Name "enumerate" p) [a] [] pos) (tFI g lk fun ρ => (consA fa (fun _ => .ok []) ρ).bind (enA lk)) :=
  fi_enum C.hK (C.bl hg).1 (C.bl hg).2 hn (fa_cons hn ha fa_nil)
end
end Fn
namespace Fn
open PySem PySem.Spec PyProof.Rows L2
def zpF (lk : Bool) (fs : Env → Res (List B)) : Env → Res (List D) := fun ρ => (fs ρ).bind (zipE lk)
def enF (lk : Bool) (fs : Env → Res (List B)) : Env → Res (List D) := fun ρ => (fs ρ).bind (enA lk)
section
variable {X : Cx} {g : G} {cls : Nat → Value} {k : Nat} {tab : List En} {N : List Str} {sc : Scope} {bt : Bt} {a b c : Expr} {pos p p2 p3 : Pos} {fa fb fc : Env → Res B} {x : Str} {es : List Expr}
theorem CS.sd (C : CS X g cls k tab N sc bt) (i : Nat) {fk fv : Env → Res B} {ek ev : Expr} {p1 p2 p3 p4 p5 p6 p7 : Pos} (hk : PE X ek (tF g fk)) (hv : PE X ev (tF g fv)) (h : vOk N sc i x = true) (hn : (nst ek && (nst ev && ((p2.endLine == p3.line) && (p5.endLine == p6.line)))) = true) : PS X (.Expr (.Call (.Attribute (.Call (.Attribute (.Name x p1) "setdefault" p2) [ek, .List [] p4] [] p3) "append" p5) [ev] [] p6) p7) (tFS g (sdS i fk fv)) := by
  obtain ⟨h1, h2, h3, h4⟩ := C.ct.vo h
  simp only [Bool.and_eq_true] at hn
  exact fs_sdap h1 h2 h3 h4 hn.1 hn.2.1 hn.2.2.1 hn.2.2.2 hk hv (fe_lst fa_nil) rfl
end
section
variable {ρ : Env} {fs : Env → Res (List B)} {lk : Bool} {a b c : B} {xs ys zs : List D} {fk fv fa fz : Env → Res B} {f : Env → Out} {i : Nat}
def zpK (lk : Bool) (r : Res (List B)) : Res (List D) := r.bind (zipE lk)
theorem e_zp : zpF lk fs ρ = zpK lk (fs ρ) := (rfl)
theorem zpK_ok {bs : List B} : zpK lk (.ok bs) = zipE lk bs := (rfl)
theorem zpK_exc {n : Nat} : zpK lk (.exc n) = .exc n := (rfl)
def zip2K (o o' : Option (Bool × List D)) : Res (List D) := match o, o' with
  | some (_, xs), some (_, ys) => .ok (zipD xs ys)
  | _, _ => .bad
def zip3K (o o' o2 : Option (Bool × List D)) : Res (List D) := match o, o', o2 with
  | some (_, xs), some (_, ys), some (_, zs) => .ok (zip3D xs ys zs)
  | _, _, _ => .bad
theorem zip_2 : zipE lk [a, b] = zip2K (sqD lk a) (sqD lk b) := (rfl)
theorem zip_3 : zipE lk [a, b, c] = zip3K (sqD lk a) (sqD lk b) (sqD lk c) := (rfl)
theorem zip2K_ok {k1 k2 : Bool} : zip2K (some (k1, xs)) (some (k2, ys)) = .ok (zipD xs ys) := (rfl)
theorem zip3K_ok {k1 k2 k3 : Bool} : zip3K (some (k1, xs)) (some (k2, ys)) (some (k3, zs)) = .ok (zip3D xs ys zs) := (rfl)
theorem sqD_tup : sqD lk (.dat (.tup xs)) = some (false, xs) := (rfl)
theorem sqD_ctup : sqD lk (.dat (.ctup xs)) = some (false, xs) := (rfl)
theorem sqD_lst : sqD lk (.dat (.lst xs)) = some (true, xs) := (rfl)
theorem sqD_vw : sqD true (.vw (.l xs)) = some (true, xs) := (rfl)
theorem sqD_bor : sqD lk (.bor (.l xs)) = some (true, xs) := (rfl)
theorem sqD_scr {ns : List Int} : sqD lk (.scr ns) = some (true, ns.map .int) := (rfl)
def enK (lk : Bool) (r : Res (List B)) : Res (List D) := r.bind (enA lk)
theorem e_en : enF lk fs ρ = enK lk (fs ρ) := (rfl)
theorem enK_ok {bs : List B} : enK lk (.ok bs) = enA lk bs := (rfl)
theorem enK_exc {n : Nat} : enK lk (.exc n) = .exc n := (rfl)
def enO (o : Option (Bool × List D)) : Res (List D) := match o with
  | some (_, xs) => .ok (enD xs)
  | none => .bad
theorem en_1 : enA lk [a] = enO (sqD lk a) := by
  show (match tupsB a with
    | some xs => (.ok (enD xs) : Res (List D))
    | none => (match lstsB lk a with
      | some xs => .ok (enD xs)
      | none => .bad)) = enO (match tupsB a with
    | some ds => some (false, ds)
    | none => (lstsB lk a).map (true, ·))
  cases tupsB a with
  | some xs => rfl
  | none => cases lstsB lk a <;> rfl
theorem enO_ok {k1 : Bool} : enO (some (k1, xs)) = .ok (enD xs) := (rfl)
def dispK (r r' : Res B) : Res B := match r with
  | .ok a => (match r' with
    | .ok b => (match keyD (datOf (rd a)), rd b with
      | some k, .dat d => .ok (.own (.k [(k, d)]))
      | _, _ => .bad)
    | .exc c => .exc c
    | .bad => .bad)
  | .exc c => .exc c
  | .bad => .bad
theorem e_disp : dispV fk fv ρ = dispK (fk ρ) (fv ρ) := (rfl)
theorem disp_str {x : Str} {d : D} : dispK (.ok (.dat (.str x))) (.ok (.dat d)) = .ok (.own (.k [(.inr x, d)])) := (rfl)
theorem disp_int {n : Int} {d : D} : dispK (.ok (.dat (.int n))) (.ok (.dat d)) = .ok (.own (.k [(.inl n, d)])) := (rfl)
def dgetK (r r' r2 : Res B) : Res B := match r with
  | .ok a => if (dkOf (rd a)).isSome then (match r' with
    | .ok k => (match r2 with
      | .ok z => (match dgetB (rd a) (rd k), rd z with
        | some (some d), _ => .ok (.dat d)
        | some none, .dat d => .ok (.dat d)
        | _, _ => .bad)
      | .exc c => .exc c
      | .bad => .bad)
    | .exc c => .exc c
    | .bad => .bad) else .bad
  | .exc c => .exc c
  | .bad => .bad
def dgO (o : Option D) (z : B) : Res B := match o, z with
  | some d, _ => .ok (.dat d)
  | none, .dat d => .ok (.dat d)
  | _, _ => .bad
theorem e_dget : dget2V fa fk fz ρ = dgetK (fa ρ) (fk ρ) (fz ρ) := (rfl)
theorem dget_str {kvs : List (Key × D)} {x : Str} {z : B} : dgetK (.ok (.dat (.dk kvs))) (.ok (.dat (.str x))) (.ok z) = dgO (getK kvs (.inr x)) (rd z) := by
  show (match (some (getK kvs (.inr x)) : Option (Option D)), rd z with
    | some (some d), _ => (.ok (.dat d) : Res B)
    | some none, .dat d => .ok (.dat d)
    | _, _ => .bad) = _
  unfold dgO
  cases getK kvs (.inr x) with
  | none => cases rd z <;> rfl
  | some d => rfl
theorem dgO_some {d : D} {z : B} : dgO (some d) z = .ok (.dat d) := (rfl)
theorem dgO_none {d : D} : dgO none (.dat d) = .ok (.dat d) := (rfl)
def closeO (i : Nat) (ρ : Env) (o : Option (Option B)) : Env := match o with
  | some (some (.nst (.k ks) ls)) => ρ.set i (some (.own (.k (ks.zip (ls.map .lst)))))
  | _ => ρ
theorem e_close : closeE i ρ = closeO i ρ ρ[i]? := (rfl)
theorem e_closeS : closeS i f ρ = f (closeE i ρ) := (rfl)
theorem close_nst {ks : List Key} {ls : List (List D)} : closeO i ρ (some (some (.nst (.k ks) ls))) = ρ.set i (some (.own (.k (ks.zip (ls.map .lst))))) := (rfl)
theorem close_own {m : M} : closeO i ρ (some (some (.own m))) = ρ := (rfl)
end
end Fn
namespace Fn
open PySem
abbrev Stp := Str × Nat × Bool × Int
def resOne (n : Nat) (a b : Str) (w g : Int) : List (Str × Stp) := (if g < w then [(a, (b, n, true, w - g))] else []) ++ (if 0 < g then [(b, (a, n, false, g))] else [])
def resS : Nat → List (Str × Str) → List Int → List Int → List (Str × Stp)
  | n, (a, b) :: as, w :: ws, g :: gs => resOne n a b w g ++ resS (n + 1) as ws gs
  | _, _, _, _ => []
def net : List (Str × Str) → List Int → Str → Int
  | (a, b) :: as, g :: gs, k => (if a = k then g else 0) - (if b = k then g else 0) + net as gs k
  | _, _, _ => 0
def Fits (ws gs : List Int) : Prop := gs.length = ws.length ∧ ∀ (i : Nat) (w g : Int), ws[i]? = some w → gs[i]? = some g → 0 ≤ g ∧ g ≤ w
end Fn
namespace Fn
open PySem PySem.Spec PyProof.Rows L2
def stD (s : Stp) : D := .tup [.str s.1, .int (s.2.1 : Nat), .bl s.2.2.1, .int s.2.2.2]
def stepsOf (S : List (Str × Stp)) (k : Str) : List Stp := (S.filter fun p => decide (p.1 = k)).map (·.2)
theorem mem_steps {S : List (Str × Stp)} {k : Str} {s : Stp} : s ∈ stepsOf S k ↔ (k, s) ∈ S := by
  unfold stepsOf
  rw [List.mem_map]
  constructor
  · rintro ⟨⟨a, b⟩, h, rfl⟩
    have := List.mem_filter.mp h
    have e : a = k := of_decide_eq_true this.2
    subst e
    exact this.1
  · exact fun h => ⟨(k, s), List.mem_filter.mpr ⟨h, decide_eq_true rfl⟩, rfl⟩
theorem steps_snoc {S : List (Str × Stp)} {k : Str} {p : Str × Stp} : stepsOf (S ++ [p]) k = stepsOf S k ++ (if p.1 = k then [p.2] else []) := by
  unfold stepsOf
  rw [List.filter_append, List.map_append]
  by_cases e : p.1 = k
  · simp [e]
  · simp [e]
theorem kIx_at {k : Key} : ∀ {ks : List Key} {n : Nat}, kIx ks k = some n → ks[n]? = some k
  | [], _, h => by cases h
  | a :: ks, n, h => by
    unfold kIx at h
    split at h
    · cases h
      rename_i e
      simp [e]
    · cases e : kIx ks k with
      | none => rw [e] at h; cases h
      | some m =>
        rw [e] at h
        cases h
        simpa using kIx_at e
theorem kIx_snoc {k k' : Key} : ∀ {ks : List Key}, kIx (ks ++ [k]) k' = match kIx ks k' with
    | some n => some n
    | none => if k = k' then some ks.length else none
  | [] => by
    show (if k = k' then some 0 else _) = _
    unfold kIx
    split <;> rfl
  | a :: ks => by
    rw [List.cons_append]
    unfold kIx
    by_cases e : a = k'
    · rw [if_pos e, if_pos e]
    · rw [if_neg e, if_neg e, kIx_snoc]
      cases kIx ks k' with
      | some n => rfl
      | none =>
        dsimp only [Option.map]
        by_cases e2 : k = k'
        · rw [if_pos e2, if_pos e2]; rfl
        · rw [if_neg e2, if_neg e2]
def addG (G : List Key × List (List D)) (k : Str) (d : D) : List Key × List (List D) :=
  ((sdK G.1 G.2 (.inr k)).1, (sdK G.1 G.2 (.inr k)).2.1.set (sdK G.1 G.2 (.inr k)).2.2 (((sdK G.1 G.2 (.inr k)).2.1[(sdK G.1 G.2 (.inr k)).2.2]?).getD [] ++ [d]))
structure GOk (G : List Key × List (List D)) (S : List (Str × Stp)) : Prop where
  len : G.1.length = G.2.length
  le : G.1.length ≤ S.length
  some_ : ∀ (k : Str) n, kIx G.1 (.inr k) = some n → G.2[n]? = some ((stepsOf S k).map stD) ∧ stepsOf S k ≠ []
  none_ : ∀ k : Str, kIx G.1 (.inr k) = none → stepsOf S k = []
theorem GOk.nil : GOk ([], []) [] := ⟨rfl, Nat.le_refl _, (fun k n h => by cases h), fun k h => rfl⟩
theorem GOk.add {G : List Key × List (List D)} {S : List (Str × Stp)} (g : GOk G S) (p : Str × Stp) : GOk (addG G p.1 (stD p.2)) (S ++ [p]) := by
  obtain ⟨k, s⟩ := p
  cases hx : kIx G.1 (.inr k) with
  | some n =>
    have e : addG G k (stD s) = (G.1, G.2.set n ((G.2[n]?).getD [] ++ [stD s])) := by unfold addG sdK; rw [hx]
    obtain ⟨h1, h2⟩ := g.some_ k n hx
    show GOk (addG G k (stD s)) _
    rw [e, h1]
    have hn : n < G.2.length := (List.getElem?_eq_some_iff.mp h1).1
    refine ⟨by rw [List.length_set]; exact g.len, by rw [List.length_append]; have := g.le; show G.1.length ≤ _; omega, fun k' n' h => ?_, fun k' h => ?_⟩
    · rw [steps_snoc]
      obtain ⟨q1, q2⟩ := g.some_ k' n' h
      refine ⟨?_, fun z => q2 (List.append_eq_nil_iff.mp z).1⟩
      by_cases c : k = k'
      · subst c
        rw [hx] at h
        cases h
        rw [if_pos rfl, List.getElem?_set_self hn, List.map_append]
        rfl
      · have ne : n ≠ n' := fun z => by
          subst z
          have := (kIx_at hx).symm.trans (kIx_at h)
          exact c (by injection this with z; injection z)
        rw [if_neg c, List.append_nil, List.getElem?_set_ne ne]
        exact q1
    · rw [steps_snoc, g.none_ k' h]
      have c : k ≠ k' := fun z => by rw [z, h] at hx; cases hx
      rw [if_neg c]
      rfl
  | none =>
    have e : addG G k (stD s) = (G.1 ++ [.inr k], (G.2 ++ [[]]).set G.1.length [stD s]) := by
      unfold addG sdK
      rw [hx]
      show (G.1 ++ [Sum.inr k], (G.2 ++ [[]]).set G.1.length (((G.2 ++ [[]])[G.1.length]?).getD [] ++ [stD s])) = _
      rw [g.len, List.getElem?_append_right (Nat.le_refl _), Nat.sub_self]
      rfl
    have e2 : (G.2 ++ [[]]).set G.1.length [stD s] = G.2 ++ [[stD s]] := by
      rw [g.len, List.set_append_right _ _ (Nat.le_refl _), Nat.sub_self]
      rfl
    rw [e2] at e
    show GOk (addG G k (stD s)) _
    rw [e]
    have h0 := g.none_ k hx
    refine ⟨by rw [List.length_append, List.length_append, g.len]; rfl, by rw [List.length_append, List.length_append]; have := g.le; simp; omega, fun k' n' h => ?_, fun k' h => ?_⟩
    · rw [kIx_snoc] at h
      rw [steps_snoc]
      cases hk : kIx G.1 (.inr k') with
      | some m =>
        rw [hk] at h
        cases h
        obtain ⟨q1, q2⟩ := g.some_ k' _ hk
        have c : k ≠ k' := fun z => by rw [z, hk] at hx; cases hx
        rw [if_neg c, List.append_nil]
        refine ⟨?_, q2⟩
        rw [List.getElem?_append_left (List.getElem?_eq_some_iff.mp q1).1]
        exact q1
      | none =>
        rw [hk] at h
        dsimp only at h
        by_cases c : (Sum.inr k : Key) = .inr k'
        · rw [if_pos c] at h
          cases h
          cases c
          rw [if_pos rfl, h0]
          refine ⟨?_, by simp⟩
          rw [g.len, List.getElem?_append_right (Nat.le_refl _), Nat.sub_self]
          rfl
        · rw [if_neg c] at h
          cases h
    · rw [kIx_snoc] at h
      cases hk : kIx G.1 (.inr k') with
      | some m => rw [hk] at h; cases h
      | none =>
        rw [hk] at h
        dsimp only at h
        have c : k ≠ k' := fun z => by rw [z, if_pos rfl] at h; cases h
        rw [steps_snoc, g.none_ k' hk, if_neg c]
        rfl
abbrev Came := List (Str × Option (Str × Stp))
def innerC (k : Str) (L : Came) (s : Stp) : Came := if s.1 ∈ L.map (·.1) then L else L ++ [(s.1, some (k, s))]
structure BOk (S : List (Str × Stp)) (start : Str) (L : Came) : Prop where
  fst : L[0]? = some (start, none)
  nd : (L.map (·.1)).Nodup
  tree : ∀ i p, L[i]? = some p → i ≠ 0 → ∃ j f s, j < i ∧ p = (s.1, some (f, s)) ∧ (f, s) ∈ S ∧ (L.map (·.1))[j]? = some f
theorem BOk.start {S : List (Str × Stp)} {start : Str} : BOk S start [(start, none)] :=
  ⟨rfl, by simp, fun i p h hi => by
    cases i with
    | zero => exact absurd rfl hi
    | succ i => simp at h⟩
theorem BOk.inner {S : List (Str × Stp)} {start : Str} {L : Came} (b : BOk S start L) {k : Str} {s : Stp} (hk : k ∈ L.map (·.1)) (hs : (k, s) ∈ S) : BOk S start (innerC k L s) ∧ (∃ E, innerC k L s = L ++ E) ∧ s.1 ∈ (innerC k L s).map (·.1) := by
  unfold innerC
  by_cases h : s.1 ∈ L.map (·.1)
  · rw [if_pos h]
    exact ⟨b, ⟨[], by simp⟩, h⟩
  · rw [if_neg h]
    obtain ⟨j, hj, ej⟩ := List.mem_iff_getElem.mp hk
    have hl : 0 < L.length := (List.getElem?_eq_some_iff.mp b.fst).1
    refine ⟨⟨by rw [List.getElem?_append_left hl]; exact b.fst, ?_, fun i p hi h0 => ?_⟩, ⟨_, rfl⟩, by simp⟩
    · rw [List.map_append]
      exact List.nodup_append.mpr ⟨b.nd, by simp, fun a ha c hc => by
        have : c = s.1 := by simpa using hc
        subst this
        exact fun z => h (z ▸ ha)⟩
    · by_cases hlt : i < L.length
      · rw [List.getElem?_append_left hlt] at hi
        obtain ⟨j', f, s', h1, h2, h3, h4⟩ := b.tree i p hi h0
        exact ⟨j', f, s', h1, h2, h3, by rw [List.map_append, List.getElem?_append_left (List.getElem?_eq_some_iff.mp h4).1]; exact h4⟩
      · have e : i = L.length := by
          have := (List.getElem?_eq_some_iff.mp hi).1
          rw [List.length_append, List.length_singleton] at this
          omega
        subst e
        rw [List.getElem?_append_right (Nat.le_refl _), Nat.sub_self] at hi
        cases hi
        refine ⟨j, k, s, by simpa using hj, rfl, hs, ?_⟩
        rw [List.map_append, List.getElem?_append_left hj, List.getElem?_eq_getElem hj, ej]
theorem BOk.inners {S : List (Str × Stp)} {start k : Str} : ∀ {ss : List Stp} {L : Came}, BOk S start L → k ∈ L.map (·.1) → (∀ s ∈ ss, (k, s) ∈ S) → BOk S start (ss.foldl (innerC k) L) ∧ (∃ E, ss.foldl (innerC k) L = L ++ E) ∧ ∀ s ∈ ss, s.1 ∈ (ss.foldl (innerC k) L).map (·.1)
  | [], L, b, _, _ => ⟨b, ⟨[], by simp⟩, fun s h => by cases h⟩
  | s :: ss, L, b, hk, hs => by
    obtain ⟨b1, ⟨E1, e1⟩, m1⟩ := b.inner hk (hs s List.mem_cons_self)
    obtain ⟨b2, ⟨E2, e2⟩, m2⟩ := BOk.inners (ss := ss) b1 (by rw [e1, List.map_append]; exact List.mem_append_left _ hk) fun t ht => hs t (List.mem_cons_of_mem _ ht)
    refine ⟨b2, ⟨E1 ++ E2, by rw [List.foldl_cons, e2, e1, List.append_assoc]⟩, fun t ht => ?_⟩
    rw [List.foldl_cons]
    rcases List.mem_cons.mp ht with rfl | ht
    · rw [e2, List.map_append]
      exact List.mem_append_left _ m1
    · exact m2 t ht
theorem BOk.len {S : List (Str × Stp)} {start : Str} {L : Came} (b : BOk S start L) : L.length ≤ S.length + 1 := by
  have h1 : ∀ x ∈ L.map (·.1), x ∈ start :: S.map (·.2.1) := fun x hx => by
    obtain ⟨p, hp, rfl⟩ := List.mem_map.mp hx
    obtain ⟨i, hi, e⟩ := List.mem_iff_getElem.mp hp
    have hi' : L[i]? = some p := by rw [List.getElem?_eq_getElem hi, e]
    by_cases h0 : i = 0
    · subst h0
      rw [b.fst] at hi'
      cases hi'
      exact List.mem_cons_self
    · obtain ⟨j, f, s, _, rfl, h3, _⟩ := b.tree i p hi' h0
      exact List.mem_cons_of_mem _ (List.mem_map.mpr ⟨_, h3, rfl⟩)
  have := (List.Nodup.length_le_of_subset b.nd h1)
  simpa using this
def Clo (S : List (Str × Stp)) (L : Came) (at_ : Nat) : Prop := ∀ j f, j < at_ → (L.map (·.1))[j]? = some f → ∀ s, (f, s) ∈ S → s.1 ∈ L.map (·.1)
theorem Clo.step {S : List (Str × Stp)} {start : Str} {L : Came} {at_ : Nat} {k : Str} (b : BOk S start L) (c : Clo S L at_) (hk : (L.map (·.1))[at_]? = some k) : BOk S start ((stepsOf S k).foldl (innerC k) L) ∧ Clo S ((stepsOf S k).foldl (innerC k) L) (at_ + 1) ∧ ∃ E, (stepsOf S k).foldl (innerC k) L = L ++ E := by
  obtain ⟨b2, ⟨E, e⟩, m⟩ := b.inners (ss := stepsOf S k) (List.mem_of_getElem? hk) fun s hs => mem_steps.mp hs
  refine ⟨b2, fun j f hj hf s hs => ?_, E, e⟩
  have hlt : at_ < (L.map (·.1)).length := (List.getElem?_eq_some_iff.mp hk).1
  rw [e, List.map_append, List.getElem?_append_left (by omega)] at hf
  by_cases h : j < at_
  · rw [e, List.map_append]
    exact List.mem_append_left _ (c j f h hf s hs)
  · have : j = at_ := by omega
    subst this
    rw [hk] at hf
    cases hf
    exact m s (mem_steps.mpr hs)
theorem BOk.back {S : List (Str × Stp)} {start x : Str} {L : Came} (b : BOk S start L) {i : Nat} (hx : (L.map (·.1))[i]? = some x) (hne : x ≠ start) : ∃ j f s, j < i ∧ (x, some (f, s)) ∈ L ∧ s.1 = x ∧ (f, s) ∈ S ∧ (L.map (·.1))[j]? = some f := by
  rw [List.getElem?_map] at hx
  cases hp : L[i]? with
  | none => rw [hp] at hx; cases hx
  | some p =>
    rw [hp] at hx
    cases hx
    have h0 : i ≠ 0 := fun z => by
      subst z
      rw [b.fst] at hp
      cases hp
      exact hne rfl
    obtain ⟨j, f, s, h1, rfl, h3, h4⟩ := b.tree i p hp h0
    exact ⟨j, f, s, h1, List.mem_of_getElem? hp, rfl, h3, h4⟩
section
variable {i : Nat} {ρ : Env}
end
end Fn
namespace Fn
open PySem PySem.Spec PyProof.Rows L2
structure GFlow (as : List (Str × Str)) (start y : Str) (ws gs : List Int) : Prop where
  wl : ws.length = as.length
  fit : Fits ws gs
  keep : ∀ k, k ≠ start → k ≠ y → net as gs k = 0
  cut : ∃ ks : List Str, ks.Nodup ∧ start ∈ ks ∧ y ∉ ks ∧ ∀ f s, f ∈ ks → (f, s) ∈ resS 0 as ws gs → s.1 ∈ ks
def netQ : List Tie → List Rat → Str → Rat
  | t :: ts, f :: fs, k => (if t.1.1 = k then f else 0) - (if t.1.2 = k then f else 0) + netQ ts fs k
  | _, _, _ => 0
def wthS (P : Str → Bool) (ps : List Plc) (ts : List Tie) (q : Rat) : Rat := (ps.map fun p => if P p.n = true then ouS p q else inS p q).sum + (ts.map fun t => if P t.1.1 = true ∧ P t.1.2 = false then (t.2 : Rat) else 0).sum
structure WFlow (ps : List Plc) (ts : List Tie) (q : Rat) (fi ft fo : List Rat) : Prop where
  li : fi.length = ps.length
  lt : ft.length = ts.length
  lo : fo.length = ps.length
  bi : ∀ (i : Nat) (p : Plc) (f : Rat), ps[i]? = some p → fi[i]? = some f → 0 ≤ f ∧ f ≤ inS p q
  bt : ∀ (i : Nat) (t : Tie) (f : Rat), ts[i]? = some t → ft[i]? = some f → 0 ≤ f ∧ f ≤ (t.2 : Rat)
  bo : ∀ (i : Nat) (p : Plc) (f : Rat), ps[i]? = some p → fo[i]? = some f → 0 ≤ f ∧ f ≤ ouS p q
  keep : ∀ (i : Nat) (p : Plc) (a b : Rat), ps[i]? = some p → fi[i]? = some a → fo[i]? = some b → netQ ts ft p.n + b - a = 0
end Fn
namespace Fn
open PySem PySem.Spec PyProof.Rows L2
def InB (B : Int) (N : Nat) (f : Rat) : Prop := ∃ g : Int, f = Rat.divInt g B ∧ g.natAbs < 2 ^ N
theorem InB.add {B : Int} {N M : Nat} {f h : Rat} (a : InB B N f) (b : InB B M h) : InB B (max N M + 1) (f + h) := by
  obtain ⟨g, rfl, g1⟩ := a
  obtain ⟨k, rfl, k1⟩ := b
  refine ⟨g + k, ?_, Nat.lt_of_le_of_lt (Int.natAbs_add_le g k) (two_pow_add g1 k1)⟩
  simp only [Rat.divInt_eq_div, Rat.intCast_add]
  grind
theorem InB.sub {B : Int} {N M : Nat} {f h : Rat} (a : InB B N f) (b : InB B M h) : InB B (max N M + 1) (f - h) := by
  obtain ⟨g, rfl, g1⟩ := a
  obtain ⟨k, rfl, k1⟩ := b
  refine ⟨g - k, ?_, Nat.lt_of_le_of_lt (Int.natAbs_sub_le g k) (two_pow_add g1 k1)⟩
  simp only [Rat.divInt_eq_div, Rat.intCast_sub]
  grind
theorem InB.neg {B : Int} {N : Nat} {f : Rat} (a : InB B N f) : InB B N (-f) := by
  obtain ⟨g, rfl, g1⟩ := a
  refine ⟨-g, ?_, by rw [Int.natAbs_neg]; exact g1⟩
  simp only [Rat.divInt_eq_div, Rat.intCast_neg]
  grind
theorem InB.zero {B : Int} {N : Nat} : InB B N 0 := ⟨0, by rw [Rat.zero_divInt], by show 0 < 2 ^ N; exact Nat.two_pow_pos N⟩
theorem InB.up {B : Int} {N M : Nat} {f : Rat} (a : InB B N f) (h : N ≤ M) : InB B M f := by
  obtain ⟨g, e, g1⟩ := a
  exact ⟨g, e, Nat.lt_of_lt_of_le g1 (Nat.pow_le_pow_right (by decide) h)⟩
theorem InB.frB {B : Int} {N M : Nat} {f : Rat} (a : InB B N f) (hB : B ≠ 0) (hb : B.natAbs < 2 ^ M) (h : M ≤ N) : FrB f N := by
  obtain ⟨g, rfl, g1⟩ := a
  exact divInt_frB hB g1 (Nat.lt_of_lt_of_le hb (Nat.pow_le_pow_right (by decide) h))
structure GStream (ps : List Plc) (ts : List Tie) (q : Rat) (B : Int) (N : Nat) (fi ft fo : List Rat) : Prop where
  b0 : 0 < B
  bb : B.natAbs < 2 ^ N
  flow : WFlow ps ts q fi ft fo
  ni : ∀ f ∈ fi, InB B N f
  nt : ∀ f ∈ ft, InB B N f
  no : ∀ f ∈ fo, InB B N f
  le : ∀ P : Str → Bool, fi.sum ≤ wthS P ps ts q
  cut : ∃ P : Str → Bool, fi.sum = wthS P ps ts q
end Fn
namespace Fn
open PySem PySem.Spec PyProof.Rows L2
end Fn
namespace Fn
open PySem PySem.Spec PyProof.Rows L2
def lstG (bs : List B) : Res B := match bs with
  | [b] => (match dkOf b with
    | some kvs => .ok (.own (.l (kvs.map fun kv => keyB kv.1)))
    | none => lstF [b])
  | _ => .bad
theorem g_lstG {g : G} {K : PySem.W.Frag} (hK : g.K = K) : CallG g (fun vs H Q => rLstF K vs H Q ∨ rListD vs H Q) lstG := by
  subst hK
  intro σ F H vs bs Q s r p
  unfold lstG at p
  split at p
  · rename_i b
    split at p
    · rename_i kvs hk
      obtain ⟨v, rfl, rv⟩ := paired1 r
      obtain ⟨a, xs, rfl, h1, h2, h3⟩ := dkOf_ok s rv hk
      have ek : xs.map (fun kv => kV kv.1) = (kvs.map (·.1)).map kV := by rw [← h2, List.map_map]; rfl
      have eb : kvs.map (fun kv => keyB kv.1) = (kvs.map (·.1)).map keyB := by rw [List.map_map]; rfl
      have rr : RpAll g.K g.fa F (xs.map fun kv => kV kv.1) (kvs.map fun kv => keyB kv.1) := by
        rw [ek, eb]
        exact keysB_rp _
      exact .inr ⟨a, xs, rfl, h1, p.newL s rr⟩
    · exact .inl (g_lstF rfl σ F H vs _ Q s r p)
  · exact p.elim
section
variable {X : Cx} {g : G} {cls : Nat → Value} {k : Nat} {tab : List En} {N : List Str} {sc : Scope} {bt : Bt}
theorem CT.lstG (C : CT X g cls k tab N sc bt) (hh : bt.hot = false := by rfl) : BiW X g "list" Fn.lstG := ⟨.inr ⟨_, _, CallR.or call_list_of (call_list_dK (C.calm hh)), boot_list, g_lstG C.hK⟩⟩
end
theorem lstG_dk {kvs : List (Key × D)} : Fn.lstG [.dat (.dk kvs)] = .ok (.own (.l (kvs.map fun kv => keyB kv.1))) := (rfl)
theorem lstG_tup {ds : List D} : Fn.lstG [.dat (.tup ds)] = .ok (.own (.l ds)) := (rfl)
theorem lstG_lst {ds : List D} : Fn.lstG [.dat (.lst ds)] = .ok (.own (.l ds)) := (rfl)
theorem lstG_vw {ds : List D} : Fn.lstG [.vw (.l ds)] = .ok (.own (.l ds)) := (rfl)
theorem lstG_bor {ds : List D} : Fn.lstG [.bor (.l ds)] = .ok (.own (.l ds)) := (rfl)
end Fn
namespace Fn
open PySem PySem.Spec PyProof.Rows L2
def gapP (P : Str → Bool) (q : Rat) : List Plc → List Rat → List Rat → Rat
  | p :: ps, a :: fi, b :: fo => (if P p.n = true then ouS p q - b else inS p q - a) + gapP P q ps fi fo
  | _, _, _ => 0
def gapT (P : Str → Bool) : List Tie → List Rat → Rat
  | t :: ts, f :: ft => (if P t.1.1 = true then (if P t.1.2 = true then 0 else (t.2 : Rat) - f) else (if P t.1.2 = true then f else 0)) + gapT P ts ft
  | _, _ => 0
theorem sum_one (P : Str → Bool) (f : Rat) {k : Str} : ∀ {ps : List Plc}, (ps.map Plc.n).Nodup → k ∈ ps.map Plc.n → (ps.map fun p => if P p.n = true then (if k = p.n then f else 0) else 0).sum = if P k = true then f else 0
  | [], _, h => by simp at h
  | p :: ps, nd, h => by
    rw [List.map_cons, List.nodup_cons] at nd
    rw [List.map_cons, List.sum_cons]
    by_cases e : k = p.n
    · subst e
      have z : (ps.map fun x => if P x.n = true then (if p.n = x.n then f else 0) else 0).sum = 0 := by
        have : ∀ l : List Plc, (∀ x ∈ l, p.n ≠ x.n) → (l.map fun x => if P x.n = true then (if p.n = x.n then f else 0) else 0).sum = 0 := by
          intro l
          induction l with
          | nil => intro _; rfl
          | cons x l ih =>
            intro hx
            rw [List.map_cons, List.sum_cons, ih fun y hy => hx y (List.mem_cons_of_mem _ hy), if_neg (hx x List.mem_cons_self)]
            split <;> grind
        exact this ps fun x hx e => nd.1 (e ▸ List.mem_map_of_mem hx)
      rw [z, if_pos rfl]
      split <;> grind
    · have h' : k ∈ ps.map Plc.n := by
        rcases List.mem_cons.mp (by rw [← List.map_cons]; exact h) with h | h
        · exact absurd h e
        · exact h
      rw [if_neg e, sum_one P f nd.2 h']
      split <;> split <;> grind
theorem sum_addQ {α : Type} (f g : α → Rat) : ∀ l : List α, (l.map fun x => f x + g x).sum = (l.map f).sum + (l.map g).sum
  | [] => by simp <;> grind
  | x :: l => by
    rw [List.map_cons, List.map_cons, List.map_cons, List.sum_cons, List.sum_cons, List.sum_cons, sum_addQ f g l]
    grind
def crossT (P : Str → Bool) : List Tie → List Rat → Rat
  | t :: ts, f :: ft => (if P t.1.1 = true then f else 0) - (if P t.1.2 = true then f else 0) + crossT P ts ft
  | _, _ => 0
theorem sum_zero0 {P : Str → Bool} : ∀ ps : List Plc, (ps.map fun p => if P p.n = true then (0 : Rat) else 0).sum = 0
  | [] => rfl
  | p :: ps => by
    rw [List.map_cons, List.sum_cons, sum_zero0 ps]
    split <;> grind
theorem sum_net {P : Str → Bool} {ps : List Plc} (nd : (ps.map Plc.n).Nodup) : ∀ {ts : List Tie} {ft : List Rat}, (∀ t ∈ ts, t.1.1 ∈ ps.map Plc.n ∧ t.1.2 ∈ ps.map Plc.n) → (ps.map fun p => if P p.n = true then netQ ts ft p.n else 0).sum = crossT P ts ft
  | [], _, _ => by
    exact sum_zero0 ps
  | t :: ts, [], _ => by
    exact sum_zero0 ps
  | t :: ts, f :: ft, h => by
    obtain ⟨h1, h2⟩ := h t List.mem_cons_self
    have ih := sum_net (P := P) nd (ft := ft) fun u hu => h u (List.mem_cons_of_mem _ hu)
    have s1 := sum_one P f nd h1
    have s2 := sum_one P (-f) nd h2
    show _ = (if P t.1.1 = true then f else 0) - (if P t.1.2 = true then f else 0) + crossT P ts ft
    rw [← ih, ← s1]
    have e : (fun p : Plc => if P p.n = true then netQ (t :: ts) (f :: ft) p.n else 0) = fun p : Plc => ((if P p.n = true then (if t.1.1 = p.n then f else 0) else 0) + (if P p.n = true then (if t.1.2 = p.n then -f else 0) else 0)) + (if P p.n = true then netQ ts ft p.n else 0) := by
      funext p
      show (if P p.n = true then (if t.1.1 = p.n then f else 0) - (if t.1.2 = p.n then f else 0) + netQ ts ft p.n else 0) = _
      cases P p.n
      · simp only [Bool.false_eq_true, if_false]; grind
      · simp only [if_true]
        by_cases c1 : t.1.1 = p.n <;> by_cases c2 : t.1.2 = p.n <;> simp only [c1, c2, if_true, if_false] <;> grind
    rw [e, sum_addQ, sum_addQ, s2]
    split <;> grind
theorem gap_places {P : Str → Bool} {q : Rat} {N : Str → Rat} : ∀ {ps : List Plc} {fi fo : List Rat}, fi.length = ps.length → fo.length = ps.length → (∀ (i : Nat) (p : Plc) (a b : Rat), ps[i]? = some p → fi[i]? = some a → fo[i]? = some b → N p.n + b - a = 0) →
    (ps.map fun p => if P p.n = true then ouS p q else inS p q).sum - fi.sum = gapP P q ps fi fo - (ps.map fun p => if P p.n = true then N p.n else 0).sum
  | [], [], _, _, _, _ => by simp [gapP]
  | [], _ :: _, _, h, _, _ => by simp at h
  | _ :: _, [], _, h, _, _ => by simp at h
  | _ :: _, _ :: _, [], _, h, _ => by simp at h
  | p :: ps, a :: fi, b :: fo, h1, h2, h => by
    have ih := gap_places (P := P) (q := q) (N := N) (ps := ps) (fi := fi) (fo := fo) (by simpa using h1) (by simpa using h2) fun i p a b e1 e2 e3 => h (i + 1) p a b (by simpa using e1) (by simpa using e2) (by simpa using e3)
    have h0 := h 0 p a b rfl rfl rfl
    simp only [List.map_cons, List.sum_cons, gapP]
    split <;> grind
theorem gap_ties {P : Str → Bool} : ∀ {ts : List Tie} {ft : List Rat}, ft.length = ts.length → (ts.map fun t => if P t.1.1 = true ∧ P t.1.2 = false then (t.2 : Rat) else 0).sum = gapT P ts ft + crossT P ts ft
  | [], [], _ => by simp [gapT, crossT] <;> grind
  | [], _ :: _, h => by simp at h
  | _ :: _, [], h => by simp at h
  | t :: ts, f :: ft, h => by
    have ih := gap_ties (P := P) (ts := ts) (ft := ft) (by simpa using h)
    simp only [List.map_cons, List.sum_cons, gapT, crossT, ih]
    cases P t.1.1 <;> cases P t.1.2 <;> simp <;> grind
theorem gap_eq {top : Int} {ps : List Plc} {ts : List Tie} (h : WebOk top ps ts) {q : Rat} {fi ft fo : List Rat} (f : WFlow ps ts q fi ft fo) (P : Str → Bool) : wthS P ps ts q - fi.sum = gapP P q ps fi fo + gapT P ts ft := by
  have e1 := gap_places (P := P) (q := q) (N := netQ ts ft) f.li f.lo f.keep
  have e2 := gap_ties (P := P) f.lt
  have e3 := sum_net (P := P) (ft := ft) h.nm.nd (ts := ts) fun t ht => ⟨(h.ti t ht).l, (h.ti t ht).r⟩
  unfold wthS
  grind
def stI (q : Rat) (ps : List Plc) (fi : List Rat) : List Str := ((ps.zip fi).filter fun z => decide (z.2 < inS z.1 q)).map fun z => z.1.n
def stO (q : Rat) (ps : List Plc) (fo : List Rat) : List Str := ((ps.zip fo).filter fun z => decide (z.2 < ouS z.1 q)).map fun z => z.1.n
def wayOne (z : Tie × Rat) : List (Str × Str) := (if z.2 < (z.1.2 : Rat) then [z.1.1] else []) ++ (if 0 < z.2 then [(z.1.1.2, z.1.1.1)] else [])
def waysL (ts : List Tie) (ft : List Rat) : List (Str × Str) := (ts.zip ft).flatMap wayOne
def flipL (ws : List (Str × Str)) : List (Str × Str) := ws.map fun w => (w.2, w.1)
theorem mem_flipL {ws : List (Str × Str)} {a b : Str} : (a, b) ∈ flipL ws ↔ (b, a) ∈ ws := by
  unfold flipL
  rw [List.mem_map]
  exact ⟨fun ⟨⟨u, v⟩, h, e⟩ => by cases e; exact h, fun h => ⟨(b, a), h, rfl⟩⟩
structure Tight (ps : List Plc) (ts : List Tie) (q : Rat) (fi ft fo : List Rat) (P : Str → Bool) : Prop where
  i : ∀ x ∈ stI q ps fi, P x = true
  w : ∀ a b, (a, b) ∈ waysL ts ft → P a = true → P b = true
  o : ∀ x ∈ stO q ps fo, P x = false
theorem gapP_nn {P : Str → Bool} {q : Rat} : ∀ {ps : List Plc} {fi fo : List Rat}, (∀ p a, (p, a) ∈ ps.zip fi → a ≤ inS p q) → (∀ p a, (p, a) ∈ ps.zip fo → a ≤ ouS p q) → 0 ≤ gapP P q ps fi fo
  | [], _, _, _, _ => by unfold gapP; grind
  | _ :: _, [], _, _, _ => by unfold gapP; grind
  | _ :: _, _ :: _, [], _, _ => by unfold gapP; grind
  | p :: ps, a :: fi, b :: fo, h1, h2 => by
    have ih := gapP_nn (P := P) (q := q) (ps := ps) (fi := fi) (fo := fo) (fun p a h => h1 p a (List.mem_cons_of_mem _ h)) fun p a h => h2 p a (List.mem_cons_of_mem _ h)
    have a1 := h1 p a List.mem_cons_self
    have a2 := h2 p b List.mem_cons_self
    unfold gapP
    split <;> grind
theorem gapT_nn {P : Str → Bool} : ∀ {ts : List Tie} {ft : List Rat}, (∀ t f, (t, f) ∈ ts.zip ft → 0 ≤ f ∧ f ≤ (t.2 : Rat)) → 0 ≤ gapT P ts ft
  | [], _, _ => by unfold gapT; grind
  | _ :: _, [], _ => by unfold gapT; grind
  | t :: ts, f :: ft, h => by
    have ih := gapT_nn (P := P) (ts := ts) (ft := ft) fun t f z => h t f (List.mem_cons_of_mem _ z)
    have a := h t f List.mem_cons_self
    unfold gapT
    split <;> split <;> grind
theorem zip_at {α β : Type} {as : List α} {bs : List β} {a : α} {b : β} (h : (a, b) ∈ as.zip bs) : ∃ i : Nat, as[i]? = some a ∧ bs[i]? = some b := by
  obtain ⟨i, hi, e⟩ := List.mem_iff_getElem.mp h
  have h1 : (as.zip bs)[i]? = some (a, b) := by rw [List.getElem?_eq_getElem hi, e]
  rw [List.getElem?_zip_eq_some] at h1
  exact ⟨i, h1.1, h1.2⟩
section
variable {top : Int} {ps : List Plc} {ts : List Tie} {q : Rat} {fi ft fo : List Rat}
theorem WFlow.zi (f : WFlow ps ts q fi ft fo) {p : Plc} {a : Rat} (h : (p, a) ∈ ps.zip fi) : 0 ≤ a ∧ a ≤ inS p q := by
  obtain ⟨i, h1, h2⟩ := zip_at h
  exact f.bi i p a h1 h2
theorem WFlow.zo (f : WFlow ps ts q fi ft fo) {p : Plc} {a : Rat} (h : (p, a) ∈ ps.zip fo) : 0 ≤ a ∧ a ≤ ouS p q := by
  obtain ⟨i, h1, h2⟩ := zip_at h
  exact f.bo i p a h1 h2
theorem WFlow.zt (f : WFlow ps ts q fi ft fo) {t : Tie} {a : Rat} (h : (t, a) ∈ ts.zip ft) : 0 ≤ a ∧ a ≤ (t.2 : Rat) := by
  obtain ⟨i, h1, h2⟩ := zip_at h
  exact f.bt i t a h1 h2
theorem WFlow.le (f : WFlow ps ts q fi ft fo) (h : WebOk top ps ts) (P : Str → Bool) : fi.sum ≤ wthS P ps ts q := by
  have e := gap_eq h f P
  have g1 := gapP_nn (P := P) (q := q) (ps := ps) (fi := fi) (fo := fo) (fun p a z => (f.zi z).2) fun p a z => (f.zo z).2
  have g2 := gapT_nn (P := P) (ts := ts) (ft := ft) fun t a z => f.zt z
  grind
structure LedP (ss : List Str) (ws : List (Str × Str)) (P : Str → Bool) : Prop where
  st : ∀ x ∈ ss, P x = true
  cl : ∀ a b, (a, b) ∈ ws → P a = true → P b = true
  mn : ∀ Q : Str → Bool, (∀ x ∈ ss, Q x = true) → (∀ a b, (a, b) ∈ ws → Q a = true → Q b = true) → ∀ x, P x = true → Q x = true
theorem LedP.ext {ss : List Str} {ws : List (Str × Str)} {P Q : Str → Bool} (a : LedP ss ws P) (b : LedP ss ws Q) : P = Q := by
  funext x
  cases h : P x with
  | true => exact (a.mn Q b.st b.cl x h).symm
  | false =>
    cases h' : Q x with
    | false => rfl
    | true => have := b.mn P a.st a.cl x h'; rw [h] at this; cases this
theorem led_out {P Q S : Str → Bool} (hQ : LedP (stO q ps fo) (flipL (waysL ts ft)) Q) (hS : Tight ps ts q fi ft fo S) {x : Str} (h : Q x = true) : S x = false := by
  have := hQ.mn (fun x => !S x) (fun x hx => by rw [hS.o x hx]; rfl) (fun a b hab hn => by
    have z := hS.w b a (mem_flipL.mp hab)
    cases c : S b with
    | false => rfl
    | true =>
      rw [z c] at hn
      cases hn) x h
  cases c : S x with
  | false => rfl
  | true => rw [c] at this; cases this
theorem near {P Q S : Str → Bool} (hP : LedP (stI q ps fi) (waysL ts ft) P) (hQ : LedP (stO q ps fo) (flipL (waysL ts ft)) Q) (hS : Tight ps ts q fi ft fo S) : Tight ps ts q fi ft fo P ∧ Tight ps ts q fi ft fo (fun x => !Q x) ∧ (∀ x, P x = true → S x = true) ∧ ∀ x, S x = true → Q x = false := by
  have sub : ∀ x, P x = true → S x = true := hP.mn S hS.i hS.w
  have out : ∀ x, S x = true → Q x = false := fun x h => by
    cases c : Q x with
    | false => rfl
    | true => have := led_out (P := P) hQ hS c; rw [h] at this; cases this
  refine ⟨⟨hP.st, hP.cl, fun x hx => ?_⟩, ⟨fun x hx => ?_, fun a b hab hn => ?_, fun x hx => ?_⟩, sub, out⟩
  · cases c : P x with
    | false => rfl
    | true => have := sub x c; rw [hS.o x hx] at this; cases this
  · show (!Q x) = true
    rw [out x (hS.i x hx)]
    rfl
  · show (!Q b) = true
    cases c : Q b with
    | false => rfl
    | true =>
      have := hQ.cl b a (mem_flipL.mpr hab) c
      have hn : (!Q a) = true := hn
      rw [this] at hn
      cases hn
  · show (!Q x) = false
    rw [hQ.st x hx]
    rfl
end
theorem strict_ext {as bs : List Str} (ha : Strict as) (hb : Strict bs) (h : ∀ x, x ∈ as ↔ x ∈ bs) : as = bs := by
  induction as generalizing bs with
  | nil =>
    cases bs with
    | nil => rfl
    | cons b bs => exact absurd ((h b).mpr List.mem_cons_self) List.not_mem_nil
  | cons a as ih =>
    cases bs with
    | nil => exact absurd ((h a).mp List.mem_cons_self) List.not_mem_nil
    | cons b bs =>
      have ha' := List.pairwise_cons.mp ha
      have hb' := List.pairwise_cons.mp hb
      have irr : ∀ {x : Str}, ¬ x.cps.toList < x.cps.toList := fun z => List.lt_irrefl _ z
      have e : a = b := by
        rcases List.mem_cons.mp ((h a).mp List.mem_cons_self) with e | m1
        · exact e
        · rcases List.mem_cons.mp ((h b).mpr List.mem_cons_self) with e | m2
          · exact e.symm
          · exact absurd (List.lt_trans (ha'.1 b m2) (hb'.1 a m1)) irr
      subst e
      congr 1
      refine ih ha'.2 hb'.2 fun x => ⟨fun hx => ?_, fun hx => ?_⟩
      · rcases List.mem_cons.mp ((h x).mp (List.mem_cons_of_mem _ hx)) with e | m
        · subst e; exact absurd (ha'.1 _ hx) irr
        · exact m
      · rcases List.mem_cons.mp ((h x).mpr (List.mem_cons_of_mem _ hx)) with e | m
        · subst e; exact absurd (hb'.1 _ hx) irr
        · exact m
theorem Strict.filter {as : List Str} (h : Strict as) (P : Str → Bool) : Strict (as.filter P) := List.Pairwise.sublist List.filter_sublist h
theorem in_lst {x : Str} {ds : List D} {neg : Bool} : inB neg (.dat (.str x)) (.dat (.lst ds)) = inB neg (.dat (.str x)) (.dat (.tup ds)) := (rfl)
theorem nodup_len : ∀ {as bs : List Str}, as.Nodup → (∀ x ∈ as, x ∈ bs) → as.length ≤ bs.length
  | [], _, _, _ => Nat.zero_le _
  | a :: as, bs, h, hs => by
    rw [List.nodup_cons] at h
    have hb := hs a List.mem_cons_self
    have := nodup_len (as := as) (bs := bs.erase a) h.2 fun x hx => (List.mem_erase_of_ne (fun e : x = a => h.1 (by rw [← e]; exact hx))).mpr (hs x (List.mem_cons_of_mem _ hx))
    rw [List.length_erase_of_mem hb] at this
    have : 0 < bs.length := List.length_pos_of_mem hb
    rw [List.length_cons]
    omega
section
variable {α : Type} {tg : Tg} {t : Env → Res Bool} {fe : Env → Res B} {ρ : Env}
end
structure VStream (ps : List Plc) (ts : List Tie) (q : Rat) (B : Int) (N : Nat) (fi ft fo : List Rat) : Prop where
  b0 : 0 < B
  bb : B.natAbs < 2 ^ N
  flow : WFlow ps ts q fi ft fo
  ni : ∀ f ∈ fi, InB B N f
  nt : ∀ f ∈ ft, InB B N f
  no : ∀ f ∈ fo, InB B N f
section
variable {ps : List Plc} {ts : List Tie} {q : Rat} {B : Int} {N : Nat} {fi ft fo : List Rat}
theorem GStream.v (g : GStream ps ts q B N fi ft fo) : VStream ps ts q B N fi ft fo := ⟨g.b0, g.bb, g.flow, g.ni, g.nt, g.no⟩
theorem VStream.g (g : VStream ps ts q B N fi ft fo) {top : Int} (h : WebOk top ps ts) (c : ∃ P : Str → Bool, fi.sum = wthS P ps ts q) : GStream ps ts q B N fi ft fo := ⟨g.b0, g.bb, g.flow, g.ni, g.nt, g.no, g.flow.le h, c⟩
theorem VStream.fr (g : VStream ps ts q B N fi ft fo) {f : Rat} (a : InB B N f) : FrB f N := a.frB (by have := g.b0; omega) g.bb (Nat.le_refl _)
end
structure LeastOf (ps : List Plc) (ts : List Tie) (q : Rat) (w : Rat) (P F : Str → Bool) : Prop where
  le : ∀ S : Str → Bool, w ≤ wthS S ps ts q
  p : w = wthS P ps ts q
  f : w = wthS F ps ts q
  near : ∀ S : Str → Bool, w = wthS S ps ts q → ∀ x, P x = true → S x = true
  far : ∀ S : Str → Bool, w = wthS S ps ts q → ∀ x, S x = true → F x = true
theorem map_at {α β : Type} {f : α → β} {l : List α} {i : Nat} {b : β} (h : (l.map f)[i]? = some b) : ∃ a, l[i]? = some a ∧ b = f a := by
  rw [List.getElem?_map] at h
  cases e : l[i]? with
  | none => rw [e] at h; cases h
  | some a => rw [e] at h; cases h; exact ⟨a, rfl, rfl⟩
end Fn
namespace Fn
open PySem PySem.Spec PyProof.Rows L2
section
variable {X : Cx} {g : G} {cls : Nat → Value} {k : Nat} {tab : List En} {N : List Str} {sc : Scope} {bt : Bt} {es : List Expr} {fa : Env → Res B}
end
end Fn
namespace Fn
open PySem PySem.Spec PyProof.Rows L2
section
variable {ps : List Plc} {ts : List Tie} {q : Rat}
theorem WebOk.drop {top : Int} (h : WebOk top ps ts) (k : Nat) : WebOk top ps (ts.take k ++ ts.drop (k + 1)) := by
  have sub : List.Sublist (ts.take k ++ ts.drop (k + 1)) ts := by
    conv => rhs; rw [← List.take_append_drop k ts]
    refine List.Sublist.append (List.Sublist.refl _) ?_
    rw [show ts.drop (k + 1) = (ts.drop k).drop 1 by rw [List.drop_drop]]
    exact List.drop_sublist ..
  exact ⟨h.t1, h.t9, h.nm, h.pos, h.le, h.pl, fun t ht => h.ti t (sub.subset ht), Nat.le_trans sub.length_le h.few, h.tnd.sublist (sub.map _), h.tsr.sublist ((sub.map _).map _)⟩
theorem netQ_skip {n : Str} : ∀ (k : Nat) {ts : List Tie} {fs : List Rat}, k < ts.length → fs.length = (ts.take k ++ ts.drop (k + 1)).length → netQ ts (fs.take k ++ 0 :: fs.drop k) n = netQ (ts.take k ++ ts.drop (k + 1)) fs n
  | 0, t :: ts, fs, _, _ => by
    show (if t.1.1 = n then (0 : Rat) else 0) - (if t.1.2 = n then 0 else 0) + netQ ts fs n = netQ ts fs n
    split <;> split <;> grind
  | 0, [], _, h, _ => by simp at h
  | k + 1, [], _, h, _ => by simp at h
  | k + 1, t :: ts, [], h, e => by simp at e
  | k + 1, t :: ts, f :: fs, h, e => by
    have ih := netQ_skip (n := n) k (ts := ts) (fs := fs) (by simpa using h) (by simpa using e)
    show (if t.1.1 = n then f else 0) - (if t.1.2 = n then f else 0) + netQ ts (fs.take k ++ 0 :: fs.drop k) n = (if t.1.1 = n then f else 0) - (if t.1.2 = n then f else 0) + netQ (ts.take k ++ ts.drop (k + 1)) fs n
    rw [ih]
theorem skip_len (k : Nat) {fs : List Rat} {n : Nat} (hk : k < ts.length) (h : fs.length = (ts.take k ++ ts.drop (k + 1)).length) : (fs.take k ++ 0 :: fs.drop k).length = ts.length := by
  rw [List.length_append, List.length_take, List.length_drop] at h
  rw [List.length_append, List.length_cons, List.length_take, List.length_drop]
  omega
theorem WFlow.skip {top : Int} (h : WebOk top ps ts) {k : Nat} (hk : k < ts.length) {fi ft fo : List Rat} (w : WFlow ps (ts.take k ++ ts.drop (k + 1)) q fi ft fo) : WFlow ps ts q fi (ft.take k ++ 0 :: ft.drop k) fo := by
  have hl := w.lt
  have hl' := hl
  rw [List.length_append, List.length_take, List.length_drop] at hl'
  refine ⟨w.li, skip_len (n := 0) k hk hl, w.lo, w.bi, fun i t f h1 h2 => ?_, w.bo, fun i p a b h1 h2 h3 => ?_⟩
  · have tpos : (0 : Rat) ≤ (t.2 : Rat) := by
      have := (h.ti t (List.mem_of_getElem? h1)).lo
      have := Rat.intCast_le_intCast.mpr (show (0 : Int) ≤ t.2 by omega)
      simpa using this
    by_cases c1 : i < k
    · rw [List.getElem?_append_left (by rw [List.length_take]; omega), List.getElem?_take_of_lt c1] at h2
      exact w.bt i t f (by rw [List.getElem?_append_left (by rw [List.length_take]; omega), List.getElem?_take_of_lt c1]; exact h1) h2
    · rw [List.getElem?_append_right (by rw [List.length_take]; omega), List.length_take, show min k ft.length = k by omega] at h2
      by_cases c2 : i = k
      · subst c2
        rw [Nat.sub_self] at h2
        cases h2
        exact ⟨by grind, tpos⟩
      · rw [show i - k = (i - k - 1) + 1 by omega, List.getElem?_cons_succ, List.getElem?_drop, show k + (i - k - 1) = i - 1 by omega] at h2
        exact w.bt (i - 1) t f (by rw [List.getElem?_append_right (by rw [List.length_take]; omega), List.length_take, show min k ts.length = k by omega, List.getElem?_drop, show k + 1 + (i - 1 - k) = i by omega]; exact h1) h2
  · rw [netQ_skip k hk hl]
    exact w.keep i p a b h1 h2 h3
theorem VStream.skip {top : Int} (h : WebOk top ps ts) {k : Nat} (hk : k < ts.length) {B : Int} {N : Nat} {fi ft fo : List Rat} (g : VStream ps (ts.take k ++ ts.drop (k + 1)) q B N fi ft fo) : VStream ps ts q B N fi (ft.take k ++ 0 :: ft.drop k) fo := by
  refine ⟨g.b0, g.bb, g.flow.skip h hk, g.ni, fun f hf => ?_, g.no⟩
  rcases List.mem_append.mp hf with hf | hf
  · exact g.nt f (List.mem_of_mem_take hf)
  · rcases List.mem_cons.mp hf with rfl | hf
    · exact InB.zero
    · exact g.nt f (List.mem_of_mem_drop hf)
end
end Fn
namespace Fn
open PySem PySem.Spec PyProof.Rows L2
structure Jb where
  n : Str
  g : Int
  w : Int
  ws : List Str
structure Tl where
  n : Str
  c : Int
  f : Int
abbrev jbD (j : Jb) : D := .tup [.str j.n, .int j.g, .int j.w, .tup (txs j.ws)]
abbrev tlD (t : Tl) : D := .tup [.str t.n, .int t.c, .int t.f]
abbrev houseD (top : Int) (js : List Jb) (ls : List Tl) : D := .tup [.int top, .tup (js.map jbD), .tup (ls.map tlD)]
structure HouseOk (top : Int) (js : List Jb) (ls : List Tl) : Prop where
  t1 : 1 ≤ top
  t9 : top ≤ 9
  jn : Nms (js.map Jb.n) js.length
  ln : Nms (ls.map Tl.n) ls.length
  un : ∀ x ∈ js.map Jb.n, x ∉ ls.map Tl.n
  pos : 0 < js.length + ls.length
  le : js.length + ls.length ≤ 8
  jg : ∀ j ∈ js, 0 ≤ j.g ∧ j.g ≤ 99 ∧ 0 ≤ j.w ∧ j.w ≤ 99 ∧ j.ws.Nodup ∧ ∀ x ∈ j.ws, x ∈ ls.map Tl.n
  lg : ∀ t ∈ ls, 0 ≤ t.f ∧ t.f ≤ 99 ∧ t.f * top ≤ t.c ∧ t.c ≤ 999
  few : (js.flatMap Jb.ws).length ≤ 16
theorem sum_perm {α : Type} {f : α → Rat} {as bs : List α} (h : as.Perm bs) : (as.map f).sum = (bs.map f).sum := by
  induction h with
  | nil => rfl
  | cons x _ ih => rw [List.map_cons, List.map_cons, List.sum_cons, List.sum_cons, ih]
  | swap x y l => simp only [List.map_cons, List.sum_cons]; grind
  | trans _ _ i1 i2 => rw [i1, i2]
section
variable {top : Int} {js : List Jb} {ls : List Tl} {ps : List Plc} {ts : List Tie} {q : Rat}
end
theorem enD_zi {α : Type} (f : α → D) (l : List α) : enD (l.map f) = l.zipIdx.map fun z => D.tup [.int (z.2 : Nat), f z.1] := by
  apply List.ext_getElem?
  intro i
  rw [List.getElem?_map, List.getElem?_zipIdx]
  cases h : (enD (l.map f))[i]? with
  | none =>
    have := List.getElem?_eq_none_iff.mp h
    rw [en_len, List.length_map] at this
    rw [List.getElem?_eq_none this]
    rfl
  | some d =>
    obtain ⟨x, h1, rfl⟩ := en_get h
    obtain ⟨a, ha, rfl⟩ := map_at h1
    rw [ha]
    simp
end Fn
namespace Fn
open PySem PySem.Spec PyProof.Rows L2
def rnP (r : Str → Str) (p : Plc) : Plc := ⟨r p.n, p.a, p.b, p.c, p.d⟩
def rnT (r : Str → Str) (t : Tie) : Tie := ((r t.1.1, r t.1.2), t.2)
section
variable {r : Str → Str} {ps ps' : List Plc} {ts ts' : List Tie} {q : Rat}
def netS (h : Tie → Rat) (ts : List Tie) (k : Str) : Rat := (ts.map fun t => (if t.1.1 = k then h t else 0) - (if t.1.2 = k then h t else 0)).sum
theorem netQ_S {h : Tie → Rat} {k : Str} : ∀ {ts : List Tie}, netQ ts (ts.map h) k = netS h ts k
  | [] => by simp [netQ, netS]
  | t :: ts => by
    have ih := netQ_S (h := h) (k := k) (ts := ts)
    unfold netS at ih ⊢
    rw [List.map_cons, List.map_cons, List.sum_cons, ← ih]
    rfl
def atN (ns : List Str) (fs : List Rat) (x : Str) : Rat := fs.getD (posN ns x) 0
def pairIx (qs : List (Str × Str)) (p : Str × Str) : Nat := (ixOf (qs.map pD) (pD p)).getD 0
def atP' (qs : List (Str × Str)) (fs : List Rat) (p : Str × Str) : Rat := fs.getD (pairIx qs p) 0
theorem ix_pairs {qs : List (Str × Str)} {p : Str × Str} (h : p ∈ qs) : ∃ hl : pairIx qs p < qs.length, qs[pairIx qs p] = p ∧ ixOf (qs.map pD) (pD p) = some (pairIx qs p) := by
  have ev : ∀ y : Str × Str, PyData.eqv (toPy (pD y)) (toPy (pD p)) = decide (y = p) := fun y => by
    cases e : decide (y = p) with
    | true => exact (eqv_pur (a := pD y) (b := pD p) rfl rfl).mpr (by rw [of_decide_eq_true e])
    | false =>
      rw [← Bool.not_eq_true]
      intro z
      have z := (eqv_pur (a := pD y) (b := pD p) rfl rfl).mp z
      have : y = p := by
        obtain ⟨a, b⟩ := y
        obtain ⟨c, d⟩ := p
        injection z with z
        injection z with z1 z2
        injection z1 with z1
        injection z2 with z2
        injection z2 with z2
        exact Prod.ext z1 z2
      exact of_decide_eq_false e this
  cases e : ixOf (qs.map pD) (pD p) with
  | none =>
    have := List.findIdx?_eq_none_iff.mp e (pD p) (List.mem_map.mpr ⟨p, h, rfl⟩)
    rw [ev] at this
    simp at this
  | some i =>
    have hp : pairIx qs p = i := by unfold pairIx; rw [e]; rfl
    obtain ⟨hl, h1, h2⟩ := List.findIdx?_eq_some_iff_getElem.mp e
    rw [List.length_map] at hl
    rw [hp]
    refine ⟨hl, ?_, rfl⟩
    rw [List.getElem_map, ev, decide_eq_true_eq] at h1
    exact h1
theorem atN_get {ns : List Str} {fs : List Rat} {x : Str} (hl : fs.length = ns.length) (h : x ∈ ns) : fs[posN ns x]? = some (atN ns fs x) := by
  obtain ⟨h1, _, _⟩ := ix_txs h
  unfold atN
  rw [List.getD_eq_getElem?_getD, List.getElem?_eq_getElem (by omega)]
  rfl
theorem atP_get {qs : List (Str × Str)} {fs : List Rat} {p : Str × Str} (hl : fs.length = qs.length) (h : p ∈ qs) : fs[pairIx qs p]? = some (atP' qs fs p) := by
  obtain ⟨h1, _, _⟩ := ix_pairs h
  unfold atP'
  rw [List.getD_eq_getElem?_getD, List.getElem?_eq_getElem (by omega)]
  rfl
theorem map_atN {fs : List Rat} (nd : (ps'.map Plc.n).Nodup) (hl : fs.length = ps'.length) : fs = ps'.map fun p => atN (ps'.map Plc.n) fs p.n := by
  apply List.ext_getElem?
  intro i
  rw [List.getElem?_map]
  by_cases hi : i < ps'.length
  · rw [List.getElem?_eq_getElem (show i < fs.length by omega), List.getElem?_eq_getElem hi]
    show _ = some (atN (ps'.map Plc.n) fs ps'[i].n)
    have hm : ps'[i].n ∈ ps'.map Plc.n := List.mem_map_of_mem (List.getElem_mem hi)
    obtain ⟨h1, h2, _⟩ := ix_txs hm
    have e : posN (ps'.map Plc.n) ps'[i].n = i := by
      refine (List.getElem_inj (h₀ := h1) (h₁ := by rw [List.length_map]; exact hi) nd).mp ?_
      rw [h2, List.getElem_map]
    have := atN_get (fs := fs) (by rw [List.length_map]; exact hl) hm
    rw [e, List.getElem?_eq_getElem (by omega)] at this
    exact this
  · rw [List.getElem?_eq_none (by omega), List.getElem?_eq_none (by omega)]
    rfl
theorem map_atP {fs : List Rat} (nd : (ts'.map (·.1)).Nodup) (hl : fs.length = ts'.length) : fs = ts'.map fun t => atP' (ts'.map (·.1)) fs t.1 := by
  apply List.ext_getElem?
  intro i
  rw [List.getElem?_map]
  by_cases hi : i < ts'.length
  · rw [List.getElem?_eq_getElem (show i < fs.length by omega), List.getElem?_eq_getElem hi]
    show _ = some (atP' (ts'.map (·.1)) fs ts'[i].1)
    have hm : ts'[i].1 ∈ ts'.map (·.1) := List.mem_map_of_mem (List.getElem_mem hi)
    obtain ⟨h1, h2, _⟩ := ix_pairs hm
    have e : pairIx (ts'.map (·.1)) ts'[i].1 = i := by
      refine (List.getElem_inj (h₀ := h1) (h₁ := by rw [List.length_map]; exact hi) nd).mp ?_
      rw [h2, List.getElem_map]
    have := atP_get (fs := fs) (by rw [List.length_map]; exact hl) hm
    rw [e, List.getElem?_eq_getElem (by omega)] at this
    exact this
  · rw [List.getElem?_eq_none (by omega), List.getElem?_eq_none (by omega)]
    rfl
def bkI (r : Str → Str) (ps ps' : List Plc) (fs : List Rat) : List Rat := ps.map fun p => atN (ps'.map Plc.n) fs (r p.n)
def bkT (r : Str → Str) (ts ts' : List Tie) (fs : List Rat) : List Rat := ts.map fun t => atP' (ts'.map (·.1)) fs (r t.1.1, r t.1.2)
theorem back {top top' : Int} (h : WebOk top ps ts) (h' : WebOk top' ps' ts') (hp : ps'.Perm (ps.map (rnP r))) (ht : ts'.Perm (ts.map (rnT r))) (inj : ∀ x ∈ ps.map Plc.n, ∀ y ∈ ps.map Plc.n, r x = r y → x = y) {B : Int} {N : Nat} {fi ft fo : List Rat} (g : VStream ps' ts' q B N fi ft fo) :
    VStream ps ts q B N (bkI r ps ps' fi) (bkT r ts ts' ft) (bkI r ps ps' fo) ∧ (bkI r ps ps' fi).sum = fi.sum := by
  have w := g.flow
  have mn : ∀ p ∈ ps, r p.n ∈ ps'.map Plc.n := fun p hp' => by
    have := hp.mem_iff.mpr (List.mem_map_of_mem (f := rnP r) hp')
    exact List.mem_map.mpr ⟨_, this, rfl⟩
  have mt : ∀ t ∈ ts, (r t.1.1, r t.1.2) ∈ ts'.map (·.1) := fun t ht' => by
    have := ht.mem_iff.mpr (List.mem_map_of_mem (f := rnT r) ht')
    exact List.mem_map.mpr ⟨_, this, rfl⟩
  have li : fi.length = (ps'.map Plc.n).length := by rw [List.length_map]; exact w.li
  have lo : fo.length = (ps'.map Plc.n).length := by rw [List.length_map]; exact w.lo
  have lt : ft.length = (ts'.map (·.1)).length := by rw [List.length_map]; exact w.lt
  have atp : ∀ p ∈ ps, ∃ i p', ps'[i]? = some p' ∧ p'.n = r p.n ∧ p'.a = p.a ∧ p'.b = p.b ∧ p'.c = p.c ∧ p'.d = p.d ∧ i = posN (ps'.map Plc.n) (r p.n) := fun p hp' => by
    obtain ⟨h1, h2, _⟩ := ix_txs (mn p hp')
    rw [List.length_map] at h1
    rw [List.getElem_map] at h2
    have hm := hp.mem_iff.mpr (List.mem_map_of_mem (f := rnP r) hp')
    obtain ⟨j, hj, ej⟩ := List.mem_iff_getElem.mp hm
    have e : j = posN (ps'.map Plc.n) (r p.n) := by
      have h3 : (ps'.map Plc.n)[j]'(by rw [List.length_map]; exact hj) = (ps'.map Plc.n)[posN (ps'.map Plc.n) (r p.n)]'(by rw [List.length_map]; exact h1) := by
        rw [List.getElem_map, List.getElem_map, h2, ej]
        rfl
      exact (List.getElem_inj h'.nm.nd).mp h3
    exact ⟨j, ps'[j], List.getElem?_eq_getElem hj, by rw [ej]; rfl, by rw [ej]; rfl, by rw [ej]; rfl, by rw [ej]; rfl, by rw [ej]; rfl, e⟩
  have ei := map_atN (ps' := ps') (fs := fi) h'.nm.nd w.li
  have eo := map_atN (ps' := ps') (fs := fo) h'.nm.nd w.lo
  have et := map_atP (ts' := ts') (fs := ft) h'.tnd w.lt
  have keepQ : ∀ p ∈ ps, netQ ts (bkT r ts ts' ft) p.n = netQ ts' ft (r p.n) := fun p hp' => by
    have hx : p.n ∈ ps.map Plc.n := List.mem_map_of_mem hp'
    have e1 : netQ ts' ft (r p.n) = netS (fun t' => atP' (ts'.map (·.1)) ft t'.1) ts' (r p.n) := by
      conv => lhs; rw [et]
      exact netQ_S
    rw [e1]
    unfold bkT
    rw [netQ_S]
    unfold netS
    rw [sum_perm ht, List.map_map]
    refine congrArg List.sum (List.map_congr_left fun t ht' => ?_)
    have tl := (h.ti t ht').l
    have tr := (h.ti t ht').r
    show _ = (if r t.1.1 = r p.n then atP' (ts'.map (·.1)) ft (r t.1.1, r t.1.2) else 0) - (if r t.1.2 = r p.n then atP' (ts'.map (·.1)) ft (r t.1.1, r t.1.2) else 0)
    have d1 : (r t.1.1 = r p.n) = (t.1.1 = p.n) := propext ⟨inj _ tl _ hx, fun z => by rw [z]⟩
    have d2 : (r t.1.2 = r p.n) = (t.1.2 = p.n) := propext ⟨inj _ tr _ hx, fun z => by rw [z]⟩
    simp only [d1, d2]
  refine ⟨⟨g.b0, g.bb, ⟨?_, ?_, ?_, fun i p f h1 h2 => ?_, fun i t f h1 h2 => ?_, fun i p f h1 h2 => ?_, fun i p a b h1 h2 h3 => ?_⟩, fun f hf => ?_, fun f hf => ?_, fun f hf => ?_⟩, ?_⟩
  · unfold bkI; rw [List.length_map]
  · unfold bkT; rw [List.length_map]
  · unfold bkI; rw [List.length_map]
  · obtain ⟨p', h3, rfl⟩ := map_at h2
    rw [h1] at h3
    cases h3
    obtain ⟨j, p', z1, z2, z3, z4, z5, z6, z7⟩ := atp p (List.mem_of_getElem? h1)
    have := w.bi j p' _ z1 (by rw [z7]; exact atN_get li (mn p (List.mem_of_getElem? h1)))
    unfold inS at this ⊢
    rw [z3, z4] at this
    exact this
  · obtain ⟨t', h3, rfl⟩ := map_at h2
    rw [h1] at h3
    cases h3
    have ht1 := List.mem_of_getElem? h1
    obtain ⟨k1, k2, _⟩ := ix_pairs (mt t ht1)
    rw [List.length_map] at k1
    rw [List.getElem_map] at k2
    have hm := ht.mem_iff.mpr (List.mem_map_of_mem (f := rnT r) ht1)
    obtain ⟨j, hj, ej⟩ := List.mem_iff_getElem.mp hm
    have e : j = pairIx (ts'.map (·.1)) (r t.1.1, r t.1.2) := by
      have h3 : (ts'.map (·.1))[j]'(by rw [List.length_map]; exact hj) = (ts'.map (·.1))[pairIx (ts'.map (·.1)) (r t.1.1, r t.1.2)]'(by rw [List.length_map]; exact k1) := by
        rw [List.getElem_map, List.getElem_map, k2, ej]
        rfl
      exact (List.getElem_inj h'.tnd).mp h3
    have := w.bt j ts'[j] _ (List.getElem?_eq_getElem hj) (by rw [e]; exact atP_get lt (mt t ht1))
    rw [ej] at this
    exact this
  · obtain ⟨p', h3, rfl⟩ := map_at h2
    rw [h1] at h3
    cases h3
    obtain ⟨j, p', z1, z2, z3, z4, z5, z6, z7⟩ := atp p (List.mem_of_getElem? h1)
    have := w.bo j p' _ z1 (by rw [z7]; exact atN_get lo (mn p (List.mem_of_getElem? h1)))
    unfold ouS at this ⊢
    rw [z5, z6] at this
    exact this
  · obtain ⟨p1, h4, rfl⟩ := map_at h2
    rw [h1] at h4
    cases h4
    obtain ⟨p2, h5, rfl⟩ := map_at h3
    rw [h1] at h5
    cases h5
    have hm := List.mem_of_getElem? h1
    obtain ⟨j, p', z1, z2, z3, z4, z5, z6, z7⟩ := atp p hm
    have := w.keep j p' _ _ z1 (by rw [z7]; exact atN_get li (mn p hm)) (by rw [z7]; exact atN_get lo (mn p hm))
    rw [z2] at this
    rw [keepQ p hm]
    exact this
  · obtain ⟨p, hp', rfl⟩ := List.mem_map.mp hf
    exact g.ni _ (List.mem_of_getElem? (atN_get li (mn p hp')))
  · obtain ⟨t, ht', rfl⟩ := List.mem_map.mp hf
    exact g.nt _ (List.mem_of_getElem? (atP_get lt (mt t ht')))
  · obtain ⟨p, hp', rfl⟩ := List.mem_map.mp hf
    exact g.no _ (List.mem_of_getElem? (atN_get lo (mn p hp')))
  · conv => rhs; rw [ei]
    unfold bkI
    rw [sum_perm hp, List.map_map]
    rfl
end
end Fn
namespace Fn
open PySem PySem.Spec PyProof.Rows L2
def max3I (i j k : Int) : Int := max (max i j) k
def maxG (bs : List B) : Res B := match bs with
  | [.dat (.int i), .dat (.int j), .dat (.int k)] => .ok (.dat (.int (max3I i j k)))
  | bs => maxF bs
theorem max2_nu {i j : Int} : nuMax2 (.int i) (.int j) = some (.int (max i j)) := by
  unfold nuMax2 nuLt nuCB
  rw [Option.map_some]
  by_cases h : i < j
  · rw [if_pos (decide_eq_true h)]
    have : max i j = j := by omega
    rw [this]
  · rw [if_neg (by simpa using h)]
    have : max i j = i := by omega
    rw [this]
theorem max3_nu {i j k : Int} : nuMax3 (.int i) (.int j) (.int k) = some (.int (max3I i j k)) := by
  unfold nuMax3
  rw [max2_nu, Option.bind_some, max2_nu]
  rfl
theorem g_maxG {g : G} {K : PySem.W.Frag} (hK : g.K = K) : CallG g (fun vs H Q => rMaxF K vs H Q ∨ rNuC3 nuMax3 vs H Q) maxG := by
  subst hK
  intro σ F H vs bs Q s r p
  unfold maxG at p
  split at p
  · cases r with
    | cons r1 t =>
      obtain ⟨y, z, rfl, r2, r3⟩ := paired2 t
      cases r1
      cases r2
      cases r3
      exact .inr ⟨_, _, _, _, rfl, max3_nu, p.int s⟩
  · exact .inl (g_max rfl σ F H vs _ Q s r p)
section
variable {X : Cx} {g : G} {cls : Nat → Value} {k : Nat} {tab : List En} {N : List Str} {sc : Scope} {bt : Bt}
theorem CT.maxG (C : CT X g cls k tab N sc bt) (hh : bt.hot = false := by rfl) : BiW X g "max" Fn.maxG := ⟨.inl ⟨_, _, CallR.or (c_max (C.calm hh)) (call_max3Nu (C.calm hh)), boot_max, g_maxG C.hK⟩⟩
end
theorem max3_ii {i j k : Int} : maxG [.dat (.int i), .dat (.int j), .dat (.int k)] = .ok (.dat (.int (max3I i j k))) := rfl
end Fn
namespace L2
open PySem PySem.Spec PyProof.Rows
section
variable {X : Cx} {pins : List (Addr × Obj)} {σ : St} {H : Hp} {s : Shared} {a b : Addr} {r : Value} {d : V} {k : List Key} {A : Around} {E : Value → Shared → Prop}
end
section
variable {X : Cx} {o e f : Expr} {td ty tx : TE} {apos cpos : Pos}
end
end L2
namespace Fn
open PySem PySem.Spec PyProof.Rows L2
def kIxT : List (List Key) → List Key → Option Nat
  | [], _ => none
  | k' :: ks, k => if k' = k then some 0 else (kIxT ks k).map (· + 1)
section
variable {g : G} {F H F' H' : Hp} {σ : L2.St} {ρ : Env} {i : Nat} {ks : List (List Key)} {ls : List (List D)} {k : List Key}
end
def sdKT (ks : List (List Key)) (ls : List (List D)) (k : List Key) : List (List Key) × List (List D) × Nat := match kIxT ks k with
  | some n => (ks, ls, n)
  | none => (ks ++ [k], ls ++ [[]], ks.length)
section
variable {X : Cx} {g : G} {f : Env → Out} {fk fv fa fz : Env → Res B}
end
section
variable {X : Cx} {g : G} {F H : Hp} {σ : L2.St} {ρ : Env} {f : Env → Out} {fa : Env → Res B} {i : Nat}
def lkM : M → Option D
  | .k kvs => some (.lk kvs)
  | .t kvs => some (.lt kvs)
  | _ => none
theorem St.frz (s : St g F H σ ρ) {m : M} {d : D} (h : ρ[i]? = some (some (.own m))) (hd : lkM m = some d) : ∃ p u, H p = some u ∧ Mut (some u) ∧ ∀ od, ∃ F', St g F' (upd H p (.frz od u)) σ (ρ.set i (some (.dat d))) := by
  obtain ⟨p, o, h1, h2, h3, h4, h5⟩ := s.own_none h
  have go : ∀ od, Rp g.K g.fa (upd F p (.frz od o)) (.ref p) d → St g (upd F p (.frz od o)) (upd H p (.frz od o)) σ (ρ.set i (some (.dat d))) := fun od r => by
    have sm : Same F (upd F p (.frz od o)) := fun b u z => by rw [upd_ne (ne_of_none z h3)]; exact z
    refine s.turn h h1 sm ⟨s.gr.fh.trans sm, fun b u z => ?_, fun b u z => ?_, fun a o' ha na fa => ?_⟩ (fun a _ ha => ?_) r fun a ha => ha.elim
    · rw [upd_ne (ne_of_none z h4)]; exact s.gr.hh _ _ z
    · by_cases hb : b = p
      · subst hb
        rw [upd_same] at z ⊢
        exact z
      · rw [upd_ne hb] at z ⊢
        exact s.sub _ _ z
    · rw [upd_ne fun z => by subst z; rw [h4] at ha; cases ha]
      exact s.gr.new a o' ha na fa
    · have ne : a ≠ p := fun z => ha (by subst z; rfl)
      exact ⟨upd_ne ne, fun _ fz => by rw [upd_ne ne]; exact fz⟩
  have sm : ∀ od, Same F (upd F p (.frz od o)) := fun od b u z => by rw [upd_ne (ne_of_none z h3)]; exact z
  cases h5 with
  | l r => cases hd
  | k q r => cases hd; exact ⟨p, _, h2, True.intro, fun od => ⟨_, go od (.lk upd_same q (r.mono (sm od)))⟩⟩
  | t q r => cases hd; exact ⟨p, _, h2, True.intro, fun od => ⟨_, go od (.lt upd_same q (r.mono (sm od)))⟩⟩
end
section
variable {X : Cx} {g : G} {cls : Nat → Value} {k : Nat} {tab : List En} {N : List Str} {sc : Scope} {bt : Bt} {x : Str}
end
end Fn
namespace Fn
open PySem PySem.Spec PyProof.Rows L2
theorem kIxT_some : ∀ {ks : List (List Key)} {k : List Key} {n : Nat}, kIxT ks k = some n → ks[n]? = some k
  | [], _, _, h => by cases h
  | a :: ks, k, n, h => by
    unfold kIxT at h
    by_cases e : a = k
    · rw [if_pos e] at h
      cases h
      rw [e]
      rfl
    · rw [if_neg e] at h
      cases c : kIxT ks k with
      | none => rw [c] at h; cases h
      | some m =>
        rw [c] at h
        cases h
        show ks[m]? = some k
        exact kIxT_some c
theorem kIxT_none : ∀ {ks : List (List Key)} {k : List Key}, kIxT ks k = none → k ∉ ks
  | [], _, _ => by simp
  | a :: ks, k, h => by
    unfold kIxT at h
    by_cases e : a = k
    · rw [if_pos e] at h; cases h
    · rw [if_neg e] at h
      have : kIxT ks k = none := by
        cases c : kIxT ks k with
        | none => rfl
        | some m => rw [c] at h; cases h
      rw [List.mem_cons]
      rintro (z | z)
      · exact e z.symm
      · exact kIxT_none this z
def valsS (S : List (List Key × D)) (k : List Key) : List D := (S.filter fun p => decide (p.1 = k)).map (·.2)
theorem vals_snoc {S : List (List Key × D)} {k k' : List Key} {d : D} : valsS (S ++ [(k, d)]) k' = valsS S k' ++ (if k = k' then [d] else []) := by
  unfold valsS
  rw [List.filter_append, List.map_append]
  by_cases e : k = k'
  · rw [if_pos e, List.filter_cons_of_pos (by simpa using e)]
    rfl
  · rw [if_neg e, List.filter_cons_of_neg (by simpa using e)]
    rfl
structure GT (G : List (List Key) × List (List D)) (S : List (List Key × D)) : Prop where
  len : G.1.length = G.2.length
  nd : G.1.Nodup
  le : G.1.length ≤ S.length
  at_ : ∀ (n : Nat) (k : List Key), G.1[n]? = some k → G.2[n]? = some (valsS S k) ∧ valsS S k ≠ []
  all : ∀ p ∈ S, p.1 ∈ G.1
def addT (G : List (List Key) × List (List D)) (k : List Key) (d : D) : List (List Key) × List (List D) :=
  ((sdKT G.1 G.2 k).1, (sdKT G.1 G.2 k).2.1.set (sdKT G.1 G.2 k).2.2 (((sdKT G.1 G.2 k).2.1[(sdKT G.1 G.2 k).2.2]?).getD [] ++ [d]))
theorem GT.nil : GT ([], []) [] := ⟨rfl, List.nodup_nil, Nat.le_refl _, (fun n k h => by simp at h), (fun p h => by cases h)⟩
theorem GT.add {G : List (List Key) × List (List D)} {S : List (List Key × D)} (g : GT G S) (k : List Key) (d : D) : GT (addT G k d) (S ++ [(k, d)]) := by
  cases hx : kIxT G.1 k with
  | some n =>
    have hk := kIxT_some hx
    obtain ⟨h1, h2⟩ := g.at_ n k hk
    have e : addT G k d = (G.1, G.2.set n (valsS S k ++ [d])) := by unfold addT sdKT; rw [hx]; dsimp only; rw [h1]; rfl
    have hn : n < G.2.length := (List.getElem?_eq_some_iff.mp h1).1
    rw [e]
    refine ⟨by rw [List.length_set]; exact g.len, g.nd, by rw [List.length_append]; have := g.le; show G.1.length ≤ _; omega, fun m k' hm => ?_, fun p hp => ?_⟩
    · rw [vals_snoc]
      by_cases c : m = n
      · subst c
        have : k' = k := by
          have hm : G.1[m]? = some k' := hm
          rw [hk] at hm
          cases hm
          rfl
        subst this
        rw [if_pos rfl]
        exact ⟨List.getElem?_set_self hn, by simp⟩
      · have ne : k ≠ k' := fun z => by
          subst z
          have hm : G.1[m]? = some k := hm
          obtain ⟨a1, a2⟩ := List.getElem?_eq_some_iff.mp hm
          obtain ⟨b1, b2⟩ := List.getElem?_eq_some_iff.mp hk
          exact c ((List.getElem_inj g.nd).mp (a2.trans b2.symm))
        rw [if_neg ne, List.append_nil]
        show (G.2.set n _)[m]? = _ ∧ _
        rw [List.getElem?_set_ne (Ne.symm c)]
        exact g.at_ m k' hm
    · rcases List.mem_append.mp hp with hp | hp
      · exact g.all p hp
      · rw [List.mem_singleton.mp hp]
        exact List.mem_of_getElem? hk
  | none =>
    have hk := kIxT_none hx
    have e : addT G k d = (G.1 ++ [k], G.2 ++ [[d]]) := by
      unfold addT sdKT
      rw [hx]
      dsimp only
      rw [g.len, List.getElem?_append_right (Nat.le_refl _), Nat.sub_self, List.set_append_right _ _ (Nat.le_refl _), Nat.sub_self]
      rfl
    have h0 : valsS S k = [] := by
      unfold valsS
      rw [List.map_eq_nil_iff, List.filter_eq_nil_iff]
      intro p hp z
      exact hk (by rw [← of_decide_eq_true z]; exact g.all p hp)
    rw [e]
    refine ⟨by rw [List.length_append, List.length_append, g.len]; rfl, ?_, by rw [List.length_append, List.length_append]; have := g.le; simp only [List.length_singleton]; omega, fun m k' hm => ?_, fun p hp => ?_⟩
    · exact List.nodup_append.mpr ⟨g.nd, by simp, fun a ha b hb => by
        rw [List.mem_singleton] at hb
        subst hb
        exact fun z => hk (z ▸ ha)⟩
    · rw [vals_snoc]
      have hm : (G.1 ++ [k])[m]? = some k' := hm
      show (G.2 ++ [[d]])[m]? = _ ∧ _
      by_cases c : m < G.1.length
      · rw [List.getElem?_append_left c] at hm
        have ne : k ≠ k' := fun z => hk (by rw [z]; exact List.mem_of_getElem? hm)
        rw [if_neg ne, List.append_nil, List.getElem?_append_left (by rw [← g.len]; exact c)]
        exact g.at_ m k' hm
      · have hz : m = G.1.length := by
          have := (List.getElem?_eq_some_iff.mp hm).1
          rw [List.length_append, List.length_singleton] at this
          omega
        subst hz
        rw [List.getElem?_append_right (Nat.le_refl _), Nat.sub_self] at hm
        cases hm
        rw [if_pos rfl, h0, g.len, List.getElem?_append_right (Nat.le_refl _), Nat.sub_self]
        exact ⟨rfl, by simp⟩
    · rcases List.mem_append.mp hp with hp | hp
      · exact List.mem_append_left _ (g.all p hp)
      · rw [List.mem_singleton.mp hp]
        exact List.mem_append_right _ (List.mem_singleton.mpr rfl)
section
variable {i : Nat} {fk fv fa : Env → Res B} {ρ : Env} {f : Env → Out}
end
end Fn
namespace Fn
open PySem PySem.Spec PyProof.Rows L2
section
variable {g : G} {F H F' H' : Hp} {σ : L2.St} {ρ : Env}
theorem St.putN (s : St g F H σ ρ) {v : V} {b : B} (e : Grow F H F' H') (r : RN g F' H' v b) (fr : ∀ a, Ft H' v b a → H a = none) (i : Nat) : St g F' H' (σ.set i (some v)) (ρ.set i (some b)) := by
  have s1 := s.grow e
  have fresh : ∀ {j : Nat} {b' : B} {v' : V} {a : Addr}, ρ[j]? = some (some b') → σ[j]? = some (some v') → Ft H' v b a → Ft H' v' b' a → False := fun {j b' v' a} h1 h2 h3 h4 => by
    obtain ⟨w, e1, r1⟩ := s.at_ j b' h1
    rw [h2] at e1
    cases e1
    obtain ⟨o', z, _⟩ := Ft.at_ r1 (Ft.back r1 e.hh h4)
    rw [fr a h3] at z
    cases z
  refine ⟨s1.gr, by simp [s1.len], fun j b' h => ?_, fun j k b1 b2 v1 v2 a hjk h1 h2 h3 h4 h5 h6 => ?_⟩
  · rcases set_some h with ⟨rfl, h1, h2⟩ | ⟨h1, h2⟩
    · cases h1
      exact ⟨v, by rw [List.getElem?_set_self (by rw [s1.len]; exact h2)], r⟩
    · obtain ⟨w, h3, h4⟩ := s1.at_ j b' h2
      exact ⟨w, by rw [List.getElem?_set_ne h1]; exact h3, h4⟩
  · rcases set_some h1 with ⟨rfl, e1, l1⟩ | ⟨n1, e1⟩ <;> rcases set_some h2 with ⟨rfl, e2, l2⟩ | ⟨n2, e2⟩
    · exact absurd rfl hjk
    · cases e1
      rw [List.getElem?_set_self (by rw [s.len]; exact l1)] at h3
      rw [List.getElem?_set_ne n2] at h4
      cases h3
      exact fresh e2 h4 h5 h6
    · cases e2
      rw [List.getElem?_set_self (by rw [s.len]; exact l2)] at h4
      rw [List.getElem?_set_ne n1] at h3
      cases h4
      exact fresh e1 h3 h6 h5
    · rw [List.getElem?_set_ne n1] at h3
      rw [List.getElem?_set_ne n2] at h4
      exact s1.apart j k b1 b2 v1 v2 a hjk e1 e2 h3 h4 h5 h6
end
theorem mergeK_new : ∀ {more kvs : List (Key × V)}, (more.map (·.1)).Nodup → (∀ p ∈ more, p.1 ∉ kvs.map (·.1)) → mergeK kvs more = kvs ++ more
  | [], kvs, _, _ => by rw [List.append_nil]; rfl
  | p :: more, kvs, nd, h => by
    rw [List.map_cons, List.nodup_cons] at nd
    have hp : valV kvs p.1 = none := by
      have h0 := h p List.mem_cons_self
      unfold valV
      cases c : kvs.find? fun kv => decide (kv.1 = p.1) with
      | none => rfl
      | some kv =>
        have e := List.find?_some c
        exact absurd (List.mem_map.mpr ⟨kv, List.mem_of_find?_eq_some c, of_decide_eq_true e⟩) h0
    show mergeK (L2.putK kvs p.1 p.2) more = _
    rw [putK_new p.2 hp, mergeK_new nd.2 fun q hq => ?_, List.append_assoc]
    · rfl
    · rw [List.map_append, List.mem_append]
      rintro (z | z)
      · exact h q (List.mem_cons_of_mem _ hq) z
      · have z : q.1 = p.1 := by simpa using z
        exact nd.1 (z ▸ List.mem_map_of_mem hq)
def strsD : List D → Option (List Str)
  | [] => some []
  | .str x :: ds => (strsD ds).map (x :: ·)
  | _ => none
theorem strsD_ok : ∀ {ds : List D} {xs : List Str}, strsD ds = some xs → ds = xs.map .str
  | [], _, h => by cases h; rfl
  | .str x :: ds, xs, h => by
    unfold strsD at h
    cases e : strsD ds with
    | none => rw [e] at h; cases h
    | some ys => rw [e] at h; cases h; rw [strsD_ok e]; rfl
  | .non :: _, _, h => by cases h
  | .bl _ :: _, _, h => by cases h
  | .int _ :: _, _, h => by cases h
  | .tup _ :: _, _, h => by cases h
  | .ctup _ :: _, _, h => by cases h
  | .lst _ :: _, _, h => by cases h
  | .dk _ :: _, _, h => by cases h
  | .dt _ :: _, _, h => by cases h
  | .fn _ :: _, _, h => by cases h
  | .lk _ :: _, _, h => by cases h
  | .lt _ :: _, _, h => by cases h
def dnS (i j : Nat) (it : Env → Res (List D)) : Env → Out := fun ρ => match it ρ with
  | .ok ds => (match strsD ds with
    | some xs => if (decide xs.Nodup && (decide (ds.length ≤ sizeLine) && decide (j < ρ.length))) = true then .nx (ρ.set i (some (.nst (.k (xs.map .inr)) (xs.map fun _ => [])))) else .bad
    | none => .bad)
  | .exc c => .exc c ρ
  | .bad => .bad
structure DnI (H1 F1 F H : Hp) (D : Addr) (xs : List Str) (ps qs : List Addr) : Prop where
  gr : Grow F1 H1 F H
  top : H D = some (.lst (ps.map V.ref))
  fd : F D = none
  lp : ps.length = qs.length
  nd : qs.Nodup
  nD : D ∉ qs
  pr : ∀ (n : Nat) (p q : Addr) (x : Str), ps[n]? = some p → qs[n]? = some q → xs[n]? = some x → H p = some (.tup [.str x, .ref q])
  qs : ∀ q ∈ qs, H q = some (.lst []) ∧ F q = none ∧ H1 q = none
def teDn (j : Nat) : TE := tTup (tCons (tVar j) (tCons (tLst tNil) tNil))
section
variable {X : Cx} {g : G}
theorem fe_dn {j : Nat} {it : Env → Res (List D)} {σ : L2.St} {H : Hp} {F : Hp} {ρ : Env} (hj : j < ρ.length) (s : St g F H σ ρ) {xs : List Str} (hit : it ρ = .ok (xs.map .str)) (hz : xs.length ≤ sizeLine) {Q : VK}
    (q : ∀ (F1 H1 F2 H2 : Hp) (D : Addr) (ps qs : List Addr), Grow F H F1 H1 → H1 D = none → ps.length = xs.length → DnI H1 F1 F2 H2 D xs ps qs → Q (.ref D) H2) :
    tLc (tFI g true it) (tFG g.mute (.one j)) (tFT g.mute fun _ => .ok true) (teDn j) [j] σ H Q := by
  refine ⟨F, ρ, s, ?_⟩
  rw [hit]
  intro F1 H1 J g1 hJ D hD
  have s1 : St g.mute F1 H1 (L2.wipe σ [j]) (wipeE ρ [j]) := ((s.grow g1).wipe _).mute
  have s1' := s.grow g1
  have hw : (wipeE ρ [j]).length = ρ.length := by
    show (ρ.set j none).length = _
    rw [List.length_set]
  refine ⟨fun i m H => m = xs.length - i ∧ i ≤ xs.length ∧ ∃ F ps qs, ps.length = i ∧ DnI H1 F1 F H D xs ps qs, ⟨xs.length, by simp, Nat.zero_le _, F1, [], [], rfl, Grow.newH s1'.sub hD, upd_same, s1'.sub.free hD, rfl, List.nodup_nil, by simp, (fun n p q x h => by simp at h), (fun q h => by cases h)⟩, ?_⟩
  rintro i m H2 ⟨rfl, hi2, F2, ps, qs, hl, dn⟩
  have pp : PP g true F1 H1 F2 H2 := ⟨dn.gr.fh, dn.gr.sub, s1'.gr.hh.trans dn.gr.hh, fun _ => dn.gr.hh⟩
  by_cases hlt : i < xs.length
  · have hlt' : i < (xs.map Fn.D.str).length := by rw [List.length_map]; exact hlt
    refine .inr ⟨hJ.go i F2 H2 pp hlt', fun H' => ∃ F ps qs, ps.length = i + 1 ∧ DnI H1 F1 F H' D xs ps qs, fun H' hn => ⟨xs.length - (i + 1), by omega, rfl, hlt, hn⟩, fun x H' hy => ?_⟩
    have hd : (xs.map Fn.D.str)[i]? = some (.str xs[i]) := by rw [List.getElem?_map, List.getElem?_eq_getElem hlt]; rfl
    obtain ⟨F3, g3, r3⟩ := hJ.yld i F2 H2 x H' _ pp hd hy
    have g13 : Grow F1 H1 F3 H' := dn.gr.trans g3
    have s3 := s1.grow g13
    refine ⟨F3, wipeE ρ [j], .str xs[i], (wipeE ρ [j]).set j (some (.dat (.str xs[i]))), s3, r3, rfl, fun σ2 s4 kp => ?_⟩
    refine ⟨wipe_again (by
      have l1 := s4.len
      have l2 := s3.len
      rw [List.length_set] at l1
      rw [l1, ← l2, L2.wipe_length]) fun k hk => kp k fun z => hk (by simpa [Tg.slots] using z), ?_⟩
    refine ⟨F3, _, s4, ?_⟩
    show ∀ F5 H5, _ → _
    intro F5 H5 g5
    rw [if_pos rfl]
    have s5 := s4.grow g5
    obtain ⟨v, hv, rv⟩ := s5.at_ j (.dat (.str xs[i])) (List.getElem?_set_self (by rw [hw]; exact hj))
    cases rv
    refine ⟨_, hv, Nat.zero_le _, fun q hq => ⟨le_sz (by show 2 ≤ 1000; decide), fun p hp => ?_⟩⟩
    have g15 : Grow F1 H1 F5 H5 := g13.trans g5
    have top5 : H5 D = some (.lst (ps.map V.ref)) := g5.hh _ _ (g3.hh _ _ dn.top)
    have fd5 : F5 D = none := g5.new D _ (g3.hh _ _ dn.top) (by intro _ z; cases z) (g3.new D _ dn.top (by intro _ z; cases z) dn.fd)
    have nDq : D ≠ q := fun z => by rw [z, hq] at top5; cases top5
    have npq : p ≠ q := fun z => by rw [z, upd_same] at hp; cases hp
    have hp5 : H5 p = none := by rwa [upd_ne npq] at hp
    have nDp : D ≠ p := fun z => by rw [z, hp5] at top5; cases top5
    have at4 : ∀ a o, H5 a = some o → upd (upd H5 q (.lst [])) p (.tup [.str xs[i], .ref q]) a = some o := fun a o h => by
      rw [upd_ne (ne_of_none h hp5), upd_ne (ne_of_none h hq)]
      exact h
    have q1 : H1 q = none := by
      cases c : H1 q with
      | none => rfl
      | some o => rw [g15.hh _ _ c] at hq; cases hq
    have f5q : F5 q = none := g15.sub.free hq
    have f5p : F5 p = none := g15.sub.free hp5
    have hDn : upd (upd H5 q (.lst [])) p (.tup [.str xs[i], .ref q]) D = some (.lst (ps.map V.ref)) := at4 _ _ top5
    have qn : q ∉ qs := fun z => by
      obtain ⟨a1, _, _⟩ := dn.qs q z
      rw [g5.hh _ _ (g3.hh _ _ a1)] at hq
      cases hq
    refine ⟨_, hDn, by rw [List.length_map, hl]; omega, F5, ps ++ [p], qs ++ [q], by rw [List.length_append, hl]; rfl, ⟨⟨g15.fh, fun b u z => ?_, fun b u z => ?_, g15.new⟩, ?_, fd5, by rw [List.length_append, List.length_append, dn.lp]; rfl, ?_, ?_, fun n p' q' x h1 h2 h3 => ?_, fun q' hq' => ?_⟩⟩
    · rw [upd_ne (ne_of_none z hD)]
      exact at4 _ _ (g15.hh _ _ z)
    · rw [upd_ne (ne_of_none z fd5)]
      exact at4 _ _ (g15.sub _ _ z)
    · rw [upd_same, List.map_append]
      rfl
    · exact List.nodup_append.mpr ⟨dn.nd, by simp, fun a ha b hb => by
        rw [List.mem_singleton] at hb
        subst hb
        exact fun z => qn (z ▸ ha)⟩
    · rw [List.mem_append, List.mem_singleton]
      rintro (z | z)
      · exact dn.nD z
      · exact nDq z
    · by_cases hn : n < ps.length
      · rw [List.getElem?_append_left hn] at h1
        rw [List.getElem?_append_left (by rw [← dn.lp]; exact hn)] at h2
        have a := dn.pr n p' q' x h1 h2 h3
        have a5 := g5.hh _ _ (g3.hh _ _ a)
        have ne : p' ≠ D := fun z => by rw [z, top5] at a5; cases a5
        rw [upd_ne ne]
        exact at4 _ _ a5
      · have hz2 : n = ps.length := by
          have := (List.getElem?_eq_some_iff.mp h1).1
          rw [List.length_append, List.length_singleton] at this
          omega
        subst hz2
        rw [List.getElem?_append_right (Nat.le_refl _), Nat.sub_self] at h1
        rw [dn.lp, List.getElem?_append_right (Nat.le_refl _), Nat.sub_self] at h2
        cases h1
        cases h2
        rw [hl, List.getElem?_eq_getElem hlt] at h3
        cases h3
        rw [upd_ne (Ne.symm nDp), upd_same]
    · rcases List.mem_append.mp hq' with hq' | hq'
      · obtain ⟨a1, a2, a3⟩ := dn.qs q' hq'
        have a5 := g5.hh _ _ (g3.hh _ _ a1)
        have ne : q' ≠ D := fun z => dn.nD (z ▸ hq')
        exact ⟨by rw [upd_ne ne]; exact at4 _ _ a5, g5.new q' _ (g3.hh _ _ a1) (by intro _ z; cases z) (g3.new q' _ a1 (by intro _ z; cases z) a2), a3⟩
      · rw [List.mem_singleton.mp hq']
        exact ⟨by rw [upd_ne (Ne.symm nDq), upd_ne (Ne.symm npq), upd_same], f5q, q1⟩
  · have e : i = xs.length := by omega
    subst e
    exact .inl ⟨hJ.stop _ F2 H2 pp (by rw [List.length_map]; exact Nat.le_refl _), q F1 H1 F2 H2 D ps qs g1 hD hl dn⟩
end
theorem dn_pairs {K : PySem.W.Frag} {H : Hp} : ∀ {ps qs : List Addr} {xs : List Str}, ps.length = xs.length → qs.length = xs.length → (∀ (n : Nat) (p q : Addr) (x : Str), ps[n]? = some p → qs[n]? = some q → xs[n]? = some x → H p = some (.tup [.str x, .ref q])) → Paired (fun p kv => SqT K H p [kV kv.1, kv.2]) ps ((xs.map Sum.inr).zip (qs.map V.ref))
  | [], [], [], _, _, _ => .nil
  | p :: ps, q :: qs, x :: xs, h1, h2, h => .cons (SqT.of (h 0 p q x rfl rfl rfl)) (dn_pairs (by simpa using h1) (by simpa using h2) fun n p q x a b c => h (n + 1) p q x (by simpa using a) (by simpa using b) (by simpa using c))
  | [], _ :: _, [], _, h2, _ => by simp at h2
  | [], _, _ :: _, h1, _, _ => by simp at h1
  | _ :: _, _, [], h1, _, _ => by simp at h1
  | _ :: _, [], _ :: _, _, h2, _ => by simp at h2
section
variable {X : Cx} {g : G} {cls : Nat → Value} {k : Nat} {tab : List En} {N : List Str} {sc : Scope} {bt : Bt} {x y : Str}
theorem CS.dn (C : CS X g cls k tab N sc bt) (i j : Nat) {it : Env → Res (List D)} {iter : Expr} {scope : Scope} {n : Nat} {py p p1 p2 p3 pt lpos cpos pos : Pos} (hi : PI X (.Name x pt) iter (tFI g true it))
    (ok : (lcOk N sc scope [(x, j)] (.one j) iter && (vOk N (relS scope sc) j x && lOk N (relS scope sc) j x)) = true) (hg : gOk sc bt "dict" = true) (h : aOk N sc i y = true) (hh : bt.hot = false := by rfl) :
    PS X (.Assign [.Name y py] (.Call (.Name "dict" p) [.ListComp (.Tuple [.Name x p1, .List [] p2] n p3) [⟨.Name x pt, iter, [], 0⟩] scope lpos] [] cpos) pos) (tFS g (dnS i j it)) := by
  rw [Bool.and_eq_true, Bool.and_eq_true] at ok
  obtain ⟨ok, hv, hl⟩ := ok
  unfold lcOk at ok
  simp only [Bool.and_eq_true, List.all_eq_true, decide_eq_true_eq] at ok
  obtain ⟨⟨b1, b2⟩, b3⟩ := ok
  have comp : PE X (.ListComp (.Tuple [.Name x p1, .List [] p2] n p3) [⟨.Name x pt, iter, [], 0⟩] scope lpos) (tLc (tFI g true it) (tFG g.mute (.one j)) (tFT g.mute fun _ => .ok true) (teDn j) [j]) :=
    pe_lc (own := [(x, j)]) (C.ct.calm hh) C.ct.nd' hi (by rw [C.ct.hN, C.ct.hS]; exact blkOk_by b1) (fun s H A cl fp => (C.ct.blk hh s H A cl fp).g1 j hl) (fun s H A cl fp => ifs0) (fun s H A cl fp => by
      obtain ⟨v1, v2, v3, v4⟩ := (C.ct.blk hh s H A cl fp).vo hv
      exact pe_tup (pa_cons (pe_var v1 v2 v3 v4) (pa_cons (pe_lst pa_nil) pa_nil (star_cons rfl)) (star_cons rfl))) (iter_plain b3 _)
  obtain ⟨g1, g2⟩ := C.ct.bl hg
  have call := pe_callTy (pos := cpos) (p := p) (call_dictP (C.ct.calm hh)) g1 g2 boot_dict (pa_cons comp pa_nil (star_cons rfl)) (by decide) (by decide) (star_cons rfl) (by rfl)
  refine PS.imp (ps_set C.ct.nd' (C.ao h).1 (C.ao h).2 call (sw_no rfl) (.inl (C.fn y))) fun E σ H hw => ?_
  obtain ⟨F, ρ, s, q⟩ := hw
  unfold dnS at q
  unfold tAsg tCB tCons tNil gName
  cases e : it ρ with
  | exc c =>
    rw [e] at q
    refine ⟨F, ρ, s, ?_⟩
    rw [e]
    exact fun F' H' g1 => q σ F' H' (s.grow g1)
  | bad => rw [e] at q; exact q.elim
  | ok ds =>
    rw [e] at q
    dsimp only at q
    cases ex : strsD ds with
    | none => rw [ex] at q; exact q.elim
    | some xs =>
      rw [ex] at q
      dsimp only at q
      have ed := strsD_ok ex
      subst ed
      split at q
      · rename_i hc
        rw [Bool.and_eq_true, Bool.and_eq_true, decide_eq_true_eq, decide_eq_true_eq, decide_eq_true_eq, List.length_map] at hc
        refine fe_dn hc.2.2 s e hc.2.1 fun F1 H1 F2 H2 D ps qs g1 hD hl dn => ?_
        have ql : qs.length = xs.length := by rw [← dn.lp]; exact hl
        refine ⟨D, ps, (xs.map Sum.inr).zip (qs.map V.ref), rfl, SqL.of dn.top, dn_pairs hl ql dn.pr, fun P hP => ?_⟩
        have zl : (xs.map (Sum.inr : Str → Key)).length = (qs.map V.ref).length := by rw [List.length_map, List.length_map, ql]
        have mk : mergeK [] ((xs.map Sum.inr).zip (qs.map V.ref)) = (xs.map Sum.inr).zip (qs.map V.ref) := by
          rw [mergeK_new (by
            rw [List.map_fst_zip (Nat.le_of_eq zl)]
            exact List.pairwise_map.mpr (hc.1.imp fun ne z => ne (by injection z))) (fun p _ => by simp)]
          rfl
        rw [mk]
        have g2 := g1.trans dn.gr
        have g3 := g2.trans (Grow.newH dn.gr.sub hP (o := .dK ((xs.map Sum.inr).zip (qs.map V.ref))))
        have s2 := s.grow g2
        have nP : P ∉ qs := fun z => by rw [(dn.qs P z).1] at hP; cases hP
        have nst : NstOk g.K g.fa g.G0 F2 (upd H2 P (.dK ((xs.map Sum.inr).zip (qs.map V.ref)))) P (.k (xs.map .inr)) qs (xs.map fun _ => []) := by
          refine ⟨upd_same, .inl (dn.gr.sub.free hP), s2.gr.hh.free hP, by rw [List.length_map]; exact ql, by show (xs.map _).length = (xs.map _).length; rw [List.length_map, List.length_map], dn.nd, nP, fun m q' ds' h1 h2 => ?_⟩
          obtain ⟨a1, a2, a3⟩ := dn.qs q' (List.mem_of_getElem? h1)
          have hd' : ds' = [] := by
            rw [List.getElem?_map] at h2
            cases c : xs[m]? with
            | none => rw [c] at h2; cases h2
            | some _ => rw [c] at h2; cases h2; rfl
          subst hd'
          have ne : q' ≠ P := fun z => nP (z ▸ List.mem_of_getElem? h1)
          exact ⟨[], by rw [upd_ne ne]; exact a1, a2, (s.grow g1).gr.hh.free a3, .nil⟩
        have rn : RN g F2 (upd H2 P (.dK ((xs.map Sum.inr).zip (qs.map V.ref)))) (.ref P) (.nst (.k (xs.map .inr)) (xs.map fun _ => [])) := ⟨P, qs, rfl, nst⟩
        refine q _ F2 _ (s.putN g3 rn (fun a ha => ?_) i)
        rcases ha with ha | ⟨p', o', z1, z2, z3⟩
        · cases ha
          exact g2.hh.free hP
        · cases z1
          rw [nst.top] at z2
          cases z2
          exact g1.hh.free (dn.qs a (nst.kid.mp z3)).2.2
      · exact q.elim
end
section
variable {X : Cx} {g : G} {fk fv : Env → Res B}
end
section
variable {X : Cx} {g : G} {cls : Nat → Value} {k : Nat} {tab : List En} {N : List Str} {sc : Scope} {bt : Bt} {x : Str}
end
end Fn
namespace Fn
open PySem PySem.Spec PyProof.Rows L2
def pairsK : List D → Option (List (Key × D))
  | [] => some []
  | .tup [k, v] :: ds => (match keyD k, pairsK ds with
    | some q, some kvs => some ((q, v) :: kvs)
    | _, _ => none)
  | _ => none
theorem pairs_rp {g : G} {F : Hp} : ∀ {ds : List D} {kds : List (Key × D)} {xs : List V}, pairsK ds = some kds → RpAll g.K g.fa F xs ds →
    ∃ (ps : List Addr) (kvs : List (Key × V)), xs = ps.map V.ref ∧ Paired (fun p kv => F p = some (.tup [kV kv.1, kv.2])) ps kvs ∧ kvs.map (·.1) = kds.map (·.1) ∧ RpAll g.K g.fa F (kvs.map (·.2)) (kds.map (·.2))
  | [], _, _, h, r => by cases h; cases r; exact ⟨[], [], rfl, .nil, rfl, .nil⟩
  | d :: ds, kds, xs, h, r => by
    unfold pairsK at h
    split at h
    · rename_i e; cases e
    · rename_i k v ds' e
      injection e with e1 e2
      subst e1 e2
      split at h
      · rename_i q kvs hq hk
        cases h
        cases r with
        | cons r1 r2 =>
          obtain ⟨ps, kvs', rfl, h2, h3, h4⟩ := pairs_rp hk r2
          cases r1 with
          | tup f rr =>
            cases rr with
            | cons ra rb =>
              cases rb with
              | cons rv rn =>
                cases rn
                have ek := keyD_ok hq ra
                subst ek
                exact ⟨_ :: ps, (q, _) :: kvs', rfl, .cons f h2, by rw [List.map_cons, List.map_cons, h3], .cons rv h4⟩
      · cases h
    · cases h
def dctF (bs : List B) : Res B := match bs with
  | [b] => (match seqL b with
    | some ds => (match pairsK ds with
      | some kvs => if decide (kvs.map (·.1)).Nodup = true then .ok (.own (.k kvs)) else .bad
      | none => .bad)
    | none => .bad)
  | _ => .bad
def rDictP (K : PySem.W.Frag) : List V → Hp → VK → Prop := fun xs H Q => ∃ (a : Addr) (ps : List Addr) (kvs : List (Key × V)), xs = [.ref a] ∧ SqL K H a (ps.map V.ref) ∧ Paired (fun p kv => SqT K H p [kV kv.1, kv.2]) ps kvs ∧
    ∀ p, H p = none → Q (.ref p) (upd H p (.dK (mergeK [] kvs)))
theorem g_dct {g : G} {K : PySem.W.Frag} (hK : g.K = K) : CallG g (rDictP K) dctF := by
  subst hK
  intro σ F H vs bs Q s r p
  unfold dctF at p
  split at p
  · rename_i b
    obtain ⟨v, rfl, rv⟩ := paired1 r
    split at p
    · rename_i ds hd
      obtain ⟨a, xs, rfl, h1, h2⟩ := seqL_ok s rv hd
      split at p
      · rename_i kds hk
        split at p
        · rename_i hn
          have hn := of_decide_eq_true hn
          obtain ⟨ps, kvs, rfl, q2, q3, q4⟩ := pairs_rp hk h2
          refine ⟨a, ps, kvs, rfl, SqL.of h1, Paired.mapP q2 fun _ _ z => SqT.of (s.fh _ _ z), fun P hP => ?_⟩
          rw [mergeK_new (by rw [q3]; exact hn) (fun p _ => by simp), List.nil_append]
          exact p (.ref P) F _ (Grow.newH s.fh hP) ⟨P, _, rfl, hP, upd_same, s.fh.free hP, .k q3 q4⟩
        · exact p.elim
      · exact p.elim
    · exact p.elim
  · exact p.elim
section
variable {X : Cx} {g : G} {cls : Nat → Value} {k : Nat} {tab : List En} {N : List Str} {sc : Scope} {bt : Bt}
theorem CT.dct (C : CT X g cls k tab N sc bt) (hh : bt.hot = false := by rfl) : BiW X g "dict" dctF := ⟨.inr ⟨_, _, call_dictP (C.calm hh), boot_dict, g_dct C.hK⟩⟩
end
section
variable {i j : Nat} {fk fv : Env → Res B} {it : Env → Res (List D)} {ρ : Env}
theorem strsD_map : ∀ xs : List Str, strsD (xs.map .str) = some xs
  | [] => rfl
  | x :: xs => by
    show (strsD (xs.map .str)).map (x :: ·) = _
    rw [strsD_map xs]
    rfl
end
end Fn
namespace Fn
open PySem PySem.Spec PyProof.Rows L2
section
variable {ps : List Plc} {ts : List Tie} {q : Rat} {fi ft fo : List Rat} {P Q : Str → Bool}
end
end Fn
namespace PySem
open PySem.AutoSeq1
end PySem
namespace L2
open PySem PySem.Spec PyProof.Rows
end L2
namespace Fn
open PySem PySem.Spec PyProof.Rows L2
def extW (i : Nat) (fa : Env → Res B) : Env → Out := fun ρ => match ownAt ρ i with
  | some (.l ds) => (match fa ρ with
    | .ok b => (match rd b with
      | .dat (.tup es) => if ds.length + es.length ≤ sizeLine then .nx (ρ.set i (some (.own (.l (ds ++ es))))) else .bad
      | b => (match seqL b with
        | some es => if ds.length + es.length ≤ sizeLine then .nx (ρ.set i (some (.own (.l (ds ++ es))))) else .bad
        | none => .bad))
    | .exc c => .exc c ρ
    | .bad => .bad)
  | _ => .bad
def extWK (i : Nat) (o : Option M) (r : Res B) (ρ : Env) : Out := match o with
  | some (.l ds) => (match r with
    | .ok b => (match rd b with
      | .dat (.tup es) => if ds.length + es.length ≤ sizeLine then .nx (ρ.set i (some (.own (.l (ds ++ es))))) else .bad
      | b => (match seqL b with
        | some es => if ds.length + es.length ≤ sizeLine then .nx (ρ.set i (some (.own (.l (ds ++ es))))) else .bad
        | none => .bad))
    | .exc c => .exc c ρ
    | .bad => .bad)
  | _ => .bad
section
variable {X : Cx} {g : G} {cls : Nat → Value} {k : Nat} {tab : List En} {N : List Str} {sc : Scope} {bt : Bt} {fa : Env → Res B} {e : Expr} {p1 p2 p3 p4 : Pos}
theorem e_extW {i : Nat} {ρ : Env} : extW i fa ρ = extWK i (ownOf ρ[i]?) (fa ρ) ρ := (rfl)
theorem extW_tup {i : Nat} {ρ : Env} {ds es : List D} (h : ds.length + es.length ≤ 1000) : extWK i (some (.l ds)) (.ok (.dat (.tup es))) ρ = .nx (ρ.set i (some (.own (.l (ds ++ es))))) := if_pos (le_sz h)
end
end Fn
namespace Fn
open PySem PySem.Spec PyProof.Rows L2
end Fn
namespace Fn
open PySem PySem.Spec PyProof.Rows L2
structure Js (g : G) (d : Addr) (Gd : Hp → List (List Key × V) → Prop) (F H : Hp) : Prop where
  dd : ∃ kvs, H d = some (.dT kvs) ∧ Gd F kvs
  fd : F d = none
  gd : g.G0 d = none
structure JSt (g : G) (d : Addr) (Gd : Hp → List (List Key × V) → Prop) (F H : Hp) (σ : L2.St) (ρ : Env) : Prop where
  st : St g F H σ ρ
  js : Js g d Gd F H
  no : ∀ (i : Nat) (b : B) (v : V), ρ[i]? = some (some b) → σ[i]? = some (some v) → ¬ Ft H v b d
structure JGrow (d : Addr) (F H F' H' : Hp) : Prop where
  fh : Same F F'
  hh : ∀ a o, a ≠ d → H a = some o → H' a = some o
  sub : Same F' H'
  new : ∀ a o, a ≠ d → H a = some o → (∀ xs, o ≠ .tup xs) → F a = none → F' a = none
def MonoJ (Gd : Hp → List (List Key × V) → Prop) : Prop := ∀ F F' kvs, Same F F' → Gd F kvs → Gd F' kvs
section
variable {X : Cx} {g : G} {d : Addr} {Gd : Hp → List (List Key × V) → Prop} {F H F' H' F2 H2 : Hp} {σ : L2.St} {ρ : Env}
theorem Grow.j (e : Grow F H F' H') : JGrow d F H F' H' := ⟨e.fh, fun a o _ h => e.hh a o h, e.sub, fun a o _ h n z => e.new a o h n z⟩
theorem JGrow.trans (a : JGrow d F H F' H') (b : JGrow d F' H' F2 H2) : JGrow d F H F2 H2 := ⟨a.fh.trans b.fh, fun c o n h => b.hh c o n (a.hh c o n h), b.sub, fun c o n h m z => b.new c o n (a.hh c o n h) m (a.new c o n h m z)⟩
theorem Js.keep (M : MonoJ Gd) (j : Js g d Gd F H) (e : Grow F H F' H') : Js g d Gd F' H' := by
  obtain ⟨kvs, h1, h2⟩ := j.dd
  exact ⟨⟨kvs, e.hh _ _ h1, M _ _ _ e.fh h2⟩, e.new d _ h1 (fun xs z => by cases z) j.fd, j.gd⟩
theorem JSt.keep (s : JSt g d Gd F H σ ρ) (e : JGrow d F H F' H') {i : Nat} {b : B} {v : V} (h1 : ρ[i]? = some (some b)) (h2 : σ[i]? = some (some v)) : ∀ a, Ft H v b a → H' a = H a ∧ ((∀ o, H a = some o → ∀ xs, o ≠ .tup xs) → F a = none → F' a = none) := fun a ha => by
  obtain ⟨w, hw, rn⟩ := s.st.at_ i b h1
  rw [h2] at hw
  cases hw
  obtain ⟨o, ho, _⟩ := Ft.at_ rn ha
  have ne : a ≠ d := fun z => s.no i b v h1 h2 (z ▸ ha)
  exact ⟨by rw [ho, e.hh a o ne ho], fun nt hf => e.new a o ne ho (nt o ho) hf⟩
theorem JSt.grow (s : JSt g d Gd F H σ ρ) (e : JGrow d F H F' H') (j : Js g d Gd F' H') : JSt g d Gd F' H' σ ρ := by
  refine ⟨⟨⟨s.st.gr.fh.trans e.fh, fun a o h => ?_, e.sub, fun a o h nt hf => ?_⟩, s.st.len, fun i b h => ?_, fun i j b b' v v' a hij h1 h2 h3 h4 h5 h6 => ?_⟩, j, fun i b v h1 h2 z => ?_⟩
  · have ne : a ≠ d := fun z => by rw [z, s.js.gd] at h; cases h
    exact e.hh a o ne (s.st.gr.hh a o h)
  · have ne : a ≠ d := fun z => by rw [z, s.js.gd] at h; cases h
    exact e.new a o ne (s.st.gr.hh a o h) nt (s.st.gr.new a o h nt hf)
  · obtain ⟨v, h1, h2⟩ := s.st.at_ i b h
    exact ⟨v, h1, h2.keep (s.keep e h h1) e.fh⟩
  · exact s.st.apart i j b b' v v' a hij h1 h2 h3 h4 (Ft.keep (fun a ha => (s.keep e h1 h3 a ha).1) h5) (Ft.keep (fun a ha => (s.keep e h2 h4 a ha).1) h6)
  · exact s.no i b v h1 h2 (Ft.keep (fun a ha => (s.keep e h1 h2 a ha).1) z)
theorem JSt.putD (s : JSt g d Gd F H σ ρ) {v : V} {x : D} (r : Rp g.K g.fa F v x) (i : Nat) : JSt g d Gd F H (σ.set i (some v)) (ρ.set i (some (.dat x))) := by
  refine ⟨s.st.put (b := .dat x) (Grow.refl s.st.sub) r i (by intro m z; cases z), s.js, fun j b w h1 h2 z => ?_⟩
  rcases set_some h1 with ⟨_, e, _⟩ | ⟨hij, e⟩
  · cases e
    exact z
  · rw [List.getElem?_set_ne hij] at h2
    exact s.no j b w e h2 z
abbrev G.fg (g : G) (F0 G0 : Hp) : G := { g with F0 := F0, G0 := G0 }
def okJ1 : Option B → Bool
  | none => true
  | some (.dat _) => true
  | some (.own _) => true
  | some (.err _) => true
  | _ => false
def okJ (ρ : Env) : Bool := ρ.all okJ1
theorem okJ_at (h : okJ ρ = true) {i : Nat} {b : B} (e : ρ[i]? = some (some b)) : okJ1 (some b) = true := List.all_eq_true.mp h _ (List.mem_of_getElem? e)
theorem JSt.back (M : MonoJ Gd) (s : JSt g d Gd F H σ ρ) {kvs : List (List Key × V)} (h : H d = some (.dT kvs)) {σ' : L2.St} {ρ' : Env} (ok : okJ ρ' = true) (s' : St (g.fg F (upd g.G0 d (.dT kvs))) F' H' σ' ρ') : JSt g d Gd F' H' σ' ρ' := by
  have g1 : Grow F (upd g.G0 d (.dT kvs)) F' H' := s'.gr
  have hd : upd g.G0 d (.dT kvs) d = some (.dT kvs) := upd_same
  have nog : g.G0 d = none := s.js.gd
  have up : ∀ a o, g.G0 a = some o → upd g.G0 d (.dT kvs) a = some o := fun a o e => by rw [upd_ne (fun z => by rw [z, nog] at e; cases e)]; exact e
  have dn : ∀ a, upd g.G0 d (.dT kvs) a = none → g.G0 a = none ∧ a ≠ d := fun a e => by
    have ne : a ≠ d := fun z => by rw [z, hd] at e; cases e
    rw [upd_ne ne] at e
    exact ⟨e, ne⟩
  have at_ : ∀ (i : Nat) (b : B), ρ'[i]? = some (some b) → ∃ v, σ'[i]? = some (some v) ∧ RN g F' H' v b ∧ ¬ Ft H' v b d := fun i b e => by
    obtain ⟨v, h1, h2⟩ := s'.at_ i b e
    have ob := okJ_at ok e
    refine ⟨v, h1, ?_⟩
    cases b with
    | dat x => exact ⟨h2, fun z => z⟩
    | own m =>
      obtain ⟨p, o, e1, e2, e3, e4, e5⟩ := h2
      obtain ⟨n1, n2⟩ := dn p e4
      exact ⟨⟨p, o, e1, e2, e3, n1, e5⟩, fun z => n2 (by rw [e1] at z; have z : V.ref p = V.ref d := z; cases z; rfl)⟩
    | err c => exact ⟨h2, fun z => z⟩
    | vw m => cases ob
    | bor m => cases ob
    | scr ns => cases ob
    | nst sh ls => cases ob
  obtain ⟨kvs', k1, k2⟩ := s.js.dd
  rw [h] at k1
  cases k1
  refine ⟨⟨⟨s.st.gr.fh.trans g1.fh, fun a o e => g1.hh a o (up a o e), g1.sub, fun a o e nt hf => g1.new a o (up a o e) nt (s.st.gr.new a o e nt hf)⟩, s'.len, fun i b e => let ⟨v, h1, h2, _⟩ := at_ i b e; ⟨v, h1, h2⟩, s'.apart⟩, ⟨⟨kvs, g1.hh _ _ hd, M _ _ _ g1.fh k2⟩, g1.new d _ hd (fun xs z => by cases z) s.js.fd, nog⟩, fun i b v h1 h2 z => ?_⟩
  obtain ⟨w, e1, _, e3⟩ := at_ i b h1
  rw [h2] at e1
  cases e1
  exact e3 z
def PostJ (g : G) (d : Addr) (Gd : Hp → List (List Key × V) → Prop) (F H : Hp) (r : Res B) (Q : VK) : Prop := match r with
  | .ok (.dat x) => ∀ v F' H', JGrow d F H F' H' → Js g d Gd F' H' → Rp g.K g.fa F' v x → Q v H'
  | _ => False
def tJ (g : G) (d : Addr) (Gd : Hp → List (List Key × V) → Prop) (f : Env → Res B) : TE := fun σ H Q => ∃ F ρ, JSt g d Gd F H σ ρ ∧ PostJ g d Gd F H (f ρ) Q
theorem PostJ.ok {r : Res B} {Q : VK} (p : PostJ g d Gd F H r Q) : ∃ x, r = .ok (.dat x) ∧ ∀ v F' H', JGrow d F H F' H' → Js g d Gd F' H' → Rp g.K g.fa F' v x → Q v H' := by
  unfold PostJ at p
  split at p
  · exact ⟨_, rfl, p⟩
  · exact p.elim
end
end Fn
namespace Fn
open PySem PySem.Spec PyProof.Rows L2
section
variable {X : Cx} {g : G} {d : Addr} {Gd : Hp → List (List Key × V) → Prop} {F H F' H' F2 H2 : Hp} {σ : L2.St} {ρ : Env}
theorem JSt.up {F1 H1 : Hp} (a : Grow g.F0 g.G0 F1 H1) (s : JSt (g.fl F1) d Gd F H σ ρ) : JSt g d Gd F H σ ρ := ⟨s.st.up a, ⟨s.js.dd, s.js.fd, s.js.gd⟩, s.no⟩
theorem JSt.down {F1 : Hp} (s : JSt g d Gd F H σ ρ) (e : Same g.F0 F1) (e' : Same F1 F) : JSt (g.fl F1) d Gd F H σ ρ := ⟨s.st.down e e', ⟨s.js.dd, s.js.fd, s.js.gd⟩, s.no⟩
structure SelfFld (g : G) (C p : Addr) (f : Str) (y : D) : Prop where
  fa : g.fa 2000 = some p
  cl : Cls g.K C
  no : NoAttr g.K C f
  ob : ∃ dx fs v, g.F0 p = some (.ins C dx fs) ∧ fs.lookup f = some v ∧ Rp g.K g.fa g.F0 v y
theorem SelfFld.fg {C p : Addr} {f : Str} {y : D} (h : SelfFld g C p f y) {F0 : Hp} (G0 : Hp) (e : Same g.F0 F0) : SelfFld (g.fg F0 G0) C p f y := by
  obtain ⟨dx, fs, v, h1, h2, h3⟩ := h.ob
  exact ⟨h.fa, h.cl, h.no, dx, fs, v, e _ _ h1, h2, Rp.mono e h3⟩
end
end Fn
namespace Fn
open PySem PySem.Spec PyProof.Rows L2
def PostM (K : PySem.W.Frag) (fa : Nat → Option Addr) (d : Addr) (Gd : Hp → List (List Key × V) → Prop) (F H : Hp) (r : Res B) (Q : VK) : Prop := match r with
  | .ok (.dat x) => ∀ v F' H', JGrow d F H F' H' → (∃ kvs, H' d = some (.dT kvs) ∧ Gd F' kvs) → F' d = none → Rp K fa F' v x → Q v H'
  | _ => False
def spM (K : PySem.W.Frag) (fa : Nat → Option Addr) (p d : Addr) (Gd : Hp → List (List Key × V) → Prop) (Of : Hp → Prop) (n : Nat) (Fk : List B → Res B) : Sp := fun vs H Q E =>
  vs.length = n + 1 ∧ ∃ F us ds, vs = .ref p :: us ∧ Same F H ∧ (∃ kvs, H d = some (.dT kvs) ∧ Gd F kvs) ∧ F d = none ∧ Of F ∧ RpAll K fa F us ds ∧ PostM K fa d Gd F H (Fk (ds.map .dat)) Q
section
variable {X : Cx} {g : G} {d : Addr} {Gd : Hp → List (List Key × V) → Prop} {F H F' H' F2 H2 : Hp} {σ : L2.St} {ρ : Env}
structure MthAt (X : Cx) (g : G) (d : Addr) (Gd : Hp → List (List Key × V) → Prop) (c p : Addr) (Of : Hp → Prop) (m : Str) (n : Nat) (Fk : List B → Res B) : Prop where
  ex : ∃ f fd ps lv, Meth X.K c m f ∧ FnOk X.prog X.w X.K X.mg X.base (L2.CX X.prog X.w) lv f fd ps (spM X.K g.fa p d Gd Of n Fk) ∧ Room lv X.A ∧ Binds X.K fd ps []
  cl : Cls X.K c
  sp : g.fa 2000 = some p
  ob : ∃ dx fs, g.F0 p = some (.ins c dx fs) ∧ fs.lookup m = none
  of : Of g.F0
  mo : ∀ F F', Same F F' → Of F → Of F'
end
mutual
theorem Rp.swap {K : PySem.W.Frag} {fa : Nat → Option Addr} {F F' : Hp} (e : ∀ a o, F a = some o → (∀ C dx fs, o ≠ .ins C dx fs) → F' a = some o) : ∀ {v : V} {d : D}, Rp K fa F v d → Rp K fa F' v d
  | _, _, .non => .non
  | _, _, .bl b => .bl b
  | _, _, .int i => .int i
  | _, _, .str x => .str x
  | _, _, .tup h r => .tup (e _ _ h fun _ _ _ z => by cases z) (RpAll.swap e r)
  | _, _, .ctup h r => .ctup h (RpAll.swap e r)
  | _, _, .lst h r => .lst (e _ _ h fun _ _ _ z => by cases z) (RpAll.swap e r)
  | _, _, .dk h q r => .dk (e _ _ h fun _ _ _ z => by cases z) q (RpAll.swap e r)
  | _, _, .dt h q r => .dt (e _ _ h fun _ _ _ z => by cases z) q (RpAll.swap e r)
  | _, _, .fn h => .fn h
  | _, _, .lk h q r => .lk (e _ _ h fun _ _ _ z => by cases z) q (RpAll.swap e r)
  | _, _, .lt h q r => .lt (e _ _ h fun _ _ _ z => by cases z) q (RpAll.swap e r)
theorem RpAll.swap {K : PySem.W.Frag} {fa : Nat → Option Addr} {F F' : Hp} (e : ∀ a o, F a = some o → (∀ C dx fs, o ≠ .ins C dx fs) → F' a = some o) : ∀ {vs : List V} {ds : List D}, RpAll K fa F vs ds → RpAll K fa F' vs ds
  | _, _, .nil => .nil
  | _, _, .cons h r => .cons (Rp.swap e h) (RpAll.swap e r)
end
mutual
def nofn : D → Bool
  | .fn k => decide (k ≠ 2000)
  | .tup xs => nofns xs
  | .ctup xs => nofns xs
  | .lst xs => nofns xs
  | .dk _ => false
  | .dt _ => false
  | .lk _ => false
  | .lt _ => false
  | _ => true
def nofns : List D → Bool
  | [] => true
  | x :: xs => nofn x && nofns xs
end
mutual
theorem Rp.fa {K : PySem.W.Frag} {fa fa' : Nat → Option Addr} {F : Hp} (e : ∀ k, k ≠ 2000 → fa' k = fa k) : ∀ {v : V} {d : D}, nofn d = true → Rp K fa F v d → Rp K fa' F v d
  | _, _, _, .non => .non
  | _, _, _, .bl b => .bl b
  | _, _, _, .int i => .int i
  | _, _, _, .str x => .str x
  | _, _, n, .tup h r => .tup h (RpAll.fa e (by simpa [nofn] using n) r)
  | _, _, n, .ctup h r => .ctup h (RpAll.fa e (by simpa [nofn] using n) r)
  | _, _, n, .lst h r => .lst h (RpAll.fa e (by simpa [nofn] using n) r)
  | _, _, n, .dk _ _ _ => by simp [nofn] at n
  | _, _, n, .dt _ _ _ => by simp [nofn] at n
  | _, _, n, .fn h => .fn (by rw [e _ (by simpa [nofn] using n)]; exact h)
  | _, _, n, .lk _ _ _ => by simp [nofn] at n
  | _, _, n, .lt _ _ _ => by simp [nofn] at n
theorem RpAll.fa {K : PySem.W.Frag} {fa fa' : Nat → Option Addr} {F : Hp} (e : ∀ k, k ≠ 2000 → fa' k = fa k) : ∀ {vs : List V} {ds : List D}, nofns ds = true → RpAll K fa F vs ds → RpAll K fa' F vs ds
  | _, _, _, .nil => .nil
  | _, _, n, .cons h r => by
    simp only [nofns, Bool.and_eq_true] at n
    exact .cons (Rp.fa e n.1 h) (RpAll.fa e n.2 r)
end
end Fn
namespace Fn
open PySem PySem.Spec PyProof.Rows L2
section
variable {ρ ρ' : Env} {fa fb : Env → Res B} {fs : Env → Res (List D)} {f h : Env → Out} {t : Tg} {i n : Nat} {x y : D} {en : En} {op : B → B → Res B} {ds : List D} {b : B} {m : M}
end
section
variable {X : Cx} {g : G} {cls : Nat → Value} {k : Nat} {tab : List En} {N : List Str} {sc : Scope} {bt : Bt} {d : Addr} {Gd : Hp → List (List Key × V) → Prop} {a b : Expr} {fa fb : Env → Res B} {pos : Pos}
theorem CT.fg (C : CT X g cls k tab N sc bt) (F0 G0 : Hp) : CT X (g.fg F0 G0) cls k tab N sc bt := ⟨C.hK, C.calm, C.hN, C.nd, C.hS, C.room, C.tab, C.pz, C.bi, C.hd, C.nh, C.ph, C.eh, C.ex, C.hs⟩
theorem CS.fg (C : CS X g cls k tab N sc bt) (F0 G0 : Hp) : CS X (g.fg F0 G0) cls k tab N sc bt := ⟨C.ct.fg F0 G0, C.po, C.fn, C.tk, C.stk, C.frm⟩
theorem MthAt.fg {c p : Addr} {Of : Hp → Prop} {m : Str} {n : Nat} {Fk : List B → Res B} (A : MthAt X g d Gd c p Of m n Fk) {F0 : Hp} (G0 : Hp) (e : Same g.F0 F0) : MthAt X (g.fg F0 G0) d Gd c p Of m n Fk := by
  obtain ⟨dx, fs, h1, h2⟩ := A.ob
  exact ⟨A.ex, A.cl, A.sp, ⟨dx, fs, e _ _ h1, h2⟩, A.mo _ _ e A.of, A.mo⟩
end
theorem TabW.up {P : Program} {w : World} {K : PySem.W.Frag} {mg : Str → Option Value} {base : Heap} {fa : Nat → Option Addr} {cls : Nat → Value} {lv lv' : Nat} {tab : List En} (T : TabW P w K mg base fa cls lv tab) (h : lv ≤ lv') : TabW P w K mg base fa cls lv' tab :=
  ⟨fun k en e => let ⟨f, fd, ps, a1, a2, a3, a4, a5⟩ := T.at_ k en e; ⟨f, fd, ps, a1, a2, a3, a4, a5.mono h⟩⟩
end Fn
namespace Fn
open PySem PySem.Spec PyProof.Rows L2
section
variable {top : Int} {ps : List Plc} {ts : List Tie}
def lnOf (ps : List Plc) (ts : List Tie) (S : Str → Bool) : Int × Int := (lnB ((ps.map Plc.n).filter S) ps ts, lnL ((ps.map Plc.n).filter S) ps)
def lnAt (L : Int × Int) (q : Rat) : Rat := (L.1 : Rat) + (L.2 : Rat) * q
inductive Stair (ps : List Plc) (ts : List Tie) : Rat → Rat → List (Int × Int) → List Rat → Prop
  | one {l h : Rat} {L : Int × Int} : l < h → (∃ S, lnOf ps ts S = L) → (∀ q, l ≤ q → q ≤ h → ∀ S, lnAt L q ≤ wthS S ps ts q) → Stair ps ts l h [L] []
  | cons {l h p : Rat} {L M : Int × Int} {Ls : List (Int × Int)} {Bs : List Rat} : l < p → p < h → (∃ S, lnOf ps ts S = L) → (∀ q, l ≤ q → q ≤ p → ∀ S, lnAt L q ≤ wthS S ps ts q) → M.2 < L.2 → Stair ps ts p h (M :: Ls) Bs → Stair ps ts l h (L :: M :: Ls) (p :: Bs)
theorem Stair.lt {l h : Rat} {Ls : List (Int × Int)} {Bs : List Rat} (e : Stair ps ts l h Ls Bs) : l < h := by
  induction e with
  | one a _ _ => exact a
  | cons a _ _ _ _ _ ih => grind
theorem Stair.len {l h : Rat} {Ls : List (Int × Int)} {Bs : List Rat} (e : Stair ps ts l h Ls Bs) : Ls.length = Bs.length + 1 := by
  induction e with
  | one => rfl
  | cons _ _ _ _ _ _ ih => rw [List.length_cons, ih, List.length_cons]
theorem Stair.hd {l h : Rat} {L : Int × Int} {Ls : List (Int × Int)} {Bs : List Rat} (e : Stair ps ts l h (L :: Ls) Bs) : ∃ p, l < p ∧ p ≤ h ∧ (∃ S, lnOf ps ts S = L) ∧ ∀ q, l ≤ q → q ≤ p → ∀ S, lnAt L q ≤ wthS S ps ts q := by
  cases e with
  | one a b c => exact ⟨h, a, Rat.le_refl, b, c⟩
  | cons a b c d _ f => exact ⟨_, a, Rat.le_of_lt b, c, d⟩
theorem Stair.app {l p h : Rat} {Ls Ms : List (Int × Int)} {Bs Cs : List Rat} {L M : Int × Int} (e : Stair ps ts l p Ls Bs) (hl : Ls.getLast? = some L) (hm : M.2 < L.2) (f : Stair ps ts p h (M :: Ms) Cs) : Stair ps ts l h (Ls ++ (M :: Ms)) (Bs ++ p :: Cs) := by
  induction e with
  | @one l0 m0 L0 a b c =>
    have hl : L0 = L := by simpa using hl
    subst hl
    exact .cons a f.lt b c hm f
  | cons a b c d m e ih => exact .cons a (by have := f.lt; grind) c d m (ih (by simpa using hl) f)
end
end Fn
namespace Fn
open PySem PySem.Spec PyProof.Rows L2
def insV (i : Nat) (fa fb : Env → Res B) : Env → Out := fun ρ => match ownAt ρ i with
  | some (.l ds) => (match fa ρ with
    | .ok (.dat (.int k)) => (match fb ρ with
      | .ok b => (match rd b with
        | .dat d => if ds.length < sizeLine ∧ 0 ≤ k ∧ k < 2 ^ 63 then .nx (ρ.set i (some (.own (.l (ds.take k.toNat ++ [d] ++ ds.drop k.toNat))))) else .bad
        | _ => .bad)
      | .exc c => .exc c ρ
      | .bad => .bad)
    | .exc c => .exc c ρ
    | _ => .bad)
  | _ => .bad
section
variable {X : Cx} {g : G} {fa fb : Env → Res B}
theorem fs_insert {i : Nat} {x : Str} {e e' : Expr} {p1 p2 p3 p4 : Pos} (hi : X.N[i]? = some x) (hv : Vis X.env.scope x) (hd : (x == ("__debug__" : Str)) = false) (hcd : (x == ("__classdict__" : Str)) = false) (hn : nst e = true) (hn' : nst e' = true) (hl : (p2.endLine == p3.line) = true) (he : PE X e (tF g fa)) (he' : PE X e' (tF g fb)) :
    PS X (.Expr (.Call (.Attribute (.Name x p1) "insert" p2) [e, e'] [] p3) p4) (tFS g (insV i fa fb)) := by
  refine PS.imp (ps_expr (pe_bm PySem.F.plainAttrs_list PySem.F.slot_list_insert PySem.F.type_list_insert mt_insert (pe_var hi hv hd hcd) (pa_cons he (pa_cons he' pa_nil (star_cons hn')) (star_cons hn)) (by rfl) (by cases e <;> first | exact absurd (show false = true from hn) (by decide) | (cases e' <;> first | rfl | exact absurd (show false = true from hn') (by decide))) hl (star_cons hn) (by cases e' <;> first | rfl | exact absurd (show false = true from hn') (by decide)))) fun E σ H h => ?_
  show tVar i σ H fun v H1 => tyV X.K "list" v H1 ∧ tF g fa σ H1 fun w H2 => tF g fb σ H2 fun u H3 => (∃ (l : Addr) (xs : List V) (k : Int) (y : V), v = .ref l ∧ [w, u] = [.int k, y] ∧ H3 l = some (.lst xs) ∧ xs.length < sizeLine ∧ 0 ≤ k ∧ k < 2 ^ 63 ∧ E.nx σ (upd H3 l (.lst (xs.take k.toNat ++ [y] ++ xs.drop k.toNat))))
  obtain ⟨F, ρ, s, p⟩ := h
  unfold insV at p
  split at p
  · rename_i ds ho
    obtain ⟨q, o, a1, a2, a3, a4, a5⟩ := s.own_none (ownAt_ok ho)
    cases a5 with
    | l rl =>
      refine ⟨_, a1, Or.inl ⟨rfl, _, SqL.of a2⟩, ?_⟩
      refine run1 s (fun b v F1 H1 e2 g1 r1 => ?_) (fun c e => ?_) (fun e => ?_)
      · rw [e2] at p
        split at p
        · rename_i k hk
          cases hk
          have r1 : Rp g.K g.fa F1 v (.int k) := r1
          cases r1
          have s1 := s.grow g1
          refine run1 s1 (fun b2 u F2 H2 e3 g2 r2 => ?_) (fun c e => ?_) (fun e => ?_)
          · rw [e3] at p
            dsimp only at p
            split at p
            · rename_i d hd
              rw [hd] at r2
              split at p
              · rename_i hz
                refine ⟨q, _, k, u, rfl, rfl, g2.hh _ _ (g1.hh _ _ a2), by rw [rl.len]; exact hz.1, hz.2.1, hz.2.2, ?_⟩
                have ra := (rl.mono g1.fh).mono g2.fh
                exact p σ F2 _ ((s1.grow g2).change (ownAt_ok ho) a1 (.l (((RpAll.take k.toNat ra).app (.cons r2 .nil)).app (RpAll.drop k.toNat ra))))
              · exact p.elim
            · exact p.elim
          · rw [e] at p
            exact fun F' H' g2 => p σ F' H' (s1.grow g2)
          · rw [e] at p
            exact p
        · rename_i c hc
          cases hc
        · exact p.elim
      · rw [e] at p
        exact fun F' H' g1 => p σ F' H' (s.grow g1)
      · rw [e] at p
        exact p
  · exact p.elim
end
section
variable {X : Cx} {g : G} {cls : Nat → Value} {k : Nat} {tab : List En} {N : List Str} {sc : Scope} {bt : Bt} {fa fb : Env → Res B} {x : Str}
theorem CS.ins (C : CS X g cls k tab N sc bt) (i : Nat) {e e' : Expr} {p1 p2 p3 p4 : Pos} (he : PE X e (tF g fa)) (he' : PE X e' (tF g fb)) (h : vOk N sc i x = true) (hn : (nst e && (nst e' && (p2.endLine == p3.line))) = true) : PS X (.Expr (.Call (.Attribute (.Name x p1) "insert" p2) [e, e'] [] p3) p4) (tFS g (insV i fa fb)) := by
  obtain ⟨h1, h2, h3, h4⟩ := C.ct.vo h
  rw [Bool.and_eq_true, Bool.and_eq_true] at hn
  exact fs_insert h1 h2 h3 h4 hn.1 hn.2.1 hn.2.2 he he'
end
end Fn
namespace Fn
open PySem PySem.Spec PyProof.Rows L2
section
variable {X : Cx} {g : G} {lk : Bool} {a b c : Expr} {fa fb fc : Env → Res B}
end
end Fn
namespace PySem
open PySem PySem.W PySem.Calls PyProof.Rows
section
variable {prog : Program} {w : World} {A : Around} {E : Value → Shared → Prop} {s : Shared} {z TI TO i1 i2 T : Addr} {fp1 fp2 : List Addr} {n1 n2 i : Nat} {P1 P2 : Nat → Value → Prop} {St1 St2 : Nat → Heap → Prop} {f : Bool} {oT : Obj}
end
section
variable {prog : Program} {w : World}
end
end PySem
namespace Fn
open PySem PySem.Spec PyProof.Rows L2
section
variable {X : Cx} {g : G} {cls : Nat → Value} {k : Nat} {tab : List En} {N : List Str} {sc : Scope} {bt : Bt}
end
end Fn
namespace Fn
open PySem PySem.Spec PyProof.Rows L2
section
variable {X : Cx} {g : G} {cls : Nat → Value} {k : Nat} {tab : List En} {N : List Str} {sc : Scope} {bt : Bt} {a b c : Expr} {pos : Pos}
def par3 (i j l : Nat) (fs : Env → Res (List B)) : Env → Out := fun ρ => match fs ρ with
  | .ok [.dat x, .dat y, .dat z] => .nx (((ρ.set i (some (.dat x))).set j (some (.dat y))).set l (some (.dat z)))
  | .exc c => .exc c ρ
  | _ => .bad
theorem fs_par3 {i j l : Nat} {x y z : Str} {px py pz pt : Pos} {kt k2 pt2} {fs : Env → Res (List B)} (hc : X.calm = true) (hN : X.N.Nodup) (hi : X.N[i]? = some x) (hj : X.N[j]? = some y) (hl : X.N[l]? = some z) (hij : i ≠ j) (hil : i ≠ l) (hjl : j ≠ l)
    (hx : X.env.scope.names.lookup x = some .local) (hy : X.env.scope.names.lookup y = some .local) (hz : X.env.scope.names.lookup z = some .local) (ha : PA X [a, b, c] (tFA g fs))
    (hw : swappedStores [.Tuple [.Name x px, .Name y py, .Name z pz] kt pt] (.Tuple [a, b, c] k2 pt2) X.env = pure (some [x, y, z])) (hs : swapsWithSole [.Tuple [.Name x px, .Name y py, .Name z pz] kt pt] (.Tuple [a, b, c] k2 pt2) pos.line X.env = pure false) :
    PS X (.Assign [.Tuple [.Name x px, .Name y py, .Name z pz] kt pt] (.Tuple [a, b, c] k2 pt2) pos) (tFS g (par3 i j l fs)) := by
  refine PS.imp (ps_par3 hc hN hi hj hl hij hil hjl hx hy hz ha hw hs) fun E σ H ⟨F, ρ, s, p⟩ => ?_
  unfold par3 at p
  refine ⟨F, ρ, s, ?_⟩
  cases e : fs ρ with
  | bad => rw [e] at p; exact p
  | exc c => rw [e] at p; exact fun F' H' g1 => p σ F' H' (s.grow g1)
  | ok bs =>
    rw [e] at p
    split at p
    · rename_i d1 d2 d3 hh
      cases hh
      intro vs F1 H1 g1 r
      cases r with
      | cons r1 t =>
        cases t with
        | cons r2 t =>
          cases t with
          | cons r3 t =>
            cases t
            have s1 := s.grow g1
            have q1 := s1.put (b := .dat d1) (Grow.refl s1.sub) r1 i (fun m z => nomatch z)
            have q2 := q1.put (b := .dat d2) (Grow.refl s1.sub) r2 j (fun m z => nomatch z)
            have q3 := q2.put (b := .dat d3) (Grow.refl s1.sub) r3 l (fun m z => nomatch z)
            exact ⟨_, _, _, rfl, p _ F1 H1 q3⟩
    · rename_i hh; cases hh
    · exact p.elim
def parC3 (sc : Scope) (x y z : Str) (l1 l2 l3 : Nat) (a b c : Expr) : Bool :=
  ((if sc.kind.isAnnotationScope then ScopeKind.function else sc.kind) == .function) && (nst a && nst b && nst c) && (sc.names.lookup x == some .local && sc.names.lookup y == some .local && sc.names.lookup z == some .local) && (l2 == l1 && l3 == l1) && ([x, y, z].eraseDups.length == 3) && !([a, b, c].all (foldedForSure 8)) && !([a, b, c].all (constantsAlone 8))
theorem sw_par3 {x y z : Str} {px py pz pt pt2 : Pos} {kt k2 : Nat} {env : PySem.Env} {sc : Scope} (h : env.scope = sc) (hc : parC3 sc x y z px.line py.line pz.line a b c = true) : swappedStores [.Tuple [.Name x px, .Name y py, .Name z pz] kt pt] (.Tuple [a, b, c] k2 pt2) env = pure (some [x, y, z]) := by
  subst h
  unfold parC3 at hc
  simp only [Bool.and_eq_true, Bool.not_eq_true'] at hc
  obtain ⟨⟨⟨⟨⟨⟨c1, ⟨c2, c3⟩, c3'⟩, ⟨c4, c5⟩, c5'⟩, c6, c6'⟩, c7⟩, c8⟩, c9⟩ := hc
  have nsa : ∀ {e : Expr}, nst e = true → (match e with | .Starred .. => true | _ => false) = false := fun {e} h => by cases e <;> first | rfl | cases h
  have e1 : (env.blockKind != .function) = false := by
    show (!(env.blockKind == .function)) = false
    rw [show (env.blockKind == .function) = true from c1]
    rfl
  unfold swappedStores
  have q1 : (env.kindOf x == some .local) = true := c4
  have q2 : (env.kindOf y == some .local) = true := c5
  have q3 : (env.kindOf z == some .local) = true := c5'
  have q4 : (px.line == px.line) = true := by simp
  simp only [e1, List.length_cons, List.length_nil, List.any_cons, List.any_nil, nsa c2, nsa c3, nsa c3', List.filterMap_cons, List.filterMap_nil, List.head?_cons, Option.map_some, Option.getD_some, Expr.pos, q1, q2, q3, q4, c6, c6', c8, c9]
  simp at c7 ⊢
  refine (if_neg ?_).trans (if_pos c7)
  intro h
  rcases h with h | h | h
  · cases a <;> first | (cases h; done) | (cases c2; done)
  · cases b <;> first | (cases h; done) | (cases c3; done)
  · cases c <;> first | (cases h; done) | (cases c3'; done)
theorem CS.par3 (C : CS X g cls k tab N sc bt) (i j l : Nat) {x y z : Str} {px py pz pt pt2 : Pos} {kt k2 : Nat} {fs : Env → Res (List B)} (ha : PA X [a, b, c] (tFA g fs)) (h1 : lOk N sc i x = true) (h2 : lOk N sc j y = true) (h3 : lOk N sc l z = true) (hij : i ≠ j ∧ i ≠ l ∧ j ≠ l) (hc : parC3 sc x y z px.line py.line pz.line a b c = true) (hh : bt.hot = false := by rfl) :
    PS X (.Assign [.Tuple [.Name x px, .Name y py, .Name z pz] kt pt] (.Tuple [a, b, c] k2 pt2) pos) (tFS g (Fn.par3 i j l fs)) :=
  fs_par3 (C.ct.calm hh) C.ct.nd' (C.ct.lo h1).1 (C.ct.lo h2).1 (C.ct.lo h3).1 hij.1 hij.2.1 hij.2.2 (C.ct.lo h1).2 (C.ct.lo h2).2 (C.ct.lo h3).2 ha (sw_par3 C.ct.hS hc) rfl
def disF : List ((Env → Res B) × (Env → Res B)) → Env → Res (List (Key × D))
  | [], _ => .ok []
  | p :: r, ρ => (p.1 ρ).bind fun a => (p.2 ρ).bind fun b => match keyD (datOf (rd a)), rd b with
    | some k, .dat d => (disF r ρ).bind fun m => .ok ((k, d) :: m)
    | _, _ => .bad
def mergeD (kvs more : List (Key × D)) : List (Key × D) := more.foldl (fun acc kv => putD acc kv.1 kv.2) kvs
def dispN (fps : List ((Env → Res B) × (Env → Res B))) : Env → Res B := fun ρ => (disF fps ρ).bind fun m => if m.length ≤ 15 then .ok (.own (.k (mergeD [] m))) else .bad
end
section
variable {i j l : Nat} {fs : Env → Res (List B)} {ρ : Env} {x y z : D} {fps : List ((Env → Res B) × (Env → Res B))} {p : (Env → Res B) × (Env → Res B)}
def par3K (i j l : Nat) (r : Res (List B)) (ρ : Env) : Out := match r with
  | .ok [.dat x, .dat y, .dat z] => .nx (((ρ.set i (some (.dat x))).set j (some (.dat y))).set l (some (.dat z)))
  | .exc c => .exc c ρ
  | _ => .bad
theorem e_par3 : par3 i j l fs ρ = par3K i j l (fs ρ) ρ := (rfl)
theorem par3_ok : par3K i j l (.ok [.dat x, .dat y, .dat z]) ρ = .nx (((ρ.set i (some (.dat x))).set j (some (.dat y))).set l (some (.dat z))) := (rfl)
def disK (r r' : Res B) (r2 : Res (List (Key × D))) : Res (List (Key × D)) := match r, r' with
  | .ok a, .ok b => (match keyD (datOf (rd a)), rd b with
    | some k, .dat d => r2.bind fun m => .ok ((k, d) :: m)
    | _, _ => .bad)
  | .exc c, _ => .exc c
  | .ok _, .exc c => .exc c
  | _, _ => .bad
theorem e_dis_c : disF (p :: fps) ρ = disK (p.1 ρ) (p.2 ρ) (disF fps ρ) := by
  rw [disF]
  cases p.1 ρ with
  | ok a =>
    cases p.2 ρ with
    | ok b => rfl
    | exc c => rfl
    | bad => rfl
  | exc c => rfl
  | bad => rfl
theorem e_dis_n : disF [] ρ = .ok [] := (rfl)
theorem dis_str {s : Str} {d : D} {m : List (Key × D)} : disK (.ok (.dat (.str s))) (.ok (.dat d)) (.ok m) = .ok ((.inr s, d) :: m) := (rfl)
theorem e_disN : dispN fps ρ = (disF fps ρ).bind fun m => if m.length ≤ 15 then .ok (.own (.k (mergeD [] m))) else .bad := (rfl)
end
end Fn
namespace Fn
open PySem PySem.Spec PyProof.Rows L2
theorem paired_perm {α β : Type} {R : α → β → Prop} : ∀ {l l' : List α}, l'.Perm l → ∀ {qs : List β}, Paired R l qs → ∃ qs' : List β, qs'.Perm qs ∧ Paired R l' qs' := by
  intro l l' p
  induction p with
  | nil => exact fun {qs} h => ⟨qs, .refl _, h⟩
  | cons x p ih =>
    intro qs h
    cases h with
    | cons r t => obtain ⟨q, a, b⟩ := ih t; exact ⟨_ :: q, a.cons _, .cons r b⟩
  | swap x y l =>
    intro qs h
    cases h with
    | cons r t =>
      cases t with
      | cons r' t' => exact ⟨_, .swap .., .cons r' (.cons r t')⟩
  | trans _ _ ih1 ih2 =>
    intro qs h
    obtain ⟨q2, a2, b2⟩ := ih2 h
    obtain ⟨q1, a1, b1⟩ := ih1 b2
    exact ⟨q1, a1.trans a2, b1⟩
theorem paired_snoc {α β : Type} {R : α → β → Prop} {x : α} {k : β} (r : R x k) : ∀ {l : List α} {qs : List β}, Paired R l qs → Paired R (l ++ [x]) (qs ++ [k])
  | _, _, .nil => .cons r .nil
  | _, _, .cons r' t => .cons r' (paired_snoc r t)
theorem paired_l {α β : Type} {R : α → β → Prop} : ∀ {l : List α} {qs : List β}, Paired R l qs → ∀ x ∈ l, ∃ k ∈ qs, R x k
  | _, _, .nil, x, hx => by cases hx
  | _, _, .cons r t, x, hx => by
    rcases List.mem_cons.mp hx with e | hx
    · subst e; exact ⟨_, List.mem_cons_self, r⟩
    · obtain ⟨k, a, b⟩ := paired_l t x hx
      exact ⟨k, List.mem_cons_of_mem _ a, b⟩
theorem paired_r {α β : Type} {R : α → β → Prop} : ∀ {l : List α} {qs : List β}, Paired R l qs → ∀ k ∈ qs, ∃ x ∈ l, R x k
  | _, _, .nil, x, hx => by cases hx
  | _, _, .cons r t, x, hx => by
    rcases List.mem_cons.mp hx with e | hx
    · subst e; exact ⟨_, List.mem_cons_self, r⟩
    · obtain ⟨k, a, b⟩ := paired_r t x hx
      exact ⟨k, List.mem_cons_of_mem _ a, b⟩
def addK {κ : Type} [DecidableEq κ] (ks : List κ) (k : κ) : List κ := if k ∈ ks then ks else ks ++ [k]
def ddK {κ : Type} [DecidableEq κ] (xs : List κ) : List κ := xs.foldl addK []
section
variable {κ : Type} [DecidableEq κ]
theorem addK_nd {ks : List κ} (h : ks.Nodup) (k : κ) : (addK ks k).Nodup := by
  unfold addK
  split
  · exact h
  · rename_i z
    exact List.nodup_append.mpr ⟨h, by simp, fun a ha b hb e => z (by rw [List.mem_singleton.mp hb] at e; rw [← e]; exact ha)⟩
theorem addK_len (ks : List κ) (k : κ) : (addK ks k).length ≤ ks.length + 1 := by
  unfold addK
  split
  · omega
  · rw [List.length_append, List.length_singleton]; omega
theorem mem_addK {ks : List κ} {k j : κ} : j ∈ addK ks k ↔ j ∈ ks ∨ j = k := by
  unfold addK
  split
  · exact ⟨.inl, fun h => h.elim id fun e => by subst e; assumption⟩
  · rw [List.mem_append, List.mem_singleton]
theorem dd_go : ∀ (xs acc : List κ), acc.Nodup → (xs.foldl addK acc).Nodup ∧ (xs.foldl addK acc).length ≤ acc.length + xs.length ∧ ∀ j, j ∈ xs.foldl addK acc ↔ j ∈ acc ∨ j ∈ xs
  | [], acc, h => ⟨h, by simp, fun j => by simp⟩
  | x :: xs, acc, h => by
    obtain ⟨a, b, c⟩ := dd_go xs (addK acc x) (addK_nd h x)
    have l := addK_len acc x
    refine ⟨a, by rw [List.foldl_cons, List.length_cons]; omega, fun j => ?_⟩
    rw [List.foldl_cons, c, mem_addK, List.mem_cons]
    exact ⟨fun z => by rcases z with (z | z) | z <;> simp [z], fun z => by rcases z with z | z | z <;> simp [z]⟩
theorem dd_nd (xs : List κ) : (ddK xs).Nodup := (dd_go xs [] .nil).1
theorem dd_len (xs : List κ) : (ddK xs).length ≤ xs.length := by have := (dd_go xs [] .nil).2.1; rw [List.length_nil] at this; unfold ddK; omega
theorem mem_dd {xs : List κ} {j : κ} : j ∈ ddK xs ↔ j ∈ xs := by
  have := (dd_go xs [] .nil).2.2 j
  unfold ddK
  rw [this]
  simp
theorem dd_take {xs : List κ} {i : Nat} {k : κ} (h : xs[i]? = some k) : ddK (xs.take (i + 1)) = addK (ddK (xs.take i)) k := by
  unfold ddK
  rw [List.take_add_one, h, List.foldl_append]
  rfl
end
theorem perm_same {κ : Type} {as bs : List κ} (na : as.Nodup) (nb : bs.Nodup) (h : ∀ k, k ∈ as ↔ k ∈ bs) : as.Perm bs := (List.perm_ext_iff_of_nodup na nb).mpr h
inductive RowsT (K : PySem.W.Frag) (H : Hp) : List Addr → List Addr → List (List Key × V) → Prop
  | nil : RowsT K H [] [] []
  | cons {p b : Addr} {kv : List Key × V} {ps bs : List Addr} {kvs : List (List Key × V)} : SqT K H p [V.ref b, kv.2] → H b = some (.tup (kv.1.map kV)) → RowsT K H ps bs kvs → RowsT K H (p :: ps) (b :: bs) (kv :: kvs)
section
variable {X : Cx} {pins : List (Addr × Obj)} {σ : L2.St} {H : Hp} {s : Shared}
end
section
variable {X : Cx} {g : G} {cls : Nat → Value} {k : Nat} {tab : List En} {N : List Str} {sc : Scope} {bt : Bt}
end
end Fn
namespace Fn
open PySem PySem.Spec PyProof.Rows L2
section
variable {X : Cx} {g : G} {a b : Expr} {pos : Pos} {fa fb : Env → Res B}
end
section
variable {X : Cx} {g : G} {cls : Nat → Value} {k : Nat} {tab : List En} {N : List Str} {sc : Scope} {bt : Bt} {a b : Expr} {pos : Pos} {fa fb : Env → Res B}
end
def repLB (a b : B) : Res B := match seqL a with
  | some xs => (match b with
    | .dat (.int j) => if -1000 ≤ j ∧ j ≤ 1000 ∧ xs.length ≤ 1000 then .ok (.own (.l (List.replicate j.toNat xs).flatten)) else .bad
    | _ => .bad)
  | none => .bad
theorem RpAll.rep {K : PySem.W.Frag} {fa : Nat → Option Addr} {F : Hp} {vs : List V} {ds : List D} (r : RpAll K fa F vs ds) : ∀ n : Nat, RpAll K fa F (List.replicate n vs).flatten (List.replicate n ds).flatten
  | 0 => .nil
  | n + 1 => by
    rw [List.replicate_succ, List.flatten_cons, List.replicate_succ, List.flatten_cons]
    exact r.app (RpAll.rep r n)
theorem g_repL {g : G} : OpG g rRep repLB := by
  intro σ F H x y a b Q s ra rb p
  unfold repLB at p
  split at p
  · rename_i xs ha
    split at p
    · split at p
      · rename_i j hz
        obtain ⟨p1, xs', rfl, h1, r1⟩ := seqL_ok s ra ha
        cases rb
        have line : sizeLine = 16777216 := sizeLine_eq
        refine ⟨p1, _, xs', rfl, rfl, h1, by omega, by omega, ?_, p.newL s (r1.rep _)⟩
        rw [r1.len, line]
        have : xs.length * j.toNat ≤ 1000 * 1000 := Nat.mul_le_mul hz.2.2 (by omega)
        omega
      · exact p.elim
    · exact p.elim
  · exact p.elim
section
variable {X : Cx} {g : G} {cls : Nat → Value} {k : Nat} {tab : List En} {N : List Str} {sc : Scope} {bt : Bt} {a b : Expr} {pos : Pos} {fa fb : Env → Res B}
theorem CT.rep (_ : CT X g cls k tab N sc bt) (ha : PE X a (tF g fa)) (hb : PE X b (tF g fb)) : PE X (.BinOp a .Mult b pos) (tF g (bin2 repLB fa fb)) := fe_bin op_rep g_repL ha hb
end
theorem rep_l {ds : List D} {j : Int} (h1 : -1000 ≤ j) (h2 : j ≤ 1000) (h3 : ds.length ≤ 1000) : repLB (.dat (.lst ds)) (.dat (.int j)) = .ok (.own (.l (List.replicate j.toNat ds).flatten)) := if_pos ⟨h1, h2, h3⟩
end Fn
namespace Fn
open PySem PySem.Spec PyProof.Rows L2
theorem evT : ((((((((type_of% @e_par3 ∧ type_of% @par3_ok) ∧ (type_of% @e_dis_n ∧ type_of% @e_dis_c)) ∧ ((type_of% @dis_str ∧ type_of% @e_disN) ∧ (type_of% @e_zp ∧ (type_of% @zpK_ok ∧ type_of% @zpK_exc)))) ∧ (((type_of% @zip_2 ∧ type_of% @zip_3) ∧ (type_of% @zip2K_ok ∧ (type_of% @zip3K_ok ∧ type_of% @sqD_tup))) ∧ ((type_of% @sqD_ctup ∧ type_of% @sqD_lst) ∧ (type_of% @sqD_vw ∧ (type_of% @sqD_bor ∧ type_of% @sqD_scr))))) ∧ ((((type_of% @e_en ∧ type_of% @enK_ok) ∧ (type_of% @enK_exc ∧ (type_of% @en_1 ∧ type_of% @enO_ok))) ∧ ((type_of% @e_disp ∧ type_of% @disp_str) ∧ (type_of% @disp_int ∧ (type_of% @e_dget ∧ type_of% @dget_str)))) ∧ (((type_of% @dgO_some ∧ type_of% @dgO_none) ∧ (type_of% @e_closeS ∧ (type_of% @e_close ∧ type_of% @close_nst))) ∧ ((type_of% @close_own ∧ type_of% @e_try) ∧ (type_of% @tryK_nx ∧ (type_of% @tryK_rt ∧ type_of% @tryK_bk)))))) ∧ (((((type_of% @tryK_ct ∧ type_of% @tryK_exc) ∧ (type_of% @tryK_pass ∧ type_of% @hdl_none)) ∧ ((type_of% @hdl_some ∧ type_of% @leaveN_nx) ∧ (type_of% @leaveN_rt ∧ (type_of% @leaveN_ct ∧ type_of% @leaveN_bk)))) ∧ (((type_of% @leaveS_nx ∧ type_of% @leaveS_rt) ∧ (type_of% @leaveS_ct ∧ (type_of% @leaveS_bk ∧ type_of% @noErr_nil))) ∧ ((type_of% @noErr_cons ∧ type_of% @noErrO_none) ∧ (type_of% @noErrO_dat ∧ (type_of% @noErrO_own ∧ type_of% @noErrO_bor))))) ∧ ((((type_of% @noErrO_scr ∧ type_of% @noErrB_dat) ∧ (type_of% @noErrB_own ∧ (type_of% @errI_t ∧ type_of% @errI_f))) ∧ ((type_of% @errV_t ∧ type_of% @errT_t) ∧ (type_of% @errT_f ∧ (type_of% @e_rz ∧ type_of% @retB_err)))) ∧ (((type_of% @look_err ∧ type_of% @rd_err) ∧ (type_of% @arg_err ∧ (type_of% @set_err ∧ type_of% @e_count))) ∧ ((type_of% @drop_any ∧ type_of% @e_seq) ∧ (type_of% @sq_nx ∧ (type_of% @sq_rt ∧ type_of% @sq_bk))))))) ∧ ((((((type_of% @sq_ct ∧ type_of% @sq_exc) ∧ (type_of% @e_then ∧ type_of% @then_ok)) ∧ ((type_of% @then_exc ∧ type_of% @set_dat) ∧ (type_of% @set_own ∧ (type_of% @set_bor ∧ type_of% @set_scr)))) ∧ (((type_of% @setL_dat ∧ type_of% @setL_own) ∧ (type_of% @setL_bor ∧ (type_of% @ret_dat ∧ type_of% @ret_own))) ∧ ((type_of% @rd_dat ∧ type_of% @rd_own) ∧ (type_of% @rd_vw ∧ (type_of% @rd_bor ∧ type_of% @rd_scr))))) ∧ ((((type_of% @frz_l ∧ type_of% @frz_k) ∧ (type_of% @frz_t ∧ (type_of% @e_var ∧ type_of% @look_dat))) ∧ ((type_of% @look_own ∧ type_of% @look_bor) ∧ (type_of% @look_scr ∧ (type_of% @e_retN ∧ type_of% @lookN_dat)))) ∧ (((type_of% @lookN_own ∧ type_of% @e_bin2) ∧ (type_of% @bin2_ok ∧ (type_of% @bin2_exc ∧ type_of% @bin2_exc2))) ∧ ((type_of% @e_one1 ∧ type_of% @one1_ok) ∧ (type_of% @one1_exc ∧ (type_of% @e_cons ∧ type_of% @cons_okK)))))) ∧ (((((type_of% @cons_exc ∧ type_of% @cons_exc2) ∧ (type_of% @e_nil ∧ type_of% @e_call)) ∧ ((type_of% @bnd_ok ∧ type_of% @bnd_exc) ∧ (type_of% @e_own ∧ (type_of% @arg_dat ∧ type_of% @arg_vw)))) ∧ (((type_of% @arg_bor ∧ type_of% @arg_scr) ∧ (type_of% @retB_dat ∧ (type_of% @retB_own ∧ type_of% @e_tst))) ∧ ((type_of% @tst_bl ∧ type_of% @e_testV) ∧ (type_of% @test_ok ∧ (type_of% @test_exc ∧ type_of% @tru_bl))))) ∧ ((((type_of% @tru_int ∧ type_of% @tru_non) ∧ (type_of% @tru_tup ∧ (type_of% @tru_lst ∧ type_of% @tru_vw))) ∧ ((type_of% @e_notT ∧ type_of% @notK_ok) ∧ (type_of% @notK_exc ∧ (type_of% @e_and ∧ type_of% @e_or)))) ∧ (((type_of% @and_t ∧ type_of% @and_f) ∧ (type_of% @or_t ∧ (type_of% @or_f ∧ type_of% @and_exc))) ∧ ((type_of% @or_exc ∧ type_of% @e_iteV) ∧ (type_of% @iteV_t ∧ (type_of% @iteV_f ∧ type_of% @e_andV)))))))) ∧ (((((((type_of% @e_orV ∧ type_of% @andV_t) ∧ (type_of% @andV_f ∧ type_of% @andV_exc)) ∧ ((type_of% @orV_t ∧ type_of% @orV_f) ∧ (type_of% @orV_exc ∧ (type_of% @e_iteS ∧ type_of% @iteS_t)))) ∧ (((type_of% @iteS_f ∧ type_of% @iteS_exc) ∧ (type_of% @e_it ∧ (type_of% @itK_ok ∧ type_of% @itK_exc))) ∧ ((type_of% @it_tup ∧ type_of% @it_ctup) ∧ (type_of% @it_lst ∧ (type_of% @it_bor ∧ type_of% @it_vw))))) ∧ ((((type_of% @it_scr ∧ type_of% @it_str) ∧ (type_of% @e_index ∧ (type_of% @index_ok ∧ type_of% @e_mut))) ∧ ((type_of% @mut_rev ∧ type_of% @e_ext) ∧ (type_of% @ext_own ∧ (type_of% @ext_dat ∧ type_of% @e_extW)))) ∧ (((type_of% @extW_tup ∧ type_of% @e_rg) ∧ (type_of% @e_shl ∧ (type_of% @e_pow ∧ type_of% @e_noP))) ∧ ((type_of% @e_atP ∧ type_of% @part_int) ∧ (type_of% @e_slc ∧ (type_of% @slc_okK ∧ type_of% @e_comp)))))) ∧ (((((type_of% @compK_ok ∧ type_of% @compK_exc) ∧ (type_of% @wipe_nil ∧ type_of% @wipe_cons)) ∧ ((type_of% @e_for ∧ type_of% @forK_ok) ∧ (type_of% @forK_exc ∧ (type_of% @bindV_dat ∧ type_of% @bindV_own)))) ∧ (((type_of% @bindO_some ∧ type_of% @bt_one) ∧ (type_of% @bt_tup ∧ (type_of% @bt_ctup ∧ type_of% @bt_lst))) ∧ ((type_of% @pm_nil ∧ type_of% @pm_nil2) ∧ (type_of% @pm_cons ∧ (type_of% @e_par2 ∧ type_of% @par2_dd))))) ∧ ((((type_of% @par2_od ∧ type_of% @par2_do) ∧ (type_of% @par2_oo ∧ (type_of% @e_lock ∧ type_of% @lock_own))) ∧ ((type_of% @lock_dat ∧ type_of% @lock_bor) ∧ (type_of% @lock_none ∧ (type_of% @e_lockS ∧ type_of% @outR_nx)))) ∧ (((type_of% @outR_rt ∧ type_of% @outR_exc) ∧ (type_of% @e_litI ∧ (type_of% @e_litS ∧ type_of% @e_litB))) ∧ ((type_of% @e_litN ∧ type_of% @e_litD) ∧ (type_of% @e_newK ∧ (type_of% @e_newT ∧ type_of% @e_nx))))))) ∧ ((((((type_of% @e_bk ∧ type_of% @e_ct) ∧ (type_of% @e_rtN ∧ type_of% @e_yes)) ∧ ((type_of% @e_app ∧ type_of% @own_of) ∧ (type_of% @app_dat ∧ (type_of% @app_own ∧ type_of% @app_exc)))) ∧ (((type_of% @e_put ∧ type_of% @put_dat) ∧ (type_of% @put_own ∧ (type_of% @putO_some ∧ type_of% @e_forget))) ∧ ((type_of% @fg_nx ∧ type_of% @fg_bk) ∧ (type_of% @fg_ct ∧ (type_of% @fg_rt ∧ type_of% @fg_exc))))) ∧ ((((type_of% @e_chn ∧ type_of% @chn_ok) ∧ (type_of% @chnV_t ∧ (type_of% @chnV_f ∧ type_of% @e_lstB))) ∧ ((type_of% @e_tupB ∧ type_of% @dats_nil) ∧ (type_of% @dats_cons ∧ (type_of% @datsO_some ∧ type_of% @lstK_ok)))) ∧ (((type_of% @tupK_ok ∧ type_of% @len_tup) ∧ (type_of% @len_lst ∧ (type_of% @len_vw ∧ type_of% @len_bor))) ∧ ((type_of% @len_scr ∧ type_of% @len_S) ∧ (type_of% @neg_i ∧ (type_of% @not_bl ∧ type_of% @tupF_lst)))))) ∧ (((((type_of% @tupF_tup ∧ type_of% @tupF_vw) ∧ (type_of% @tupF_bor ∧ type_of% @lstF_tup)) ∧ ((type_of% @lstF_lst ∧ type_of% @lstG_dk) ∧ (type_of% @lstG_tup ∧ (type_of% @lstG_lst ∧ type_of% @lstG_vw)))) ∧ (((type_of% @lstG_bor ∧ type_of% @int_i) ∧ (type_of% @int_bl ∧ (type_of% @is_t ∧ type_of% @isn_t))) ∧ ((type_of% @is_n ∧ type_of% @isn_n) ∧ (type_of% @eq_bl ∧ (type_of% @ne_bl ∧ type_of% @isi_bl))))) ∧ ((((type_of% @add_ii ∧ type_of% @sub_ii) ∧ (type_of% @lt_ii ∧ (type_of% @gt_ii ∧ type_of% @le_ii))) ∧ ((type_of% @ge_ii ∧ type_of% @eq_ii) ∧ (type_of% @ne_ii ∧ (type_of% @min_ii ∧ type_of% @max_ii)))) ∧ (((type_of% @max3_ii ∧ type_of% @and_ii) ∧ (type_of% @slc_tup ∧ (type_of% @slc_l ∧ type_of% @slc_vw))) ∧ ((type_of% @slc_bor ∧ type_of% @back_tup) ∧ (type_of% @back_lst ∧ (type_of% @app_l ∧ type_of% @app_m))))))))) := ⟨⟨⟨⟨⟨⟨⟨⟨@e_par3, @par3_ok⟩, ⟨@e_dis_n, @e_dis_c⟩⟩, ⟨⟨@dis_str, @e_disN⟩, ⟨@e_zp, ⟨@zpK_ok, @zpK_exc⟩⟩⟩⟩, ⟨⟨⟨@zip_2, @zip_3⟩, ⟨@zip2K_ok, ⟨@zip3K_ok, @sqD_tup⟩⟩⟩, ⟨⟨@sqD_ctup, @sqD_lst⟩, ⟨@sqD_vw, ⟨@sqD_bor, @sqD_scr⟩⟩⟩⟩⟩, ⟨⟨⟨⟨@e_en, @enK_ok⟩, ⟨@enK_exc, ⟨@en_1, @enO_ok⟩⟩⟩, ⟨⟨@e_disp, @disp_str⟩, ⟨@disp_int, ⟨@e_dget, @dget_str⟩⟩⟩⟩, ⟨⟨⟨@dgO_some, @dgO_none⟩, ⟨@e_closeS, ⟨@e_close, @close_nst⟩⟩⟩, ⟨⟨@close_own, @e_try⟩, ⟨@tryK_nx, ⟨@tryK_rt, @tryK_bk⟩⟩⟩⟩⟩⟩, ⟨⟨⟨⟨⟨@tryK_ct, @tryK_exc⟩, ⟨@tryK_pass, @hdl_none⟩⟩, ⟨⟨@hdl_some, @leaveN_nx⟩, ⟨@leaveN_rt, ⟨@leaveN_ct, @leaveN_bk⟩⟩⟩⟩, ⟨⟨⟨@leaveS_nx, @leaveS_rt⟩, ⟨@leaveS_ct, ⟨@leaveS_bk, @noErr_nil⟩⟩⟩, ⟨⟨@noErr_cons, @noErrO_none⟩, ⟨@noErrO_dat, ⟨@noErrO_own, @noErrO_bor⟩⟩⟩⟩⟩, ⟨⟨⟨⟨@noErrO_scr, @noErrB_dat⟩, ⟨@noErrB_own, ⟨@errI_t, @errI_f⟩⟩⟩, ⟨⟨@errV_t, @errT_t⟩, ⟨@errT_f, ⟨@e_rz, @retB_err⟩⟩⟩⟩, ⟨⟨⟨@look_err, @rd_err⟩, ⟨@arg_err, ⟨@set_err, @e_count⟩⟩⟩, ⟨⟨@drop_any, @e_seq⟩, ⟨@sq_nx, ⟨@sq_rt, @sq_bk⟩⟩⟩⟩⟩⟩⟩, ⟨⟨⟨⟨⟨⟨@sq_ct, @sq_exc⟩, ⟨@e_then, @then_ok⟩⟩, ⟨⟨@then_exc, @set_dat⟩, ⟨@set_own, ⟨@set_bor, @set_scr⟩⟩⟩⟩, ⟨⟨⟨@setL_dat, @setL_own⟩, ⟨@setL_bor, ⟨@ret_dat, @ret_own⟩⟩⟩, ⟨⟨@rd_dat, @rd_own⟩, ⟨@rd_vw, ⟨@rd_bor, @rd_scr⟩⟩⟩⟩⟩, ⟨⟨⟨⟨@frz_l, @frz_k⟩, ⟨@frz_t, ⟨@e_var, @look_dat⟩⟩⟩, ⟨⟨@look_own, @look_bor⟩, ⟨@look_scr, ⟨@e_retN, @lookN_dat⟩⟩⟩⟩, ⟨⟨⟨@lookN_own, @e_bin2⟩, ⟨@bin2_ok, ⟨@bin2_exc, @bin2_exc2⟩⟩⟩, ⟨⟨@e_one1, @one1_ok⟩, ⟨@one1_exc, ⟨@e_cons, @cons_okK⟩⟩⟩⟩⟩⟩, ⟨⟨⟨⟨⟨@cons_exc, @cons_exc2⟩, ⟨@e_nil, @e_call⟩⟩, ⟨⟨@bnd_ok, @bnd_exc⟩, ⟨@e_own, ⟨@arg_dat, @arg_vw⟩⟩⟩⟩, ⟨⟨⟨@arg_bor, @arg_scr⟩, ⟨@retB_dat, ⟨@retB_own, @e_tst⟩⟩⟩, ⟨⟨@tst_bl, @e_testV⟩, ⟨@test_ok, ⟨@test_exc, @tru_bl⟩⟩⟩⟩⟩, ⟨⟨⟨⟨@tru_int, @tru_non⟩, ⟨@tru_tup, ⟨@tru_lst, @tru_vw⟩⟩⟩, ⟨⟨@e_notT, @notK_ok⟩, ⟨@notK_exc, ⟨@e_and, @e_or⟩⟩⟩⟩, ⟨⟨⟨@and_t, @and_f⟩, ⟨@or_t, ⟨@or_f, @and_exc⟩⟩⟩, ⟨⟨@or_exc, @e_iteV⟩, ⟨@iteV_t, ⟨@iteV_f, @e_andV⟩⟩⟩⟩⟩⟩⟩⟩, ⟨⟨⟨⟨⟨⟨⟨@e_orV, @andV_t⟩, ⟨@andV_f, @andV_exc⟩⟩, ⟨⟨@orV_t, @orV_f⟩, ⟨@orV_exc, ⟨@e_iteS, @iteS_t⟩⟩⟩⟩, ⟨⟨⟨@iteS_f, @iteS_exc⟩, ⟨@e_it, ⟨@itK_ok, @itK_exc⟩⟩⟩, ⟨⟨@it_tup, @it_ctup⟩, ⟨@it_lst, ⟨@it_bor, @it_vw⟩⟩⟩⟩⟩, ⟨⟨⟨⟨@it_scr, @it_str⟩, ⟨@e_index, ⟨@index_ok, @e_mut⟩⟩⟩, ⟨⟨@mut_rev, @e_ext⟩, ⟨@ext_own, ⟨@ext_dat, @e_extW⟩⟩⟩⟩, ⟨⟨⟨@extW_tup, @e_rg⟩, ⟨@e_shl, ⟨@e_pow, @e_noP⟩⟩⟩, ⟨⟨@e_atP, @part_int⟩, ⟨@e_slc, ⟨@slc_okK, @e_comp⟩⟩⟩⟩⟩⟩, ⟨⟨⟨⟨⟨@compK_ok, @compK_exc⟩, ⟨@wipe_nil, @wipe_cons⟩⟩, ⟨⟨@e_for, @forK_ok⟩, ⟨@forK_exc, ⟨@bindV_dat, @bindV_own⟩⟩⟩⟩, ⟨⟨⟨@bindO_some, @bt_one⟩, ⟨@bt_tup, ⟨@bt_ctup, @bt_lst⟩⟩⟩, ⟨⟨@pm_nil, @pm_nil2⟩, ⟨@pm_cons, ⟨@e_par2, @par2_dd⟩⟩⟩⟩⟩, ⟨⟨⟨⟨@par2_od, @par2_do⟩, ⟨@par2_oo, ⟨@e_lock, @lock_own⟩⟩⟩, ⟨⟨@lock_dat, @lock_bor⟩, ⟨@lock_none, ⟨@e_lockS, @outR_nx⟩⟩⟩⟩, ⟨⟨⟨@outR_rt, @outR_exc⟩, ⟨@e_litI, ⟨@e_litS, @e_litB⟩⟩⟩, ⟨⟨@e_litN, @e_litD⟩, ⟨@e_newK, ⟨@e_newT, @e_nx⟩⟩⟩⟩⟩⟩⟩, ⟨⟨⟨⟨⟨⟨@e_bk, @e_ct⟩, ⟨@e_rtN, @e_yes⟩⟩, ⟨⟨@e_app, @own_of⟩, ⟨@app_dat, ⟨@app_own, @app_exc⟩⟩⟩⟩, ⟨⟨⟨@e_put, @put_dat⟩, ⟨@put_own, ⟨@putO_some, @e_forget⟩⟩⟩, ⟨⟨@fg_nx, @fg_bk⟩, ⟨@fg_ct, ⟨@fg_rt, @fg_exc⟩⟩⟩⟩⟩, ⟨⟨⟨⟨@e_chn, @chn_ok⟩, ⟨@chnV_t, ⟨@chnV_f, @e_lstB⟩⟩⟩, ⟨⟨@e_tupB, @dats_nil⟩, ⟨@dats_cons, ⟨@datsO_some, @lstK_ok⟩⟩⟩⟩, ⟨⟨⟨@tupK_ok, @len_tup⟩, ⟨@len_lst, ⟨@len_vw, @len_bor⟩⟩⟩, ⟨⟨@len_scr, @len_S⟩, ⟨@neg_i, ⟨@not_bl, @tupF_lst⟩⟩⟩⟩⟩⟩, ⟨⟨⟨⟨⟨@tupF_tup, @tupF_vw⟩, ⟨@tupF_bor, @lstF_tup⟩⟩, ⟨⟨@lstF_lst, @lstG_dk⟩, ⟨@lstG_tup, ⟨@lstG_lst, @lstG_vw⟩⟩⟩⟩, ⟨⟨⟨@lstG_bor, @int_i⟩, ⟨@int_bl, ⟨@is_t, @isn_t⟩⟩⟩, ⟨⟨@is_n, @isn_n⟩, ⟨@eq_bl, ⟨@ne_bl, @isi_bl⟩⟩⟩⟩⟩, ⟨⟨⟨⟨@add_ii, @sub_ii⟩, ⟨@lt_ii, ⟨@gt_ii, @le_ii⟩⟩⟩, ⟨⟨@ge_ii, @eq_ii⟩, ⟨@ne_ii, ⟨@min_ii, @max_ii⟩⟩⟩⟩, ⟨⟨⟨@max3_ii, @and_ii⟩, ⟨@slc_tup, ⟨@slc_l, @slc_vw⟩⟩⟩, ⟨⟨@slc_bor, @back_tup⟩, ⟨@back_lst, ⟨@app_l, @app_m⟩⟩⟩⟩⟩⟩⟩⟩⟩
theorem evS : (((type_of% @mapC_nil ∧ (type_of% @mapC_cons ∧ type_of% @consC_ok)) ∧ ((type_of% @e_step ∧ type_of% @stepK_some) ∧ (type_of% @stepV_t ∧ type_of% @stepV_f))) ∧ (((type_of% @datR_dat ∧ type_of% @datR_own) ∧ (type_of% @loop_nil ∧ type_of% @lk_nx)) ∧ ((type_of% @lk_ct ∧ type_of% @lk_bk) ∧ (type_of% @lk_rt ∧ type_of% @lk_exc)))) := ⟨⟨⟨@mapC_nil, ⟨@mapC_cons, @consC_ok⟩⟩, ⟨⟨@e_step, @stepK_some⟩, ⟨@stepV_t, @stepV_f⟩⟩⟩, ⟨⟨⟨@datR_dat, @datR_own⟩, ⟨@loop_nil, @lk_nx⟩⟩, ⟨⟨@lk_ct, @lk_bk⟩, ⟨@lk_rt, @lk_exc⟩⟩⟩⟩
end Fn
namespace Fn
open PySem PySem.Spec PyProof.Rows L2
section
variable {P : Program} {w : World} {κ : Type} [DecidableEq κ] (kd : KeyKind P w κ)
def Ent (e : Int × Value) (k : κ) : Prop := kd.is k e.2 = true ∧ e.1 = kd.hash k ∧ e.2.scannable = true
def SetG (h : Heap) (a : Addr) (ks : List κ) : Prop :=
  ∃ o es ep t qs, h.get? a = some o ∧ o.ExactSet ∧ o.data = .set es ep t ∧ Paired (Ent kd) es.toList qs ∧ qs.Perm ks ∧ ks.Nodup ∧ es.size < scanBound ∧ t.fits es.size = true ∧ Ris t.place.toList ∧ (w.params.followText "set-order" = true ∨ t.led = true)
variable {kd}
theorem SetG.keep {h h' : Heap} {a : Addr} {ks : List κ} (R : SetG kd h a ks) (e : ∀ o, h.get? a = some o → h'.get? a = some o) : SetG kd h' a ks := by
  obtain ⟨o, es, ep, t, qs, ho, r⟩ := R
  exact ⟨o, es, ep, t, qs, e o ho, r⟩
theorem ent_elems {l : List (Int × Value)} {qs : List κ} (h : Paired (Ent kd) l qs) : ElemsOf kd l := fun e he => by
  obtain ⟨k, _, h1, h2, h3⟩ := paired_l h e he
  exact ⟨⟨k, h1, h2⟩, h3⟩
theorem SetG.new {h : Heap} {a : Addr} (e : h.get? a = some { cls := .type "set", dict := none, data := .set #[] 0 (.fresh 0 0 (!w.params.followText "set-order")) }) : SetG kd h a [] := by
  refine ⟨_, #[], 0, _, [], e, ⟨rfl, rfl, rfl⟩, rfl, .nil, .refl _, .nil, by decide, by rfl, .nil, ?_⟩
  cases z : w.params.followText "set-order" with
  | true => exact .inl rfl
  | false => exact .inr rfl
variable {A : Around} {E : Value → Shared → Prop} {s : Shared}
theorem SetG.tail {g : Bool → Sem Unit} (hg : ∀ (b : Bool) (s1 : Shared) (Z : Unit → Shared → Prop), Z () s1 → wpAny (model P w) A (g b) Z E s1) {a : Addr} {o : Obj} {es : Array (Int × Value)} {ep : Nat} {t : SetTable}
    (ho : s.heap.get? a = some o) (hex : o.ExactSet) (hd : o.data = .set es ep t) {fs : Array (Int × Value)} {tt : SetTable} {qs ks : List κ} (h1 : Paired (Ent kd) fs.toList qs) (pm : qs.Perm ks) (nd : ks.Nodup) (hb : fs.size < scanBound)
    (hf : tt.fits fs.size = true) (hr : Ris tt.place.toList) (hl : w.params.followText "set-order" = true ∨ tt.led = true) {wd : Bool} {R : Option Bool → Shared → Prop} (q : ∀ h', Heap.SameBut a s.heap h' → SetG kd h' a ks → R (some true) { s with heap := h' }) :
    wpAny (model P w) A (do
        storeSet a fs tt
        if (!wd && tt.tooFull) = true then do
            g (relayAll tt fs (SetTable.grown fs.size)).2.2
            storeSet a (relayAll tt fs (SetTable.grown fs.size)).1 (relayAll tt fs (SetTable.grown fs.size)).2.1
            pure (some true)
          else pure (some true)) R E s := by
  refine (wpAny_bind (wpAny_storeSet_of ho hd ?_ (fits_of_scanBound hb)))
  have at1 := store_at (es' := fs) (t' := tt) ho hd
  have sm := Heap.SameBut.update s.heap a (Obj.putSet fs tt)
  split
  · have pr := relayAll_perm tt fs (SetTable.grown fs.size)
    have f3 := relayAll_fits tt fs (SetTable.grown fs.size)
    have r3 := relayAll_ris tt fs (SetTable.grown fs.size)
    have l3 := relayAll_led tt fs (SetTable.grown fs.size)
    generalize relayAll tt fs (SetTable.grown fs.size) = Z at pr f3 r3 l3 ⊢
    obtain ⟨gs, u, gv⟩ := Z
    dsimp only at pr f3 r3 l3 ⊢
    obtain ⟨qs2, p2, e2⟩ := paired_perm pr h1
    have hz : gs.size = fs.size := by
      have := pr.length_eq
      simpa using this
    refine (wpAny_bind (hg _ _ _ ?_))
    refine (wpAny_bind (wpAny_storeSet_of at1 rfl ?_ (fits_of_scanBound (by rw [hz]; exact hb))))
    refine wpAny_pure (q _ (sm.trans (Heap.SameBut.update _ a _)) ⟨_, gs, _, u, qs2, store_at (es' := gs) (t' := u) at1 rfl, hex, rfl, e2, p2.trans pm, nd, by rw [hz]; exact hb, f3, r3, hl.imp id fun z => by rw [l3]; exact z⟩)
  · exact wpAny_pure (q _ sm ⟨_, fs, _, tt, qs, at1, hex, rfl, h1, pm, nd, hb, hf, hr, hl⟩)
theorem SetG.add {a : Addr} {ks : List κ} {k : κ} {x : Value} {Q : Bool → Shared → Prop} (R : SetG kd s.heap a ks) (hk : kd.is k x = true) (hs : x.scannable = true) (room : ks.length + 1 < scanBound)
    (q : ∀ h' b, Heap.SameBut a s.heap h' → SetG kd h' a (addK ks k) → Q b { s with heap := h' }) : wpAny (model P w) A (setAddHashed a x (kd.hash k)) Q E s := by
  obtain ⟨o, es, ep, t, qs, ho, hex, hd, en, pm, nd, hb, hf, hr, hl⟩ := R
  have el : ElemsOf kd es.toList := ent_elems en
  have hsz : es.size = ks.length := by rw [← pm.length_eq, ← Paired.length en, Array.length_toList]
  have gw : ∀ (b : Bool) (s1 : Shared) (Z : Unit → Shared → Prop), Z () s1 → wpAny (model P w) A (match b with | true => rule "set.scan.the-table-gave-way" | false => pure ()) Z E s1 := fun b s1 Z z => by
    cases b
    · exact wpAny_pure z
    · exact wpAny_rule z
  unfold setAddHashed setAddHashedIn
  refine wpAny_holding (wpAny_bind (wpAny_setState_of ho hd hf ?_))
  dsimp only
  rw [byScan_of (knd := kd) hs hb el, if_pos rfl]
  unfold setAddByScan
  refine wpAny_bind (wpAny_bind (wpAny_rule (wpAny_bind (wpAny_setScan_of hk ho hd hf el ?_))))
  cases hi : List.findIdx? (fun e => kd.is k e.2) es.toList with
  | some j =>
    obtain ⟨hj, pj, _⟩ := List.findIdx?_eq_some_iff_getElem.mp hi
    obtain ⟨k', hm, h1, _⟩ := paired_l en _ (List.getElem_mem hj)
    have e := kd.inj _ _ _ pj h1
    subst e
    have hin : k ∈ ks := pm.mem_iff.mp hm
    have z := q s.heap false (Heap.SameBut.refl a s.heap)
    rw [show addK ks k = ks from if_pos hin] at z
    exact wpAny_pure (wpAny_pure (z ⟨o, es, ep, t, qs, ho, hex, hd, en, pm, nd, hb, hf, hr, hl⟩))
  | none =>
    have hno : k ∉ ks := fun z => by
      obtain ⟨e, he, h1, _⟩ := paired_r en k (pm.mem_iff.mpr z)
      have c := List.findIdx?_eq_none_iff.mp hi e he
      rw [h1] at c
      cases c
    have z : ∀ h', Heap.SameBut a s.heap h' → SetG kd h' a (ks ++ [k]) → Q true { s with heap := h' } := fun h' sb r => by
      have z := q h' true sb
      rw [show addK ks k = ks ++ [k] from if_neg hno] at z
      exact z r
    dsimp only
    have p1 := layNew_perm t es (kd.hash k) x
    have f1 := layNew_fits t es (kd.hash k) x
    have r1 := layNew_ris t es (kd.hash k) x hr
    have l1 := layNew_led t es (kd.hash k) x
    generalize layNew t es (kd.hash k) x = Y at p1 f1 r1 l1 ⊢
    obtain ⟨fs, t1, wd, gv⟩ := Y
    dsimp only at p1 f1 r1 l1 ⊢
    rw [Array.toList_push] at p1
    obtain ⟨qs1, p2, e1⟩ := paired_perm p1 (paired_snoc (R := Ent kd) (k := k) ⟨hk, rfl, hs⟩ en)
    have pk : qs1.Perm (ks ++ [k]) := p2.trans (pm.append_right [k])
    have nk : (ks ++ [k]).Nodup := by
      have := addK_nd nd k
      rw [show addK ks k = ks ++ [k] from if_neg hno] at this
      exact this
    have hb1 : fs.size < scanBound := by
      have := p1.length_eq
      rw [Array.length_toList, List.length_append, Array.length_toList, List.length_singleton] at this
      omega
    have hl1 : w.params.followText "set-order" = true ∨ t1.led = true := hl.imp id fun y => by rw [l1]; exact y
    refine wpAny_bind (gw gv s _ ?_)
    split
    · refine wpAny_bind ?_
      rw [hashByValue_scannable 8 hs]
      refine wpAny_pure (SetG.tail (kd := kd) gw ho hex hd e1 pk nk hb1 ?_ ?_ ?_ fun h' sb r => wpAny_pure (z h' sb r))
      · first | exact f1 | (split <;> first | exact f1 | exact SetTable.fits_plain_off f1)
      · first | exact r1 | (split <;> exact r1)
      · first | exact hl1 | (split <;> exact hl1)
    · refine wpAny_bind (wpAny_pure ?_)
      simp only [↓reduceIte]
      exact SetG.tail (kd := kd) gw ho hex hd e1 pk nk hb1 f1 r1 hl1 fun h' sb r => wpAny_pure (z h' sb r)
theorem SetG.loop {R : Result → Shared → Prop} {I : Addr} {fp wr : List Addr} {G : Array GenState → Array GenState → Prop} {n : Nat} {Pv : Nat → Value → Prop} {Z : Nat → Shared → Prop} (W : WalksS P w A.in1 I fp wr G n Pv Z) (S : Addr) (no : S ∉ fp) (xs : List κ)
    (hn : n = xs.length) (hb : xs.length + 1 < scanBound) (hv : ∀ i v, Pv i v → ∃ k, xs[i]? = some k ∧ kd.is k v = true ∧ v.scannable = true) :
    ∀ (m i : Nat) (s : Shared), n - i = m → i ≤ n → Z i s → SetG kd s.heap S (ddK (xs.take i)) → (∀ s', Moved (S :: wr) G s s' → SetG kd s'.heap S (ddK xs) → R (.ok (.ret .none)) s') → codeAny (model P w) A (.builtin "set.update.loop" ⟨[.ref S, .ref I], []⟩) R s := by
  have nw : S ∉ wr := fun h => no (W.sub _ h)
  have sub : ∀ b ∈ wr, b ∈ S :: wr := fun b hb => List.mem_cons_of_mem _ hb
  intro m
  induction m with
  | zero =>
    intro i s hm hi hz hS q
    obtain rfl : i = n := by omega
    refine (codeAny_builtin PyProof.Rows.F.entry_set_update_loop ?_)
    rw [Around.under_plainId PyProof.Rows.F.plain_set_update_loop _]
    refine wpAny_bind (M := model P w) (m := pyNext (.ref I)) (W.done s _ _ hz fun s' mv => ?_)
    rw [List.take_of_length_le (by omega)] at hS
    have fin := q s' (mv.mono sub) (hS.keep fun o e => mv.heap S o nw e)
    show wpAny (model P w) A.in1 (ret Value.none) _ _ s'
    exact wpAny_pure fin
  | succ m ih =>
    intro i s hm hi hz hS q
    have lt : i < n := by omega
    refine (codeAny_builtin PyProof.Rows.F.entry_set_update_loop ?_)
    rw [Around.under_plainId PyProof.Rows.F.plain_set_update_loop _]
    refine wpAny_bind (M := model P w) (m := pyNext (.ref I)) (W.item i s _ _ lt hz fun v s' hP hz' mv => ?_)
    obtain ⟨k, hx, hk, hs⟩ := hv i v hP
    have hS' : SetG kd s'.heap S (ddK (xs.take i)) := hS.keep fun o e => mv.heap S o nw e
    refine wpAny_bind (m := holding [v] (setAdd S v)) (wpAny_holding ?_)
    unfold setAdd
    refine wpAny_holding (wpAny_bind (kd.pyHash hk ?_))
    refine SetG.add (s := { s' with toks := s'.toks + 1 }) hS' hk hs (by have l1 := dd_len (xs.take i); have l2 := List.length_take_le i xs; have l3 := List.length_take_le' i xs; omega) fun h' b sb h2 => ?_
    rw [← dd_take hx] at h2
    refine wpAny_pure ⟨plainId_quiet PyProof.Rows.F.plain_set_update_loop _, ih (i + 1) _ (by omega) lt (W.frame _ s' _ _ hz' (Nat.le_succ _) fun b hb o e => ?_) h2 fun s2 mv2 hS2 => ?_⟩
    · rw [sb.2 b (fun z : b = S => no (z ▸ hb))]
      exact e
    · refine q s2 (Moved.trans W.gtrans ((mv.mono sub).then_heap (Nat.le_succ _) fun b o hb e => ?_) mv2) hS2
      rw [sb.2 b (fun z : b = S => hb (z ▸ List.mem_cons_self))]
      exact e
theorem SetG.call_list {l : Addr} {its : Array Value} (xs : List κ) {Q : Value → Shared → Prop} (hh : A.handled = none) (hl : s.heap.IsList l its) (hz : its.size = xs.length) (hv : ∀ (i : Nat) (v : Value), its[i]? = some v → ∃ k, xs[i]? = some k ∧ kd.is k v = true ∧ v.scannable = true) (hb : xs.length + 1 < scanBound)
    (q : ∀ (h' : Heap) (tk : Nat), SetG kd h' s.heap.objs.size (ddK xs) → (∀ b o, s.heap.get? b = some o → h'.get? b = some o) → Q (.ref s.heap.objs.size) { s with heap := h', toks := tk }) : wpAny (model P w) A (call (.type "set") [.ref l]) Q E s := by
  have ⟨c, tl, hmro⟩ := PySem.F.called_set.mro
  have hmade := PySem.F.called_set.made; have hsub := PySem.F.called_set.sub; have h1 := PySem.F.called_set.notType; have h2 := PySem.F.called_set.canCreate; have hct := PySem.F.typeCall_set_1 (.ref l)
  refine wpAny_call (codeAny_of_tree (show wpAny _ _ (callAny (.type "set") _) _ _ _ from (wpAny_pure ⟨Code.quiet_builtin _ (by decide +kernel), codeAny_builtin PySem.F.entry_type_call ?_⟩)))
  rw [Around.under_plain (weight_type_call_type "set" [.ref l] []) rfl]
  repeat (any_goals (first | assumption | wp_step))
  have setO : Obj := { cls := .type "set", dict := none, data := .set #[] 0 (.fresh 0 0 (!w.params.followText "set-order")) }
  clear setO
  refine codeAny_mono (code_set_led1 (.ref l) (E := E) (Q₁ := fun obj t1 => obj = .ref s.heap.objs.size ∧ t1 = { s with heap := s.heap.push { cls := .type "set", dict := none, data := .set #[] 0 (.fresh 0 0 (!w.params.followText "set-order")) } }) ⟨rfl, rfl⟩) fun r t1 hr => ?_
  generalize hN : s.heap.push { cls := .type "set", dict := none, data := .set #[] 0 (.fresh 0 0 (!w.params.followText "set-order")) } = N at hr
  have hS : N.get? s.heap.objs.size = some { cls := .type "set", dict := none, data := .set #[] 0 (.fresh 0 0 (!w.params.followText "set-order")) } := by rw [← hN]; exact Heap.get?_push_size _ rfl
  have hNz : N.objs.size = s.heap.objs.size + 1 := by rw [← hN]; exact Heap.size_push ..
  have hold : ∀ b o, s.heap.get? b = some o → N.get? b = some o := fun b o e => by rw [← hN]; exact Heap.get?_push_of_some _ e
  cases r with
  | error e => exact hr
  | ok fl =>
    cases fl with
    | ret obj =>
      obtain ⟨rfl, rfl⟩ := hr
      have hT : Shared.TypeIs { s with heap := N } (.ref s.heap.objs.size) "set" := ⟨_, hS, rfl⟩
      have hli := PySem.F.called_set.init.lookup; have hbi := PySem.F.called_set.init.bind (.ref s.heap.objs.size)
      repeat (any_goals (first | assumption | wp_step))
      refine codeAny_mono (codeAny_call_builtin (R := wants (fun r t2 => r = .none ∧ ∃ h' tk, t2 = { s with heap := h', toks := tk } ∧ SetG kd h' s.heap.objs.size (ddK xs) ∧ (∀ b o, s.heap.get? b = some o → h'.get? b = some o)) E) PySem.F.called_set.init.plain PySem.F.entry_set_init (check_set_init_1 hT ?_)) fun r2 t2 hr2 => ?_
      · obtain ⟨⟨oc, od, oda, osl⟩, hol, hcl, nl, hdl⟩ := hl
        simp only at hcl hdl
        subst hcl
        subst hdl
        have hol' := hold _ _ hol
        have hsls := PySem.F.sub_list_set; have hslf := PySem.F.sub_list_frozenset; have hne : (Value.type "list" == Value.type "dict") = false := by decide
        have hl1 : N.IsList l its := ⟨_, hol', rfl, nl, rfl⟩
        unfold Builtin.«set.__init__» noKeywords Builtin.Frozenset.updateFrom
        generalize hPI : pyIter = PI
        wp_walk
        subst hPI
        refine wpAny_pyIter_list hl1 (wpAny_bind (wpAny_runValue ?_))
        have hlS : l < s.heap.objs.size := Heap.lt_size hol
        have hI : l ≠ N.objs.size := by rw [hNz]; exact Nat.ne_of_lt (Nat.lt_succ_of_lt hlS)
        have hno : s.heap.objs.size ∉ [N.objs.size, l] := by
          simp only [List.mem_cons, List.not_mem_nil, or_false, not_or]
          exact ⟨by rw [hNz]; exact Nat.ne_of_lt (Nat.lt_succ_self _), Nat.ne_of_gt hlS⟩
        refine SetG.loop (kd := kd) ((Walks.list (show A.in1.in1.in1.handled = none by simp [hh]) _ l hI its).toS) s.heap.objs.size hno xs hz hb hv (its.size - 0) 0 _ (by omega) (Nat.zero_le _) ⟨⟨_, Heap.get?_push_size _ rfl, rfl, rfl⟩, (hl1.push _)⟩ ?hS0 ?hR
        case hS0 => exact SetG.new (Heap.get?_push_of_some _ hS)
        case hR =>
          intro t3 mv hS3
          obtain ⟨h', g2, d', tk', os'⟩ := t3
          obtain rfl : g2 = s.gens := mv.gens
          obtain rfl : d' = s.drawn := mv.drawn
          obtain rfl : os' = s.os := mv.os
          show wpAny _ _ _ _ _ _
          refine wpAny_pure (show wpAny _ _ (ret Value.none) _ _ _ from wpAny_pure ⟨rfl, h', tk', rfl, hS3, fun b o e => ?_⟩)
          have hb0 := Heap.lt_size e
          refine mv.heap b o ?_ (Heap.get?_push_of_some _ (hold _ _ e))
          simp only [List.mem_cons, List.not_mem_nil, or_false, not_or]
          exact ⟨Nat.ne_of_lt hb0, by rw [hNz]; exact Nat.ne_of_lt (Nat.lt_succ_of_lt hb0)⟩
      · cases r2 with
        | error e => exact hr2
        | ok fl2 =>
          cases fl2 with
          | ret r =>
            obtain ⟨rfl, h', tk, rfl, hS', hk'⟩ := hr2
            repeat (any_goals (first | assumption | wp_step))
            exact q _ _ hS' hk'
          | _ => exact hr2.elim
    | _ => exact hr.elim
theorem SetG.call_tuple {l : Addr} {its : Array Value} (xs : List κ) {Q : Value → Shared → Prop} (hh : A.handled = none) (hl : s.heap.IsTuple l its) (hz : its.size = xs.length) (hv : ∀ (i : Nat) (v : Value), its[i]? = some v → ∃ k, xs[i]? = some k ∧ kd.is k v = true ∧ v.scannable = true) (hb : xs.length + 1 < scanBound)
    (q : ∀ (h' : Heap) (tk : Nat), SetG kd h' s.heap.objs.size (ddK xs) → (∀ b o, s.heap.get? b = some o → h'.get? b = some o) → Q (.ref s.heap.objs.size) { s with heap := h', toks := tk }) : wpAny (model P w) A (call (.type "set") [.ref l]) Q E s := by
  have ⟨c, tl, hmro⟩ := PySem.F.called_set.mro
  have hmade := PySem.F.called_set.made; have hsub := PySem.F.called_set.sub; have h1 := PySem.F.called_set.notType; have h2 := PySem.F.called_set.canCreate; have hct := PySem.F.typeCall_set_1 (.ref l)
  refine wpAny_call (codeAny_of_tree (show wpAny _ _ (callAny (.type "set") _) _ _ _ from (wpAny_pure ⟨Code.quiet_builtin _ (by decide +kernel), codeAny_builtin PySem.F.entry_type_call ?_⟩)))
  rw [Around.under_plain (weight_type_call_type "set" [.ref l] []) rfl]
  repeat (any_goals (first | assumption | wp_step))
  have setO : Obj := { cls := .type "set", dict := none, data := .set #[] 0 (.fresh 0 0 (!w.params.followText "set-order")) }
  clear setO
  refine codeAny_mono (code_set_led1 (.ref l) (E := E) (Q₁ := fun obj t1 => obj = .ref s.heap.objs.size ∧ t1 = { s with heap := s.heap.push { cls := .type "set", dict := none, data := .set #[] 0 (.fresh 0 0 (!w.params.followText "set-order")) } }) ⟨rfl, rfl⟩) fun r t1 hr => ?_
  generalize hN : s.heap.push { cls := .type "set", dict := none, data := .set #[] 0 (.fresh 0 0 (!w.params.followText "set-order")) } = N at hr
  have hS : N.get? s.heap.objs.size = some { cls := .type "set", dict := none, data := .set #[] 0 (.fresh 0 0 (!w.params.followText "set-order")) } := by rw [← hN]; exact Heap.get?_push_size _ rfl
  have hNz : N.objs.size = s.heap.objs.size + 1 := by rw [← hN]; exact Heap.size_push ..
  have hold : ∀ b o, s.heap.get? b = some o → N.get? b = some o := fun b o e => by rw [← hN]; exact Heap.get?_push_of_some _ e
  cases r with
  | error e => exact hr
  | ok fl =>
    cases fl with
    | ret obj =>
      obtain ⟨rfl, rfl⟩ := hr
      have hT : Shared.TypeIs { s with heap := N } (.ref s.heap.objs.size) "set" := ⟨_, hS, rfl⟩
      have hli := PySem.F.called_set.init.lookup; have hbi := PySem.F.called_set.init.bind (.ref s.heap.objs.size)
      repeat (any_goals (first | assumption | wp_step))
      refine codeAny_mono (codeAny_call_builtin (R := wants (fun r t2 => r = .none ∧ ∃ h' tk, t2 = { s with heap := h', toks := tk } ∧ SetG kd h' s.heap.objs.size (ddK xs) ∧ (∀ b o, s.heap.get? b = some o → h'.get? b = some o)) E) PySem.F.called_set.init.plain PySem.F.entry_set_init (check_set_init_1 hT ?_)) fun r2 t2 hr2 => ?_
      · obtain ⟨⟨oc, od, oda, osl⟩, hol, hcl, nl, hdl⟩ := hl
        simp only at hcl hdl
        subst hcl
        subst hdl
        have hol' := hold _ _ hol
        have hsls := PySem.F.sub_tuple_set; have hslf := PySem.F.sub_tuple_frozenset; have hne : (Value.type "tuple" == Value.type "dict") = false := by decide
        have hl1 : N.IsTuple l its := ⟨_, hol', rfl, nl, rfl⟩
        unfold Builtin.«set.__init__» noKeywords Builtin.Frozenset.updateFrom
        generalize hPI : pyIter = PI
        wp_walk
        subst hPI
        refine wpAny_pyIter_tuple hl1 (wpAny_bind (wpAny_runValue ?_))
        have hlS : l < s.heap.objs.size := Heap.lt_size hol
        have hI : l ≠ N.objs.size := by rw [hNz]; exact Nat.ne_of_lt (Nat.lt_succ_of_lt hlS)
        have hno : s.heap.objs.size ∉ [N.objs.size, l] := by
          simp only [List.mem_cons, List.not_mem_nil, or_false, not_or]
          exact ⟨by rw [hNz]; exact Nat.ne_of_lt (Nat.lt_succ_self _), Nat.ne_of_gt hlS⟩
        refine SetG.loop (kd := kd) ((Walks.tuple (show A.in1.in1.in1.handled = none by simp [hh]) _ l hI its).toS) s.heap.objs.size hno xs hz hb hv (its.size - 0) 0 _ (by omega) (Nat.zero_le _) ⟨⟨_, Heap.get?_push_size _ rfl, rfl, rfl⟩, (hl1.push _)⟩ ?hS0 ?hR
        case hS0 => exact SetG.new (Heap.get?_push_of_some _ hS)
        case hR =>
          intro t3 mv hS3
          obtain ⟨h', g2, d', tk', os'⟩ := t3
          obtain rfl : g2 = s.gens := mv.gens
          obtain rfl : d' = s.drawn := mv.drawn
          obtain rfl : os' = s.os := mv.os
          show wpAny _ _ _ _ _ _
          refine wpAny_pure (show wpAny _ _ (ret Value.none) _ _ _ from wpAny_pure ⟨rfl, h', tk', rfl, hS3, fun b o e => ?_⟩)
          have hb0 := Heap.lt_size e
          refine mv.heap b o ?_ (Heap.get?_push_of_some _ (hold _ _ e))
          simp only [List.mem_cons, List.not_mem_nil, or_false, not_or]
          exact ⟨Nat.ne_of_lt hb0, by rw [hNz]; exact Nat.ne_of_lt (Nat.lt_succ_of_lt hb0)⟩
      · cases r2 with
        | error e => exact hr2
        | ok fl2 =>
          cases fl2 with
          | ret r =>
            obtain ⟨rfl, h', tk, rfl, hS', hk'⟩ := hr2
            repeat (any_goals (first | assumption | wp_step))
            exact q _ _ hS' hk'
          | _ => exact hr2.elim
    | _ => exact hr.elim
end
end Fn
namespace Fn
open PySem PySem.Spec PyProof.Rows L2
theorem sorted_perm : ∀ {as bs : List D}, as.Perm bs → as.Pairwise (fun a b => leD a b = true) → bs.Pairwise (fun a b => leD a b = true) → (∀ a ∈ as, ∀ b ∈ as, leD a b = true → leD b a = true → a = b) → as = bs
  | [], bs, p, _, _, _ => p.nil_eq
  | a :: as, [], p, _, _, _ => by have := p.length_eq; simp at this
  | a :: as, b :: bs, p, sa, sb, an => by
    obtain ⟨a1, a2⟩ := List.pairwise_cons.mp sa
    obtain ⟨b1, b2⟩ := List.pairwise_cons.mp sb
    have e : a = b := by
      rcases List.mem_cons.mp (p.mem_iff.mp List.mem_cons_self) with e | m1
      · exact e
      · rcases List.mem_cons.mp (p.mem_iff.mpr List.mem_cons_self) with e | m2
        · exact e.symm
        · exact an a List.mem_cons_self b (List.mem_cons_of_mem _ m2) (a1 b m2) (b1 a m1)
    subst e
    congr 1
    exact sorted_perm (List.Perm.cons_inv p) a2 b2 fun x hx y hy => an x (List.mem_cons_of_mem _ hx) y (List.mem_cons_of_mem _ hy)
theorem sort_same {as bs : List D} (p : as.Perm bs) (an : ∀ a ∈ as, ∀ b ∈ as, leD a b = true → leD b a = true → a = b) : as.mergeSort leD = bs.mergeSort leD :=
  sorted_perm (((List.mergeSort_perm as leD).trans p).trans (List.mergeSort_perm bs leD).symm) (sortD_pair as) (sortD_pair bs) fun a ha b hb => an a (List.mem_mergeSort.mp ha) b (List.mem_mergeSort.mp hb)
def SetX (P : Program) (w : World) (a : Addr) (ks : List Str) : HO := .ext fun h => SetG (PySem.strKind P w) h a ks
theorem setX_new {P : Program} {w : World} {H : Hp} {h : Heap} {a : Addr} {ks : List Str} (R : SetG (PySem.strKind P w) h a ks) : ObjOk P w H h a (SetX P w a ks) :=
  ⟨R, (let ⟨o, _, _, _, _, ho, _⟩ := R; ⟨o, ho⟩), fun h1 h2 p k => SetG.keep p k⟩
theorem vals_at : ∀ {xs : List Str} {its : List Value}, Vals (xs.map V.str) its → ∀ (i : Nat) (v : Value), its[i]? = some v → ∃ (k : Str) (t : Tok), xs[i]? = some k ∧ v = .str k t
  | [], _, .nil, i, v, h => by simp at h
  | x :: xs, _, .cons r t, 0, v, h => by
    obtain ⟨tk, rfl⟩ := r
    have h : some (Value.str x tk) = some v := h
    cases h
    exact ⟨x, tk, rfl, rfl⟩
  | x :: xs, _, .cons r t, i + 1, v, h => vals_at t i v h
section
variable {X : Cx}
def rSetX (K : PySem.W.Frag) (P : Program) (w : World) : List V → Hp → VK → Prop := fun xs H Q => ∃ (l : Addr) (ks : List Str), xs = [V.ref l] ∧ (SqL K H l (ks.map V.str) ∨ SqT K H l (ks.map V.str)) ∧ ks.length ≤ 1000 ∧ ∀ a, H a = none → Q (.ref a) (upd H a (SetX P w a (ddK ks)))
theorem cr_setX (hc : X.calm = true) : CallR X (.type "set") (rSetX X.K X.prog X.w) := by
  intro pins s σ H xs us Q I r h
  obtain ⟨l, ks, rfl, hl, hz, q⟩ := h
  rw [Vals.ref1 r]
  have fin : ∀ (h' : Heap) (tk : Nat), SetG (PySem.strKind X.prog X.w) h' s.heap.objs.size (ddK ks) → (∀ b o, s.heap.get? b = some o → h'.get? b = some o) → EP X pins σ Q (.ref s.heap.objs.size) { s with heap := h', toks := tk } := fun h' tk R k =>
    ⟨.ref s.heap.objs.size, upd H s.heap.objs.size (SetX X.prog X.w s.heap.objs.size (ddK ks)), I.laid (t' := tk) k (Nat.le_refl _) (setX_new R), rfl, q _ (I.hok.fresh (Nat.le_refl _))⟩
  have hv : ∀ {its : List Value}, Vals (ks.map V.str) its → its.toArray.size = ks.length ∧ ∀ (i : Nat) (v : Value), its.toArray[i]? = some v → ∃ k, ks[i]? = some k ∧ (PySem.strKind X.prog X.w).is k v = true ∧ v.scannable = true := fun {its} rv => by
    refine ⟨by rw [List.size_toArray, ← rv.length, List.length_map], fun i v e => ?_⟩
    obtain ⟨k, t, e1, rfl⟩ := vals_at rv i v (by simpa using e)
    exact ⟨k, e1, PySem.strKind_is _ _ _ _, rfl⟩
  rcases hl with hl | hl
  · obtain ⟨its, rv, pl, _⟩ := I.list hl
    obtain ⟨h1, h2⟩ := hv rv
    exact SetG.call_list (kd := PySem.strKind X.prog X.w) ks (I.ok.hd hc) pl.isList h1 h2 (by unfold scanBound; omega) fin
  · obtain ⟨its, rv, pl, _⟩ := I.tuple hl
    obtain ⟨h1, h2⟩ := hv rv
    exact SetG.call_tuple (kd := PySem.strKind X.prog X.w) ks (I.ok.hd hc) pl h1 h2 (by unfold scanBound; omega) fin
def rSortX (P : Program) (w : World) : List V → Hp → VK → Prop := fun vs H Q => ∃ (a : Addr) (ks : List Str), vs = [V.ref a] ∧ H a = some (SetX P w a ks) ∧ ∀ ks' : List Str, ks'.Perm ks → sortOk (ks'.map D.str) = true ∧ ks'.length ≤ sizeLine ∧ ∀ p, H p = none → Q (.ref p) (upd H p (.lst ((sortZ (ks'.map V.str) (ks'.map D.str)).map (·.1))))
theorem dp_strs {K : PySem.W.Frag} {H : Hp} : ∀ ks : List Str, DpAll K H (ks.map V.str) (toPys (ks.map D.str))
  | [] => .nil
  | k :: ks => .cons (.str k) (dp_strs ks)
theorem cr_sortX (hc : X.calm = true) (hu : X.A.units + 200 < cLine) : CallR X (.builtin "sorted") (rSortX X.prog X.w) := by
  intro pins s σ H vs us Q I r h
  obtain ⟨a, ks, rfl, ha, q⟩ := h
  have R : SetG (PySem.strKind X.prog X.w) s.heap a ks := (I.hok a _ ha).1
  rw [Vals.ref1 r]
  obtain ⟨o, es, ep, t, qs, ho, hex, hd, en, pm, nd, hb, hf, hr, hl⟩ := R
  refine Calls.call_function_entry PyProof.Rows.kind_sorted PyProof.Rows.plain_sorted PyProof.Rows.entry_sorted (PyProof.Rows.args_sorted1 _) ?_
  unfold Builtin.«sorted»
  refine wpAny_bind (m := checkCount "sorted" 1 1 _) (wpAny_pure ?_)
  refine wpAny_bind (collect_set (A := X.A.in1) (I.ok.hd hc) ⟨o, ho, hex.1, hd⟩ hf hb hr hl fun s1 out k1 hz g1 o1 pv => ?_)
  have I1 : Inv X pins σ H s1 := I.call' (ch := []) o1 (Un.kept k1) (I.hok.kept k1) (by rw [g1]; exact I.bare) (fun _ z => nomatch z)
  have e1 : Paired (fun (v : Value) (k : Str) => RelV (V.str k) v) (es.toList.map (·.2)) qs := by
    have go : ∀ {l : List (Int × Value)} {qs : List Str}, Paired (Ent (PySem.strKind X.prog X.w)) l qs → Paired (fun (v : Value) (k : Str) => RelV (V.str k) v) (l.map (·.2)) qs := by
      intro l qs h
      induction h with
      | nil => exact .nil
      | cons r t ih => exact .cons (Value.isStrOf_shape r.1) ih
    exact go en
  obtain ⟨ks', p', e2⟩ := paired_perm pv e1
  have rv : Vals (ks'.map V.str) out := by
    have go : ∀ {l : List Value} {qs : List Str}, Paired (fun (v : Value) (k : Str) => RelV (V.str k) v) l qs → Vals (qs.map V.str) l := by
      intro l qs h
      induction h with
      | nil => exact .nil
      | cons r t ih => exact .cons r ih
    exact go e2
  obtain ⟨q1, q2, q3⟩ := q ks' (p'.trans pm)
  have hz1 : (ks'.map V.str).length ≤ sizeLine := by rw [List.length_map]; exact q2
  refine wpAny_bind (wpAny_newList ?_ (by rw [← rv.length]; exact hz1))
  refine wpAny_bind (wpAny_holding (wpAny_mono (sort_new (A := X.A.in1) (E := X.xe) (s := s1) (tk := s1.toks) (h' := s1.heap) (Q := Q) (by show X.A.units + 1 + 100 < cLine; omega) I1 rv (dp_strs ks') (by rw [List.length_map, List.length_map]) q1 hz1 q3) (fun _ s' x => ?_) fun _ _ e => e))
  exact wpAny_pure ⟨_, rfl, x⟩
def rLenX (P : Program) (w : World) : List V → Hp → VK → Prop := fun vs H Q => ∃ (a : Addr) (ks : List Str), vs = [V.ref a] ∧ H a = some (SetX P w a ks) ∧ Q (.int (ks.length : Nat)) H
theorem cr_lenX : CallR X (.builtin "len") (rLenX X.prog X.w) := by
  intro pins s σ H vs us Q I r h
  obtain ⟨a, ks, rfl, ha, q⟩ := h
  have R : SetG (PySem.strKind X.prog X.w) s.heap a ks := (I.hok a _ ha).1
  rw [Vals.ref1 r]
  obtain ⟨o, es, ep, t, qs, ho, hex, hd, en, pm, nd, hb, hf, hr, hl⟩ := R
  have hn : es.size = ks.length := by rw [← pm.length_eq, ← Paired.length en, Array.length_toList]
  exact call_len_set ho hex hd hf (by unfold scanBound at hb; omega) ⟨.int (ks.length : Nat), H, I.tok _, ⟨_, by rw [hn]⟩, q⟩
abbrev pI (p : Int × Int) : D := .tup [.int p.1, .int p.2]
abbrev pLi (p : Int × Int) : List Int := [p.1, p.2]
def rSortT (K : PySem.W.Frag) (P : Program) (w : World) : List V → Hp → VK → Prop := fun vs H Q => ∃ (a : Addr) (L : List (Addr × List Int)), vs = [V.ref a] ∧ H a = some (SetTO P w a L) ∧ (∀ p ∈ L, SqT K H p.1 (p.2.map V.int)) ∧
  ∀ (L' : List (Addr × List Int)), L'.Perm L → (L'.map (·.2)).Nodup → sortOk (L'.map fun p => D.tup (p.2.map .int)) = true ∧ L'.length ≤ sizeLine ∧ ∀ p, H p = none → Q (.ref p) (upd H p (.lst ((sortZ (L'.map fun q => V.ref q.1) (L'.map fun p => D.tup (p.2.map .int))).map (·.1))))
theorem dp_ints {K : PySem.W.Frag} {H : Hp} : ∀ ks : List Int, DpAll K H (ks.map V.int) (toPys (ks.map D.int))
  | [] => .nil
  | k :: ks => .cons (.int k) (dp_ints ks)
theorem dp_tups {K : PySem.W.Frag} {H : Hp} : ∀ L : List (Addr × List Int), (∀ p ∈ L, SqT K H p.1 (p.2.map V.int)) → DpAll K H (L.map fun q => V.ref q.1) (toPys (L.map fun p => D.tup (p.2.map .int)))
  | [], _ => .nil
  | p :: L, h => .cons (.tup (h p List.mem_cons_self) (dp_ints p.2)) (dp_tups L fun q hq => h q (List.mem_cons_of_mem _ hq))
theorem cr_sortT2 (hc : X.calm = true) (hu : X.A.units + 200 < cLine) : CallR X (.builtin "sorted") (rSortT X.K X.prog X.w) := by
  intro pins s σ H vs us Q I r h
  obtain ⟨a, L, rfl, ha, hk, q⟩ := h
  have R0 : SetT0 X.prog X.w s.heap a L := (I.hok a _ ha).1
  obtain ⟨es, ep, t, R⟩ := R0.full fun p hp => I.isT (hk p hp)
  rw [Vals.ref1 r]
  obtain ⟨o, ho, hex, hd⟩ := R.ob
  have hsz := R.size
  have hfew := R.few
  refine Calls.call_function_entry PyProof.Rows.kind_sorted PyProof.Rows.plain_sorted PyProof.Rows.entry_sorted (PyProof.Rows.args_sorted1 _) ?_
  unfold Builtin.«sorted»
  refine wpAny_bind (m := checkCount "sorted" 1 1 _) (wpAny_pure ?_)
  refine wpAny_bind (collect_set (A := X.A.in1) (I.ok.hd hc) ⟨o, ho, hex.1, hd⟩ R.fits (by unfold scanBound; omega) R.tab.ris R.led fun s1 out k1 hz g1 o1 pv => ?_)
  have I1 : Inv X pins σ H s1 := I.call' (ch := []) o1 (Un.kept k1) (I.hok.kept k1) (by rw [g1]; exact I.bare) (fun _ z => nomatch z)
  have hes : es.toList.map (·.2) = L.map fun q => Value.ref q.1 := by
    rw [R.rows]
    unfold rowsOf
    rw [List.map_map]
    rfl
  rw [hes] at pv
  have e1 : ∀ M : List (Addr × List Int), Paired (fun (v : Value) (q : Addr × List Int) => v = .ref q.1) (M.map fun q => Value.ref q.1) M := by
    intro M
    induction M with
    | nil => exact .nil
    | cons q M ih => exact .cons rfl ih
  obtain ⟨L', p', e2⟩ := paired_perm pv (e1 L)
  have rv : Vals (L'.map fun q => V.ref q.1) out := by
    have go : ∀ {l : List Value} {M : List (Addr × List Int)}, Paired (fun (v : Value) (q : Addr × List Int) => v = .ref q.1) l M → Vals (M.map fun q => V.ref q.1) l := by
      intro l M h
      induction h with
      | nil => exact .nil
      | cons r t ih => exact .cons r ih
    exact go e2
  obtain ⟨q1, q2, q3⟩ := q L' p' ((p'.map (·.2)).nodup_iff.mpr R.nd)
  have hz1 : (L'.map fun q => V.ref q.1).length ≤ sizeLine := by rw [List.length_map]; exact q2
  refine wpAny_bind (wpAny_newList ?_ (by rw [← rv.length]; exact hz1))
  refine wpAny_bind (wpAny_holding (wpAny_mono (sort_new (A := X.A.in1) (E := X.xe) (s := s1) (tk := s1.toks) (h' := s1.heap) (Q := Q) (by show X.A.units + 1 + 100 < cLine; omega) I1 rv (dp_tups L' fun p hp => hk p (p'.mem_iff.mp hp)) (by rw [List.length_map, List.length_map]) q1 hz1 q3) (fun _ s' x => ?_) fun _ _ e => e))
  exact wpAny_pure ⟨_, rfl, x⟩
end
def pairsD : List D → Option (List (Int × Int))
  | [] => some []
  | .tup [.int a, .int b] :: ds => (pairsD ds).map ((a, b) :: ·)
  | _ => none
theorem pairsD_ok : ∀ {ds : List D} {xs : List (Int × Int)}, pairsD ds = some xs → ds = xs.map pI
  | [], _, h => by cases h; rfl
  | d :: ds, xs, h => by
    unfold pairsD at h
    split at h
    · rename_i e; cases e
    · rename_i a b ds' e
      injection e with e1 e2
      subst e1 e2
      cases z : pairsD ds with
      | none => rw [z] at h; cases h
      | some ys => rw [z] at h; cases h; rw [pairsD_ok z]; rfl
    · cases h
def ssetB (b : B) : Res B := match seqI b with
  | some ds => (match strsD ds with
    | some xs => if decide (xs.length ≤ 1000) && sortOk ((ddK xs).map .str) then .ok (.own (.l (((ddK xs).map .str).mergeSort leD))) else .bad
    | none => (match seqL b, pairsD ds with
      | some _, some ks => if decide (ks.length < 64) && sortOk ((ddK ks).map pI) then .ok (.own (.l (((ddK ks).map pI).mergeSort leD))) else .bad
      | _, _ => .bad))
  | none => .bad
def lsetB (b : B) : Res B := match seqI b with
  | some ds => (match strsD ds with
    | some xs => if decide (xs.length ≤ 1000) then .ok (.dat (.int ((ddK xs).length : Nat))) else .bad
    | none => .bad)
  | none => .bad
theorem sortOk_perm {as bs : List D} (p : as.Perm bs) (h : sortOk bs = true) : sortOk as = true := by
  unfold sortOk at h ⊢
  rw [toPys_map] at h ⊢
  have m := p.map toPy
  have al : ∀ f : PyData → Bool, (bs.map toPy).all f = true → (as.map toPy).all f = true := fun f hf => by
    rw [List.all_eq_true] at hf ⊢
    exact fun x hx => hf x (m.mem_iff.mp hx)
  simp only [Bool.and_eq_true, Bool.or_eq_true] at h ⊢
  obtain ⟨h1, h2, h3⟩ := h
  refine ⟨al _ h1, ?_, h3.imp (al _) (al _)⟩
  rw [List.all_eq_true] at h2 ⊢
  exact fun x hx => al _ (h2 x (m.mem_iff.mp hx))
theorem anti_str {xs : List Str} : ∀ a ∈ xs.map D.str, ∀ b ∈ xs.map D.str, leD a b = true → leD b a = true → a = b := fun a ha b hb h1 h2 => by
  obtain ⟨x, _, rfl⟩ := List.mem_map.mp ha
  obtain ⟨y, _, rfl⟩ := List.mem_map.mp hb
  rw [leD_str h1 h2]
theorem anti_pI {xs : List (Int × Int)} : ∀ a ∈ xs.map pI, ∀ b ∈ xs.map pI, leD a b = true → leD b a = true → a = b := fun a ha b hb h1 h2 => by
  obtain ⟨x, _, rfl⟩ := List.mem_map.mp ha
  obtain ⟨y, _, rfl⟩ := List.mem_map.mp hb
  have e := leD_anti h1 h2
  simp [toPy, toPys, PySem.W.keyToks, PySem.W.keyToksAll] at e
  obtain ⟨e1, e2⟩ := e
  show D.tup [.int x.1, .int x.2] = D.tup [.int y.1, .int y.2]
  rw [e1, e2]
theorem rp_strs_inv {K : PySem.W.Frag} {fa : Nat → Option Addr} {F : Hp} {vs : List V} {xs : List Str} (h : RpAll K fa F vs (xs.map D.str)) : vs = xs.map V.str := RpAll.strs h
theorem rp_pairs {K : PySem.W.Frag} {fa : Nat → Option Addr} {F : Hp} : ∀ {ks : List (Int × Int)} {xs : List V}, RpAll K fa F xs (ks.map pI) → ∃ L : List (Addr × List Int), xs = L.map (fun q => V.ref q.1) ∧ L.map (·.2) = ks.map pLi ∧ ∀ p ∈ L, F p.1 = some (.tup (p.2.map V.int))
  | [], _, .nil => ⟨[], rfl, rfl, fun p hp => nomatch hp⟩
  | k :: ks, _, .cons r t => by
    obtain ⟨L, e1, e2, e3⟩ := rp_pairs t
    cases r with
    | tup f rr =>
      rename_i a xs'
      have ex : xs' = [V.int k.1, V.int k.2] := by
        cases rr with
        | cons ra rb =>
          cases rb with
          | cons rc rd =>
            cases rd
            cases ra
            cases rc
            rfl
      subst ex
      refine ⟨(a, pLi k) :: L, by rw [e1]; rfl, by rw [List.map_cons, e2]; rfl, fun p hp => ?_⟩
      rcases List.mem_cons.mp hp with rfl | hp
      · exact f
      · exact e3 p hp
section
variable {X : Cx} {g : G} {cls : Nat → Value} {k : Nat} {tab : List En} {N : List Str} {sc : Scope} {bt : Bt} {e : Expr} {fa : Env → Res B} {p p2 q pos : Pos}
theorem CT.sset (C : CT X g cls k tab N sc bt) (ha : PE X e (tF g fa)) (h1 : gOk sc bt "sorted" = true) (h2 : gOk sc bt "set" = true) (hst : nst e = true) (hh : bt.hot = false := by rfl) :
    PE X (.Call (.Name "sorted" p) [.Call (.Name "set" p2) [e] [] q] [] pos) (tF g (one1 ssetB fa)) := by
  obtain ⟨g1, m1⟩ := C.bl h1
  obtain ⟨g2, m2⟩ := C.bl h2
  have hc := C.calm hh
  have inner : CallR X (.type "set") (fun xs H Q => rSetX X.K X.prog X.w xs H Q ∨ rSetOfT X.K X.prog X.w xs H Q) := fun pins s σ H xs us Q I r h => by
    rcases h with h | h
    · exact cr_setX hc pins s σ H xs us Q I r h
    · exact cr_setOfT hc C.hu64 pins s σ H xs us Q I r h
  have outer : CallR X (.builtin "sorted") (fun xs H Q => rSortX X.prog X.w xs H Q ∨ rSortT X.K X.prog X.w xs H Q) := fun pins s σ H xs us Q I r h => by
    rcases h with h | h
    · exact cr_sortX hc C.hu pins s σ H xs us Q I r h
    · exact cr_sortT2 hc C.hu pins s σ H xs us Q I r h
  refine PE.imp (pe_callB outer g1 m1 boot_sorted (pa_cons (pe_callTy inner g2 m2 boot_set (pa_cons ha pa_nil (star_cons hst)) (by decide) (by decide) (star_cons hst) rfl) pa_nil rfl) (by decide) (by decide) rfl rfl) fun σ H Q ⟨F, ρ, s, w⟩ => ?_
  show tF g fa σ H _
  unfold one1 at w
  refine run1 s (fun b v F1 H1 e1 gr r1 => ?_) (fun c e => ?_) (fun e => ?_)
  · rw [e1, Res.ok_bind] at w
    have s1 := s.grow gr
    have sm := s1.sm
    have hK := C.hK
    unfold ssetB at w
    split at w
    · rename_i ds hd
      obtain ⟨a, xs, rfl, hq, rx⟩ := seqI_ok sm r1 hd
      rw [hK] at hq
      split at w
      · rename_i ks hks
        split at w
        · rename_i hz
          rw [Bool.and_eq_true, decide_eq_true_eq] at hz
          rw [strsD_ok hks] at rx
          rw [rp_strs_inv rx] at hq
          refine .inl ⟨a, ks, rfl, hq, hz.1, fun p hp => ?_⟩
          refine .inl ⟨p, ddK ks, rfl, upd_same, fun ks' pm => ?_⟩
          have hl : ks'.length ≤ sizeLine := by
            rw [pm.length_eq]
            have := dd_len ks
            exact le_sz (by omega)
          refine ⟨sortOk_perm (pm.map D.str) hz.2, hl, fun p' hp' => ?_⟩
          have hp1 : H1 p' = none := by
            by_cases e : p' = p
            · subst e; exact hp
            · rw [upd_ne e] at hp'; exact hp'
          have ne : p' ≠ p := fun z => by rw [z, upd_same] at hp'; cases hp'
          have es : (ks'.map D.str).mergeSort leD = ((ddK ks).map D.str).mergeSort leD := sort_same (pm.map D.str) anti_str
          have rz := sortZ_rp (RpAll.of_strs (K := g.K) (fa := g.fa) (F := F1) ks')
          rw [es] at rz
          have g1 : Grow F H F1 (upd (upd H1 p (SetX X.prog X.w p (ddK ks))) p' (.lst ((sortZ (ks'.map V.str) (ks'.map D.str)).map (·.1)))) := gr.trans ((Grow.newH sm.fh hp).trans (Grow.newH (sm.fh.trans (same_upd hp)) hp'))
          exact w (.ref p') F1 _ g1 ⟨p', _, rfl, gr.hh.free hp1, upd_same, sm.fh.free hp1, .l rz⟩
        · exact w.elim
      · split at w
        · rename_i ds2 ks hd2 hks
          split at w
          · rename_i hz
            rw [Bool.and_eq_true, decide_eq_true_eq] at hz
            obtain ⟨a2, xs2, ea, hq2, rx2⟩ := seqL_ok sm r1 hd2
            cases ea
            have e2 : ds2 = ds := by
              have : seqI (rd b) = some ds2 := by
                unfold seqL at hd2
                split at hd2
                · rename_i z; rw [z]; exact hd2
                · rename_i z; rw [z]; exact hd2
                · rename_i z; rw [z]; exact hd2
                · cases hd2
              rw [this] at hd
              exact Option.some.inj hd
            subst e2
            rw [pairsD_ok hks] at rx2
            obtain ⟨L, e1, e2, e3⟩ := rp_pairs rx2
            rw [e1] at hq2
            have hlen : L.length = ks.length := by have := congrArg List.length e2; simpa using this
            refine .inr ⟨a, L, rfl, SqL.of hq2, fun p hp => SqT.of (sm.fh _ _ (e3 p hp)), by omega, fun p L2 hp sub all => ?_⟩
            refine .inr ⟨p, L2, rfl, upd_same, fun q hq => ?_, fun L' pm nd => ?_⟩
            · have hq1 := sm.fh _ _ (e3 q (sub q hq))
              have ne : q.1 ≠ p := fun z => by rw [z, hp] at hq1; cases hq1
              exact SqT.of (by rw [upd_ne ne]; exact hq1)
            · have ed : ∀ M : List (Addr × List Int), M.map (fun p => D.tup (p.2.map .int)) = (M.map (·.2)).map fun l => D.tup (l.map .int) := fun M => by rw [List.map_map]; rfl
              have ek : (ddK ks).map pI = ((ddK ks).map pLi).map fun l => D.tup (l.map .int) := by rw [List.map_map]; rfl
              have ndk : ((ddK ks).map pLi).Nodup := by
                refine List.pairwise_map.mpr (List.Pairwise.imp (fun {a b} h e => h ?_) (dd_nd ks))
                have e : [a.1, a.2] = [b.1, b.2] := e
                simp at e
                exact Prod.ext e.1 e.2
              have pk : (L'.map (·.2)).Perm ((ddK ks).map pLi) := perm_same nd ndk fun l => by
                rw [(pm.map (·.2)).mem_iff]
                constructor
                · intro hl
                  obtain ⟨q, hq, rfl⟩ := List.mem_map.mp hl
                  have : q.2 ∈ L.map (·.2) := List.mem_map_of_mem (sub q hq)
                  rw [e2] at this
                  obtain ⟨x, hx, ex⟩ := List.mem_map.mp this
                  exact List.mem_map.mpr ⟨x, mem_dd.mpr hx, ex⟩
                · intro hl
                  obtain ⟨x, hx, ex⟩ := List.mem_map.mp hl
                  have : l ∈ L.map (·.2) := by rw [e2]; exact List.mem_map.mpr ⟨x, mem_dd.mp hx, ex⟩
                  obtain ⟨q, hq, eq⟩ := List.mem_map.mp this
                  rw [← eq]
                  exact all q hq
              have pd : (L'.map fun p => D.tup (p.2.map .int)).Perm ((ddK ks).map pI) := by rw [ed, ek]; exact pk.map _
              have hl : L'.length ≤ sizeLine := by
                have h1 := pk.length_eq
                rw [List.length_map, List.length_map] at h1
                have := dd_len ks
                exact le_sz (by omega)
              refine ⟨sortOk_perm pd hz.2, hl, fun p' hp' => ?_⟩
              have hp1 : H1 p' = none := by
                by_cases e : p' = p
                · subst e; exact hp
                · rw [upd_ne e] at hp'; exact hp'
              have es : (L'.map fun p => D.tup (p.2.map .int)).mergeSort leD = ((ddK ks).map pI).mergeSort leD := (sort_same pd.symm anti_pI).symm
              have rr : RpAll g.K g.fa F1 (L'.map fun q => V.ref q.1) (L'.map fun p => D.tup (p.2.map .int)) := by
                have go : ∀ M : List (Addr × List Int), (∀ q ∈ M, F1 q.1 = some (.tup (q.2.map V.int))) → RpAll g.K g.fa F1 (M.map fun q => V.ref q.1) (M.map fun p => D.tup (p.2.map .int)) := by
                  intro M
                  induction M with
                  | nil => exact fun _ => .nil
                  | cons q M ih => exact fun h => .cons (.tup (h q List.mem_cons_self) (RpAll.of_ints _)) (ih fun x hx => h x (List.mem_cons_of_mem _ hx))
                exact go L' fun q hq => e3 q (sub q (pm.mem_iff.mp hq))
              have rz := sortZ_rp rr
              rw [es] at rz
              have g1 : Grow F H F1 (upd (upd H1 p (SetTO X.prog X.w p L2)) p' (.lst ((sortZ (L'.map fun q => V.ref q.1) (L'.map fun p => D.tup (p.2.map .int))).map (·.1)))) := gr.trans ((Grow.newH sm.fh hp).trans (Grow.newH (sm.fh.trans (same_upd hp)) hp'))
              exact w (.ref p') F1 _ g1 ⟨p', _, rfl, gr.hh.free hp1, upd_same, sm.fh.free hp1, .l rz⟩
          · exact w.elim
        · exact w.elim
    · exact w.elim
  · rw [e] at w
    exact w
  · rw [e] at w
    exact w
theorem CT.lset (C : CT X g cls k tab N sc bt) (ha : PE X e (tF g fa)) (h1 : gOk sc bt "len" = true) (h2 : gOk sc bt "set" = true) (hst : nst e = true) (hh : bt.hot = false := by rfl) :
    PE X (.Call (.Name "len" p) [.Call (.Name "set" p2) [e] [] q] [] pos) (tF g (one1 lsetB fa)) := by
  obtain ⟨g1, m1⟩ := C.bl h1
  obtain ⟨g2, m2⟩ := C.bl h2
  have hc := C.calm hh
  refine PE.imp (pe_callB cr_lenX g1 m1 boot_len (pa_cons (pe_callTy (cr_setX hc) g2 m2 boot_set (pa_cons ha pa_nil (star_cons hst)) (by decide) (by decide) (star_cons hst) rfl) pa_nil rfl) (by decide) (by decide) rfl rfl) fun σ H Q ⟨F, ρ, s, w⟩ => ?_
  show tF g fa σ H _
  unfold one1 at w
  refine run1 s (fun b v F1 H1 e1 gr r1 => ?_) (fun c e => ?_) (fun e => ?_)
  · rw [e1, Res.ok_bind] at w
    have s1 := s.grow gr
    have sm := s1.sm
    have hK := C.hK
    unfold lsetB at w
    split at w
    · rename_i ds hd
      obtain ⟨a, xs, rfl, hq, rx⟩ := seqI_ok sm r1 hd
      rw [hK] at hq
      split at w
      · rename_i ks hks
        split at w
        · rename_i hz
          rw [decide_eq_true_eq] at hz
          rw [strsD_ok hks] at rx
          rw [rp_strs_inv rx] at hq
          refine ⟨a, ks, rfl, hq, hz, fun p hp => ⟨p, ddK ks, rfl, upd_same, ?_⟩⟩
          exact w (.int ((ddK ks).length : Nat)) F1 _ (gr.trans (Grow.newH sm.fh hp)) (.int _)
        · exact w.elim
      · exact w.elim
    · exact w.elim
  · rw [e] at w
    exact w
  · rw [e] at w
    exact w
end
theorem sset_strs {b : B} {xs : List Str} (h : seqI b = some (txs xs)) (hl : xs.length ≤ 1000) (ok : sortOk ((ddK xs).map .str) = true) : ssetB b = .ok (.own (.l ((txs (ddK xs)).mergeSort leD))) := by
  unfold ssetB
  rw [h]
  dsimp only
  rw [show strsD (txs xs) = some xs from strsD_map xs]
  exact if_pos (by rw [Bool.and_eq_true, decide_eq_true_eq]; exact ⟨hl, ok⟩)
theorem lset_strs {b : B} {xs : List Str} (h : seqI b = some (txs xs)) (hl : xs.length ≤ 1000) : lsetB b = .ok (.dat (.int ((ddK xs).length : Nat))) := by
  unfold lsetB
  rw [h]
  dsimp only
  rw [show strsD (txs xs) = some xs from strsD_map xs]
  exact if_pos (by rw [decide_eq_true_eq]; exact hl)
end Fn
namespace Fn
open PySem PySem.Spec PyProof.Rows L2
open Sem (wp)
section
variable {prog : Program} {w : World} {K : Type} [DecidableEq K] {knd : HeapKind prog w K} {A : Around} {E : Value → Shared → Prop} {s : Shared}
end
section
variable {X : Cx} {g : G} {cls : Nat → Value} {k : Nat} {tab : List En} {N : List Str} {sc : Scope} {bt : Bt} {pos : Pos}
end
section
variable {ρ : Env} {fps : List ((Env → Res B) × (Env → Res B))} {p : (Env → Res B) × (Env → Res B)}
end
end Fn
namespace Fn
open PySem PySem.Spec PyProof.Rows L2
section
variable {X : Cx} {g : G} {cls : Nat → Value} {k : Nat} {tab : List En} {N : List Str} {sc : Scope} {bt : Bt} {x : Str} {fk fv : Env → Res B} {i : Nat} {p1 p2 p3 p4 : Pos} {ek ev : Expr}
end
end Fn
namespace Fn
open PySem PySem.Spec PyProof.Rows L2
section
variable {X : Cx} {CX : CXT} {k1 k2 : Nat} {f1 f2 : Addr} {fd1 fd2 : FuncData} {ps1 ps2 : List Str} {sp1 sp2 : Sp} {E : L2.St → XK} {sp pos : Pos} {a b e : Expr} {es : List Expr} {tf : TE} {t : TA}
end
section
variable {g : G} {X : Cx}
end
end Fn
namespace Fn
open PySem PySem.Spec PyProof.Rows L2
section
variable {X : Cx} {g : G} {cls : Nat → Value} {k : Nat} {tab : List En} {N : List Str} {sc : Scope} {bt : Bt} {fa fb fk fl : Env → Res B} {i j : Nat} {pos : Pos}
end
end Fn
namespace Fn
open PySem PySem.Spec PyProof.Rows L2
section
variable {X : Cx} {g : G} {cls : Nat → Value} {k : Nat} {tab : List En} {N : List Str} {sc : Scope} {bt : Bt}
end
end Fn
namespace Fn
open PySem PySem.Spec PyProof.Rows L2
section
variable {X : Cx} {g : G} {fa fk fz : Env → Res B}
end
section
variable {X : Cx} {g : G} {cls : Nat → Value} {k : Nat} {tab : List En} {N : List Str} {sc : Scope} {bt : Bt} {fa fb fc : Env → Res B} {b c : Expr}
end
end Fn
namespace Fn
open PySem PySem.Spec PyProof.Rows L2
section
variable {X : Cx} {g : G} {cls : Nat → Value} {k : Nat} {tab : List En} {N : List Str} {sc : Scope} {bt : Bt} {fa : Env → Res B} {e : Expr}
end
end Fn
namespace Fn
open PySem PySem.Spec PyProof.Rows L2
section
variable {X : Cx}
end
section
variable {X : Cx} {g : G} {cls : Nat → Value} {k : Nat} {tab : List En} {N : List Str} {sc : Scope} {bt : Bt} {a b : Expr} {pos : Pos} {fa fb : Env → Res B}
end
end Fn
namespace Fn
open PySem PySem.Spec PyProof.Rows L2
section
variable {P : Program} {w : World} {K : PySem.W.Frag} {mg : Str → Option Value} {base : Heap} {fa : Nat → Option Addr} {cls : Nat → Value} {lv : Nat} {tab : List En}
end
end Fn
namespace Fn
open PySem PySem.Spec PyProof.Rows L2
section
variable {X : Cx} {CX : CXT} {k : Nat} {f : Addr} {fd : FuncData} {ps : List Str} {sp : Sp} {E : L2.St → XK} {x : Str} {p pos : Pos}
theorem pe_callS0 (F : FnOk X.prog X.w X.K X.mg X.base CX k f fd ps sp) (hr : Room k X.A) (hg : Gl X x) (hm : X.mg x = some (.ref f)) (hk : PySem.W.keepIn X.K (.ref f) = true) (hb : Binds X.K fd ps []) (hx : ∀ σ, PassesAt CX X σ (E σ))
    (hdb : (x == ("__debug__" : Str)) = false) : PE X (.Call (.Name x p) [] [] pos) (tCallS sp E tNil) := by
  refine ⟨fun pins s σ H Q I h => ?_⟩
  refine wpAny_Call_Name_kw (ld_glob I hg hm ?_ hdb)
  exact PySem.W.callWith_K0 I.kIn hk (run_fnS (us := []) F hr hb (hx σ) I .nil h)
end
section
variable {X : Cx} {g : G}
theorem fe_call0 (hgh : g.h = none) {lv : Nat} {tab : List En} {cls : Nat → Value} {k : Nat} {en : En} {x : Str} {p pos : Pos} (T : TabOk X g.fa cls lv tab) (hr : Room lv X.A) (hp : Pz X g cls) (hk : tab[k]? = some en) (hx : x = en.name) (hK : g.K = X.K) (hg : Gl X x)
    (hdb : (x == ("__debug__" : Str)) = false) : PE X (.Call (.Name x p) [] [] pos) (tF g fun ρ => (nilA ρ).bind fun bs => (lenA en.n bs).bind (callV en)) := by
  obtain ⟨f, fd, ps, hm, _, hkp, hb, F⟩ := T.at_ k en hk
  obtain ⟨E', hpass, hE⟩ := hp
  subst hx
  refine PE.imp (pe_callS0 F hr hg hm hkp hb hpass hdb) fun σ H Q h => ?_
  have h2 : tFA g nilA σ H fun vs H1 => spF X.K g.fa cls en.n en.F vs H1 Q (E' σ) := by
    refine runA (r := fun vs H1 Q => spF X.K g.fa cls en.n en.F vs H1 Q (E' σ)) (fun F H vs bs Q s r p => ?_) h
    unfold lenA at p
    split at p
    · rename_i hn
      have := call_run hK (fun c H' => hE c σ H') F H vs bs Q hn s r p
      rw [hgh] at this
      exact this
    · exact p.elim
  obtain ⟨F0, _, s, q⟩ := h2
  exact q [] F0 _ (Grow.refl s.sub) .nil
theorem CT.own0 {cls : Nat → Value} {k : Nat} {tab : List En} {N : List Str} {sc : Scope} {bt : Bt} (C : CT X g cls k tab N sc bt) (j : Nat) {en : En} {x : Str} {p pos : Pos} (hk : tab[j]? = some en) (hx : x = en.name) (hg : dOk sc x = true) (hh : bt.hot = false := by rfl) : PE X (.Call (.Name x p) [] [] pos) (tF g (ownF en nilA)) := by
  unfold dOk at hg
  rw [Bool.and_eq_true, decide_eq_true_eq] at hg
  exact fe_call0 (C.nh hh) C.tab ⟨C.hd hh, C.room.dp, C.room.un⟩ C.pz hk hx C.hK (C.gl hg.1) (nmOk_ok hg.2).1
end
end Fn
namespace P
open PySem L2 Fn
def top (i : Nat) : Stmt := PySem.Challenge.pw_cutstairs_k56_what_houses_are.main.body.getD i (.Pass ⟨0, 0, 0, 0⟩)
def bt0 : Bt := { bi := ["abs", "all", "any", "bool", "enumerate", "int", "isinstance", "len", "list", "max", "min", "range", "set", "sorted", "str", "sum", "tuple"], cs := [("MOST_LETTERS", (.int 8)), ("SMALL", (.str "abcdefghijklmnopqrstuvwxyz")), ("MOST_WANTS", (.int 16))], ex := [], rs := [] }
noncomputable def bt : Bt := { bt0 with hs := [] }
noncomputable def T0 : List En := []
abbrev S_law_edges : Stmt := top 26
def N_law_edges : List Str := ["_law_tools", "_law_wants", "_law_jobs", "_law_found", "_law_five", "_law_k", "_law_tool"]
noncomputable def B_law_edges : Fn.Env → Out := (seqS (thenS (callF tupF (consA (compV (.one 5) (rgF (consA (litI 4) nilA)) yesF (callF tupB (consA (bin2 addB (litS "a") (slcV (litS "bcdefgh") noP (atP (varB 5)))) (consA (litI 1) (consA (litI 0) nilA)))) [5]) nilA)) (setV 0)) (seqS (thenS (callF tupF (consA (compV (.one 6) (itF true (varB 0)) yesF (bin2 idxB (varB 6) (litI 0)) [6]) nilA)) (setV 1)) (seqS (thenS (callF tupF (consA (compV (.one 5) (rgF (consA (litI 4) nilA)) yesF (callF tupB (consA (bin2 mulB (litS "q") (bin2 addB (varB 5) (litI 1))) (consA (litI 1) (consA (litI 1) (consA (varB 1) nilA))))) [5]) nilA)) (setV 2)) (seqS (thenS (callF lstB (consA (callF tupB (consA (litI 9) (consA (varB 2) (consA (varB 0) nilA)))) (consA (callF tupB (consA (litI 9) (consA (bin2 addB (slcV (varB 2) noP (atP (litI 3))) (callF tupB (consA (callF tupB (consA (litS "qqqq") (consA (litI 1) (consA (litI 1) (consA (slcV (varB 1) (atP (litI 1)) noP) nilA))))) nilA))) (consA (varB 0) nilA)))) nilA))) (setV 3)) (seqS (thenS (bin2 addB (varB 3) (callF lstB (consA (callF tupB (consA (litI 9) (consA (varB 2) (consA (bin2 addB (varB 0) (callF tupB (consA (callF tupB (consA (litS "b") (consA (litI 1) (consA (litI 0) nilA)))) nilA))) nilA)))) (consA (callF tupB (consA (litI 9) (consA (callF tupB nilA) (consA (varB 0) nilA)))) (consA (callF tupB (consA (litI 9) (consA (slcV (varB 2) noP (atP (litI 1))) (consA (bin2 addB (varB 0) (slcV (varB 0) noP (atP (litI 1)))) nilA)))) nilA))))) (setV 3)) (seqS (thenS (bin2 addB (varB 0) (callF tupB (consA (callF tupB (consA (litS "b") (consA (litI 1) (consA (litI 0) nilA)))) nilA))) (setL 4)) (seqS (appV 3 (callF tupB (consA (litI 9) (consA (bin2 addB (slcV (varB 2) noP (atP (litI 2))) (callF tupB (consA (callF tupB (consA (litS "qqq") (consA (litI 1) (consA (litI 1) (consA (bin2 addB (varB 1) (callF tupB (consA (litS "b") nilA))) nilA))))) nilA))) (consA (varB 4) nilA))))) (lockS 3 (seqS (thenS (bin2 addB (varB 3) (callF lstB (consA (callF tupB (consA (litI 9) (consA (slcV (varB 2) noP (atP (litI 3))) (consA (varB 4) nilA)))) (consA (callF tupB (consA (litI 1) (consA (callF tupB (consA (callF tupB (consA (litS "x") (consA (litI 99) (consA (litI 99) (consA (callF tupB (consA (litS "y") nilA)) nilA))))) nilA)) (consA (callF tupB (consA (callF tupB (consA (litS "y") (consA (litI 99) (consA (litI 99) nilA)))) nilA)) nilA)))) nilA)))) (setV 3)) (thenS (bin2 addB (varB 3) (callF lstB (consA (callF tupB (consA (litI 9) (consA (callF tupB nilA) (consA (callF tupB (consA (callF tupB (consA (litS "y") (consA (litI 891) (consA (litI 99) nilA)))) nilA)) nilA)))) (consA litN nilA)))) retV))))))))))
noncomputable def E_law_edges : En := ⟨"_law_edges", 0, defF 7 B_law_edges⟩
theorem c_law_edges : callE E_law_edges [] = (E_law_edges.F []).bind retB := (rfl)
theorem d_law_edges (h : [].all okArg = true) : E_law_edges.F [] = outR (B_law_edges [none, none, none, none, none, none, none]) := def_rt (n := 7) (body := B_law_edges) (bs := []) h rfl
noncomputable def T1 : List En := T0 ++ [E_law_edges]
theorem sc_law_edges : FnScope N_law_edges [] (defScope S_law_edges) := ⟨rfl, rfl, rfl, by decide +kernel, rfl, by decide +kernel, by decide +kernel⟩
theorem ok_law_edges {X : Cx} {g : G} {cls : Nat → Value} (C : CS X g cls 0 T0 N_law_edges (defScope S_law_edges) bt) : PSs X (defBody S_law_edges) (tFS g B_law_edges) :=
  (fs_cons (C.asg 0 (C.ct.call C.ct.tup (fa_cons rfl (C.ct.lc [("_law_k", 5)] (C.ct.rg1 fe_int (by decide +kernel) rfl) (fun C1 => ⟨(C1.g1 5 (by decide +kernel)), ifs0, (fe_tup (fa_cons rfl (C1.add fe_str (C1.slc fe_str fo_none (fo_some (C1.var 5 (by decide +kernel))))) (fa_cons rfl fe_int (fa_cons rfl fe_int fa_nil))))⟩) (by decide +kernel)) fa_nil) (by decide +kernel) (by decide +kernel) rfl) (by decide +kernel) rfl) (fs_cons (C.asg 1 (C.ct.call C.ct.tup (fa_cons rfl (C.ct.lc [("_law_tool", 6)] (C.ct.it (C.ct.var 0 (by decide +kernel))) (fun C2 => ⟨(C2.g1 6 (by decide +kernel)), ifs0, (C2.idx (C2.var 6 (by decide +kernel)) fe_int rfl)⟩) (by decide +kernel)) fa_nil) (by decide +kernel) (by decide +kernel) rfl) (by decide +kernel) rfl) (fs_cons (C.asg 2 (C.ct.call C.ct.tup (fa_cons rfl (C.ct.lc [("_law_k", 5)] (C.ct.rg1 fe_int (by decide +kernel) rfl) (fun C3 => ⟨(C3.g1 5 (by decide +kernel)), ifs0, (fe_tup (fa_cons rfl (C3.mul fe_str (C3.add (C3.var 5 (by decide +kernel)) fe_int)) (fa_cons rfl fe_int (fa_cons rfl fe_int (fa_cons rfl (C3.var 1 (by decide +kernel)) fa_nil)))))⟩) (by decide +kernel)) fa_nil) (by decide +kernel) (by decide +kernel) rfl) (by decide +kernel) rfl) (fs_cons (C.asg 3 (fe_lst (fa_cons rfl (fe_tup (fa_cons rfl fe_int (fa_cons rfl (C.ct.var 2 (by decide +kernel)) (fa_cons rfl (C.ct.var 0 (by decide +kernel)) fa_nil)))) (fa_cons rfl (fe_tup (fa_cons rfl fe_int (fa_cons rfl (C.ct.add (C.ct.slc (C.ct.var 2 (by decide +kernel)) fo_none (fo_some fe_int)) (fe_tup (fa_cons rfl (fe_tup (fa_cons rfl fe_str (fa_cons rfl fe_int (fa_cons rfl fe_int (fa_cons rfl (C.ct.slc (C.ct.var 1 (by decide +kernel)) (fo_some fe_int) fo_none) fa_nil))))) fa_nil))) (fa_cons rfl (C.ct.var 0 (by decide +kernel)) fa_nil)))) fa_nil))) (by decide +kernel) rfl) (fs_cons (C.asg 3 (C.ct.add (C.ct.var 3 (by decide +kernel)) (fe_lst (fa_cons rfl (fe_tup (fa_cons rfl fe_int (fa_cons rfl (C.ct.var 2 (by decide +kernel)) (fa_cons rfl (C.ct.add (C.ct.var 0 (by decide +kernel)) (fe_tup (fa_cons rfl (fe_tup (fa_cons rfl fe_str (fa_cons rfl fe_int (fa_cons rfl fe_int fa_nil)))) fa_nil))) fa_nil)))) (fa_cons rfl (fe_tup (fa_cons rfl fe_int (fa_cons rfl (fe_tup fa_nil) (fa_cons rfl (C.ct.var 0 (by decide +kernel)) fa_nil)))) (fa_cons rfl (fe_tup (fa_cons rfl fe_int (fa_cons rfl (C.ct.slc (C.ct.var 2 (by decide +kernel)) fo_none (fo_some fe_int)) (fa_cons rfl (C.ct.add (C.ct.var 0 (by decide +kernel)) (C.ct.slc (C.ct.var 0 (by decide +kernel)) fo_none (fo_some fe_int))) fa_nil)))) fa_nil))))) (by decide +kernel) rfl) (fs_cons (fs_setL (C.asg 4 (C.ct.add (C.ct.var 0 (by decide +kernel)) (fe_tup (fa_cons rfl (fe_tup (fa_cons rfl fe_str (fa_cons rfl fe_int (fa_cons rfl fe_int fa_nil)))) fa_nil))) (by decide +kernel) rfl)) (fs_cons (C.app 3 (fe_tup (fa_cons rfl fe_int (fa_cons rfl (C.ct.add (C.ct.slc (C.ct.var 2 (by decide +kernel)) fo_none (fo_some fe_int)) (fe_tup (fa_cons rfl (fe_tup (fa_cons rfl fe_str (fa_cons rfl fe_int (fa_cons rfl fe_int (fa_cons rfl (C.ct.add (C.ct.var 1 (by decide +kernel)) (fe_tup (fa_cons rfl fe_str fa_nil))) fa_nil))))) fa_nil))) (fa_cons rfl (C.ct.var 4 (by decide +kernel)) fa_nil)))) (by decide +kernel) rfl) (fs_lock 3 (fs_cons (C.asg 3 (C.ct.add (C.ct.var 3 (by decide +kernel)) (fe_lst (fa_cons rfl (fe_tup (fa_cons rfl fe_int (fa_cons rfl (C.ct.slc (C.ct.var 2 (by decide +kernel)) fo_none (fo_some fe_int)) (fa_cons rfl (C.ct.var 4 (by decide +kernel)) fa_nil)))) (fa_cons rfl (fe_tup (fa_cons rfl fe_int (fa_cons rfl (fe_tup (fa_cons rfl (fe_tup (fa_cons rfl fe_str (fa_cons rfl fe_int (fa_cons rfl fe_int (fa_cons rfl (fe_tup (fa_cons rfl fe_str fa_nil)) fa_nil))))) fa_nil)) (fa_cons rfl (fe_tup (fa_cons rfl (fe_tup (fa_cons rfl fe_str (fa_cons rfl fe_int (fa_cons rfl fe_int fa_nil)))) fa_nil)) fa_nil)))) fa_nil)))) (by decide +kernel) rfl) (fs_one (fs_ret (C.ct.add (C.ct.var 3 (by decide +kernel)) (fe_lst (fa_cons rfl (fe_tup (fa_cons rfl fe_int (fa_cons rfl (fe_tup fa_nil) (fa_cons rfl (fe_tup (fa_cons rfl (fe_tup (fa_cons rfl fe_str (fa_cons rfl fe_int (fa_cons rfl fe_int fa_nil)))) fa_nil)) fa_nil)))) (fa_cons rfl fe_non fa_nil)))))))))))))))
abbrev S_law_numbers : Stmt := top 15
def N_law_numbers : List Str := ["_law_cell_here", "_law_many", "_law_found", "_law_state", "_law_digits", "_law_k"]
noncomputable def B_law_numbers_1 : Fn.Env → Out := (forget [5] (seqS (thenS (bin2 modB (bin2 addB (bin2 addB (bin2 mulB (varB 3) (bin2 addB (bin2 modB (varB 3) (litI 65521)) (litI 40487))) (bin2 mulB (litI 7) (varB 5))) (litI 5)) (litI 1999999973)) (setL 3)) (seqS (appV 2 (bin2 idxB (callF lstB (consA (varB 3) (consA (bin2 modB (varB 4) (litI 1000000)) nilA))) (callF intF (consA (bin2 gtF (varB 4) (litI 0)) nilA)))) (thenS (bin2 divB (varB 4) (litI 1000000)) (setL 4)))))
noncomputable def B_law_numbers : Fn.Env → Out := (seqS (thenS (callF lstB nilA) (setV 2)) (seqS (thenS (bin2 modB (bin2 mulB (bin2 addB (bin2 modB (varB 0) (litI 1999999973)) (litI 31)) (litI 765432101)) (litI 1999999973)) (setL 3)) (seqS (thenS (litI 0) (setV 4)) (seqS (iteS (orT (tstF (bin2 ltB (varB 0) (litI 0))) (tstF (bin2 geF (varB 0) (bin2 powB (litI 10) (litI 18))))) (thenS (callF absF (consA (varB 0) nilA)) (setV 4)) nxS) (seqS (forget [3, 4, 5] (forV (.one 5) (rgF (consA (varB 1) nilA)) B_law_numbers_1)) (retN 2))))))
noncomputable def E_law_numbers : En := ⟨"_law_numbers", 2, defF 6 B_law_numbers⟩
theorem c_law_numbers {a0 a1 : B} : callE E_law_numbers [a0, a1] = (E_law_numbers.F [toArg a0, toArg a1]).bind retB := (rfl)
theorem d_law_numbers {a0 a1 : B} (h : [a0, a1].all okArg = true) : E_law_numbers.F [a0, a1] = outR (B_law_numbers [some a0, some a1, none, none, none, none]) := def_rt h rfl
noncomputable def T2 : List En := T1 ++ [E_law_numbers]
theorem sc_law_numbers : FnScope N_law_numbers ["_law_cell_here", "_law_many"] (defScope S_law_numbers) := ⟨rfl, rfl, rfl, by decide +kernel, rfl, by decide +kernel, by decide +kernel⟩
theorem ok_law_numbers {X : Cx} {g : G} {cls : Nat → Value} (C : CS X g cls 1 T1 N_law_numbers (defScope S_law_numbers) bt) : PSs X (defBody S_law_numbers) (tFS g B_law_numbers) :=
  (fs_cons (C.asg 2 (fe_lst fa_nil) (by decide +kernel) rfl) (fs_cons (fs_setL (C.asg 3 (C.ct.mod (C.ct.mul (C.ct.add (C.ct.mod (C.ct.var 0 (by decide +kernel)) fe_int) fe_int) fe_int) fe_int) (by decide +kernel) rfl)) (fs_cons (C.asg 4 fe_int (by decide +kernel) rfl) (fs_cons (fs_if (ft_or (cmpT C.ct.lt (C.ct.var 0 (by decide +kernel)) fe_int rfl) (pw_or1 (cmpT C.ct.ge (C.ct.var 0 (by decide +kernel)) (C.ct.pow fe_int fe_int) rfl))).pt (fs_one (C.asg 4 (C.ct.call C.ct.abs (fa_cons rfl (C.ct.var 0 (by decide +kernel)) fa_nil) (by decide +kernel) (by decide +kernel) rfl) (by decide +kernel) rfl)) fs_nil) (fs_cons (fs_forget [3, 4, 5] (C.fo (C.ct.rg1 (C.ct.var 1 (by decide +kernel)) (by decide +kernel) rfl) (C.g1 5 (by decide +kernel)) (fun _ C => (fs_forgets [5] (fs_cons (fs_setL (C.asg 3 (C.ct.mod (C.ct.add (C.ct.add (C.ct.mul (C.ct.var 3 (by decide +kernel)) (C.ct.add (C.ct.mod (C.ct.var 3 (by decide +kernel)) fe_int) fe_int)) (C.ct.mul fe_int (C.ct.var 5 (by decide +kernel)))) fe_int) fe_int) (by decide +kernel) rfl)) (fs_cons (C.app 2 (C.ct.idx (fe_lst (fa_cons rfl (C.ct.var 3 (by decide +kernel)) (fa_cons rfl (C.ct.mod (C.ct.var 4 (by decide +kernel)) fe_int) fa_nil))) (C.ct.call C.ct.int (fa_cons rfl (cmpE C.ct.gt (C.ct.var 4 (by decide +kernel)) fe_int rfl) fa_nil) (by decide +kernel) (by decide +kernel) rfl) rfl) (by decide +kernel) rfl) (fs_one (fs_setL (C.asg 4 (C.ct.div (C.ct.var 4 (by decide +kernel)) fe_int) (by decide +kernel) rfl))))))) rfl)) (fs_one (C.rn 2 (by decide +kernel))))))))
abbrev S_law_cell : Stmt := top 14
def N_law_cell : List Str := ["_law_script", "_law_k", "_law_state", "_law_cell_here"]
noncomputable def B_law_cell_1 : Fn.Env → Out := (forget [3] (thenS (bin2 modB (bin2 addB (bin2 mulB (varB 2) (litI 69621)) (varB 3)) (litI 2147483647)) (setL 2)))
noncomputable def B_law_cell : Fn.Env → Out := (seqS (iteS (tstF (bin2 ltB (varB 1) (callF lenB (consA (varB 0) nilA)))) (thenS (bin2 idxB (varB 0) (varB 1)) retV) nxS) (seqS (thenS (bin2 modB (bin2 mulB (litI 48271) (bin2 addB (bin2 addB (bin2 mulB (varB 1) (varB 1)) (bin2 mulB (litI 7) (varB 1))) (litI 11))) (litI 2147483647)) (setL 2)) (seqS (forget [3] (forV (.one 3) (itF false (slcV (varB 0) noP (atP (litI 3)))) B_law_cell_1)) (retN 2))))
noncomputable def E_law_cell : En := ⟨"_law_cell", 2, defF 4 B_law_cell⟩
theorem c_law_cell {a0 a1 : B} : callE E_law_cell [a0, a1] = (E_law_cell.F [toArg a0, toArg a1]).bind retB := (rfl)
theorem d_law_cell {a0 a1 : B} (h : [a0, a1].all okArg = true) : E_law_cell.F [a0, a1] = outR (B_law_cell [some a0, some a1, none, none]) := def_rt h rfl
noncomputable def T3 : List En := T2 ++ [E_law_cell]
theorem sc_law_cell : FnScope N_law_cell ["_law_script", "_law_k"] (defScope S_law_cell) := ⟨rfl, rfl, rfl, by decide +kernel, rfl, by decide +kernel, by decide +kernel⟩
theorem ok_law_cell {X : Cx} {g : G} {cls : Nat → Value} (C : CS X g cls 2 T2 N_law_cell (defScope S_law_cell) bt) : PSs X (defBody S_law_cell) (tFS g B_law_cell) :=
  (fs_cons (fs_if (cmpT C.ct.lt (C.ct.var 1 (by decide +kernel)) (C.ct.call C.ct.len (fa_cons rfl (C.ct.var 0 (by decide +kernel)) fa_nil) (by decide +kernel) (by decide +kernel) rfl) rfl) (fs_one (fs_ret (C.ct.idx (C.ct.var 0 (by decide +kernel)) (C.ct.var 1 (by decide +kernel)) rfl))) fs_nil) (fs_cons (fs_setL (C.asg 2 (C.ct.mod (C.ct.mul fe_int (C.ct.add (C.ct.add (C.ct.mul (C.ct.var 1 (by decide +kernel)) (C.ct.var 1 (by decide +kernel))) (C.ct.mul fe_int (C.ct.var 1 (by decide +kernel)))) fe_int)) fe_int) (by decide +kernel) rfl)) (fs_cons (fs_forget [3] (C.fo (C.ct.it (C.ct.slc (C.ct.var 0 (by decide +kernel)) fo_none (fo_some fe_int))) (C.g1 3 (by decide +kernel)) (fun _ C => (fs_forgets [3] (fs_one (fs_setL (C.asg 2 (C.ct.mod (C.ct.add (C.ct.mul (C.ct.var 2 (by decide +kernel)) fe_int) (C.ct.var 3 (by decide +kernel))) fe_int) (by decide +kernel) rfl))))) rfl)) (fs_one (C.rn 2 (by decide +kernel))))))
abbrev S_law_names_v3 : Stmt := top 16
def N_law_names_v3 : List Str := ["_law_xs", "_law_many", "_law_letters", "_law_found", "_law_k", "_law_name_here", "_law_middle"]
noncomputable def B_law_names_v3_1 : Fn.Env → Out := (forget [4, 5, 6] (seqS (thenS (bin2 mulB (bin2 idxB (varB 2) (bin2 modB (bin2 addB (bin2 idxB (varB 0) (litI 0)) (bin2 mulB (litI 7) (varB 4))) (litI 26))) (bin2 addB (litI 1) (bin2 modB (bin2 addB (bin2 idxB (varB 0) (litI 2)) (bin2 mulB (litI 3) (varB 4))) (bin2 idxB (callF lstB (consA (litI 1) (consA (litI 5) nilA))) (bin2 modB (bin2 idxB (varB 0) (litI 3)) (litI 2)))))) (setL 5)) (seqS (iteS (tstF (bin2 eqB (bin2 modB (bin2 idxB (varB 0) (litI 1)) (litI 4)) (litI 1))) (thenS (bin2 addB (bin2 idxB (litS "abcdefgh") (varB 4)) (bin2 mulB (bin2 idxB (varB 2) (bin2 modB (bin2 idxB (varB 0) (litI 2)) (litI 26))) (bin2 modB (bin2 idxB (varB 0) (litI 3)) (litI 8)))) (setL 5)) nxS) (seqS (iteS (tstF (bin2 eqB (bin2 modB (bin2 idxB (varB 0) (litI 1)) (litI 4)) (litI 2))) (thenS (bin2 mulB (bin2 idxB (varB 2) (bin2 modB (bin2 idxB (varB 0) (litI 2)) (litI 26))) (bin2 addB (litI 1) (varB 4))) (setL 5)) nxS) (seqS (forget [6] (iteS (tstF (bin2 eqB (bin2 modB (bin2 idxB (varB 0) (litI 1)) (litI 4)) (litI 3))) (seqS (thenS (bin2 idxB (varB 2) (bin2 modB (bin2 addB (bin2 idxB (varB 0) (litI 3)) (bin2 mulB (litI 5) (varB 4))) (litI 26))) (setL 6)) (thenS (bin2 addB (bin2 addB (bin2 idxB (varB 2) (bin2 modB (bin2 idxB (varB 0) (litI 2)) (litI 26))) (varB 6)) (bin2 idxB (varB 2) (bin2 modB (bin2 idxB (varB 0) (litI 0)) (litI 26)))) (setL 5))) nxS)) (appV 3 (varB 5)))))))
noncomputable def B_law_names_v3 : Fn.Env → Out := (seqS (thenS (litS "abcdefghijklmnopqrstuvwxyz") (setV 2)) (seqS (thenS (callF lstB nilA) (setV 3)) (seqS (forget [4, 5, 6] (forV (.one 4) (rgF (consA (varB 1) nilA)) B_law_names_v3_1)) (lockS 3 (thenS (callF sortG (consA (varB 3) nilA)) retV)))))
noncomputable def E_law_names_v3 : En := ⟨"_law_names", 2, defF 7 B_law_names_v3⟩
theorem c_law_names_v3 {a0 a1 : B} : callE E_law_names_v3 [a0, a1] = (E_law_names_v3.F [toArg a0, toArg a1]).bind retB := (rfl)
theorem d_law_names_v3 {a0 a1 : B} (h : [a0, a1].all okArg = true) : E_law_names_v3.F [a0, a1] = outR (B_law_names_v3 [some a0, some a1, none, none, none, none, none]) := def_rt h rfl
noncomputable def T4 : List En := T3 ++ [E_law_names_v3]
theorem sc_law_names_v3 : FnScope N_law_names_v3 ["_law_xs", "_law_many"] (defScope S_law_names_v3) := ⟨rfl, rfl, rfl, by decide +kernel, rfl, by decide +kernel, by decide +kernel⟩
theorem ok_law_names_v3 {X : Cx} {g : G} {cls : Nat → Value} (C : CS X g cls 3 T3 N_law_names_v3 (defScope S_law_names_v3) bt) : PSs X (defBody S_law_names_v3) (tFS g B_law_names_v3) :=
  (fs_cons (C.asg 2 fe_str (by decide +kernel) rfl) (fs_cons (C.asg 3 (fe_lst fa_nil) (by decide +kernel) rfl) (fs_cons (fs_forget [4, 5, 6] (C.fo (C.ct.rg1 (C.ct.var 1 (by decide +kernel)) (by decide +kernel) rfl) (C.g1 4 (by decide +kernel)) (fun _ C => (fs_forgets [4, 5, 6] (fs_cons (fs_setL (C.asg 5 (C.ct.mul (C.ct.idx (C.ct.var 2 (by decide +kernel)) (C.ct.mod (C.ct.add (C.ct.idx (C.ct.var 0 (by decide +kernel)) fe_int rfl) (C.ct.mul fe_int (C.ct.var 4 (by decide +kernel)))) fe_int) rfl) (C.ct.add fe_int (C.ct.mod (C.ct.add (C.ct.idx (C.ct.var 0 (by decide +kernel)) fe_int rfl) (C.ct.mul fe_int (C.ct.var 4 (by decide +kernel)))) (C.ct.idx (fe_lst (fa_cons rfl fe_int (fa_cons rfl fe_int fa_nil))) (C.ct.mod (C.ct.idx (C.ct.var 0 (by decide +kernel)) fe_int rfl) fe_int) rfl)))) (by decide +kernel) rfl)) (fs_cons (fs_if (cmpT C.ct.eq (C.ct.mod (C.ct.idx (C.ct.var 0 (by decide +kernel)) fe_int rfl) fe_int) fe_int rfl) (fs_one (fs_setL (C.asg 5 (C.ct.add (C.ct.idx fe_str (C.ct.var 4 (by decide +kernel)) rfl) (C.ct.mul (C.ct.idx (C.ct.var 2 (by decide +kernel)) (C.ct.mod (C.ct.idx (C.ct.var 0 (by decide +kernel)) fe_int rfl) fe_int) rfl) (C.ct.mod (C.ct.idx (C.ct.var 0 (by decide +kernel)) fe_int rfl) fe_int))) (by decide +kernel) rfl))) fs_nil) (fs_cons (fs_if (cmpT C.ct.eq (C.ct.mod (C.ct.idx (C.ct.var 0 (by decide +kernel)) fe_int rfl) fe_int) fe_int rfl) (fs_one (fs_setL (C.asg 5 (C.ct.mul (C.ct.idx (C.ct.var 2 (by decide +kernel)) (C.ct.mod (C.ct.idx (C.ct.var 0 (by decide +kernel)) fe_int rfl) fe_int) rfl) (C.ct.add fe_int (C.ct.var 4 (by decide +kernel)))) (by decide +kernel) rfl))) fs_nil) (fs_cons (fs_forget [6] (fs_if (cmpT C.ct.eq (C.ct.mod (C.ct.idx (C.ct.var 0 (by decide +kernel)) fe_int rfl) fe_int) fe_int rfl) (fs_cons (fs_setL (C.asg 6 (C.ct.idx (C.ct.var 2 (by decide +kernel)) (C.ct.mod (C.ct.add (C.ct.idx (C.ct.var 0 (by decide +kernel)) fe_int rfl) (C.ct.mul fe_int (C.ct.var 4 (by decide +kernel)))) fe_int) rfl) (by decide +kernel) rfl)) (fs_one (fs_setL (C.asg 5 (C.ct.add (C.ct.add (C.ct.idx (C.ct.var 2 (by decide +kernel)) (C.ct.mod (C.ct.idx (C.ct.var 0 (by decide +kernel)) fe_int rfl) fe_int) rfl) (C.ct.var 6 (by decide +kernel))) (C.ct.idx (C.ct.var 2 (by decide +kernel)) (C.ct.mod (C.ct.idx (C.ct.var 0 (by decide +kernel)) fe_int rfl) fe_int) rfl)) (by decide +kernel) rfl)))) fs_nil)) (fs_one (C.app 3 (C.ct.var 5 (by decide +kernel)) (by decide +kernel) rfl)))))))) rfl)) (fs_lock 3 (fs_one (fs_ret (C.ct.call C.ct.sortG (fa_cons rfl (C.ct.var 3 (by decide +kernel)) fa_nil) (by decide +kernel) (by decide +kernel) rfl)))))))
abbrev S_law_house_v2 : Stmt := top 17
def N_law_house_v2 : List Str := ["_law_script", "_law_at", "_law_xs", "_law_top", "_law_many", "_law_names_here", "_law_some", "_law_tools", "_law_k", "_law_ys", "_law_falls", "_law_cost", "_law_jobs", "_law_left", "_law_name_here", "_law_wants", "_law_most"]
noncomputable def B_law_house_v2_1 : Fn.Env → Out := (forget [9, 10, 11] (seqS (thenS (ownF E_law_numbers (consA (ownF E_law_cell (consA (varB 0) (consA (bin2 addB (bin2 addB (varB 1) (litI 1)) (varB 8)) nilA))) (consA (litI 14) nilA))) (setL 9)) (seqS (thenS (bin2 modB (bin2 idxB (varB 9) (litI 0)) (bin2 idxB (callF lstB (consA (litI 3) (consA (litI 6) (consA (litI 100) nilA)))) (bin2 modB (bin2 idxB (varB 9) (litI 1)) (litI 3)))) (setL 10)) (seqS (thenS (bin2 addB (bin2 mulB (varB 10) (varB 3)) (bin2 modB (bin2 idxB (varB 9) (litI 2)) (bin2 idxB (callF lstB (consA (litI 6) (consA (litI 40) (consA (bin2 subB (litI 1000) (bin2 mulB (litI 99) (litI 9))) nilA)))) (bin2 modB (bin2 idxB (varB 9) (litI 3)) (litI 3))))) (setL 11)) (appV 7 (callF tupB (consA (bin2 idxB (varB 6) (varB 8)) (consA (varB 11) (consA (varB 10) nilA)))))))))
noncomputable def B_law_house_v2_2 : Fn.Env → Out := (forget [9, 14, 15, 16] (forget [9, 15, 16] (iteS (tstF (bin2 (inB true) (varB 14) (varB 6))) (seqS (thenS (ownF E_law_numbers (consA (ownF E_law_cell (consA (varB 0) (consA (bin2 addB (bin2 addB (bin2 addB (varB 1) (litI 1)) (callF lenB (consA (varB 7) nilA))) (callF lenB (consA (varB 12) nilA))) nilA))) (consA (litI 14) nilA))) (setL 9)) (seqS (thenS (callF tupF (consA (slcV (compV (.one 8) (rgF (consA (callF lenB (consA (varB 6) nilA)) nilA)) (tstF (bin2 eqB (bin2 modB (bin2 idxB (varB 9) (bin2 addB (litI 4) (varB 8))) (litI 3)) (litI 1))) (bin2 idxB (varB 6) (varB 8)) [8]) noP (atP (varB 13))) nilA)) (setV 15)) (seqS (thenS (bin2 subB (varB 13) (callF lenB (consA (varB 15) nilA))) (setL 13)) (seqS (thenS (bin2 idxB (callF lstB (consA (litI 5) (consA (litI 20) (consA (litI 100) nilA)))) (bin2 modB (bin2 idxB (varB 9) (litI 1)) (litI 3))) (setL 16)) (appV 12 (callF tupB (consA (varB 14) (consA (bin2 modB (bin2 idxB (varB 9) (litI 2)) (varB 16)) (consA (bin2 modB (bin2 idxB (varB 9) (litI 3)) (bin2 idxB (callF lstB (consA (litI 2) (consA (litI 6) (consA (litI 100) nilA)))) (bin2 modB (bin2 divB (bin2 idxB (varB 9) (litI 1)) (litI 3)) (litI 3)))) (consA (varB 15) nilA)))))))))) nxS)))
noncomputable def B_law_house_v2 : Fn.Env → Out := (seqS (thenS (ownF E_law_numbers (consA (ownF E_law_cell (consA (varB 0) (consA (varB 1) nilA))) (consA (litI 16) nilA))) (setL 2)) (seqS (thenS (bin2 addB (litI 1) (bin2 modB (bin2 idxB (varB 2) (litI 4)) (litI 9))) (setL 3)) (seqS (thenS (bin2 addB (litI 1) (bin2 modB (bin2 idxB (varB 2) (litI 5)) (bin2 idxB (callF lstB (consA (litI 4) (consA (litI 6) (consA (litI 8) nilA)))) (bin2 modB (bin2 idxB (varB 2) (litI 6)) (litI 3))))) (setL 4)) (seqS (thenS (ownF E_law_names_v3 (consA (varB 2) (consA (varB 4) nilA))) (setL 5)) (seqS (thenS (compV (.many [8, 14]) (enF true (consA (varB 5) nilA)) (tstF (bin2 eqB (bin2 modB (bin2 divB (bin2 divB (bin2 idxB (varB 2) (litI 7)) (litI 2)) (bin2 idxB (callF lstB (consA (litI 1) (consA (litI 2) (consA (litI 4) (consA (litI 8) (consA (litI 16) (consA (litI 32) (consA (litI 64) (consA (litI 128) nilA))))))))) (varB 8))) (litI 2)) (litI 0))) (varB 14) [8, 14]) (setL 6)) (seqS (thenS (callF lstB nilA) (setV 7)) (seqS (forget [9, 10, 11] (forV (.one 8) (rgF (consA (callF lenB (consA (varB 6) nilA)) nilA)) B_law_house_v2_1)) (lockS 7 (seqS (thenS (callF lstB nilA) (setV 12)) (seqS (thenS (litI 16) (setV 13)) (seqS (forget [9, 13, 14, 15, 16] (forV (.one 14) (itF false (varB 5)) B_law_house_v2_2)) (lockS 12 (thenS (callF tupB (consA (varB 3) (consA (callF tupF (consA (varB 12) nilA)) (consA (callF tupF (consA (varB 7) nilA)) nilA)))) retV)))))))))))))
noncomputable def E_law_house_v2 : En := ⟨"_law_house", 2, defF 17 B_law_house_v2⟩
theorem c_law_house_v2 {a0 a1 : B} : callE E_law_house_v2 [a0, a1] = (E_law_house_v2.F [toArg a0, toArg a1]).bind retB := (rfl)
theorem d_law_house_v2 {a0 a1 : B} (h : [a0, a1].all okArg = true) : E_law_house_v2.F [a0, a1] = outR (B_law_house_v2 [some a0, some a1, none, none, none, none, none, none, none, none, none, none, none, none, none, none, none]) := def_rt h rfl
noncomputable def T5 : List En := T4 ++ [E_law_house_v2]
theorem sc_law_house_v2 : FnScope N_law_house_v2 ["_law_script", "_law_at"] (defScope S_law_house_v2) := ⟨rfl, rfl, rfl, by decide +kernel, rfl, by decide +kernel, by decide +kernel⟩
theorem ok_law_house_v2 {X : Cx} {g : G} {cls : Nat → Value} (C : CS X g cls 4 T4 N_law_house_v2 (defScope S_law_house_v2) bt) : PSs X (defBody S_law_house_v2) (tFS g B_law_house_v2) :=
  (fs_cons (fs_setL (C.asg 2 (C.ct.own 1 (fa_cons rfl (C.ct.own 2 (fa_cons rfl (C.ct.var 0 (by decide +kernel)) (fa_cons rfl (C.ct.var 1 (by decide +kernel)) fa_nil)) rfl rfl (by decide +kernel) rfl) (fa_cons rfl fe_int fa_nil)) rfl rfl (by decide +kernel) rfl) (by decide +kernel) rfl)) (fs_cons (fs_setL (C.asg 3 (C.ct.add fe_int (C.ct.mod (C.ct.idx (C.ct.var 2 (by decide +kernel)) fe_int rfl) fe_int)) (by decide +kernel) rfl)) (fs_cons (fs_setL (C.asg 4 (C.ct.add fe_int (C.ct.mod (C.ct.idx (C.ct.var 2 (by decide +kernel)) fe_int rfl) (C.ct.idx (fe_lst (fa_cons rfl fe_int (fa_cons rfl fe_int (fa_cons rfl fe_int fa_nil)))) (C.ct.mod (C.ct.idx (C.ct.var 2 (by decide +kernel)) fe_int rfl) fe_int) rfl))) (by decide +kernel) rfl)) (fs_cons (fs_setL (C.asg 5 (C.ct.own 3 (fa_cons rfl (C.ct.var 2 (by decide +kernel)) (fa_cons rfl (C.ct.var 4 (by decide +kernel)) fa_nil)) rfl rfl (by decide +kernel) rfl) (by decide +kernel) rfl)) (fs_cons (fs_setL (C.asgLc 6 [("_law_k", 8), ("_law_name_here", 14)] (C.ct.enu (C.ct.var 5 (by decide +kernel)) (by decide +kernel) rfl) (fun C1 => ⟨(C1.gm [8, 14] (by decide +kernel)), (ifs1 (cmpT C1.eq (C1.mod (C1.div (C1.div (C1.idx (C1.var 2 (by decide +kernel)) fe_int rfl) fe_int) (C1.idx (fe_lst (fa_cons rfl fe_int (fa_cons rfl fe_int (fa_cons rfl fe_int (fa_cons rfl fe_int (fa_cons rfl fe_int (fa_cons rfl fe_int (fa_cons rfl fe_int (fa_cons rfl fe_int fa_nil))))))))) (C1.var 8 (by decide +kernel)) rfl)) fe_int) fe_int rfl)), (C1.var 14 (by decide +kernel))⟩) (by decide +kernel) (by decide +kernel))) (fs_cons (C.asg 7 (fe_lst fa_nil) (by decide +kernel) rfl) (fs_cons (fs_forget [9, 10, 11] (C.fo (C.ct.rg1 (C.ct.call C.ct.len (fa_cons rfl (C.ct.var 6 (by decide +kernel)) fa_nil) (by decide +kernel) (by decide +kernel) rfl) (by decide +kernel) rfl) (C.g1 8 (by decide +kernel)) (fun _ C => (fs_forgets [9, 10, 11] (fs_cons (fs_setL (C.asg 9 (C.ct.own 1 (fa_cons rfl (C.ct.own 2 (fa_cons rfl (C.ct.var 0 (by decide +kernel)) (fa_cons rfl (C.ct.add (C.ct.add (C.ct.var 1 (by decide +kernel)) fe_int) (C.ct.var 8 (by decide +kernel))) fa_nil)) rfl rfl (by decide +kernel) rfl) (fa_cons rfl fe_int fa_nil)) rfl rfl (by decide +kernel) rfl) (by decide +kernel) rfl)) (fs_cons (fs_setL (C.asg 10 (C.ct.mod (C.ct.idx (C.ct.var 9 (by decide +kernel)) fe_int rfl) (C.ct.idx (fe_lst (fa_cons rfl fe_int (fa_cons rfl fe_int (fa_cons rfl fe_int fa_nil)))) (C.ct.mod (C.ct.idx (C.ct.var 9 (by decide +kernel)) fe_int rfl) fe_int) rfl)) (by decide +kernel) rfl)) (fs_cons (fs_setL (C.asg 11 (C.ct.add (C.ct.mul (C.ct.var 10 (by decide +kernel)) (C.ct.var 3 (by decide +kernel))) (C.ct.mod (C.ct.idx (C.ct.var 9 (by decide +kernel)) fe_int rfl) (C.ct.idx (fe_lst (fa_cons rfl fe_int (fa_cons rfl fe_int (fa_cons rfl (C.ct.sub fe_int (C.ct.mul fe_int fe_int)) fa_nil)))) (C.ct.mod (C.ct.idx (C.ct.var 9 (by decide +kernel)) fe_int rfl) fe_int) rfl))) (by decide +kernel) rfl)) (fs_one (C.app 7 (fe_tup (fa_cons rfl (C.ct.idx (C.ct.var 6 (by decide +kernel)) (C.ct.var 8 (by decide +kernel)) rfl) (fa_cons rfl (C.ct.var 11 (by decide +kernel)) (fa_cons rfl (C.ct.var 10 (by decide +kernel)) fa_nil)))) (by decide +kernel) rfl))))))) rfl)) (fs_lock 7 (fs_cons (C.asg 12 (fe_lst fa_nil) (by decide +kernel) rfl) (fs_cons (C.asg 13 fe_int (by decide +kernel) rfl) (fs_cons (fs_forget [9, 13, 14, 15, 16] (C.fo (C.ct.it (C.ct.var 5 (by decide +kernel))) (C.g1 14 (by decide +kernel)) (fun _ C => (fs_forgets [9, 14, 15, 16] (fs_one (fs_forget [9, 15, 16] (fs_if (cmpT C.ct.nin (C.ct.var 14 (by decide +kernel)) (C.ct.var 6 (by decide +kernel)) rfl) (fs_cons (fs_setL (C.asg 9 (C.ct.own 1 (fa_cons rfl (C.ct.own 2 (fa_cons rfl (C.ct.var 0 (by decide +kernel)) (fa_cons rfl (C.ct.add (C.ct.add (C.ct.add (C.ct.var 1 (by decide +kernel)) fe_int) (C.ct.call C.ct.len (fa_cons rfl (C.ct.var 7 (by decide +kernel)) fa_nil) (by decide +kernel) (by decide +kernel) rfl)) (C.ct.call C.ct.len (fa_cons rfl (C.ct.var 12 (by decide +kernel)) fa_nil) (by decide +kernel) (by decide +kernel) rfl)) fa_nil)) rfl rfl (by decide +kernel) rfl) (fa_cons rfl fe_int fa_nil)) rfl rfl (by decide +kernel) rfl) (by decide +kernel) rfl)) (fs_cons (C.asg 15 (C.ct.call C.ct.tup (fa_cons rfl (C.ct.slc (C.ct.lc [("_law_k", 8)] (C.ct.rg1 (C.ct.call C.ct.len (fa_cons rfl (C.ct.var 6 (by decide +kernel)) fa_nil) (by decide +kernel) (by decide +kernel) rfl) (by decide +kernel) rfl) (fun C2 => ⟨(C2.g1 8 (by decide +kernel)), (ifs1 (cmpT C2.eq (C2.mod (C2.idx (C2.var 9 (by decide +kernel)) (C2.add fe_int (C2.var 8 (by decide +kernel))) rfl) fe_int) fe_int rfl)), (C2.idx (C2.var 6 (by decide +kernel)) (C2.var 8 (by decide +kernel)) rfl)⟩) (by decide +kernel)) fo_none (fo_some (C.ct.var 13 (by decide +kernel)))) fa_nil) (by decide +kernel) (by decide +kernel) rfl) (by decide +kernel) rfl) (fs_cons (fs_setL (C.asg 13 (C.ct.sub (C.ct.var 13 (by decide +kernel)) (C.ct.call C.ct.len (fa_cons rfl (C.ct.var 15 (by decide +kernel)) fa_nil) (by decide +kernel) (by decide +kernel) rfl)) (by decide +kernel) rfl)) (fs_cons (fs_setL (C.asg 16 (C.ct.idx (fe_lst (fa_cons rfl fe_int (fa_cons rfl fe_int (fa_cons rfl fe_int fa_nil)))) (C.ct.mod (C.ct.idx (C.ct.var 9 (by decide +kernel)) fe_int rfl) fe_int) rfl) (by decide +kernel) rfl)) (fs_one (C.app 12 (fe_tup (fa_cons rfl (C.ct.var 14 (by decide +kernel)) (fa_cons rfl (C.ct.mod (C.ct.idx (C.ct.var 9 (by decide +kernel)) fe_int rfl) (C.ct.var 16 (by decide +kernel))) (fa_cons rfl (C.ct.mod (C.ct.idx (C.ct.var 9 (by decide +kernel)) fe_int rfl) (C.ct.idx (fe_lst (fa_cons rfl fe_int (fa_cons rfl fe_int (fa_cons rfl fe_int fa_nil)))) (C.ct.mod (C.ct.div (C.ct.idx (C.ct.var 9 (by decide +kernel)) fe_int rfl) fe_int) fe_int) rfl)) (fa_cons rfl (C.ct.var 15 (by decide +kernel)) fa_nil))))) (by decide +kernel) rfl)))))) fs_nil))))) rfl)) (fs_lock 12 (fs_one (fs_ret (fe_tup (fa_cons rfl (C.ct.var 3 (by decide +kernel)) (fa_cons rfl (C.ct.call C.ct.tup (fa_cons rfl (C.ct.var 12 (by decide +kernel)) fa_nil) (by decide +kernel) (by decide +kernel) rfl) (fa_cons rfl (C.ct.call C.ct.tup (fa_cons rfl (C.ct.var 7 (by decide +kernel)) fa_nil) (by decide +kernel) (by decide +kernel) rfl) fa_nil))))))))))))))))))
abbrev S_law_sign : Stmt := top 23
def N_law_sign : List Str := ["_law_x", "_law_signs"]
noncomputable def B_law_sign : Fn.Env → Out := (seqS (thenS (litS " !#$&'()*+,-./0123456789:;<=>?@ABCDEFGHIJKLMNOPQRSTUVWXYZ[]^_abcdefghijklmnopqrstuvwxyz{|}~") (setV 1)) (seqS (thenS (bin2 addB (varB 1) (litS "\n\"\\`")) (setL 1)) (thenS (bin2 idxB (varB 1) (bin2 modB (varB 0) (callF lenB (consA (varB 1) nilA)))) retV)))
noncomputable def E_law_sign : En := ⟨"_law_sign", 1, defF 2 B_law_sign⟩
theorem c_law_sign {a0 : B} : callE E_law_sign [a0] = (E_law_sign.F [toArg a0]).bind retB := (rfl)
theorem d_law_sign {a0 : B} (h : [a0].all okArg = true) : E_law_sign.F [a0] = outR (B_law_sign [some a0, none]) := def_rt h rfl
noncomputable def T6 : List En := T5 ++ [E_law_sign]
theorem sc_law_sign : FnScope N_law_sign ["_law_x"] (defScope S_law_sign) := ⟨rfl, rfl, rfl, by decide +kernel, rfl, by decide +kernel, by decide +kernel⟩
theorem ok_law_sign {X : Cx} {g : G} {cls : Nat → Value} (C : CS X g cls 5 T5 N_law_sign (defScope S_law_sign) bt) : PSs X (defBody S_law_sign) (tFS g B_law_sign) :=
  (fs_cons (C.asg 1 fe_str (by decide +kernel) rfl) (fs_cons (fs_setL (C.asg 1 (C.ct.add (C.ct.var 1 (by decide +kernel)) fe_str) (by decide +kernel) rfl)) (fs_one (fs_ret (C.ct.idx (C.ct.var 1 (by decide +kernel)) (C.ct.mod (C.ct.var 0 (by decide +kernel)) (C.ct.call C.ct.len (fa_cons rfl (C.ct.var 1 (by decide +kernel)) fa_nil) (by decide +kernel) (by decide +kernel) rfl)) rfl)))))
abbrev S_law_put_v3 : Stmt := top 22
def N_law_put_v3 : List Str := ["_law_row_here", "_law_k", "_law_thing"]
noncomputable def B_law_put_v3 : Fn.Env → Out := (thenS (bin2 addB (bin2 addB (slcV (varB 0) noP (atP (varB 1))) (callF tupB (consA (varB 2) nilA))) (slcV (varB 0) (atP (bin2 addB (varB 1) (litI 1))) noP)) retV)
noncomputable def E_law_put_v3 : En := ⟨"_law_put", 3, defF 3 B_law_put_v3⟩
theorem c_law_put_v3 {a0 a1 a2 : B} : callE E_law_put_v3 [a0, a1, a2] = (E_law_put_v3.F [toArg a0, toArg a1, toArg a2]).bind retB := (rfl)
theorem d_law_put_v3 {a0 a1 a2 : B} (h : [a0, a1, a2].all okArg = true) : E_law_put_v3.F [a0, a1, a2] = outR (B_law_put_v3 [some a0, some a1, some a2]) := def_rt h rfl
noncomputable def T7 : List En := T6 ++ [E_law_put_v3]
theorem sc_law_put_v3 : FnScope N_law_put_v3 ["_law_row_here", "_law_k", "_law_thing"] (defScope S_law_put_v3) := ⟨rfl, rfl, rfl, by decide +kernel, rfl, by decide +kernel, by decide +kernel⟩
theorem ok_law_put_v3 {X : Cx} {g : G} {cls : Nat → Value} (C : CS X g cls 6 T6 N_law_put_v3 (defScope S_law_put_v3) bt) : PSs X (defBody S_law_put_v3) (tFS g B_law_put_v3) :=
  (fs_one (fs_ret (C.ct.add (C.ct.add (C.ct.slc (C.ct.var 0 (by decide +kernel)) fo_none (fo_some (C.ct.var 1 (by decide +kernel)))) (fe_tup (fa_cons rfl (C.ct.var 2 (by decide +kernel)) fa_nil))) (C.ct.slc (C.ct.var 0 (by decide +kernel)) (fo_some (C.ct.add (C.ct.var 1 (by decide +kernel)) fe_int)) fo_none))))
abbrev S_law_spoilt_row : Stmt := top 24
def N_law_spoilt_row : List Str := ["_law_row_here", "_law_xs", "_law_top", "_law_other", "_law_odd", "_law_names_here", "_law_at", "_law_name_here", "_law_wants"]
noncomputable def B_law_spoilt_row : Fn.Env → Out := (seqS (thenS (callF lstB (consA (litI 0) (consA (litI 99) (consA (litI 100) (consA (one1 negB (litI 1)) (consA (litB true) (consA litN (consA (litI 999) (consA (litI 1000) (consA (litS "0") (consA (callF tupB nilA) (consA (callF lstB nilA) (consA (bin2 mulB (litI 99) (varB 2)) (consA (litI 891) (consA (callF tupB (consA (litI 1) (consA (litI 1) nilA))) nilA))))))))))))))) (setL 4)) (seqS (forget [5, 6, 7] (iteS (tstF (bin2 eqB (bin2 modB (bin2 idxB (varB 1) (litI 0)) (litI 4)) (litI 0))) (seqS (thenS (callF lstB (consA (litS "") (consA (litS "A") (consA (litS "ninesigns") (consA (litI 7) (consA litN (consA (litS "a b") (consA (callF tupB (consA (litS "a") nilA)) (consA (litS "zzzzzzzz") (consA (litS "z") (consA (litS "none") (consA (bin2 addB (bin2 idxB (varB 0) (litI 0)) (litS "\n")) (consA (callF lstB nilA) (consA (varB 3) nilA)))))))))))))) (setL 5)) (seqS (thenS (bin2 modB (bin2 idxB (varB 1) (litI 2)) (callF lenB (consA (bin2 idxB (varB 0) (litI 0)) nilA))) (setL 6)) (seqS (thenS (bin2 addB (bin2 addB (slcV (bin2 idxB (varB 0) (litI 0)) noP (atP (varB 6))) (ownF E_law_sign (consA (bin2 divB (bin2 idxB (varB 1) (litI 2)) (litI 8)) nilA))) (slcV (bin2 idxB (varB 0) (litI 0)) (atP (bin2 addB (varB 6) (litI 1))) noP)) (setL 7)) (thenS (ownF E_law_put_v3 (consA (varB 0) (consA (litI 0) (consA (bin2 idxB (bin2 addB (varB 5) (bin2 repLB (callF lstB (consA (varB 7) nilA)) (litI 13))) (bin2 modB (bin2 idxB (varB 1) (litI 1)) (litI 26))) nilA)))) retV)))) nxS)) (seqS (iteS (tstF (bin2 eqB (bin2 modB (bin2 idxB (varB 1) (litI 0)) (litI 4)) (litI 1))) (thenS (bin2 idxB (callF lstB (consA (callF Fn.lstG (consA (varB 0) nilA)) (consA (slcV (varB 0) noP (atP (one1 negB (litI 1)))) (consA (bin2 addB (varB 0) (callF tupB (consA (litI 0) nilA))) (consA (one1 backB (varB 0)) (consA litN (consA (litI 7) (consA (litS "abcd") (consA newK nilA))))))))) (bin2 modB (bin2 idxB (varB 1) (litI 1)) (litI 8))) retV) nxS) (seqS (forget [8] (iteS (andT (tstF (bin2 eqB (bin2 modB (bin2 idxB (varB 1) (litI 0)) (litI 4)) (litI 2))) (tstF (bin2 eqB (callF lenB (consA (varB 0) nilA)) (litI 4)))) (seqS (thenS (callF lstB (consA (callF Fn.lstG (consA (bin2 idxB (varB 0) (litI 3)) nilA)) (consA (bin2 addB (bin2 idxB (varB 0) (litI 3)) (slcV (bin2 idxB (varB 0) (litI 3)) noP (atP (litI 1)))) (consA (one1 backB (bin2 idxB (varB 0) (litI 3))) (consA (bin2 addB (bin2 idxB (varB 0) (litI 3)) (callF tupB (consA (litS "zzzzzzzz") nilA))) nilA))))) (setL 8)) (seqS (thenS (bin2 addB (varB 8) (callF lstB (consA (callF tupB (consA (bin2 idxB (varB 0) (litI 0)) nilA)) (consA litN (consA (bin2 idxB (varB 0) (litI 0)) (consA (callF tupB (consA (callF tupB nilA) nilA)) (consA (callF tupB (consA (callF lstB nilA) nilA)) (consA (callF tupB (consA newK nilA)) nilA)))))))) (setL 8)) (seqS (thenS (bin2 addB (varB 8) (callF lstB (consA (bin2 addB (bin2 idxB (varB 0) (litI 3)) (callF tupB (consA litN nilA))) (consA (bin2 addB (callF tupB (consA (litI 7) nilA)) (bin2 idxB (varB 0) (litI 3))) (consA (bin2 addB (bin2 idxB (varB 0) (litI 3)) (callF tupB (consA (callF lstB nilA) nilA))) nilA))))) (setL 8)) (thenS (ownF E_law_put_v3 (consA (varB 0) (consA (litI 3) (consA (bin2 idxB (varB 8) (bin2 modB (bin2 idxB (varB 1) (litI 1)) (litI 13))) nilA)))) retV)))) nxS)) (thenS (ownF E_law_put_v3 (consA (varB 0) (consA (bin2 addB (litI 1) (bin2 modB (bin2 idxB (varB 1) (litI 2)) (litI 2))) (consA (bin2 idxB (varB 4) (bin2 modB (bin2 idxB (varB 1) (litI 1)) (litI 14))) nilA)))) retV)))))
noncomputable def E_law_spoilt_row : En := ⟨"_law_spoilt_row", 4, defF 9 B_law_spoilt_row⟩
theorem c_law_spoilt_row {a0 a1 a2 a3 : B} : callE E_law_spoilt_row [a0, a1, a2, a3] = (E_law_spoilt_row.F [toArg a0, toArg a1, toArg a2, toArg a3]).bind retB := (rfl)
theorem d_law_spoilt_row {a0 a1 a2 a3 : B} (h : [a0, a1, a2, a3].all okArg = true) : E_law_spoilt_row.F [a0, a1, a2, a3] = outR (B_law_spoilt_row [some a0, some a1, some a2, some a3, none, none, none, none, none]) := def_rt h rfl
noncomputable def T8 : List En := T7 ++ [E_law_spoilt_row]
theorem sc_law_spoilt_row : FnScope N_law_spoilt_row ["_law_row_here", "_law_xs", "_law_top", "_law_other"] (defScope S_law_spoilt_row) := ⟨rfl, rfl, rfl, by decide +kernel, rfl, by decide +kernel, by decide +kernel⟩
theorem ok_law_spoilt_row {X : Cx} {g : G} {cls : Nat → Value} (C : CS X g cls 7 T7 N_law_spoilt_row (defScope S_law_spoilt_row) bt) : PSs X (defBody S_law_spoilt_row) (tFS g B_law_spoilt_row) :=
  (fs_cons (fs_setL (C.asg 4 (fe_lst (fa_cons rfl fe_int (fa_cons rfl fe_int (fa_cons rfl fe_int (fa_cons rfl (fe_neg fe_int) (fa_cons rfl fe_bl (fa_cons rfl fe_non (fa_cons rfl fe_int (fa_cons rfl fe_int (fa_cons rfl fe_str (fa_cons rfl (fe_tup fa_nil) (fa_cons rfl (fe_lst fa_nil) (fa_cons rfl (C.ct.mul fe_int (C.ct.var 2 (by decide +kernel))) (fa_cons rfl fe_int (fa_cons rfl (fe_tup (fa_cons rfl fe_int (fa_cons rfl fe_int fa_nil))) fa_nil))))))))))))))) (by decide +kernel) rfl)) (fs_cons (fs_forget [5, 6, 7] (fs_if (cmpT C.ct.eq (C.ct.mod (C.ct.idx (C.ct.var 1 (by decide +kernel)) fe_int rfl) fe_int) fe_int rfl) (fs_cons (fs_setL (C.asg 5 (fe_lst (fa_cons rfl fe_str (fa_cons rfl fe_str (fa_cons rfl fe_str (fa_cons rfl fe_int (fa_cons rfl fe_non (fa_cons rfl fe_str (fa_cons rfl (fe_tup (fa_cons rfl fe_str fa_nil)) (fa_cons rfl fe_str (fa_cons rfl fe_str (fa_cons rfl fe_str (fa_cons rfl (C.ct.add (C.ct.idx (C.ct.var 0 (by decide +kernel)) fe_int rfl) fe_str) (fa_cons rfl (fe_lst fa_nil) (fa_cons rfl (C.ct.var 3 (by decide +kernel)) fa_nil)))))))))))))) (by decide +kernel) rfl)) (fs_cons (fs_setL (C.asg 6 (C.ct.mod (C.ct.idx (C.ct.var 1 (by decide +kernel)) fe_int rfl) (C.ct.call C.ct.len (fa_cons rfl (C.ct.idx (C.ct.var 0 (by decide +kernel)) fe_int rfl) fa_nil) (by decide +kernel) (by decide +kernel) rfl)) (by decide +kernel) rfl)) (fs_cons (fs_setL (C.asg 7 (C.ct.add (C.ct.add (C.ct.slc (C.ct.idx (C.ct.var 0 (by decide +kernel)) fe_int rfl) fo_none (fo_some (C.ct.var 6 (by decide +kernel)))) (C.ct.own 5 (fa_cons rfl (C.ct.div (C.ct.idx (C.ct.var 1 (by decide +kernel)) fe_int rfl) fe_int) fa_nil) rfl rfl (by decide +kernel) rfl)) (C.ct.slc (C.ct.idx (C.ct.var 0 (by decide +kernel)) fe_int rfl) (fo_some (C.ct.add (C.ct.var 6 (by decide +kernel)) fe_int)) fo_none)) (by decide +kernel) rfl)) (fs_one (fs_ret (C.ct.own 6 (fa_cons rfl (C.ct.var 0 (by decide +kernel)) (fa_cons rfl fe_int (fa_cons rfl (C.ct.idx (C.ct.add (C.ct.var 5 (by decide +kernel)) (C.ct.rep (fe_lst (fa_cons rfl (C.ct.var 7 (by decide +kernel)) fa_nil)) fe_int)) (C.ct.mod (C.ct.idx (C.ct.var 1 (by decide +kernel)) fe_int rfl) fe_int) rfl) fa_nil))) rfl rfl (by decide +kernel) rfl)))))) fs_nil)) (fs_cons (fs_if (cmpT C.ct.eq (C.ct.mod (C.ct.idx (C.ct.var 1 (by decide +kernel)) fe_int rfl) fe_int) fe_int rfl) (fs_one (fs_ret (C.ct.idx (fe_lst (fa_cons rfl (C.ct.call C.ct.lstG (fa_cons rfl (C.ct.var 0 (by decide +kernel)) fa_nil) (by decide +kernel) (by decide +kernel) rfl) (fa_cons rfl (C.ct.slc (C.ct.var 0 (by decide +kernel)) fo_none (fo_some (fe_neg fe_int))) (fa_cons rfl (C.ct.add (C.ct.var 0 (by decide +kernel)) (fe_tup (fa_cons rfl fe_int fa_nil))) (fa_cons rfl (C.ct.back (C.ct.var 0 (by decide +kernel))) (fa_cons rfl fe_non (fa_cons rfl fe_int (fa_cons rfl fe_str (fa_cons rfl fe_dicK fa_nil))))))))) (C.ct.mod (C.ct.idx (C.ct.var 1 (by decide +kernel)) fe_int rfl) fe_int) rfl))) fs_nil) (fs_cons (fs_forget [8] (fs_if (ft_and (cmpT C.ct.eq (C.ct.mod (C.ct.idx (C.ct.var 1 (by decide +kernel)) fe_int rfl) fe_int) fe_int rfl) (pw_and1 (cmpT C.ct.eq (C.ct.call C.ct.len (fa_cons rfl (C.ct.var 0 (by decide +kernel)) fa_nil) (by decide +kernel) (by decide +kernel) rfl) fe_int rfl))).pt (fs_cons (fs_setL (C.asg 8 (fe_lst (fa_cons rfl (C.ct.call C.ct.lstG (fa_cons rfl (C.ct.idx (C.ct.var 0 (by decide +kernel)) fe_int rfl) fa_nil) (by decide +kernel) (by decide +kernel) rfl) (fa_cons rfl (C.ct.add (C.ct.idx (C.ct.var 0 (by decide +kernel)) fe_int rfl) (C.ct.slc (C.ct.idx (C.ct.var 0 (by decide +kernel)) fe_int rfl) fo_none (fo_some fe_int))) (fa_cons rfl (C.ct.back (C.ct.idx (C.ct.var 0 (by decide +kernel)) fe_int rfl)) (fa_cons rfl (C.ct.add (C.ct.idx (C.ct.var 0 (by decide +kernel)) fe_int rfl) (fe_tup (fa_cons rfl fe_str fa_nil))) fa_nil))))) (by decide +kernel) rfl)) (fs_cons (fs_setL (C.asg 8 (C.ct.add (C.ct.var 8 (by decide +kernel)) (fe_lst (fa_cons rfl (fe_tup (fa_cons rfl (C.ct.idx (C.ct.var 0 (by decide +kernel)) fe_int rfl) fa_nil)) (fa_cons rfl fe_non (fa_cons rfl (C.ct.idx (C.ct.var 0 (by decide +kernel)) fe_int rfl) (fa_cons rfl (fe_tup (fa_cons rfl (fe_tup fa_nil) fa_nil)) (fa_cons rfl (fe_tup (fa_cons rfl (fe_lst fa_nil) fa_nil)) (fa_cons rfl (fe_tup (fa_cons rfl fe_dicK fa_nil)) fa_nil)))))))) (by decide +kernel) rfl)) (fs_cons (fs_setL (C.asg 8 (C.ct.add (C.ct.var 8 (by decide +kernel)) (fe_lst (fa_cons rfl (C.ct.add (C.ct.idx (C.ct.var 0 (by decide +kernel)) fe_int rfl) (fe_tup (fa_cons rfl fe_non fa_nil))) (fa_cons rfl (C.ct.add (fe_tup (fa_cons rfl fe_int fa_nil)) (C.ct.idx (C.ct.var 0 (by decide +kernel)) fe_int rfl)) (fa_cons rfl (C.ct.add (C.ct.idx (C.ct.var 0 (by decide +kernel)) fe_int rfl) (fe_tup (fa_cons rfl (fe_lst fa_nil) fa_nil))) fa_nil))))) (by decide +kernel) rfl)) (fs_one (fs_ret (C.ct.own 6 (fa_cons rfl (C.ct.var 0 (by decide +kernel)) (fa_cons rfl fe_int (fa_cons rfl (C.ct.idx (C.ct.var 8 (by decide +kernel)) (C.ct.mod (C.ct.idx (C.ct.var 1 (by decide +kernel)) fe_int rfl) fe_int) rfl) fa_nil))) rfl rfl (by decide +kernel) rfl)))))) fs_nil)) (fs_one (fs_ret (C.ct.own 6 (fa_cons rfl (C.ct.var 0 (by decide +kernel)) (fa_cons rfl (C.ct.add fe_int (C.ct.mod (C.ct.idx (C.ct.var 1 (by decide +kernel)) fe_int rfl) fe_int)) (fa_cons rfl (C.ct.idx (C.ct.var 4 (by decide +kernel)) (C.ct.mod (C.ct.idx (C.ct.var 1 (by decide +kernel)) fe_int rfl) fe_int) rfl) fa_nil))) rfl rfl (by decide +kernel) rfl)))))))
abbrev S_law_spoilt_v3 : Stmt := top 25
def N_law_spoilt_v3 : List Str := ["_law_house_here", "_law_xs", "_law_top", "_law_jobs", "_law_tools", "_law_way", "_law_some", "_law_k", "_law_other", "_law_row_here"]
noncomputable def B_law_spoilt_v3 : Fn.Env → Out := (seqS (thenS (varB 0) (bindV (.many [2, 3, 4]))) (seqS (thenS (bin2 modB (bin2 idxB (varB 1) (litI 0)) (litI 7)) (setL 5)) (seqS (iteS (tstF (bin2 eqB (varB 5) (litI 0))) (thenS (callF tupB (consA (bin2 idxB (callF lstB (consA (litI 0) (consA (litI 10) (consA (litI 9) (consA (litI 1) (consA (litB true) (consA litN (consA (litS "1") (consA (callF tupB (consA (litI 1) (consA (litI 1) nilA))) nilA))))))))) (bin2 modB (bin2 idxB (varB 1) (litI 1)) (litI 8))) (consA (varB 3) (consA (varB 4) nilA)))) retV) nxS) (seqS (forget [6] (iteS (tstF (bin2 eqB (varB 5) (litI 1))) (seqS (thenS (callF lstB (consA (callF Fn.lstG (consA (varB 0) nilA)) (consA (slcV (varB 0) noP (atP (litI 2))) (consA (bin2 addB (varB 0) (callF tupB (consA (callF tupB nilA) nilA))) (consA (callF tupB (consA (varB 2) (consA (callF Fn.lstG (consA (varB 3) nilA)) (consA (varB 4) nilA)))) nilA))))) (setL 6)) (thenS (bin2 idxB (bin2 addB (varB 6) (callF lstB (consA (callF tupB (consA (varB 2) (consA (varB 3) (consA (callF Fn.lstG (consA (varB 4) nilA)) nilA)))) nilA))) (bin2 modB (bin2 idxB (varB 1) (litI 1)) (litI 5))) retV)) nxS)) (seqS (forget [6] (iteS (tstF (bin2 eqB (varB 5) (litI 2))) (seqS (thenS (callF lstB (consA (callF tupB (consA (varB 2) (consA (one1 backB (varB 3)) (consA (varB 4) nilA)))) (consA (callF tupB (consA (varB 2) (consA (varB 3) (consA (one1 backB (varB 4)) nilA)))) nilA))) (setL 6)) (thenS (bin2 idxB (bin2 addB (varB 6) (callF lstB (consA (callF tupB (consA (varB 2) (consA (varB 4) (consA (varB 3) nilA)))) (consA (callF tupB (consA (varB 2) (consA (callF tupB nilA) (consA (callF tupB nilA) nilA)))) nilA)))) (bin2 modB (bin2 idxB (varB 1) (litI 1)) (litI 4))) retV)) nxS)) (seqS (iteS (andT (tstF (bin2 eqB (varB 5) (litI 3))) (tstF (bin2 neB (varB 4) (callF tupB nilA)))) (thenS (callF tupB (consA (varB 2) (consA (varB 3) (consA (bin2 addB (varB 4) (slcV (slcV (varB 4) (atP (bin2 modB (bin2 idxB (varB 1) (litI 1)) (callF lenB (consA (varB 4) nilA)))) noP) noP (atP (litI 1)))) nilA)))) retV) nxS) (seqS (forget [7, 8, 9] (iteS (andT (tstF (bin2 eqB (varB 5) (litI 4))) (tstF (bin2 neB (varB 3) (callF tupB nilA)))) (seqS (thenS (bin2 modB (bin2 idxB (varB 1) (litI 1)) (callF lenB (consA (varB 3) nilA))) (setL 7)) (seqS (thenS (bin2 idxB (bin2 idxB (bin2 addB (varB 4) (varB 3)) (litI 0)) (litI 0)) (setL 8)) (seqS (thenS (ownF E_law_spoilt_row (consA (bin2 idxB (varB 3) (varB 7)) (consA (slcV (varB 1) (atP (litI 2)) noP) (consA (varB 2) (consA (varB 8) nilA))))) (setL 9)) (thenS (callF tupB (consA (varB 2) (consA (bin2 addB (bin2 addB (slcV (varB 3) noP (atP (varB 7))) (callF tupB (consA (varB 9) nilA))) (slcV (varB 3) (atP (bin2 addB (varB 7) (litI 1))) noP)) (consA (varB 4) nilA)))) retV)))) nxS)) (seqS (forget [7, 8, 9] (iteS (tstF (bin2 neB (varB 4) (callF tupB nilA))) (seqS (thenS (bin2 modB (bin2 idxB (varB 1) (litI 1)) (callF lenB (consA (varB 4) nilA))) (setL 7)) (seqS (thenS (bin2 idxB (bin2 idxB (bin2 addB (varB 3) (varB 4)) (litI 0)) (litI 0)) (setL 8)) (seqS (thenS (ownF E_law_spoilt_row (consA (bin2 idxB (varB 4) (varB 7)) (consA (slcV (varB 1) (atP (litI 2)) noP) (consA (varB 2) (consA (varB 8) nilA))))) (setL 9)) (thenS (callF tupB (consA (varB 2) (consA (varB 3) (consA (bin2 addB (bin2 addB (slcV (varB 4) noP (atP (varB 7))) (callF tupB (consA (varB 9) nilA))) (slcV (varB 4) (atP (bin2 addB (varB 7) (litI 1))) noP)) nilA)))) retV)))) nxS)) (thenS (callF tupB (consA (varB 2) (consA (slcV (varB 3) (atP (bin2 modB (bin2 idxB (varB 1) (litI 1)) (callF lenB (consA (varB 3) nilA)))) noP) (consA (varB 4) nilA)))) retV)))))))))
noncomputable def E_law_spoilt_v3 : En := ⟨"_law_spoilt", 2, defF 10 B_law_spoilt_v3⟩
theorem c_law_spoilt_v3 {a0 a1 : B} : callE E_law_spoilt_v3 [a0, a1] = (E_law_spoilt_v3.F [toArg a0, toArg a1]).bind retB := (rfl)
theorem d_law_spoilt_v3 {a0 a1 : B} (h : [a0, a1].all okArg = true) : E_law_spoilt_v3.F [a0, a1] = outR (B_law_spoilt_v3 [some a0, some a1, none, none, none, none, none, none, none, none]) := def_rt h rfl
noncomputable def T9 : List En := T8 ++ [E_law_spoilt_v3]
theorem sc_law_spoilt_v3 : FnScope N_law_spoilt_v3 ["_law_house_here", "_law_xs"] (defScope S_law_spoilt_v3) := ⟨rfl, rfl, rfl, by decide +kernel, rfl, by decide +kernel, by decide +kernel⟩
theorem ok_law_spoilt_v3 {X : Cx} {g : G} {cls : Nat → Value} (C : CS X g cls 8 T8 N_law_spoilt_v3 (defScope S_law_spoilt_v3) bt) : PSs X (defBody S_law_spoilt_v3) (tFS g B_law_spoilt_v3) :=
  (fs_cons (C.asgT (C.ct.var 0 (by decide +kernel)) (C.gm [2, 3, 4] (by decide +kernel)) rfl rfl) (fs_cons (fs_setL (C.asg 5 (C.ct.mod (C.ct.idx (C.ct.var 1 (by decide +kernel)) fe_int rfl) fe_int) (by decide +kernel) rfl)) (fs_cons (fs_if (cmpT C.ct.eq (C.ct.var 5 (by decide +kernel)) fe_int rfl) (fs_one (fs_ret (fe_tup (fa_cons rfl (C.ct.idx (fe_lst (fa_cons rfl fe_int (fa_cons rfl fe_int (fa_cons rfl fe_int (fa_cons rfl fe_int (fa_cons rfl fe_bl (fa_cons rfl fe_non (fa_cons rfl fe_str (fa_cons rfl (fe_tup (fa_cons rfl fe_int (fa_cons rfl fe_int fa_nil))) fa_nil))))))))) (C.ct.mod (C.ct.idx (C.ct.var 1 (by decide +kernel)) fe_int rfl) fe_int) rfl) (fa_cons rfl (C.ct.var 3 (by decide +kernel)) (fa_cons rfl (C.ct.var 4 (by decide +kernel)) fa_nil)))))) fs_nil) (fs_cons (fs_forget [6] (fs_if (cmpT C.ct.eq (C.ct.var 5 (by decide +kernel)) fe_int rfl) (fs_cons (fs_setL (C.asg 6 (fe_lst (fa_cons rfl (C.ct.call C.ct.lstG (fa_cons rfl (C.ct.var 0 (by decide +kernel)) fa_nil) (by decide +kernel) (by decide +kernel) rfl) (fa_cons rfl (C.ct.slc (C.ct.var 0 (by decide +kernel)) fo_none (fo_some fe_int)) (fa_cons rfl (C.ct.add (C.ct.var 0 (by decide +kernel)) (fe_tup (fa_cons rfl (fe_tup fa_nil) fa_nil))) (fa_cons rfl (fe_tup (fa_cons rfl (C.ct.var 2 (by decide +kernel)) (fa_cons rfl (C.ct.call C.ct.lstG (fa_cons rfl (C.ct.var 3 (by decide +kernel)) fa_nil) (by decide +kernel) (by decide +kernel) rfl) (fa_cons rfl (C.ct.var 4 (by decide +kernel)) fa_nil)))) fa_nil))))) (by decide +kernel) rfl)) (fs_one (fs_ret (C.ct.idx (C.ct.add (C.ct.var 6 (by decide +kernel)) (fe_lst (fa_cons rfl (fe_tup (fa_cons rfl (C.ct.var 2 (by decide +kernel)) (fa_cons rfl (C.ct.var 3 (by decide +kernel)) (fa_cons rfl (C.ct.call C.ct.lstG (fa_cons rfl (C.ct.var 4 (by decide +kernel)) fa_nil) (by decide +kernel) (by decide +kernel) rfl) fa_nil)))) fa_nil))) (C.ct.mod (C.ct.idx (C.ct.var 1 (by decide +kernel)) fe_int rfl) fe_int) rfl)))) fs_nil)) (fs_cons (fs_forget [6] (fs_if (cmpT C.ct.eq (C.ct.var 5 (by decide +kernel)) fe_int rfl) (fs_cons (fs_setL (C.asg 6 (fe_lst (fa_cons rfl (fe_tup (fa_cons rfl (C.ct.var 2 (by decide +kernel)) (fa_cons rfl (C.ct.back (C.ct.var 3 (by decide +kernel))) (fa_cons rfl (C.ct.var 4 (by decide +kernel)) fa_nil)))) (fa_cons rfl (fe_tup (fa_cons rfl (C.ct.var 2 (by decide +kernel)) (fa_cons rfl (C.ct.var 3 (by decide +kernel)) (fa_cons rfl (C.ct.back (C.ct.var 4 (by decide +kernel))) fa_nil)))) fa_nil))) (by decide +kernel) rfl)) (fs_one (fs_ret (C.ct.idx (C.ct.add (C.ct.var 6 (by decide +kernel)) (fe_lst (fa_cons rfl (fe_tup (fa_cons rfl (C.ct.var 2 (by decide +kernel)) (fa_cons rfl (C.ct.var 4 (by decide +kernel)) (fa_cons rfl (C.ct.var 3 (by decide +kernel)) fa_nil)))) (fa_cons rfl (fe_tup (fa_cons rfl (C.ct.var 2 (by decide +kernel)) (fa_cons rfl (fe_tup fa_nil) (fa_cons rfl (fe_tup fa_nil) fa_nil)))) fa_nil)))) (C.ct.mod (C.ct.idx (C.ct.var 1 (by decide +kernel)) fe_int rfl) fe_int) rfl)))) fs_nil)) (fs_cons (fs_if (ft_and (cmpT C.ct.eq (C.ct.var 5 (by decide +kernel)) fe_int rfl) (pw_and1 (cmpT C.ct.ne (C.ct.var 4 (by decide +kernel)) (fe_tup fa_nil) rfl))).pt (fs_one (fs_ret (fe_tup (fa_cons rfl (C.ct.var 2 (by decide +kernel)) (fa_cons rfl (C.ct.var 3 (by decide +kernel)) (fa_cons rfl (C.ct.add (C.ct.var 4 (by decide +kernel)) (C.ct.slc (C.ct.slc (C.ct.var 4 (by decide +kernel)) (fo_some (C.ct.mod (C.ct.idx (C.ct.var 1 (by decide +kernel)) fe_int rfl) (C.ct.call C.ct.len (fa_cons rfl (C.ct.var 4 (by decide +kernel)) fa_nil) (by decide +kernel) (by decide +kernel) rfl))) fo_none) fo_none (fo_some fe_int))) fa_nil)))))) fs_nil) (fs_cons (fs_forget [7, 8, 9] (fs_if (ft_and (cmpT C.ct.eq (C.ct.var 5 (by decide +kernel)) fe_int rfl) (pw_and1 (cmpT C.ct.ne (C.ct.var 3 (by decide +kernel)) (fe_tup fa_nil) rfl))).pt (fs_cons (fs_setL (C.asg 7 (C.ct.mod (C.ct.idx (C.ct.var 1 (by decide +kernel)) fe_int rfl) (C.ct.call C.ct.len (fa_cons rfl (C.ct.var 3 (by decide +kernel)) fa_nil) (by decide +kernel) (by decide +kernel) rfl)) (by decide +kernel) rfl)) (fs_cons (fs_setL (C.asg 8 (C.ct.idx (C.ct.idx (C.ct.add (C.ct.var 4 (by decide +kernel)) (C.ct.var 3 (by decide +kernel))) fe_int rfl) fe_int rfl) (by decide +kernel) rfl)) (fs_cons (fs_setL (C.asg 9 (C.ct.own 7 (fa_cons rfl (C.ct.idx (C.ct.var 3 (by decide +kernel)) (C.ct.var 7 (by decide +kernel)) rfl) (fa_cons rfl (C.ct.slc (C.ct.var 1 (by decide +kernel)) (fo_some fe_int) fo_none) (fa_cons rfl (C.ct.var 2 (by decide +kernel)) (fa_cons rfl (C.ct.var 8 (by decide +kernel)) fa_nil)))) rfl rfl (by decide +kernel) rfl) (by decide +kernel) rfl)) (fs_one (fs_ret (fe_tup (fa_cons rfl (C.ct.var 2 (by decide +kernel)) (fa_cons rfl (C.ct.add (C.ct.add (C.ct.slc (C.ct.var 3 (by decide +kernel)) fo_none (fo_some (C.ct.var 7 (by decide +kernel)))) (fe_tup (fa_cons rfl (C.ct.var 9 (by decide +kernel)) fa_nil))) (C.ct.slc (C.ct.var 3 (by decide +kernel)) (fo_some (C.ct.add (C.ct.var 7 (by decide +kernel)) fe_int)) fo_none)) (fa_cons rfl (C.ct.var 4 (by decide +kernel)) fa_nil))))))))) fs_nil)) (fs_cons (fs_forget [7, 8, 9] (fs_if (cmpT C.ct.ne (C.ct.var 4 (by decide +kernel)) (fe_tup fa_nil) rfl) (fs_cons (fs_setL (C.asg 7 (C.ct.mod (C.ct.idx (C.ct.var 1 (by decide +kernel)) fe_int rfl) (C.ct.call C.ct.len (fa_cons rfl (C.ct.var 4 (by decide +kernel)) fa_nil) (by decide +kernel) (by decide +kernel) rfl)) (by decide +kernel) rfl)) (fs_cons (fs_setL (C.asg 8 (C.ct.idx (C.ct.idx (C.ct.add (C.ct.var 3 (by decide +kernel)) (C.ct.var 4 (by decide +kernel))) fe_int rfl) fe_int rfl) (by decide +kernel) rfl)) (fs_cons (fs_setL (C.asg 9 (C.ct.own 7 (fa_cons rfl (C.ct.idx (C.ct.var 4 (by decide +kernel)) (C.ct.var 7 (by decide +kernel)) rfl) (fa_cons rfl (C.ct.slc (C.ct.var 1 (by decide +kernel)) (fo_some fe_int) fo_none) (fa_cons rfl (C.ct.var 2 (by decide +kernel)) (fa_cons rfl (C.ct.var 8 (by decide +kernel)) fa_nil)))) rfl rfl (by decide +kernel) rfl) (by decide +kernel) rfl)) (fs_one (fs_ret (fe_tup (fa_cons rfl (C.ct.var 2 (by decide +kernel)) (fa_cons rfl (C.ct.var 3 (by decide +kernel)) (fa_cons rfl (C.ct.add (C.ct.add (C.ct.slc (C.ct.var 4 (by decide +kernel)) fo_none (fo_some (C.ct.var 7 (by decide +kernel)))) (fe_tup (fa_cons rfl (C.ct.var 9 (by decide +kernel)) fa_nil))) (C.ct.slc (C.ct.var 4 (by decide +kernel)) (fo_some (C.ct.add (C.ct.var 7 (by decide +kernel)) fe_int)) fo_none)) fa_nil))))))))) fs_nil)) (fs_one (fs_ret (fe_tup (fa_cons rfl (C.ct.var 2 (by decide +kernel)) (fa_cons rfl (C.ct.slc (C.ct.var 3 (by decide +kernel)) (fo_some (C.ct.mod (C.ct.idx (C.ct.var 1 (by decide +kernel)) fe_int rfl) (C.ct.call C.ct.len (fa_cons rfl (C.ct.var 3 (by decide +kernel)) fa_nil) (by decide +kernel) (by decide +kernel) rfl))) fo_none) (fa_cons rfl (C.ct.var 4 (by decide +kernel)) fa_nil))))))))))))))
abbrev S_is_whole : Stmt := top 1
def N_is_whole : List Str := ["thing"]
noncomputable def B_is_whole : Fn.Env → Out := (thenS (andV (one1 (isiB .int) (varB 0)) (one1 notB (one1 (isiB .bool) (varB 0)))) retV)
noncomputable def E_is_whole : En := ⟨"is_whole", 1, defF 1 B_is_whole⟩
theorem c_is_whole {a0 : B} : callE E_is_whole [a0] = (E_is_whole.F [toArg a0]).bind retB := (rfl)
theorem d_is_whole {a0 : B} (h : [a0].all okArg = true) : E_is_whole.F [a0] = outR (B_is_whole [some a0]) := def_rt h rfl
noncomputable def T10 : List En := T9 ++ [E_is_whole]
theorem sc_is_whole : FnScope N_is_whole ["thing"] (defScope S_is_whole) := ⟨rfl, rfl, rfl, by decide +kernel, rfl, by decide +kernel, by decide +kernel⟩
theorem ok_is_whole {X : Cx} {g : G} {cls : Nat → Value} (C : CS X g cls 9 T9 N_is_whole (defScope S_is_whole) bt) : PSs X (defBody S_is_whole) (tFS g B_is_whole) :=
  (fs_one (fs_ret (fe_and (C.ct.isi .int (C.ct.var 0 (by decide +kernel)) rfl (by decide +kernel) (by decide +kernel) boot_int rfl) (pe_one (fe_not (C.ct.isi .bool (C.ct.var 0 (by decide +kernel)) rfl (by decide +kernel) (by decide +kernel) boot_bool rfl))))))
abbrev S_is_within : Stmt := top 8
def N_is_within : List Str := ["thing", "least", "most"]
noncomputable def B_is_within : Fn.Env → Out := (thenS (andV (ownF E_is_whole (consA (varB 0) nilA)) (chn leF leF (varB 1) (varB 0) (varB 2))) retV)
noncomputable def E_is_within : En := ⟨"is_within", 3, defF 3 B_is_within⟩
theorem c_is_within {a0 a1 a2 : B} : callE E_is_within [a0, a1, a2] = (E_is_within.F [toArg a0, toArg a1, toArg a2]).bind retB := (rfl)
theorem d_is_within {a0 a1 a2 : B} (h : [a0, a1, a2].all okArg = true) : E_is_within.F [a0, a1, a2] = outR (B_is_within [some a0, some a1, some a2]) := def_rt h rfl
noncomputable def T11 : List En := T10 ++ [E_is_within]
theorem sc_is_within : FnScope N_is_within ["thing", "least", "most"] (defScope S_is_within) := ⟨rfl, rfl, rfl, by decide +kernel, rfl, by decide +kernel, by decide +kernel⟩
theorem ok_is_within {X : Cx} {g : G} {cls : Nat → Value} (C : CS X g cls 10 T10 N_is_within (defScope S_is_within) bt) : PSs X (defBody S_is_within) (tFS g B_is_within) :=
  (fs_one (fs_ret (fe_and (C.ct.own 9 (fa_cons rfl (C.ct.var 0 (by decide +kernel)) fa_nil) rfl rfl (by decide +kernel) rfl) (pe_one (chainE C.ct.le C.ct.le (C.ct.var 1 (by decide +kernel)) (C.ct.var 0 (by decide +kernel)) (C.ct.var 2 (by decide +kernel)) rfl)))))
abbrev S_is_name : Stmt := top 5
def N_is_name : List Str := ["thing", "sign"]
noncomputable def B_is_name : Fn.Env → Out := (seqS (iteS (orT (notT (testV (one1 (isiB .str) (varB 0)))) (notT (tstF (chn leF leF (litI 1) (callF lenB (consA (varB 0) nilA)) (litD (.int 8)))))) (thenS (litB false) retV) nxS) (thenS (callF allF (consA (compV (.one 1) (itF true (varB 0)) yesF (bin2 (inB false) (varB 1) (litD (.str "abcdefghijklmnopqrstuvwxyz"))) [1]) nilA)) retV))
noncomputable def E_is_name : En := ⟨"is_name", 1, defF 2 B_is_name⟩
theorem c_is_name {a0 : B} : callE E_is_name [a0] = (E_is_name.F [toArg a0]).bind retB := (rfl)
theorem d_is_name {a0 : B} (h : [a0].all okArg = true) : E_is_name.F [a0] = outR (B_is_name [some a0, none]) := def_rt h rfl
noncomputable def T12 : List En := T11 ++ [E_is_name]
theorem sc_is_name : FnScope N_is_name ["thing"] (defScope S_is_name) := ⟨rfl, rfl, rfl, by decide +kernel, rfl, by decide +kernel, by decide +kernel⟩
theorem ok_is_name {X : Cx} {g : G} {cls : Nat → Value} (C : CS X g cls 11 T11 N_is_name (defScope S_is_name) bt) : PSs X (defBody S_is_name) (tFS g B_is_name) :=
  (fs_cons (fs_if (ft_or (ft_not (C.ct.val (C.ct.isi .str (C.ct.var 0 (by decide +kernel)) rfl (by decide +kernel) (by decide +kernel) boot_str rfl) rfl)) (pw_or1 (ft_not (chainT C.ct.le C.ct.le fe_int (C.ct.call C.ct.len (fa_cons rfl (C.ct.var 0 (by decide +kernel)) fa_nil) (by decide +kernel) (by decide +kernel) rfl) (C.ct.con 0 rfl (by decide +kernel)) rfl)))).pt (fs_one (fs_ret fe_bl)) fs_nil) (fs_one (fs_ret (C.ct.call C.ct.all (fa_cons rfl (C.ct.lc [("sign", 1)] (C.ct.it (C.ct.var 0 (by decide +kernel))) (fun C1 => ⟨(C1.g1 1 (by decide +kernel)), ifs0, (cmpE C1.inn (C1.var 1 (by decide +kernel)) (C1.con 1 rfl (by decide +kernel)) rfl)⟩) (by decide +kernel)) fa_nil) (by decide +kernel) (by decide +kernel) rfl))))
abbrev S_is_tool : Stmt := top 11
def N_is_tool : List Str := ["thing", "top"]
noncomputable def B_is_tool : Fn.Env → Out := (seqS (iteS (orT (notT (testV (one1 (isiB .tuple) (varB 0)))) (orT (tstF (bin2 neB (callF lenB (consA (varB 0) nilA)) (litI 3))) (orT (notT (testV (ownF E_is_name (consA (bin2 idxB (varB 0) (litI 0)) nilA)))) (notT (testV (ownF E_is_within (consA (bin2 idxB (varB 0) (litI 2)) (consA (litI 0) (consA (litI 99) nilA))))))))) (thenS (litB false) retV) nxS) (thenS (ownF E_is_within (consA (bin2 idxB (varB 0) (litI 1)) (consA (bin2 mulB (bin2 idxB (varB 0) (litI 2)) (varB 1)) (consA (litI 999) nilA)))) retV))
noncomputable def E_is_tool : En := ⟨"is_tool", 2, defF 2 B_is_tool⟩
theorem c_is_tool {a0 a1 : B} : callE E_is_tool [a0, a1] = (E_is_tool.F [toArg a0, toArg a1]).bind retB := (rfl)
theorem d_is_tool {a0 a1 : B} (h : [a0, a1].all okArg = true) : E_is_tool.F [a0, a1] = outR (B_is_tool [some a0, some a1]) := def_rt h rfl
noncomputable def T13 : List En := T12 ++ [E_is_tool]
theorem sc_is_tool : FnScope N_is_tool ["thing", "top"] (defScope S_is_tool) := ⟨rfl, rfl, rfl, by decide +kernel, rfl, by decide +kernel, by decide +kernel⟩
theorem ok_is_tool {X : Cx} {g : G} {cls : Nat → Value} (C : CS X g cls 12 T12 N_is_tool (defScope S_is_tool) bt) : PSs X (defBody S_is_tool) (tFS g B_is_tool) :=
  (fs_cons (fs_if (ft_or (ft_not (C.ct.val (C.ct.isi .tuple (C.ct.var 0 (by decide +kernel)) rfl (by decide +kernel) (by decide +kernel) boot_tuple rfl) rfl)) (ft_or (cmpT C.ct.ne (C.ct.call C.ct.len (fa_cons rfl (C.ct.var 0 (by decide +kernel)) fa_nil) (by decide +kernel) (by decide +kernel) rfl) fe_int rfl) (ft_or (ft_not (C.ct.val (C.ct.own 11 (fa_cons rfl (C.ct.idx (C.ct.var 0 (by decide +kernel)) fe_int rfl) fa_nil) rfl rfl (by decide +kernel) rfl) rfl)) (pw_or1 (ft_not (C.ct.val (C.ct.own 10 (fa_cons rfl (C.ct.idx (C.ct.var 0 (by decide +kernel)) fe_int rfl) (fa_cons rfl fe_int (fa_cons rfl fe_int fa_nil))) rfl rfl (by decide +kernel) rfl) rfl)))))).pt (fs_one (fs_ret fe_bl)) fs_nil) (fs_one (fs_ret (C.ct.own 10 (fa_cons rfl (C.ct.idx (C.ct.var 0 (by decide +kernel)) fe_int rfl) (fa_cons rfl (C.ct.mul (C.ct.idx (C.ct.var 0 (by decide +kernel)) fe_int rfl) (C.ct.var 1 (by decide +kernel))) (fa_cons rfl fe_int fa_nil))) rfl rfl (by decide +kernel) rfl))))
abbrev S_is_rising : Stmt := top 9
def N_is_rising : List Str := ["things", "k"]
noncomputable def B_is_rising : Fn.Env → Out := (thenS (callF allF (consA (compV (.one 1) (rgF (consA (bin2 subB (callF lenB (consA (varB 0) nilA)) (litI 1)) nilA)) yesF (bin2 ltB (bin2 idxB (varB 0) (varB 1)) (bin2 idxB (varB 0) (bin2 addB (varB 1) (litI 1)))) [1]) nilA)) retV)
noncomputable def E_is_rising : En := ⟨"is_rising", 1, defF 2 B_is_rising⟩
theorem c_is_rising {a0 : B} : callE E_is_rising [a0] = (E_is_rising.F [toArg a0]).bind retB := (rfl)
theorem d_is_rising {a0 : B} (h : [a0].all okArg = true) : E_is_rising.F [a0] = outR (B_is_rising [some a0, none]) := def_rt h rfl
noncomputable def T14 : List En := T13 ++ [E_is_rising]
theorem sc_is_rising : FnScope N_is_rising ["things"] (defScope S_is_rising) := ⟨rfl, rfl, rfl, by decide +kernel, rfl, by decide +kernel, by decide +kernel⟩
theorem ok_is_rising {X : Cx} {g : G} {cls : Nat → Value} (C : CS X g cls 13 T13 N_is_rising (defScope S_is_rising) bt) : PSs X (defBody S_is_rising) (tFS g B_is_rising) :=
  (fs_one (fs_ret (C.ct.call C.ct.all (fa_cons rfl (C.ct.lc [("k", 1)] (C.ct.rg1 (C.ct.sub (C.ct.call C.ct.len (fa_cons rfl (C.ct.var 0 (by decide +kernel)) fa_nil) (by decide +kernel) (by decide +kernel) rfl) fe_int) (by decide +kernel) rfl) (fun C1 => ⟨(C1.g1 1 (by decide +kernel)), ifs0, (cmpE C1.lt (C1.idx (C1.var 0 (by decide +kernel)) (C1.var 1 (by decide +kernel)) rfl) (C1.idx (C1.var 0 (by decide +kernel)) (C1.add (C1.var 1 (by decide +kernel)) fe_int) rfl) rfl)⟩) (by decide +kernel)) fa_nil) (by decide +kernel) (by decide +kernel) rfl)))
abbrev S_is_job : Stmt := top 10
def N_is_job : List Str := ["thing", "tools", "name"]
noncomputable def B_is_job : Fn.Env → Out := (seqS (iteS (orT (notT (testV (one1 (isiB .tuple) (varB 0)))) (orT (tstF (bin2 neB (callF lenB (consA (varB 0) nilA)) (litI 4))) (orT (notT (testV (ownF E_is_name (consA (bin2 idxB (varB 0) (litI 0)) nilA)))) (notT (testV (one1 (isiB .tuple) (bin2 idxB (varB 0) (litI 3)))))))) (thenS (litB false) retV) nxS) (seqS (iteS (orT (notT (testV (ownF E_is_within (consA (bin2 idxB (varB 0) (litI 1)) (consA (litI 0) (consA (litI 99) nilA)))))) (notT (testV (ownF E_is_within (consA (bin2 idxB (varB 0) (litI 2)) (consA (litI 0) (consA (litI 99) nilA))))))) (thenS (litB false) retV) nxS) (thenS (andV (callF allF (consA (compV (.one 2) (itF true (bin2 idxB (varB 0) (litI 3))) yesF (andV (ownF E_is_name (consA (varB 2) nilA)) (bin2 (inB false) (varB 2) (varB 1))) [2]) nilA)) (ownF E_is_rising (consA (bin2 idxB (varB 0) (litI 3)) nilA))) retV)))
noncomputable def E_is_job : En := ⟨"is_job", 2, defF 3 B_is_job⟩
theorem c_is_job {a0 a1 : B} : callE E_is_job [a0, a1] = (E_is_job.F [toArg a0, toArg a1]).bind retB := (rfl)
theorem d_is_job {a0 a1 : B} (h : [a0, a1].all okArg = true) : E_is_job.F [a0, a1] = outR (B_is_job [some a0, some a1, none]) := def_rt h rfl
noncomputable def T15 : List En := T14 ++ [E_is_job]
theorem sc_is_job : FnScope N_is_job ["thing", "tools"] (defScope S_is_job) := ⟨rfl, rfl, rfl, by decide +kernel, rfl, by decide +kernel, by decide +kernel⟩
theorem ok_is_job {X : Cx} {g : G} {cls : Nat → Value} (C : CS X g cls 14 T14 N_is_job (defScope S_is_job) bt) : PSs X (defBody S_is_job) (tFS g B_is_job) :=
  (fs_cons (fs_if (ft_or (ft_not (C.ct.val (C.ct.isi .tuple (C.ct.var 0 (by decide +kernel)) rfl (by decide +kernel) (by decide +kernel) boot_tuple rfl) rfl)) (ft_or (cmpT C.ct.ne (C.ct.call C.ct.len (fa_cons rfl (C.ct.var 0 (by decide +kernel)) fa_nil) (by decide +kernel) (by decide +kernel) rfl) fe_int rfl) (ft_or (ft_not (C.ct.val (C.ct.own 11 (fa_cons rfl (C.ct.idx (C.ct.var 0 (by decide +kernel)) fe_int rfl) fa_nil) rfl rfl (by decide +kernel) rfl) rfl)) (pw_or1 (ft_not (C.ct.val (C.ct.isi .tuple (C.ct.idx (C.ct.var 0 (by decide +kernel)) fe_int rfl) rfl (by decide +kernel) (by decide +kernel) boot_tuple rfl) rfl)))))).pt (fs_one (fs_ret fe_bl)) fs_nil) (fs_cons (fs_if (ft_or (ft_not (C.ct.val (C.ct.own 10 (fa_cons rfl (C.ct.idx (C.ct.var 0 (by decide +kernel)) fe_int rfl) (fa_cons rfl fe_int (fa_cons rfl fe_int fa_nil))) rfl rfl (by decide +kernel) rfl) rfl)) (pw_or1 (ft_not (C.ct.val (C.ct.own 10 (fa_cons rfl (C.ct.idx (C.ct.var 0 (by decide +kernel)) fe_int rfl) (fa_cons rfl fe_int (fa_cons rfl fe_int fa_nil))) rfl rfl (by decide +kernel) rfl) rfl)))).pt (fs_one (fs_ret fe_bl)) fs_nil) (fs_one (fs_ret (fe_and (C.ct.call C.ct.all (fa_cons rfl (C.ct.lc [("name", 2)] (C.ct.it (C.ct.idx (C.ct.var 0 (by decide +kernel)) fe_int rfl)) (fun C1 => ⟨(C1.g1 2 (by decide +kernel)), ifs0, (fe_and (C1.own 11 (fa_cons rfl (C1.var 2 (by decide +kernel)) fa_nil) rfl rfl (by decide +kernel) rfl) (pe_one (cmpE C1.inn (C1.var 2 (by decide +kernel)) (C1.var 1 (by decide +kernel)) rfl)))⟩) (by decide +kernel)) fa_nil) (by decide +kernel) (by decide +kernel) rfl) (pe_one (C.ct.own 13 (fa_cons rfl (C.ct.idx (C.ct.var 0 (by decide +kernel)) fe_int rfl) fa_nil) rfl rfl (by decide +kernel) rfl)))))))
abbrev S_is_house : Stmt := top 12
def N_is_house : List Str := ["thing", "top", "jobs", "tools", "names", "tool", "job"]
noncomputable def B_is_house : Fn.Env → Out := (seqS (iteS (orT (notT (testV (one1 (isiB .tuple) (varB 0)))) (orT (tstF (bin2 neB (callF lenB (consA (varB 0) nilA)) (litI 3))) (notT (testV (ownF E_is_within (consA (bin2 idxB (varB 0) (litI 0)) (consA (litI 1) (consA (litI 9) nilA)))))))) (thenS (litB false) retV) nxS) (seqS (thenS (varB 0) (bindV (.many [1, 2, 3]))) (seqS (iteS (orT (notT (testV (one1 (isiB .tuple) (varB 2)))) (orT (notT (testV (one1 (isiB .tuple) (varB 3)))) (notT (tstF (chn leF leF (litI 1) (bin2 addB (callF lenB (consA (varB 2) nilA)) (callF lenB (consA (varB 3) nilA))) (litI 8)))))) (thenS (litB false) retV) nxS) (seqS (iteS (orT (notT (testV (callF allF (consA (compV (.one 5) (itF true (varB 3)) yesF (ownF E_is_tool (consA (varB 5) (consA (varB 1) nilA))) [5]) nilA)))) (notT (testV (ownF E_is_rising (consA (compV (.one 5) (itF true (varB 3)) yesF (bin2 idxB (varB 5) (litI 0)) [5]) nilA))))) (thenS (litB false) retV) nxS) (seqS (thenS (compV (.one 5) (itF true (varB 3)) yesF (bin2 idxB (varB 5) (litI 0)) [5]) (setL 4)) (seqS (iteS (orT (notT (testV (callF allF (consA (compV (.one 6) (itF true (varB 2)) yesF (ownF E_is_job (consA (varB 6) (consA (varB 4) nilA))) [6]) nilA)))) (notT (testV (ownF E_is_rising (consA (compV (.one 6) (itF true (varB 2)) yesF (bin2 idxB (varB 6) (litI 0)) [6]) nilA))))) (thenS (litB false) retV) nxS) (seqS (iteS (testV (callF anyF (consA (compV (.one 6) (itF true (varB 2)) yesF (bin2 (inB false) (bin2 idxB (varB 6) (litI 0)) (varB 4)) [6]) nilA))) (thenS (litB false) retV) nxS) (thenS (bin2 leF (callF sumF (consA (compV (.one 6) (itF true (varB 2)) yesF (callF lenB (consA (bin2 idxB (varB 6) (litI 3)) nilA)) [6]) nilA)) (litD (.int 16))) retV))))))))
noncomputable def E_is_house : En := ⟨"is_house", 1, defF 7 B_is_house⟩
theorem c_is_house {a0 : B} : callE E_is_house [a0] = (E_is_house.F [toArg a0]).bind retB := (rfl)
theorem d_is_house {a0 : B} (h : [a0].all okArg = true) : E_is_house.F [a0] = outR (B_is_house [some a0, none, none, none, none, none, none]) := def_rt h rfl
noncomputable def T16 : List En := T15 ++ [E_is_house]
theorem sc_is_house : FnScope N_is_house ["thing"] (defScope S_is_house) := ⟨rfl, rfl, rfl, by decide +kernel, rfl, by decide +kernel, by decide +kernel⟩
theorem ok_is_house {X : Cx} {g : G} {cls : Nat → Value} (C : CS X g cls 15 T15 N_is_house (defScope S_is_house) bt) : PSs X (defBody S_is_house) (tFS g B_is_house) :=
  (fs_cons (fs_if (ft_or (ft_not (C.ct.val (C.ct.isi .tuple (C.ct.var 0 (by decide +kernel)) rfl (by decide +kernel) (by decide +kernel) boot_tuple rfl) rfl)) (ft_or (cmpT C.ct.ne (C.ct.call C.ct.len (fa_cons rfl (C.ct.var 0 (by decide +kernel)) fa_nil) (by decide +kernel) (by decide +kernel) rfl) fe_int rfl) (pw_or1 (ft_not (C.ct.val (C.ct.own 10 (fa_cons rfl (C.ct.idx (C.ct.var 0 (by decide +kernel)) fe_int rfl) (fa_cons rfl fe_int (fa_cons rfl fe_int fa_nil))) rfl rfl (by decide +kernel) rfl) rfl))))).pt (fs_one (fs_ret fe_bl)) fs_nil) (fs_cons (C.asgT (C.ct.var 0 (by decide +kernel)) (C.gm [1, 2, 3] (by decide +kernel)) rfl rfl) (fs_cons (fs_if (ft_or (ft_not (C.ct.val (C.ct.isi .tuple (C.ct.var 2 (by decide +kernel)) rfl (by decide +kernel) (by decide +kernel) boot_tuple rfl) rfl)) (ft_or (ft_not (C.ct.val (C.ct.isi .tuple (C.ct.var 3 (by decide +kernel)) rfl (by decide +kernel) (by decide +kernel) boot_tuple rfl) rfl)) (pw_or1 (ft_not (chainT C.ct.le C.ct.le fe_int (C.ct.add (C.ct.call C.ct.len (fa_cons rfl (C.ct.var 2 (by decide +kernel)) fa_nil) (by decide +kernel) (by decide +kernel) rfl) (C.ct.call C.ct.len (fa_cons rfl (C.ct.var 3 (by decide +kernel)) fa_nil) (by decide +kernel) (by decide +kernel) rfl)) fe_int rfl))))).pt (fs_one (fs_ret fe_bl)) fs_nil) (fs_cons (fs_if (ft_or (ft_not (C.ct.val (C.ct.call C.ct.all (fa_cons rfl (C.ct.lc [("tool", 5)] (C.ct.it (C.ct.var 3 (by decide +kernel))) (fun C1 => ⟨(C1.g1 5 (by decide +kernel)), ifs0, (C1.own 12 (fa_cons rfl (C1.var 5 (by decide +kernel)) (fa_cons rfl (C1.var 1 (by decide +kernel)) fa_nil)) rfl rfl (by decide +kernel) rfl)⟩) (by decide +kernel)) fa_nil) (by decide +kernel) (by decide +kernel) rfl) rfl)) (pw_or1 (ft_not (C.ct.val (C.ct.own 13 (fa_cons rfl (C.ct.lc [("tool", 5)] (C.ct.it (C.ct.var 3 (by decide +kernel))) (fun C2 => ⟨(C2.g1 5 (by decide +kernel)), ifs0, (C2.idx (C2.var 5 (by decide +kernel)) fe_int rfl)⟩) (by decide +kernel)) fa_nil) rfl rfl (by decide +kernel) rfl) rfl)))).pt (fs_one (fs_ret fe_bl)) fs_nil) (fs_cons (fs_setL (C.asgLc 4 [("tool", 5)] (C.ct.it (C.ct.var 3 (by decide +kernel))) (fun C3 => ⟨(C3.g1 5 (by decide +kernel)), ifs0, (C3.idx (C3.var 5 (by decide +kernel)) fe_int rfl)⟩) (by decide +kernel) (by decide +kernel))) (fs_cons (fs_if (ft_or (ft_not (C.ct.val (C.ct.call C.ct.all (fa_cons rfl (C.ct.lc [("job", 6)] (C.ct.it (C.ct.var 2 (by decide +kernel))) (fun C4 => ⟨(C4.g1 6 (by decide +kernel)), ifs0, (C4.own 14 (fa_cons rfl (C4.var 6 (by decide +kernel)) (fa_cons rfl (C4.var 4 (by decide +kernel)) fa_nil)) rfl rfl (by decide +kernel) rfl)⟩) (by decide +kernel)) fa_nil) (by decide +kernel) (by decide +kernel) rfl) rfl)) (pw_or1 (ft_not (C.ct.val (C.ct.own 13 (fa_cons rfl (C.ct.lc [("job", 6)] (C.ct.it (C.ct.var 2 (by decide +kernel))) (fun C5 => ⟨(C5.g1 6 (by decide +kernel)), ifs0, (C5.idx (C5.var 6 (by decide +kernel)) fe_int rfl)⟩) (by decide +kernel)) fa_nil) rfl rfl (by decide +kernel) rfl) rfl)))).pt (fs_one (fs_ret fe_bl)) fs_nil) (fs_cons (fs_if (C.ct.val (C.ct.call C.ct.any (fa_cons rfl (C.ct.lc [("job", 6)] (C.ct.it (C.ct.var 2 (by decide +kernel))) (fun C6 => ⟨(C6.g1 6 (by decide +kernel)), ifs0, (cmpE C6.inn (C6.idx (C6.var 6 (by decide +kernel)) fe_int rfl) (C6.var 4 (by decide +kernel)) rfl)⟩) (by decide +kernel)) fa_nil) (by decide +kernel) (by decide +kernel) rfl) rfl) (fs_one (fs_ret fe_bl)) fs_nil) (fs_one (fs_ret (cmpE C.ct.le (C.ct.call C.ct.sum (fa_cons rfl (C.ct.lc [("job", 6)] (C.ct.it (C.ct.var 2 (by decide +kernel))) (fun C7 => ⟨(C7.g1 6 (by decide +kernel)), ifs0, (C7.call C7.len (fa_cons rfl (C7.idx (C7.var 6 (by decide +kernel)) fe_int rfl) fa_nil) (by decide +kernel) (by decide +kernel) rfl)⟩) (by decide +kernel)) fa_nil) (by decide +kernel) (by decide +kernel) rfl) (C.ct.con 2 rfl (by decide +kernel)) rfl))))))))))
abbrev S_law_whole_v2 : Stmt := top 18
def N_law_whole_v2 : List Str := ["_law_thing", "_law_least", "_law_most"]
noncomputable def B_law_whole_v2 : Fn.Env → Out := (thenS (andV (one1 (isiB .int) (varB 0)) (andV (one1 notB (one1 (isiB .bool) (varB 0))) (chn leF leF (varB 1) (varB 0) (varB 2)))) retV)
noncomputable def E_law_whole_v2 : En := ⟨"_law_whole", 3, defF 3 B_law_whole_v2⟩
theorem c_law_whole_v2 {a0 a1 a2 : B} : callE E_law_whole_v2 [a0, a1, a2] = (E_law_whole_v2.F [toArg a0, toArg a1, toArg a2]).bind retB := (rfl)
theorem d_law_whole_v2 {a0 a1 a2 : B} (h : [a0, a1, a2].all okArg = true) : E_law_whole_v2.F [a0, a1, a2] = outR (B_law_whole_v2 [some a0, some a1, some a2]) := def_rt h rfl
noncomputable def T17 : List En := T16 ++ [E_law_whole_v2]
theorem sc_law_whole_v2 : FnScope N_law_whole_v2 ["_law_thing", "_law_least", "_law_most"] (defScope S_law_whole_v2) := ⟨rfl, rfl, rfl, by decide +kernel, rfl, by decide +kernel, by decide +kernel⟩
theorem ok_law_whole_v2 {X : Cx} {g : G} {cls : Nat → Value} (C : CS X g cls 16 T16 N_law_whole_v2 (defScope S_law_whole_v2) bt) : PSs X (defBody S_law_whole_v2) (tFS g B_law_whole_v2) :=
  (fs_one (fs_ret (fe_and (C.ct.isi .int (C.ct.var 0 (by decide +kernel)) rfl (by decide +kernel) (by decide +kernel) boot_int rfl) (fe_and (fe_not (C.ct.isi .bool (C.ct.var 0 (by decide +kernel)) rfl (by decide +kernel) (by decide +kernel) boot_bool rfl)) (pe_one (chainE C.ct.le C.ct.le (C.ct.var 1 (by decide +kernel)) (C.ct.var 0 (by decide +kernel)) (C.ct.var 2 (by decide +kernel)) rfl))))))
abbrev S_law_name : Stmt := top 19
def N_law_name : List Str := ["_law_thing", "_law_sign_here"]
noncomputable def B_law_name : Fn.Env → Out := (seqS (iteS (orT (notT (testV (one1 (isiB .str) (varB 0)))) (notT (tstF (chn leF leF (litI 1) (callF lenB (consA (varB 0) nilA)) (litI 8))))) (thenS (litB false) retV) nxS) (thenS (callF allF (consA (compV (.one 1) (itF true (varB 0)) yesF (bin2 (inB false) (varB 1) (litS "abcdefghijklmnopqrstuvwxyz")) [1]) nilA)) retV))
noncomputable def E_law_name : En := ⟨"_law_name", 1, defF 2 B_law_name⟩
theorem c_law_name {a0 : B} : callE E_law_name [a0] = (E_law_name.F [toArg a0]).bind retB := (rfl)
theorem d_law_name {a0 : B} (h : [a0].all okArg = true) : E_law_name.F [a0] = outR (B_law_name [some a0, none]) := def_rt h rfl
noncomputable def T18 : List En := T17 ++ [E_law_name]
theorem sc_law_name : FnScope N_law_name ["_law_thing"] (defScope S_law_name) := ⟨rfl, rfl, rfl, by decide +kernel, rfl, by decide +kernel, by decide +kernel⟩
theorem ok_law_name {X : Cx} {g : G} {cls : Nat → Value} (C : CS X g cls 17 T17 N_law_name (defScope S_law_name) bt) : PSs X (defBody S_law_name) (tFS g B_law_name) :=
  (fs_cons (fs_if (ft_or (ft_not (C.ct.val (C.ct.isi .str (C.ct.var 0 (by decide +kernel)) rfl (by decide +kernel) (by decide +kernel) boot_str rfl) rfl)) (pw_or1 (ft_not (chainT C.ct.le C.ct.le fe_int (C.ct.call C.ct.len (fa_cons rfl (C.ct.var 0 (by decide +kernel)) fa_nil) (by decide +kernel) (by decide +kernel) rfl) fe_int rfl)))).pt (fs_one (fs_ret fe_bl)) fs_nil) (fs_one (fs_ret (C.ct.call C.ct.all (fa_cons rfl (C.ct.lc [("_law_sign_here", 1)] (C.ct.it (C.ct.var 0 (by decide +kernel))) (fun C1 => ⟨(C1.g1 1 (by decide +kernel)), ifs0, (cmpE C1.inn (C1.var 1 (by decide +kernel)) fe_str rfl)⟩) (by decide +kernel)) fa_nil) (by decide +kernel) (by decide +kernel) rfl))))
abbrev S_law_row_v1 : Stmt := top 20
def N_law_row_v1 : List Str := ["_law_thing", "_law_size"]
noncomputable def B_law_row_v1 : Fn.Env → Out := (thenS (andV (one1 (isiB .tuple) (varB 0)) (andV (bin2 eqB (callF lenB (consA (varB 0) nilA)) (varB 1)) (ownF E_law_name (consA (bin2 idxB (varB 0) (litI 0)) nilA)))) retV)
noncomputable def E_law_row_v1 : En := ⟨"_law_row", 2, defF 2 B_law_row_v1⟩
theorem c_law_row_v1 {a0 a1 : B} : callE E_law_row_v1 [a0, a1] = (E_law_row_v1.F [toArg a0, toArg a1]).bind retB := (rfl)
theorem d_law_row_v1 {a0 a1 : B} (h : [a0, a1].all okArg = true) : E_law_row_v1.F [a0, a1] = outR (B_law_row_v1 [some a0, some a1]) := def_rt h rfl
noncomputable def T19 : List En := T18 ++ [E_law_row_v1]
theorem sc_law_row_v1 : FnScope N_law_row_v1 ["_law_thing", "_law_size"] (defScope S_law_row_v1) := ⟨rfl, rfl, rfl, by decide +kernel, rfl, by decide +kernel, by decide +kernel⟩
theorem ok_law_row_v1 {X : Cx} {g : G} {cls : Nat → Value} (C : CS X g cls 18 T18 N_law_row_v1 (defScope S_law_row_v1) bt) : PSs X (defBody S_law_row_v1) (tFS g B_law_row_v1) :=
  (fs_one (fs_ret (fe_and (C.ct.isi .tuple (C.ct.var 0 (by decide +kernel)) rfl (by decide +kernel) (by decide +kernel) boot_tuple rfl) (fe_and (cmpE C.ct.eq (C.ct.call C.ct.len (fa_cons rfl (C.ct.var 0 (by decide +kernel)) fa_nil) (by decide +kernel) (by decide +kernel) rfl) (C.ct.var 1 (by decide +kernel)) rfl) (pe_one (C.ct.own 17 (fa_cons rfl (C.ct.idx (C.ct.var 0 (by decide +kernel)) fe_int rfl) fa_nil) rfl rfl (by decide +kernel) rfl))))))
abbrev S_law_due_v14 : Stmt := top 21
def N_law_due_v14 : List Str := ["_law_thing", "_law_top", "_law_jobs", "_law_tools", "_law_names_here", "_law_name_here", "_law_cost", "_law_falls", "_law_wants", "_law_job", "_law_own", "_law_tool", "_law_want"]
noncomputable def B_law_due_v14_1 : Fn.Env → Out := (forget [5, 6, 7] (iteS (orT (notT (testV (ownF E_law_whole_v2 (consA (varB 7) (consA (litI 0) (consA (litI 99) nilA)))))) (notT (testV (ownF E_law_whole_v2 (consA (varB 6) (consA (bin2 mulB (varB 7) (varB 1)) (consA (litI 999) nilA))))))) (thenS (litB false) retV) nxS))
noncomputable def B_law_due_v14_2 : Fn.Env → Out := (seqS (iteS (orT (notT (testV (ownF E_law_whole_v2 (consA (bin2 idxB (varB 9) (litI 1)) (consA (litI 0) (consA (litI 99) nilA)))))) (orT (notT (testV (ownF E_law_whole_v2 (consA (bin2 idxB (varB 9) (litI 2)) (consA (litI 0) (consA (litI 99) nilA)))))) (notT (testV (one1 (isiB .tuple) (bin2 idxB (varB 9) (litI 3))))))) (thenS (litB false) retV) nxS) (seqS (iteS (orT (notT (testV (callF allF (consA (compV (.one 12) (itF true (bin2 idxB (varB 9) (litI 3))) yesF (andV (ownF E_law_name (consA (varB 12) nilA)) (bin2 (inB false) (varB 12) (varB 4))) [12]) nilA)))) (tstF (bin2 neB (callF Fn.lstG (consA (bin2 idxB (varB 9) (litI 3)) nilA)) (one1 ssetB (bin2 idxB (varB 9) (litI 3)))))) (thenS (litB false) retV) nxS) (thenS (bin2 addB (varB 8) (callF lenB (consA (bin2 idxB (varB 9) (litI 3)) nilA))) (setL 8))))
noncomputable def B_law_due_v14 : Fn.Env → Out := (seqS (iteS (orT (notT (testV (one1 (isiB .tuple) (varB 0)))) (orT (tstF (bin2 neB (callF lenB (consA (varB 0) nilA)) (litI 3))) (notT (testV (ownF E_law_whole_v2 (consA (bin2 idxB (varB 0) (litI 0)) (consA (litI 1) (consA (litI 9) nilA)))))))) (thenS (litB false) retV) nxS) (seqS (thenS (varB 0) (bindV (.many [1, 2, 3]))) (seqS (iteS (orT (notT (testV (one1 (isiB .tuple) (varB 2)))) (notT (testV (one1 (isiB .tuple) (varB 3))))) (thenS (litB false) retV) nxS) (seqS (iteS (orT (notT (testV (callF allF (consA (compV (.one 9) (itF true (varB 2)) yesF (ownF E_law_row_v1 (consA (varB 9) (consA (litI 4) nilA))) [9]) nilA)))) (notT (testV (callF allF (consA (compV (.one 11) (itF true (varB 3)) yesF (ownF E_law_row_v1 (consA (varB 11) (consA (litI 3) nilA))) [11]) nilA))))) (thenS (litB false) retV) nxS) (seqS (thenS (compV (.one 11) (itF true (varB 3)) yesF (bin2 idxB (varB 11) (litI 0)) [11]) (setL 4)) (seqS (forget [5, 6, 7] (forV (.many [5, 6, 7]) (itF false (varB 3)) B_law_due_v14_1)) (seqS (thenS (litI 0) (setV 8)) (seqS (forV (.one 9) (itF false (varB 2)) B_law_due_v14_2) (seqS (thenS (compV (.one 9) (itF true (varB 2)) yesF (bin2 idxB (varB 9) (litI 0)) [9]) (setL 10)) (seqS (iteS (orT (tstF (bin2 neB (varB 10) (callF sortG (consA (varB 10) nilA)))) (orT (tstF (bin2 neB (varB 4) (callF sortG (consA (varB 4) nilA)))) (tstF (bin2 neB (one1 lsetB (bin2 addB (varB 10) (varB 4))) (callF lenB (consA (bin2 addB (varB 10) (varB 4)) nilA)))))) (thenS (litB false) retV) nxS) (thenS (andV (chn leF leF (litI 1) (callF lenB (consA (bin2 addB (varB 10) (varB 4)) nilA)) (litI 8)) (bin2 leF (varB 8) (litI 16))) retV)))))))))))
noncomputable def E_law_due_v14 : En := ⟨"_law_due", 1, defF 13 B_law_due_v14⟩
theorem c_law_due_v14 {a0 : B} : callE E_law_due_v14 [a0] = (E_law_due_v14.F [toArg a0]).bind retB := (rfl)
theorem d_law_due_v14 {a0 : B} (h : [a0].all okArg = true) : E_law_due_v14.F [a0] = outR (B_law_due_v14 [some a0, none, none, none, none, none, none, none, none, none, none, none, none]) := def_rt h rfl
noncomputable def T20 : List En := T19 ++ [E_law_due_v14]
theorem sc_law_due_v14 : FnScope N_law_due_v14 ["_law_thing"] (defScope S_law_due_v14) := ⟨rfl, rfl, rfl, by decide +kernel, rfl, by decide +kernel, by decide +kernel⟩
theorem ok_law_due_v14 {X : Cx} {g : G} {cls : Nat → Value} (C : CS X g cls 19 T19 N_law_due_v14 (defScope S_law_due_v14) bt) : PSs X (defBody S_law_due_v14) (tFS g B_law_due_v14) :=
  (fs_cons (fs_if (ft_or (ft_not (C.ct.val (C.ct.isi .tuple (C.ct.var 0 (by decide +kernel)) rfl (by decide +kernel) (by decide +kernel) boot_tuple rfl) rfl)) (ft_or (cmpT C.ct.ne (C.ct.call C.ct.len (fa_cons rfl (C.ct.var 0 (by decide +kernel)) fa_nil) (by decide +kernel) (by decide +kernel) rfl) fe_int rfl) (pw_or1 (ft_not (C.ct.val (C.ct.own 16 (fa_cons rfl (C.ct.idx (C.ct.var 0 (by decide +kernel)) fe_int rfl) (fa_cons rfl fe_int (fa_cons rfl fe_int fa_nil))) rfl rfl (by decide +kernel) rfl) rfl))))).pt (fs_one (fs_ret fe_bl)) fs_nil) (fs_cons (C.asgT (C.ct.var 0 (by decide +kernel)) (C.gm [1, 2, 3] (by decide +kernel)) rfl rfl) (fs_cons (fs_if (ft_or (ft_not (C.ct.val (C.ct.isi .tuple (C.ct.var 2 (by decide +kernel)) rfl (by decide +kernel) (by decide +kernel) boot_tuple rfl) rfl)) (pw_or1 (ft_not (C.ct.val (C.ct.isi .tuple (C.ct.var 3 (by decide +kernel)) rfl (by decide +kernel) (by decide +kernel) boot_tuple rfl) rfl)))).pt (fs_one (fs_ret fe_bl)) fs_nil) (fs_cons (fs_if (ft_or (ft_not (C.ct.val (C.ct.call C.ct.all (fa_cons rfl (C.ct.lc [("_law_job", 9)] (C.ct.it (C.ct.var 2 (by decide +kernel))) (fun C1 => ⟨(C1.g1 9 (by decide +kernel)), ifs0, (C1.own 18 (fa_cons rfl (C1.var 9 (by decide +kernel)) (fa_cons rfl fe_int fa_nil)) rfl rfl (by decide +kernel) rfl)⟩) (by decide +kernel)) fa_nil) (by decide +kernel) (by decide +kernel) rfl) rfl)) (pw_or1 (ft_not (C.ct.val (C.ct.call C.ct.all (fa_cons rfl (C.ct.lc [("_law_tool", 11)] (C.ct.it (C.ct.var 3 (by decide +kernel))) (fun C2 => ⟨(C2.g1 11 (by decide +kernel)), ifs0, (C2.own 18 (fa_cons rfl (C2.var 11 (by decide +kernel)) (fa_cons rfl fe_int fa_nil)) rfl rfl (by decide +kernel) rfl)⟩) (by decide +kernel)) fa_nil) (by decide +kernel) (by decide +kernel) rfl) rfl)))).pt (fs_one (fs_ret fe_bl)) fs_nil) (fs_cons (fs_setL (C.asgLc 4 [("_law_tool", 11)] (C.ct.it (C.ct.var 3 (by decide +kernel))) (fun C3 => ⟨(C3.g1 11 (by decide +kernel)), ifs0, (C3.idx (C3.var 11 (by decide +kernel)) fe_int rfl)⟩) (by decide +kernel) (by decide +kernel))) (fs_cons (fs_forget [5, 6, 7] (C.fo (C.ct.it (C.ct.var 3 (by decide +kernel))) (C.gm [5, 6, 7] (by decide +kernel)) (fun _ C => (fs_forgets [5, 6, 7] (fs_one (fs_if (ft_or (ft_not (C.ct.val (C.ct.own 16 (fa_cons rfl (C.ct.var 7 (by decide +kernel)) (fa_cons rfl fe_int (fa_cons rfl fe_int fa_nil))) rfl rfl (by decide +kernel) rfl) rfl)) (pw_or1 (ft_not (C.ct.val (C.ct.own 16 (fa_cons rfl (C.ct.var 6 (by decide +kernel)) (fa_cons rfl (C.ct.mul (C.ct.var 7 (by decide +kernel)) (C.ct.var 1 (by decide +kernel))) (fa_cons rfl fe_int fa_nil))) rfl rfl (by decide +kernel) rfl) rfl)))).pt (fs_one (fs_ret fe_bl)) fs_nil)))) rfl)) (fs_cons (C.asg 8 fe_int (by decide +kernel) rfl) (fs_cons (C.fo (C.ct.it (C.ct.var 2 (by decide +kernel))) (C.g1 9 (by decide +kernel)) (fun _ C => (fs_cons (fs_if (ft_or (ft_not (C.ct.val (C.ct.own 16 (fa_cons rfl (C.ct.idx (C.ct.var 9 (by decide +kernel)) fe_int rfl) (fa_cons rfl fe_int (fa_cons rfl fe_int fa_nil))) rfl rfl (by decide +kernel) rfl) rfl)) (ft_or (ft_not (C.ct.val (C.ct.own 16 (fa_cons rfl (C.ct.idx (C.ct.var 9 (by decide +kernel)) fe_int rfl) (fa_cons rfl fe_int (fa_cons rfl fe_int fa_nil))) rfl rfl (by decide +kernel) rfl) rfl)) (pw_or1 (ft_not (C.ct.val (C.ct.isi .tuple (C.ct.idx (C.ct.var 9 (by decide +kernel)) fe_int rfl) rfl (by decide +kernel) (by decide +kernel) boot_tuple rfl) rfl))))).pt (fs_one (fs_ret fe_bl)) fs_nil) (fs_cons (fs_if (ft_or (ft_not (C.ct.val (C.ct.call C.ct.all (fa_cons rfl (C.ct.lc [("_law_want", 12)] (C.ct.it (C.ct.idx (C.ct.var 9 (by decide +kernel)) fe_int rfl)) (fun C4 => ⟨(C4.g1 12 (by decide +kernel)), ifs0, (fe_and (C4.own 17 (fa_cons rfl (C4.var 12 (by decide +kernel)) fa_nil) rfl rfl (by decide +kernel) rfl) (pe_one (cmpE C4.inn (C4.var 12 (by decide +kernel)) (C4.var 4 (by decide +kernel)) rfl)))⟩) (by decide +kernel)) fa_nil) (by decide +kernel) (by decide +kernel) rfl) rfl)) (pw_or1 (cmpT C.ct.ne (C.ct.call C.ct.lstG (fa_cons rfl (C.ct.idx (C.ct.var 9 (by decide +kernel)) fe_int rfl) fa_nil) (by decide +kernel) (by decide +kernel) rfl) (C.ct.sset (C.ct.idx (C.ct.var 9 (by decide +kernel)) fe_int rfl) (by decide +kernel) (by decide +kernel) rfl) rfl))).pt (fs_one (fs_ret fe_bl)) fs_nil) (fs_one (fs_setL (C.asg 8 (C.ct.add (C.ct.var 8 (by decide +kernel)) (C.ct.call C.ct.len (fa_cons rfl (C.ct.idx (C.ct.var 9 (by decide +kernel)) fe_int rfl) fa_nil) (by decide +kernel) (by decide +kernel) rfl)) (by decide +kernel) rfl)))))) rfl) (fs_cons (fs_setL (C.asgLc 10 [("_law_job", 9)] (C.ct.it (C.ct.var 2 (by decide +kernel))) (fun C5 => ⟨(C5.g1 9 (by decide +kernel)), ifs0, (C5.idx (C5.var 9 (by decide +kernel)) fe_int rfl)⟩) (by decide +kernel) (by decide +kernel))) (fs_cons (fs_if (ft_or (cmpT C.ct.ne (C.ct.var 10 (by decide +kernel)) (C.ct.call C.ct.sortG (fa_cons rfl (C.ct.var 10 (by decide +kernel)) fa_nil) (by decide +kernel) (by decide +kernel) rfl) rfl) (ft_or (cmpT C.ct.ne (C.ct.var 4 (by decide +kernel)) (C.ct.call C.ct.sortG (fa_cons rfl (C.ct.var 4 (by decide +kernel)) fa_nil) (by decide +kernel) (by decide +kernel) rfl) rfl) (pw_or1 (cmpT C.ct.ne (C.ct.lset (C.ct.add (C.ct.var 10 (by decide +kernel)) (C.ct.var 4 (by decide +kernel))) (by decide +kernel) (by decide +kernel) rfl) (C.ct.call C.ct.len (fa_cons rfl (C.ct.add (C.ct.var 10 (by decide +kernel)) (C.ct.var 4 (by decide +kernel))) fa_nil) (by decide +kernel) (by decide +kernel) rfl) rfl)))).pt (fs_one (fs_ret fe_bl)) fs_nil) (fs_one (fs_ret (fe_and (chainE C.ct.le C.ct.le fe_int (C.ct.call C.ct.len (fa_cons rfl (C.ct.add (C.ct.var 10 (by decide +kernel)) (C.ct.var 4 (by decide +kernel))) fa_nil) (by decide +kernel) (by decide +kernel) rfl) fe_int rfl) (pe_one (cmpE C.ct.le (C.ct.var 8 (by decide +kernel)) fe_int rfl)))))))))))))))
abbrev S_law : Stmt := top 27
def N_law : List Str := ["_law_script", "_law_things", "_law_at", "_law_house_here", "_law_xs", "_law_thing", "_law_found"]
noncomputable def B_law_1 : Fn.Env → Out := (forget [2, 3, 4] (seqS (thenS (ownF E_law_house_v2 (consA (varB 0) (consA (varB 2) nilA))) (setL 3)) (seqS (thenS (slcV (ownF E_law_numbers (consA (ownF E_law_cell (consA (varB 0) (consA (varB 2) nilA))) (consA (litI 24) nilA))) (atP (litI 16)) noP) (setL 4)) (thenS (bin2 addB (varB 1) (callF lstB (consA (varB 3) (consA (ownF E_law_spoilt_v3 (consA (varB 3) (consA (varB 4) nilA))) (consA (ownF E_law_spoilt_v3 (consA (varB 3) (consA (slcV (varB 4) (atP (litI 3)) noP) nilA))) nilA))))) (setL 1)))))
noncomputable def B_law_2 : Fn.Env → Out := (forget [5, 6] (seqS (thenS (ownF E_is_house (consA (varB 5) nilA)) (setL 6)) (iteS (orT (notT (testV (one1 (isiB .bool) (varB 6)))) (tstF (bin2 neB (varB 6) (ownF E_law_due_v14 (consA (varB 5) nilA))))) (thenS (litB false) retV) nxS)))
noncomputable def B_law : Fn.Env → Out := (seqS (thenS (bin2 addB (ownF E_law_edges nilA) (callF lstB (consA (litS "") (consA (litI 7) (consA (callF tupB nilA) (consA (callF tupB (consA (litI 1) nilA)) (consA (callF lstB nilA) (consA newK nilA)))))))) (setL 1)) (seqS (forget [2, 3, 4] (forV (.one 2) (rgF (consA (callF maxF (consA (litI 1) (consA (callF minF (consA (callF lenB (consA (varB 0) nilA)) (consA (litI 8) nilA))) nilA))) nilA)) B_law_1)) (seqS (forget [5, 6] (forV (.one 5) (itF false (varB 1)) B_law_2)) (thenS (litB true) retV))))
noncomputable def E_law : En := ⟨"law", 1, defF 7 B_law⟩
theorem d_law {a0 : B} (h : [a0].all okArg = true) : E_law.F [a0] = outR (B_law [some a0, none, none, none, none, none, none]) := def_rt h rfl
theorem sc_law : FnScope N_law ["_law_script"] (defScope S_law) := ⟨rfl, rfl, rfl, by decide +kernel, rfl, by decide +kernel, by decide +kernel⟩
theorem ok_law {X : Cx} {g : G} {cls : Nat → Value} (C : CS X g cls 20 T20 N_law (defScope S_law) bt) : PSs X (defBody S_law) (tFS g B_law) :=
  (fs_cons (fs_setL (C.asg 1 (C.ct.add (C.ct.own0 0 rfl rfl (by decide +kernel)) (fe_lst (fa_cons rfl fe_str (fa_cons rfl fe_int (fa_cons rfl (fe_tup fa_nil) (fa_cons rfl (fe_tup (fa_cons rfl fe_int fa_nil)) (fa_cons rfl (fe_lst fa_nil) (fa_cons rfl fe_dicK fa_nil)))))))) (by decide +kernel) rfl)) (fs_cons (fs_forget [2, 3, 4] (C.fo (C.ct.rg1 (C.ct.call C.ct.max (fa_cons rfl fe_int (fa_cons rfl (C.ct.call C.ct.min (fa_cons rfl (C.ct.call C.ct.len (fa_cons rfl (C.ct.var 0 (by decide +kernel)) fa_nil) (by decide +kernel) (by decide +kernel) rfl) (fa_cons rfl fe_int fa_nil)) (by decide +kernel) (by decide +kernel) rfl) fa_nil)) (by decide +kernel) (by decide +kernel) rfl) (by decide +kernel) rfl) (C.g1 2 (by decide +kernel)) (fun _ C => (fs_forgets [2, 3, 4] (fs_cons (fs_setL (C.asg 3 (C.ct.own 4 (fa_cons rfl (C.ct.var 0 (by decide +kernel)) (fa_cons rfl (C.ct.var 2 (by decide +kernel)) fa_nil)) rfl rfl (by decide +kernel) rfl) (by decide +kernel) rfl)) (fs_cons (fs_setL (C.asg 4 (C.ct.slc (C.ct.own 1 (fa_cons rfl (C.ct.own 2 (fa_cons rfl (C.ct.var 0 (by decide +kernel)) (fa_cons rfl (C.ct.var 2 (by decide +kernel)) fa_nil)) rfl rfl (by decide +kernel) rfl) (fa_cons rfl fe_int fa_nil)) rfl rfl (by decide +kernel) rfl) (fo_some fe_int) fo_none) (by decide +kernel) rfl)) (fs_one (fs_setL (C.asg 1 (C.ct.add (C.ct.var 1 (by decide +kernel)) (fe_lst (fa_cons rfl (C.ct.var 3 (by decide +kernel)) (fa_cons rfl (C.ct.own 8 (fa_cons rfl (C.ct.var 3 (by decide +kernel)) (fa_cons rfl (C.ct.var 4 (by decide +kernel)) fa_nil)) rfl rfl (by decide +kernel) rfl) (fa_cons rfl (C.ct.own 8 (fa_cons rfl (C.ct.var 3 (by decide +kernel)) (fa_cons rfl (C.ct.slc (C.ct.var 4 (by decide +kernel)) (fo_some fe_int) fo_none) fa_nil)) rfl rfl (by decide +kernel) rfl) fa_nil))))) (by decide +kernel) rfl))))))) rfl)) (fs_cons (fs_forget [5, 6] (C.fo (C.ct.it (C.ct.var 1 (by decide +kernel))) (C.g1 5 (by decide +kernel)) (fun _ C => (fs_forgets [5, 6] (fs_cons (fs_setL (C.asg 6 (C.ct.own 15 (fa_cons rfl (C.ct.var 5 (by decide +kernel)) fa_nil) rfl rfl (by decide +kernel) rfl) (by decide +kernel) rfl)) (fs_one (fs_if (ft_or (ft_not (C.ct.val (C.ct.isi .bool (C.ct.var 6 (by decide +kernel)) rfl (by decide +kernel) (by decide +kernel) boot_bool rfl) rfl)) (pw_or1 (cmpT C.ct.ne (C.ct.var 6 (by decide +kernel)) (C.ct.own 19 (fa_cons rfl (C.ct.var 5 (by decide +kernel)) fa_nil) rfl rfl (by decide +kernel) rfl) rfl))).pt (fs_one (fs_ret fe_bl)) fs_nil))))) rfl)) (fs_one (fs_ret fe_bl)))))
end P
namespace P
open PySem PySem.Spec PyProof.Rows L2 Fn
theorem cell_spec (ns : List Int) (k : Int) (h0 : 0 ≤ k) (h1 : k < 64) : ∃ c : Int, E_law_cell.F [.scr ns, .dat (.int k)] = .ok (.dat (.int c)) := by
  rw [d_law_cell (by rfl)]
  by_cases hl : k < (ns.length : Int)
  · refine ⟨ns[k.toNat]'(by omega), ?_⟩
    have hi := idx_scr (ns := ns) (k := k) (atI_lt h0 hl)
    simp only [B_law_cell, Fn.evT, List.getElem?_cons_zero, List.getElem?_cons_succ, List.set_cons_zero, List.set_cons_succ, List.length_cons, List.length_nil, Nat.reduceAdd, Nat.reduceLT, Bool.not_true, Bool.not_false, Nat.reduceLeDiff, Int.cast_ofNat_Int, Int.natCast_zero, Int.natCast_one, Int.reduceEq, eq_self, Int.reduceLE, Int.reduceLT, Int.reduceNeg, Int.reduceToNat, Int.toNat_natCast, Int.reduceAdd, Int.reduceSub, Int.reduceMul, Nat.reduceMul, Nat.reduceSub, decide_true, decide_false, Bool.true_and, Bool.false_and, Bool.and_true, Bool.true_or, Bool.false_or, Bool.or_false, not_true_eq_false, not_false_eq_true, if_true, if_false, Bool.false_eq_true, reduceCtorEq, hl, hi]
  · haveI : ISz k 6 := isz_of (by omega) (by omega)
    have sl : sliceB (.scr ns) none (some 3) = .ok (.own (.l ((ns.take 3).map .int))) := by
      show Res.ok (B.own (.l (cutL (ns.map D.int) none (some 3)))) = _
      rw [cut_tak (by decide), List.map_take]; rfl
    have st : ∀ s : Int, 0 ≤ s → s < 2147483647 → ∃ z, loopF (.one 3) B_law_cell_1 ((ns.take 3).map .int) [some (.scr ns), some (.dat (.int k)), some (.dat (.int s)), none] = .nx [some (.scr ns), some (.dat (.int k)), some (.dat (.int z)), none] := fun s hs0 hs1 => by
      refine ⟨_, (loop_fold (fun s : Int => [some (.scr ns), some (.dat (.int k)), some (.dat (.int s)), none]) (fun s a => (s * 69621 + a) % 2147483647) (fun _ s => 0 ≤ s ∧ s < 2147483647) (s := s) ⟨hs0, hs1⟩ ?_).1⟩
      rintro a as s ⟨h2, h3⟩
      haveI : ISz s 31 := isz_of (by omega) (by omega)
      exact ⟨⟨by omega, by omega⟩, _, bt_one, .inl (by simp (decide := true) only [B_law_cell_1, Fn.evT, List.getElem?_cons_zero, List.getElem?_cons_succ, List.set_cons_zero, List.set_cons_succ, List.length_cons, List.length_nil, Nat.reduceAdd, Nat.reduceLT, Bool.not_true, Bool.not_false, Nat.reduceLeDiff, Int.cast_ofNat_Int, Int.natCast_zero, Int.natCast_one, Int.reduceEq, eq_self, Int.reduceLE, Int.reduceLT, Int.reduceNeg, Int.reduceToNat, Int.toNat_natCast, Int.reduceAdd, Int.reduceSub, Int.reduceMul, Nat.reduceMul, Nat.reduceSub, decide_true, decide_false, Bool.true_and, Bool.false_and, Bool.and_true, Bool.true_or, Bool.false_or, Bool.or_false, not_true_eq_false, not_false_eq_true, if_true, if_false, Bool.false_eq_true, reduceCtorEq, mul_z, mod_pos])⟩
    obtain ⟨z, hz⟩ := st (48271 * (k * k + 7 * k + 11) % 2147483647) (by omega) (by omega)
    exact ⟨z, by simp (decide := true) only [B_law_cell, Fn.evT, List.getElem?_cons_zero, List.getElem?_cons_succ, List.set_cons_zero, List.set_cons_succ, List.length_cons, List.length_nil, Nat.reduceAdd, Nat.reduceLT, Bool.not_true, Bool.not_false, Nat.reduceLeDiff, Int.cast_ofNat_Int, Int.natCast_zero, Int.natCast_one, Int.reduceEq, eq_self, Int.reduceLE, Int.reduceLT, Int.reduceNeg, Int.reduceToNat, Int.toNat_natCast, Int.reduceAdd, Int.reduceSub, Int.reduceMul, Nat.reduceMul, Nat.reduceSub, decide_true, decide_false, Bool.true_and, Bool.false_and, Bool.and_true, Bool.true_or, Bool.false_or, Bool.or_false, not_true_eq_false, not_false_eq_true, if_true, if_false, Bool.false_eq_true, reduceCtorEq, hl, mul_z, mod_pos, sl, hz]⟩
def numF (q : List Int × Int × Int) (i : Nat) : List Int × Int × Int :=
  (q.1 ++ [if 0 < q.2.2 then q.2.2 % 1000000 else (q.2.1 * (q.2.1 % 65521 + 40487) + 7 * i + 5) % 1999999973], (q.2.1 * (q.2.1 % 65521 + 40487) + 7 * i + 5) % 1999999973, q.2.2 / 1000000)
theorem numbers_spec (c n : Int) (h0 : 0 ≤ n) (hn : n ≤ 300) : ∃ xs : List Int, (xs.length : Int) = n ∧ (∀ x ∈ xs, 0 ≤ x ∧ x < 2000000000) ∧ E_law_numbers.F [.dat (.int c), .dat (.int n)] = .ok (.own (.l (xs.map .int))) := by
  have st : ∀ s d : Int, 0 ≤ s → s < 1999999973 → ∃ (xs : List Int) (s2 d2 : Int), (xs.length : Int) = n ∧ (∀ x ∈ xs, 0 ≤ x ∧ x < 2000000000) ∧ loopF (.one 5) B_law_numbers_1 ((List.range n.toNat).map fun (i : Nat) => D.int i) [some (.dat (.int c)), some (.dat (.int n)), some (.own (.l [])), some (.dat (.int s)), some (.dat (.int d)), none] =
      .nx [some (.dat (.int c)), some (.dat (.int n)), some (.own (.l (xs.map .int))), some (.dat (.int s2)), some (.dat (.int d2)), none] := fun s d hs0 hs1 => by
    have := loop_fold (as := List.range n.toNat) (tg := .one 5) (f := B_law_numbers_1) (e := fun (i : Nat) => D.int i) (fun q : List Int × Int × Int => [some (.dat (.int c)), some (.dat (.int n)), some (.own (.l (q.1.map .int))), some (.dat (.int q.2.1)), some (.dat (.int q.2.2)), none]) numF
      (fun as q => q.1.length + as.length = n.toNat ∧ (∀ a ∈ as, a < 300) ∧ (∀ x ∈ q.1, 0 ≤ x ∧ x < 2000000000) ∧ 0 ≤ q.2.1 ∧ q.2.1 < 1999999973) (s := ([], s, d)) ⟨by simp, fun a ha => (by have := List.mem_range.mp ha; omega), fun x hx => (by cases hx), hs0, hs1⟩ ?_
    · obtain ⟨e, h1, _, h3, _⟩ := this
      exact ⟨_, _, _, by rw [List.length_nil, Nat.add_zero] at h1; omega, h3, e⟩
    · rintro a as ⟨xs, s, d⟩ ⟨h1, h2, h3, h4, h5⟩
      have ha := h2 a List.mem_cons_self
      dsimp only at h1 h3 h4 h5
      rw [List.length_cons] at h1
      haveI : ISz s 31 := isz_of (by omega) (by omega)
      haveI : ISz (a : Int) 9 := isz_of (by omega) (by omega)
      refine ⟨⟨?_, fun b hb => h2 b (List.mem_cons_of_mem _ hb), ?_, ?_, ?_⟩, _, bt_one, .inl ?_⟩
      · show (xs ++ _).length + as.length = _
        rw [List.length_append]; show xs.length + 1 + _ = _; omega
      · intro x hx
        rcases List.mem_append.mp hx with h | h
        · exact h3 x h
        · rw [List.mem_singleton.mp h]
          dsimp only
          split <;> omega
      · show 0 ≤ _ % _; omega
      · show _ % _ < _; omega
      · have x1 : ∀ u v : Int, idxB (.dat (.lst [.int u, .int v])) (.dat (.int (if decide (0 < d) = true then 1 else 0))) = .ok (.dat (.int (if 0 < d then v else u))) := by
          intro u v
          by_cases z : 0 < d
          · rw [if_pos (decide_eq_true z), if_pos z]; rfl
          · rw [if_neg (by rw [decide_eq_false z]; decide), if_neg z]; rfl
        have hz : (xs.map D.int).length < 1000 := by rw [List.length_map]; omega
        simp (decide := true) only [B_law_numbers_1, numF, Fn.evT, List.getElem?_cons_zero, List.getElem?_cons_succ, List.set_cons_zero, List.set_cons_succ, List.length_cons, List.length_nil, Nat.reduceAdd, Nat.reduceLT, Bool.not_true, Bool.not_false, Nat.reduceLeDiff, Int.cast_ofNat_Int, Int.natCast_zero, Int.natCast_one, Int.reduceEq, eq_self, Int.reduceLE, Int.reduceLT, Int.reduceNeg, Int.reduceToNat, Int.toNat_natCast, Int.reduceAdd, Int.reduceSub, Int.reduceMul, Nat.reduceMul, Nat.reduceSub, decide_true, decide_false, Bool.true_and, Bool.false_and, Bool.and_true, Bool.true_or, Bool.false_or, Bool.or_false, not_true_eq_false, not_false_eq_true, if_true, if_false, Bool.false_eq_true, reduceCtorEq, mul_z, mod_pos, div_z, x1, hz, List.map_append, List.map_cons, List.map_nil]
  haveI h31 : ISz (c % 1999999973) 31 := isz_of (by omega) (by omega)
  have fin : ∀ d : Int, ∃ xs : List Int, (xs.length : Int) = n ∧ (∀ x ∈ xs, 0 ≤ x ∧ x < 2000000000) ∧ outR (Out.sq (fgK [3, 4, 5] (loopF (.one 5) B_law_numbers_1 ((List.range n.toNat).map fun (i : Nat) => D.int i) [some (.dat (.int c)), some (.dat (.int n)), some (.own (.l [])), some (.dat (.int ((c % 1999999973 + 31) * 765432101 % 1999999973))), some (.dat (.int d)), none])) (retN 2)) = .ok (.own (.l (xs.map .int))) := fun d => by
    obtain ⟨xs, s2, d2, h1, h2, h3⟩ := st ((c % 1999999973 + 31) * 765432101 % 1999999973) d (by omega) (by omega)
    exact ⟨xs, h1, h2, by rw [h3]; rfl⟩
  obtain ⟨big, pw⟩ : ∃ big : Int, powZ (.dat (.int 10)) (.dat (.int 18)) = .ok (.dat (.int big)) := ⟨_, pow_z (by omega) (by omega) (by decide)⟩
  rw [d_law_numbers (by rfl)]
  have r1 := rg1 (k := n) (by omega) (by omega)
  have m1 : ISz (c % 1999999973 + 31) 32 := isz_of (by omega) (by omega)
  cases e1 : decide (c < 0) with
  | true =>
    obtain ⟨xs, h1, h2, h3⟩ := fin (c.natAbs : Int)
    refine ⟨xs, h1, h2, ?_⟩
    rw [← h3]
    simp (decide := true) only [B_law_numbers, Fn.evT, List.getElem?_cons_zero, List.getElem?_cons_succ, List.set_cons_zero, List.set_cons_succ, List.length_cons, List.length_nil, Nat.reduceAdd, Nat.reduceLT, Bool.not_true, Bool.not_false, Nat.reduceLeDiff, Int.cast_ofNat_Int, Int.natCast_zero, Int.natCast_one, Int.reduceEq, eq_self, Int.reduceLE, Int.reduceLT, Int.reduceNeg, Int.reduceToNat, Int.toNat_natCast, Int.reduceAdd, Int.reduceSub, Int.reduceMul, Nat.reduceMul, Nat.reduceSub, decide_true, decide_false, Bool.true_and, Bool.false_and, Bool.and_true, Bool.true_or, Bool.false_or, Bool.or_false, not_true_eq_false, not_false_eq_true, if_true, if_false, Bool.false_eq_true, reduceCtorEq, e1, mul_z, mod_pos, abs_i, r1]
  | false =>
    cases e2 : decide (big ≤ c) with
    | true =>
      obtain ⟨xs, h1, h2, h3⟩ := fin (c.natAbs : Int)
      refine ⟨xs, h1, h2, ?_⟩
      rw [← h3]
      simp (decide := true) only [B_law_numbers, Fn.evT, List.getElem?_cons_zero, List.getElem?_cons_succ, List.set_cons_zero, List.set_cons_succ, List.length_cons, List.length_nil, Nat.reduceAdd, Nat.reduceLT, Bool.not_true, Bool.not_false, Nat.reduceLeDiff, Int.cast_ofNat_Int, Int.natCast_zero, Int.natCast_one, Int.reduceEq, eq_self, Int.reduceLE, Int.reduceLT, Int.reduceNeg, Int.reduceToNat, Int.toNat_natCast, Int.reduceAdd, Int.reduceSub, Int.reduceMul, Nat.reduceMul, Nat.reduceSub, decide_true, decide_false, Bool.true_and, Bool.false_and, Bool.and_true, Bool.true_or, Bool.false_or, Bool.or_false, not_true_eq_false, not_false_eq_true, if_true, if_false, Bool.false_eq_true, reduceCtorEq, e1, e2, pw, mul_z, mod_pos, abs_i, r1]
    | false =>
      obtain ⟨xs, h1, h2, h3⟩ := fin 0
      refine ⟨xs, h1, h2, ?_⟩
      rw [← h3]
      simp (decide := true) only [B_law_numbers, Fn.evT, List.getElem?_cons_zero, List.getElem?_cons_succ, List.set_cons_zero, List.set_cons_succ, List.length_cons, List.length_nil, Nat.reduceAdd, Nat.reduceLT, Bool.not_true, Bool.not_false, Nat.reduceLeDiff, Int.cast_ofNat_Int, Int.natCast_zero, Int.natCast_one, Int.reduceEq, eq_self, Int.reduceLE, Int.reduceLT, Int.reduceNeg, Int.reduceToNat, Int.toNat_natCast, Int.reduceAdd, Int.reduceSub, Int.reduceMul, Nat.reduceMul, Nat.reduceSub, decide_true, decide_false, Bool.true_and, Bool.false_and, Bool.and_true, Bool.true_or, Bool.false_or, Bool.or_false, not_true_eq_false, not_false_eq_true, if_true, if_false, Bool.false_eq_true, reduceCtorEq, e1, e2, pw, mul_z, mod_pos, abs_i, r1]
end P
namespace P
open PySem PySem.Spec PyProof.Rows L2 Fn
theorem name_step (xs : List Int) (hx : 4 ≤ xs.length) (n : Int) (found : List D) (hf : found.length < 1000) (k : Nat) (hk : k < 8) : B_law_names_v3_1 [some (.dat (.lst (xs.map .int))), some (.dat (.int n)), some (.dat (.str "abcdefghijklmnopqrstuvwxyz")), some (.own (.l found)), some (.dat (.int (k : Int))), none, none] =
    .nx [some (.dat (.lst (xs.map .int))), some (.dat (.int n)), some (.dat (.str "abcdefghijklmnopqrstuvwxyz")), some (.own (.l (found ++ [.str (sC (nmC (xs.getD 0 0) (xs.getD 1 0) (xs.getD 2 0) (xs.getD 3 0) k))]))), none, none, none] := by
  have i0 := ixI (l := xs) (k := 0) (by omega) (by omega)
  have i1 := ixI (l := xs) (k := 1) (by omega) (by omega)
  have i2 := ixI (l := xs) (k := 2) (by omega) (by omega)
  have i3 := ixI (l := xs) (k := 3) (by omega) (by omega)
  simp only [Int.reduceToNat] at i0 i1 i2 i3
  generalize xs.getD 0 0 = x0 at *
  generalize xs.getD 1 0 = x1 at *
  generalize xs.getD 2 0 = x2 at *
  generalize xs.getD 3 0 = x3 at *
  have mm : ∀ z w : Int, modB (.dat (.int z)) (.dat (.int (if w % 2 = 0 then 1 else 5))) = .ok (.dat (.int (z % (if w % 2 = 0 then 1 else 5)))) := fun z w => mod_pos (by split <;> omega)
  have l5 : ∀ w : Int, idxB (.dat (.lst [.int 1, .int 5])) (.dat (.int (w % 2))) = .ok (.dat (.int (if w % 2 = 0 then 1 else 5))) := by
    intro w
    by_cases z : w % 2 = 0
    · rw [z, if_pos rfl]; exact idxL (n := 0) _ rfl rfl
    · rw [show w % 2 = 1 by omega, if_neg (by decide)]; exact idxL (n := 1) _ rfl rfl
  haveI : ISz (k : Int) 4 := isz_of (by omega) (by omega)
  have r0 : mulB (.dat (.str (sC [97 + ((x0 + 7 * (k : Int)) % 26).toNat]))) (.dat (.int (1 + (x2 + 3 * (k : Int)) % (if x3 % 2 = 0 then 1 else 5)))) = .ok (.dat (.str (sC (List.replicate (1 + (x2 + 3 * (k : Int)) % (if x3 % 2 = 0 then 1 else 5)).toNat (97 + ((x0 + 7 * (k : Int)) % 26).toNat))))) := rep_ok (by split <;> omega) (by split <;> omega)
  have r1 : mulB (.dat (.str (sC [97 + (x2 % 26).toNat]))) (.dat (.int (x3 % 8))) = .ok (.dat (.str (sC (List.replicate (x3 % 8).toNat (97 + (x2 % 26).toNat))))) := rep_ok (by omega) (by omega)
  have r2 : mulB (.dat (.str (sC [97 + (x2 % 26).toNat]))) (.dat (.int (1 + (k : Int)))) = .ok (.dat (.str (sC (List.replicate (1 + (k : Int)).toNat (97 + (x2 % 26).toNat))))) := rep_ok (by omega) (by omega)
  have c1 := cat_ok (a := [97 + k]) (b := List.replicate (x3 % 8).toNat (97 + (x2 % 26).toNat)) (by rw [List.length_replicate]; show 1 + _ ≤ 1000; omega)
  have c3 : ∀ a b c : Nat, addB (.dat (.str (sC [a]))) (.dat (.str (sC [b]))) = .ok (.dat (.str (sC [a, b]))) := fun a b c => cat_ok (by show 2 ≤ 1000; decide)
  have c4 : ∀ a b c : Nat, addB (.dat (.str (sC [a, b]))) (.dat (.str (sC [c]))) = .ok (.dat (.str (sC [a, b, c]))) := fun a b c => cat_ok (by show 3 ≤ 1000; decide)
  have c3' := fun a b => c3 a b 0
  have l8 : idxB (.dat (.str "abcdefgh")) (.dat (.int (k : Int))) = .ok (.dat (.str (sC [97 + k]))) := letter8 hk
  unfold nmC
  by_cases h1 : x1 % 4 = 1
  · have d1 : decide (x1 % 4 = 1) = true := decide_eq_true h1
    have d2 : decide (x1 % 4 = 2) = false := decide_eq_false (by omega)
    have d3 : decide (x1 % 4 = 3) = false := decide_eq_false (by omega)
    rw [if_pos h1]
    simp (decide := true) only [B_law_names_v3_1, Fn.evT, List.getElem?_cons_zero, List.getElem?_cons_succ, List.set_cons_zero, List.set_cons_succ, List.length_cons, List.length_nil, Nat.reduceAdd, Nat.reduceLT, Bool.not_true, Bool.not_false, Nat.reduceLeDiff, Int.cast_ofNat_Int, Int.natCast_zero, Int.natCast_one, Int.reduceEq, eq_self, Int.reduceLE, Int.reduceLT, Int.reduceNeg, Int.reduceToNat, Int.toNat_natCast, Int.reduceAdd, Int.reduceSub, Int.reduceMul, Nat.reduceMul, Nat.reduceSub, decide_true, decide_false, Bool.true_and, Bool.false_and, Bool.and_true, Bool.true_or, Bool.false_or, Bool.or_false, not_true_eq_false, not_false_eq_true, if_true, if_false, Bool.false_eq_true, reduceCtorEq, mod_pos, mul_z, i0, i1, i2, i3, l5, mm, idx_26, r0, d1, d2, d3, r1, l8, c1, hf, List.cons_append, List.nil_append]
  · rw [if_neg h1]
    have d1 : decide (x1 % 4 = 1) = false := decide_eq_false h1
    by_cases h2 : x1 % 4 = 2
    · have d2 : decide (x1 % 4 = 2) = true := decide_eq_true h2
      have d3 : decide (x1 % 4 = 3) = false := decide_eq_false (by omega)
      rw [if_pos h2]
      have ek : (1 + (k : Int)).toNat = 1 + k := by omega
      rw [ek] at r2
      simp (decide := true) only [B_law_names_v3_1, Fn.evT, List.getElem?_cons_zero, List.getElem?_cons_succ, List.set_cons_zero, List.set_cons_succ, List.length_cons, List.length_nil, Nat.reduceAdd, Nat.reduceLT, Bool.not_true, Bool.not_false, Nat.reduceLeDiff, Int.cast_ofNat_Int, Int.natCast_zero, Int.natCast_one, Int.reduceEq, eq_self, Int.reduceLE, Int.reduceLT, Int.reduceNeg, Int.reduceToNat, Int.toNat_natCast, Int.reduceAdd, Int.reduceSub, Int.reduceMul, Nat.reduceMul, Nat.reduceSub, decide_true, decide_false, Bool.true_and, Bool.false_and, Bool.and_true, Bool.true_or, Bool.false_or, Bool.or_false, not_true_eq_false, not_false_eq_true, if_true, if_false, Bool.false_eq_true, reduceCtorEq, mod_pos, mul_z, i0, i1, i2, i3, l5, mm, idx_26, r0, d1, d2, d3, r2, hf]
    · rw [if_neg h2]
      have d2 : decide (x1 % 4 = 2) = false := decide_eq_false h2
      by_cases h3 : x1 % 4 = 3
      · have d3 : decide (x1 % 4 = 3) = true := decide_eq_true h3
        rw [if_pos h3]
        simp (decide := true) only [B_law_names_v3_1, Fn.evT, List.getElem?_cons_zero, List.getElem?_cons_succ, List.set_cons_zero, List.set_cons_succ, List.length_cons, List.length_nil, Nat.reduceAdd, Nat.reduceLT, Bool.not_true, Bool.not_false, Nat.reduceLeDiff, Int.cast_ofNat_Int, Int.natCast_zero, Int.natCast_one, Int.reduceEq, eq_self, Int.reduceLE, Int.reduceLT, Int.reduceNeg, Int.reduceToNat, Int.toNat_natCast, Int.reduceAdd, Int.reduceSub, Int.reduceMul, Nat.reduceMul, Nat.reduceSub, decide_true, decide_false, Bool.true_and, Bool.false_and, Bool.and_true, Bool.true_or, Bool.false_or, Bool.or_false, not_true_eq_false, not_false_eq_true, if_true, if_false, Bool.false_eq_true, reduceCtorEq, mod_pos, mul_z, i0, i1, i2, i3, l5, mm, idx_26, r0, d1, d2, d3, c3', c4, hf]
      · have d3 : decide (x1 % 4 = 3) = false := decide_eq_false h3
        rw [if_neg h3]
        simp (decide := true) only [B_law_names_v3_1, Fn.evT, List.getElem?_cons_zero, List.getElem?_cons_succ, List.set_cons_zero, List.set_cons_succ, List.length_cons, List.length_nil, Nat.reduceAdd, Nat.reduceLT, Bool.not_true, Bool.not_false, Nat.reduceLeDiff, Int.cast_ofNat_Int, Int.natCast_zero, Int.natCast_one, Int.reduceEq, eq_self, Int.reduceLE, Int.reduceLT, Int.reduceNeg, Int.reduceToNat, Int.toNat_natCast, Int.reduceAdd, Int.reduceSub, Int.reduceMul, Nat.reduceMul, Nat.reduceSub, decide_true, decide_false, Bool.true_and, Bool.false_and, Bool.and_true, Bool.true_or, Bool.false_or, Bool.or_false, not_true_eq_false, not_false_eq_true, if_true, if_false, Bool.false_eq_true, reduceCtorEq, mod_pos, mul_z, i0, i1, i2, i3, l5, mm, idx_26, r0, d1, d2, d3, hf]
theorem names_of_sort (xs : List Int) (hx : 4 ≤ xs.length) (n : Int) (h0 : 0 ≤ n) (hn : n ≤ 8) {ns : List Str} (h2 : sortG [.dat (.lst ((List.range n.toNat).map fun k => D.str (sC (nmC (xs.getD 0 0) (xs.getD 1 0) (xs.getD 2 0) (xs.getD 3 0) k))))] = .ok (.own (.l (txs ns)))) : E_law_names_v3.F [.dat (.lst (xs.map .int)), .dat (.int n)] = .ok (.own (.l (txs ns))) := by
  have lp : ∀ (j k : Nat), j + k = n.toNat → loopF (.one 4) B_law_names_v3_1 ((List.range' j k).map fun (i : Nat) => D.int i) [some (.dat (.lst (xs.map .int))), some (.dat (.int n)), some (.dat (.str "abcdefghijklmnopqrstuvwxyz")), some (.own (.l ((List.range j).map fun k => D.str (sC (nmC (xs.getD 0 0) (xs.getD 1 0) (xs.getD 2 0) (xs.getD 3 0) k))))), none, none, none] =
      .nx [some (.dat (.lst (xs.map .int))), some (.dat (.int n)), some (.dat (.str "abcdefghijklmnopqrstuvwxyz")), some (.own (.l ((List.range n.toNat).map fun k => D.str (sC (nmC (xs.getD 0 0) (xs.getD 1 0) (xs.getD 2 0) (xs.getD 3 0) k))))), none, none, none] := by
    intro j k
    induction k generalizing j with
    | zero => intro e; rw [Nat.add_zero] at e; subst e; rfl
    | succ k ih =>
      intro e
      rw [List.range'_succ, List.map_cons, loop_one bt_one]
      simp only [List.set_cons_zero, List.set_cons_succ]
      rw [name_step xs hx n _ (by rw [List.length_map, List.length_range]; omega) j (by omega), lk_nx]
      have := ih (j + 1) (by omega)
      rw [List.range_succ, List.map_append] at this
      exact this
  have lp0 := lp 0 n.toNat (by omega)
  rw [← List.range_eq_range'] at lp0
  rw [d_law_names_v3 (by rfl)]
  have r1 := rg1 (k := n) (by omega) (by omega)
  have lp1 : (loopF (.one 4) B_law_names_v3_1 ((List.range n.toNat).map fun (i : Nat) => D.int i) [some (.dat (.lst (xs.map .int))), some (.dat (.int n)), some (.dat (.str "abcdefghijklmnopqrstuvwxyz")), some (.own (.l [])), none, none, none]) = _ := lp0
  simp (decide := true) only [B_law_names_v3, Fn.evT, List.getElem?_cons_zero, List.getElem?_cons_succ, List.set_cons_zero, List.set_cons_succ, List.length_cons, List.length_nil, Nat.reduceAdd, Nat.reduceLT, Bool.not_true, Bool.not_false, Nat.reduceLeDiff, Int.cast_ofNat_Int, Int.natCast_zero, Int.natCast_one, Int.reduceEq, eq_self, Int.reduceLE, Int.reduceLT, Int.reduceNeg, Int.reduceToNat, Int.toNat_natCast, Int.reduceAdd, Int.reduceSub, Int.reduceMul, Nat.reduceMul, Nat.reduceSub, decide_true, decide_false, Bool.true_and, Bool.false_and, Bool.and_true, Bool.true_or, Bool.false_or, Bool.or_false, not_true_eq_false, not_false_eq_true, if_true, if_false, Bool.false_eq_true, reduceCtorEq, r1, lp1, h2]
theorem names_spec (xs : List Int) (hx : 4 ≤ xs.length) (n : Int) (h0 : 0 ≤ n) (hn : n ≤ 8) : ∃ ns : List Str, Nms ns n.toNat ∧ E_law_names_v3.F [.dat (.lst (xs.map .int)), .dat (.int n)] = .ok (.own (.l (txs ns))) := by
  obtain ⟨ns, h1, h2⟩ := nms_draw (xs.getD 0 0) (xs.getD 1 0) (xs.getD 2 0) (xs.getD 3 0) (n := n.toNat) (by omega)
  exact ⟨ns, h1, names_of_sort xs hx n h0 hn h2⟩
end P
namespace P
open PySem PySem.Spec PyProof.Rows L2 Fn
theorem pick3 {a b c k : Int} (h0 : 0 ≤ k) (h1 : k < 3) (Q : Int → Prop) (pa : Q a) (pb : Q b) (pc : Q c) : ∃ m : Int, idxB (.dat (.lst [.int a, .int b, .int c])) (.dat (.int k)) = .ok (.dat (.int m)) ∧ Q m := by
  have : k = 0 ∨ k = 1 ∨ k = 2 := by omega
  rcases this with rfl | rfl | rfl
  · exact ⟨a, idx_lst rfl, pa⟩
  · exact ⟨b, idx_lst rfl, pb⟩
  · exact ⟨c, idx_lst rfl, pc⟩
theorem getD_nn {xs : List Int} (hb : ∀ x ∈ xs, 0 ≤ x) (k : Nat) : 0 ≤ xs.getD k 0 := by
  rw [List.getD_eq_getElem?_getD]
  cases h : xs[k]? with
  | none => exact Int.le_refl 0
  | some x => exact hb x (List.mem_of_getElem? h)
abbrev envHo (sc : List Int) (a : Nat) (xs : List Int) (top many : Int) (ns sm : List Str) (tl : Option Fn.B) (o : Option Fn.B) (jb : Option Fn.B) (lf : Option Fn.B) : Fn.Env := [some (.scr sc), some (.dat (.int (a : Nat))), some (.dat (.lst (xs.map .int))), some (.dat (.int top)), some (.dat (.int many)), some (.dat (.lst (txs ns))), some (.dat (.lst (txs sm))), tl, o, none, none, none, jb, lf, none, none, none]
theorem house_tool {sc : List Int} {a : Nat} {xs : List Int} {top many : Int} {ns sm : List Str} {k : Nat} (ha : a + 12 ≤ 60) (t1 : 1 ≤ top) (t9 : top ≤ 9) (hs : sm.length ≤ 8) (hk : k < sm.length) {ls : List Tl} (hl : ls.length ≤ 900) (o jb lf : Option Fn.B) :
    ∃ t : Tl, t.n = sm[k] ∧ (0 ≤ t.f ∧ t.f ≤ 99 ∧ t.f * top ≤ t.c ∧ t.c ≤ 999) ∧ B_law_house_v2_1 ((envHo sc a xs top many ns sm (some (.own (.l (ls.map tlD)))) o jb lf).set 8 (some (.dat (.int (k : Nat))))) = .nx (envHo sc a xs top many ns sm (some (.own (.l ((ls ++ [t]).map tlD)))) (some (.dat (.int (k : Nat)))) jb lf) := by
  obtain ⟨c, hc⟩ := cell_spec sc ((a : Int) + 1 + (k : Int)) (by omega) (by omega)
  obtain ⟨ys, hy, hb, hn⟩ := numbers_spec c 14 (by decide) (by decide)
  have i0 := ixI (l := ys) (k := 0) (by omega) (by omega)
  have i1 := ixI (l := ys) (k := 1) (by omega) (by omega)
  have i2 := ixI (l := ys) (k := 2) (by omega) (by omega)
  have i3 := ixI (l := ys) (k := 3) (by omega) (by omega)
  generalize ys.getD (Int.toNat 0) 0 = y0 at *
  generalize ys.getD (Int.toNat 1) 0 = y1 at *
  generalize ys.getD (Int.toNat 2) 0 = y2 at *
  generalize ys.getD (Int.toNat 3) 0 = y3 at *
  have m1 : modB (.dat (.int y1)) (.dat (.int 3)) = .ok (.dat (.int (y1 % 3))) := mod_pos (by decide)
  have m3 : modB (.dat (.int y3)) (.dat (.int 3)) = .ok (.dat (.int (y3 % 3))) := mod_pos (by decide)
  obtain ⟨u, hu, u0, u1⟩ := pick3 (a := 3) (b := 6) (c := 100) (k := y1 % 3) (by omega) (by omega) (fun m => 0 < m ∧ m ≤ 100) (by decide) (by decide) (by decide)
  obtain ⟨v, hv, v0, v1⟩ := pick3 (a := 6) (b := 40) (c := 109) (k := y3 % 3) (by omega) (by omega) (fun m => 0 < m ∧ m ≤ 109) (by decide) (by decide) (by decide)
  have m0 : modB (.dat (.int y0)) (.dat (.int u)) = .ok (.dat (.int (y0 % u))) := mod_pos u0
  have m2 : modB (.dat (.int y2)) (.dat (.int v)) = .ok (.dat (.int (y2 % v))) := mod_pos v0
  have b0 := Int.emod_nonneg y0 (show u ≠ 0 by omega)
  have b1 := Int.emod_lt_of_pos y0 u0
  have b2 := Int.emod_nonneg y2 (show v ≠ 0 by omega)
  have b3 := Int.emod_lt_of_pos y2 v0
  generalize y0 % u = f at *
  generalize y2 % v = e at *
  haveI : ISz f 8 := isz_of (by omega) (by omega)
  haveI : ISz top 4 := isz_of (by omega) (by omega)
  have mf := mul_z (i := f) (j := top) (by decide)
  have m99 : mulB (.dat (.int 99)) (.dat (.int 9)) = .ok (.dat (.int 891)) := mul_z (i := 99) (j := 9) (by decide)
  have ft0 : 0 ≤ f * top := Int.mul_nonneg b0 (by omega)
  have ft1 : f * top ≤ 99 * 9 := Int.mul_le_mul (by omega) t9 (by omega) (by decide)
  have ix : idxB (.dat (.lst (txs sm))) (.dat (.int (k : Nat))) = .ok (.dat (.str sm[k])) := idx_lst (atI_nat (by rw [txs, List.getElem?_map, List.getElem?_eq_getElem hk]; rfl))
  have z : (ls.map tlD).length < 1000 := by rw [List.length_map]; omega
  refine ⟨⟨sm[k], f * top + e, f⟩, rfl, ⟨b0, by show f ≤ 99; omega, by show f * top ≤ f * top + e; omega, by show f * top + e ≤ 999; omega⟩, ?_⟩
  rw [List.map_append]
  simp only [B_law_house_v2_1, Fn.evT, List.getElem?_cons_zero, List.getElem?_cons_succ, List.set_cons_zero, List.set_cons_succ, List.length_cons, List.length_nil, Nat.reduceAdd, Nat.reduceLT, Bool.not_true, Bool.not_false, Nat.reduceLeDiff, Int.cast_ofNat_Int, Int.natCast_zero, Int.natCast_one, Int.reduceEq, eq_self, Int.reduceLE, Int.reduceLT, Int.reduceNeg, Int.reduceToNat, Int.toNat_natCast, Int.reduceAdd, Int.reduceSub, Int.reduceMul, Nat.reduceMul, Nat.reduceSub, decide_true, decide_false, Bool.true_and, Bool.false_and, Bool.and_true, Bool.true_or, Bool.false_or, Bool.or_false, not_true_eq_false, not_false_eq_true, if_true, if_false, Bool.false_eq_true, reduceCtorEq, c_law_cell, hc, c_law_numbers, hn, i0, i1, i2, i3, m1, m3, hu, m99, hv, m0, m2, mf, ix, z]
  rfl
theorem house_job {sc : List Int} {a : Nat} {xs : List Int} {top many : Int} {ns sm : List Str} {x : Str} (ha : a + 12 ≤ 30) (hs : sm.length ≤ 8) (snd : sm.Nodup) (ly : Lays sm) (ox : PyData.strOk x = true) {ls : List Tl} {js : List Jb} (hl : ls.length ≤ 9) (hj : js.length ≤ 8) {left : Int} (l0 : 0 ≤ left) (o : Option Fn.B) :
    ∃ (js' : List Jb) (left' : Int), 0 ≤ left' ∧ js'.map Jb.n = js.map Jb.n ++ (if x ∈ sm then [] else [x]) ∧ ((js'.flatMap Jb.ws).length : Int) + left' = ((js.flatMap Jb.ws).length : Int) + left ∧ (∀ j ∈ js', j ∈ js ∨ (0 ≤ j.g ∧ j.g ≤ 99 ∧ 0 ≤ j.w ∧ j.w ≤ 99 ∧ j.ws.Nodup ∧ ∀ y ∈ j.ws, y ∈ sm)) ∧
      B_law_house_v2_2 ((envHo sc a xs top many ns sm (some (.dat (.lst (ls.map tlD)))) o (some (.own (.l (js.map jbD)))) (some (.dat (.int left)))).set 14 (some (.dat (.str x)))) = .nx (envHo sc a xs top many ns sm (some (.dat (.lst (ls.map tlD)))) o (some (.own (.l (js'.map jbD)))) (some (.dat (.int left')))) := by
  have nin := nin_ns ox ly
  by_cases c : x ∈ sm
  · rw [decide_eq_true c] at nin
    refine ⟨js, left, l0, by rw [if_pos c, List.append_nil], rfl, fun j hj => .inl hj, ?_⟩
    simp only [B_law_house_v2_2, Fn.evT, List.getElem?_cons_zero, List.getElem?_cons_succ, List.set_cons_zero, List.set_cons_succ, List.length_cons, List.length_nil, Nat.reduceAdd, Nat.reduceLT, Bool.not_true, Bool.not_false, Nat.reduceLeDiff, Int.cast_ofNat_Int, Int.natCast_zero, Int.natCast_one, Int.reduceEq, eq_self, Int.reduceLE, Int.reduceLT, Int.reduceNeg, Int.reduceToNat, Int.toNat_natCast, Int.reduceAdd, Int.reduceSub, Int.reduceMul, Nat.reduceMul, Nat.reduceSub, decide_true, decide_false, Bool.true_and, Bool.false_and, Bool.and_true, Bool.true_or, Bool.false_or, Bool.or_false, not_true_eq_false, not_false_eq_true, if_true, if_false, Bool.false_eq_true, reduceCtorEq, in_lst, nin]
  · rw [decide_eq_false c] at nin
    rw [if_neg c]
    obtain ⟨cc, hc⟩ := cell_spec sc ((a : Int) + 1 + ((ls.map tlD).length : Int) + ((js.map jbD).length : Int)) (by omega) (by rw [List.length_map, List.length_map]; omega)
    obtain ⟨ys, hy, hb, hn⟩ := numbers_spec cc 14 (by decide) (by decide)
    have rg := rg1 (k := ((txs sm).length : Int)) (by omega) (by rw [txs, List.length_map]; omega)
    rw [Int.toNat_natCast, show (txs sm).length = sm.length by rw [txs, List.length_map]] at rg
    have sl : ((txs sm).length : Int) = (sm.length : Int) := by rw [txs, List.length_map]
    rw [← sl] at rg
    obtain ⟨kk, hkk⟩ : ∃ kk : Nat → Bool, ∀ k, kk k = decide (ys.getD (4 + k) 0 % 3 = 1) := ⟨_, fun _ => rfl⟩
    have comp : ∀ r15 r16 : Option Fn.B, compD (.one 8) (tstF (bin2 eqB (bin2 modB (bin2 idxB (varB 9) (bin2 addB (litI 4) (varB 8))) (litI 3)) (litI 1))) (bin2 idxB (varB 6) (varB 8)) [some (.scr sc), some (.dat (.int (a : Nat))), some (.dat (.lst (xs.map .int))), some (.dat (.int top)), some (.dat (.int many)), some (.dat (.lst (txs ns))), some (.dat (.lst (txs sm))), some (.dat (.lst (ls.map tlD))), none, some (.dat (.lst (ys.map .int))), none, none, some (.own (.l (js.map jbD))), some (.dat (.int left)), some (.dat (.str x)), r15, r16] ((List.range sm.length).map fun (i : Nat) => D.int i) = .ok (.own (.l (((List.range sm.length).filter kk).map fun k => D.str (sm.getD k Str.empty)))) := fun r15 r16 =>
      compD_if (e := fun (i : Nat) => D.int i) kk (fun k => D.str (sm.getD k Str.empty)) (le_sz (by rw [List.length_range]; omega)) (by
        intro k hk
        have hk := List.mem_range.mp hk
        have i4 := ixI (l := ys) (k := 4 + (k : Int)) (by omega) (by omega)
        rw [show (4 + (k : Int)).toNat = 4 + k by omega] at i4
        have ix := ixS (l := sm) (k := (k : Int)) (by omega) (by omega)
        rw [Int.toNat_natCast] at ix
        have md : modB (.dat (.int (ys.getD (4 + k) 0))) (.dat (.int 3)) = .ok (.dat (.int (ys.getD (4 + k) 0 % 3))) := mod_pos (by decide)
        have d' := (hkk k).symm
        generalize kk k = kv at *
        cases kv <;> simp only [Fn.evT, List.getElem?_cons_zero, List.getElem?_cons_succ, List.set_cons_zero, List.set_cons_succ, List.length_cons, List.length_nil, Nat.reduceAdd, Nat.reduceLT, Bool.not_true, Bool.not_false, Nat.reduceLeDiff, Int.cast_ofNat_Int, Int.natCast_zero, Int.natCast_one, Int.reduceEq, eq_self, Int.reduceLE, Int.reduceLT, Int.reduceNeg, Int.reduceToNat, Int.toNat_natCast, Int.reduceAdd, Int.reduceSub, Int.reduceMul, Nat.reduceMul, Nat.reduceSub, decide_true, decide_false, Bool.true_and, Bool.false_and, Bool.and_true, Bool.true_or, Bool.false_or, Bool.or_false, not_true_eq_false, not_false_eq_true, if_true, if_false, Bool.false_eq_true, reduceCtorEq, Fn.evS, Option.toList, List.nil_append, List.cons_append, i4, md, d', ix])
    let wl : List Str := ((List.range sm.length).filter kk).map fun k => sm.getD k Str.empty
    have wle : (((List.range sm.length).filter kk).map fun k => D.str (sm.getD k Str.empty)) = txs wl := by unfold txs; rw [List.map_map]; rfl
    have wsub : wl.Sublist sm := by
      have e : (List.range sm.length).map (fun k => sm.getD k Str.empty) = sm := by
        apply List.ext_getElem?
        intro i
        rw [List.getElem?_map]
        by_cases hi : i < sm.length
        · rw [List.getElem?_range hi, List.getElem?_eq_getElem hi]
          show some (sm.getD i Str.empty) = _
          rw [List.getD_eq_getElem?_getD, List.getElem?_eq_getElem hi]
          rfl
        · rw [List.getElem?_eq_none (by rw [List.length_range]; omega), List.getElem?_eq_none (by omega)]
          rfl
      conv => rhs; rw [← e]
      exact List.filter_sublist.map _
    have wsl := wsub.length_le
    have ct := cut_tak (l := txs wl) (k := left) l0
    let w2 : List Str := wl.take left.toNat
    have ct : cutL (txs wl) none (some left) = txs w2 := by rw [ct]; unfold txs; rw [← List.map_take]
    have w2s : w2.Sublist sm := (List.take_sublist _ _).trans wsub
    have w2l : (w2.length : Int) ≤ left := by
      show ((wl.take left.toNat).length : Int) ≤ left
      rw [List.length_take]
      omega
    have i1 := ixI (l := ys) (k := 1) (by omega) (by omega)
    have i2 := ixI (l := ys) (k := 2) (by omega) (by omega)
    have i3 := ixI (l := ys) (k := 3) (by omega) (by omega)
    have n1 : 0 ≤ ys.getD (Int.toNat 1) 0 := getD_nn (fun x hx => (hb x hx).1) _
    generalize ys.getD (Int.toNat 1) 0 = y1 at *
    generalize ys.getD (Int.toNat 2) 0 = y2 at *
    generalize ys.getD (Int.toNat 3) 0 = y3 at *
    have m1 : modB (.dat (.int y1)) (.dat (.int 3)) = .ok (.dat (.int (y1 % 3))) := mod_pos (by decide)
    haveI : ISz (3 : Int) 2 := isz_of (by decide) (by decide)
    have d1 := div_z (i := y1) (j := 3) (by decide) (by decide)
    have m13 : modB (.dat (.int (y1 / 3))) (.dat (.int 3)) = .ok (.dat (.int (y1 / 3 % 3))) := mod_pos (by decide)
    obtain ⟨u, hu, u0, u1⟩ := pick3 (a := 5) (b := 20) (c := 100) (k := y1 % 3) (by omega) (by omega) (fun m => 0 < m ∧ m ≤ 100) (by decide) (by decide) (by decide)
    obtain ⟨v, hv, v0, v1⟩ := pick3 (a := 2) (b := 6) (c := 100) (k := y1 / 3 % 3) (by omega) (by omega) (fun m => 0 < m ∧ m ≤ 100) (by decide) (by decide) (by decide)
    have m2 : modB (.dat (.int y2)) (.dat (.int u)) = .ok (.dat (.int (y2 % u))) := mod_pos u0
    have m3 : modB (.dat (.int y3)) (.dat (.int v)) = .ok (.dat (.int (y3 % v))) := mod_pos v0
    have b0 := Int.emod_nonneg y2 (show u ≠ 0 by omega)
    have b1 := Int.emod_lt_of_pos y2 u0
    have b2 := Int.emod_nonneg y3 (show v ≠ 0 by omega)
    have b3 := Int.emod_lt_of_pos y3 v0
    have z : (js.map jbD).length < 1000 := by rw [List.length_map]; omega
    refine ⟨js ++ [⟨x, y2 % u, y3 % v, w2⟩], left - ((txs w2).length : Int), by rw [txs, List.length_map]; omega, by rw [List.map_append]; rfl, ?_, fun j hj' => ?_, ?_⟩
    · rw [List.flatMap_append, List.length_append, show [(⟨x, y2 % u, y3 % v, w2⟩ : Jb)].flatMap Jb.ws = w2 by simp, txs, List.length_map]
      omega
    · rcases List.mem_append.mp hj' with z | z
      · exact .inl z
      · have := List.mem_singleton.mp z
        subst this
        exact .inr ⟨b0, by show y2 % u ≤ 99; omega, b2, by show y3 % v ≤ 99; omega, snd.sublist w2s, fun y hy => w2s.subset hy⟩
    · rw [List.map_append]
      simp only [B_law_house_v2_2, Fn.evT, List.getElem?_cons_zero, List.getElem?_cons_succ, List.set_cons_zero, List.set_cons_succ, List.length_cons, List.length_nil, Nat.reduceAdd, Nat.reduceLT, Bool.not_true, Bool.not_false, Nat.reduceLeDiff, Int.cast_ofNat_Int, Int.natCast_zero, Int.natCast_one, Int.reduceEq, eq_self, Int.reduceLE, Int.reduceLT, Int.reduceNeg, Int.reduceToNat, Int.toNat_natCast, Int.reduceAdd, Int.reduceSub, Int.reduceMul, Nat.reduceMul, Nat.reduceSub, decide_true, decide_false, Bool.true_and, Bool.false_and, Bool.and_true, Bool.true_or, Bool.false_or, Bool.or_false, not_true_eq_false, not_false_eq_true, if_true, if_false, Bool.false_eq_true, reduceCtorEq, in_lst, nin, c_law_cell, hc, c_law_numbers, hn, rg, comp, wle, ct, frzM, i1, i2, i3, m1, d1, m13, hu, hv, m2, m3, z]
      rfl
theorem house_spec (sc : List Int) (a : Nat) (ha : a + 12 ≤ 30) : ∃ top js ls, HouseOk top js ls ∧ E_law_house_v2.F [.scr sc, .dat (.int (a : Nat))] = .ok (.dat (houseD top js ls)) := by
  obtain ⟨c, hc⟩ := cell_spec sc (a : Int) (by omega) (by omega)
  obtain ⟨xs, hx, hb, hn⟩ := numbers_spec c 16 (by decide) (by decide)
  have i4 := ixI (l := xs) (k := 4) (by omega) (by omega)
  have i5 := ixI (l := xs) (k := 5) (by omega) (by omega)
  have i6 := ixI (l := xs) (k := 6) (by omega) (by omega)
  have i7 := ixI (l := xs) (k := 7) (by omega) (by omega)
  generalize xs.getD (Int.toNat 4) 0 = x4 at *
  generalize xs.getD (Int.toNat 5) 0 = x5 at *
  generalize xs.getD (Int.toNat 6) 0 = x6 at *
  generalize xs.getD (Int.toNat 7) 0 = x7 at *
  have m4 : modB (.dat (.int x4)) (.dat (.int 9)) = .ok (.dat (.int (x4 % 9))) := mod_pos (by decide)
  have m6 : modB (.dat (.int x6)) (.dat (.int 3)) = .ok (.dat (.int (x6 % 3))) := mod_pos (by decide)
  obtain ⟨u, hu, u0, u1⟩ := pick3 (a := 4) (b := 6) (c := 8) (k := x6 % 3) (by omega) (by omega) (fun m => 0 < m ∧ m ≤ 8) (by decide) (by decide) (by decide)
  have m5 : modB (.dat (.int x5)) (.dat (.int u)) = .ok (.dat (.int (x5 % u))) := mod_pos u0
  have b4 : 0 ≤ x4 % 9 ∧ x4 % 9 < 9 := by omega
  have b5 := Int.emod_nonneg x5 (show u ≠ 0 by omega)
  have b5' := Int.emod_lt_of_pos x5 u0
  generalize x4 % 9 = u4 at *
  generalize x5 % u = u5 at *
  obtain ⟨ns, hN, e0⟩ := names_spec xs (by omega) (1 + u5) (by omega) (by omega)
  have nl := hN.len
  have nl8 : ns.length ≤ 8 := by omega
  have d7 := div_pos (i := x7) (j := 2) (by decide) (by decide +kernel)
  obtain ⟨kk, hkk⟩ : ∃ kk : Str × Nat → Bool, ∀ z, kk z = decide (x7 / 2 / ((1 : Int) <<< z.2) % 2 = 0) := ⟨_, fun _ => rfl⟩
  have pw : ∀ i : Nat, i < 8 → ∃ m : Int, idxB (.dat (.lst [.int 1, .int 2, .int 4, .int 8, .int 16, .int 32, .int 64, .int 128])) (.dat (.int (i : Nat))) = .ok (.dat (.int m)) ∧ 0 < m ∧ Sm64 m ∧ m = (1 : Int) <<< i := by
    intro i hi
    have : i = 0 ∨ i = 1 ∨ i = 2 ∨ i = 3 ∨ i = 4 ∨ i = 5 ∨ i = 6 ∨ i = 7 := by omega
    rcases this with rfl | rfl | rfl | rfl | rfl | rfl | rfl | rfl
    · exact ⟨1, idx_lst rfl, by decide, by decide +kernel, by decide⟩
    · exact ⟨2, idx_lst rfl, by decide, by decide +kernel, by decide⟩
    · exact ⟨4, idx_lst rfl, by decide, by decide +kernel, by decide⟩
    · exact ⟨8, idx_lst rfl, by decide, by decide +kernel, by decide⟩
    · exact ⟨16, idx_lst rfl, by decide, by decide +kernel, by decide⟩
    · exact ⟨32, idx_lst rfl, by decide, by decide +kernel, by decide⟩
    · exact ⟨64, idx_lst rfl, by decide, by decide +kernel, by decide⟩
    · exact ⟨128, idx_lst rfl, by decide, by decide +kernel, by decide⟩
  have comp : compD (.many [8, 14]) (tstF (bin2 eqB (bin2 modB (bin2 divB (bin2 divB (bin2 idxB (varB 2) (litI 7)) (litI 2)) (bin2 idxB (callF lstB (consA (litI 1) (consA (litI 2) (consA (litI 4) (consA (litI 8) (consA (litI 16) (consA (litI 32) (consA (litI 64) (consA (litI 128) nilA))))))))) (varB 8))) (litI 2)) (litI 0))) (varB 14) [some (.scr sc), some (.dat (.int (a : Nat))), some (.dat (.lst (xs.map .int))), some (.dat (.int (1 + u4))), some (.dat (.int (1 + u5))), some (.dat (.lst (txs ns))), none, none, none, none, none, none, none, none, none, none, none] (enD (txs ns)) = .ok (.own (.l (txs ((ns.zipIdx.filter kk).map (·.1))))) := by
    unfold txs
    rw [enD_zi, compD_if kk (fun z => D.str z.1) (le_sz (by rw [List.length_zipIdx]; omega)) (by
      rintro ⟨x, i⟩ hz
      have hz := List.mk_mem_zipIdx_iff_getElem?.mp hz
      have hi := (List.getElem?_eq_some_iff.mp hz).1
      obtain ⟨m, h1, h2, h3, h4⟩ := pw i (by omega)
      have dv := div_pos (i := x7 / 2) (j := m) h2 h3
      have md : modB (.dat (.int (x7 / 2 / m))) (.dat (.int 2)) = .ok (.dat (.int (x7 / 2 / m % 2))) := mod_pos (by decide)
      have d' := (hkk (x, i)).symm
      rw [← h4] at d'
      generalize kk (x, i) = kv at *
      cases kv <;> simp only [Fn.evT, List.getElem?_cons_zero, List.getElem?_cons_succ, List.set_cons_zero, List.set_cons_succ, List.length_cons, List.length_nil, Nat.reduceAdd, Nat.reduceLT, Bool.not_true, Bool.not_false, Nat.reduceLeDiff, Int.cast_ofNat_Int, Int.natCast_zero, Int.natCast_one, Int.reduceEq, eq_self, Int.reduceLE, Int.reduceLT, Int.reduceNeg, Int.reduceToNat, Int.toNat_natCast, Int.reduceAdd, Int.reduceSub, Int.reduceMul, Nat.reduceMul, Nat.reduceSub, decide_true, decide_false, Bool.true_and, Bool.false_and, Bool.and_true, Bool.true_or, Bool.false_or, Bool.or_false, not_true_eq_false, not_false_eq_true, if_true, if_false, Bool.false_eq_true, reduceCtorEq, Fn.evS, Option.toList, List.nil_append, List.cons_append, i7, d7, h1, dv, md, d'])]
    rw [List.map_map]
    rfl
  generalize hsm : (ns.zipIdx.filter kk).map (·.1) = sm at *
  have ssub : sm.Sublist ns := by
    have e : ns.zipIdx.map (·.1) = ns := List.zipIdx_map_fst 0 ns
    rw [← hsm]
    conv => rhs; rw [← e]
    exact List.filter_sublist.map _
  have ssl := ssub.length_le
  have snd : sm.Nodup := hN.nd.sublist ssub
  have sly : Lays sm := fun x hx => hN.lay x (ssub.subset hx)
  have r1 := rg1 (k := ((txs sm).length : Int)) (by omega) (by rw [txs, List.length_map]; omega)
  rw [Int.toNat_natCast, show (txs sm).length = sm.length by rw [txs, List.length_map]] at r1
  have sl : ((txs sm).length : Int) = (sm.length : Int) := by rw [txs, List.length_map]
  rw [← sl] at r1
  obtain ⟨ρ1, w1, ls, o, rfl, l1, l2⟩ := loop_all (t := .one 8) (body := B_law_house_v2_1) (ds := (List.range sm.length).map fun (i : Nat) => D.int i) (ρ := envHo sc a xs (1 + u4) (1 + u5) ns sm (some (.own (.l []))) none none none)
    (fun i ρ => ∃ (ls : List Tl) (o : Option Fn.B), ρ = envHo sc a xs (1 + u4) (1 + u5) ns sm (some (.own (.l (ls.map tlD)))) o none none ∧ ls.map Tl.n = sm.take i ∧ ∀ t ∈ ls, 0 ≤ t.f ∧ t.f ≤ 99 ∧ t.f * (1 + u4) ≤ t.c ∧ t.c ≤ 999) ⟨[], none, rfl, rfl, fun t h => by cases h⟩ (by
      rintro i d ρ hd ⟨ls, o, rfl, h1, h2⟩
      obtain ⟨k, hk, rfl⟩ := map_at hd
      have hi := (List.getElem?_eq_some_iff.mp hd).1
      rw [List.length_map, List.length_range] at hi
      rw [List.getElem?_range hi] at hk
      cases hk
      have ll : ls.length ≤ 900 := by
        have := congrArg List.length h1
        rw [List.length_map, List.length_take] at this
        omega
      obtain ⟨t, t1, t2, t3⟩ := house_tool (sc := sc) (a := a) (xs := xs) (top := 1 + u4) (many := 1 + u5) (ns := ns) (by omega) (by omega) (by omega) (by omega) hi ll o none none
      refine ⟨_, _, bt_one, .inl t3, ls ++ [t], _, rfl, ?_, fun t' ht' => ?_⟩
      · rw [List.map_append, h1, List.map_singleton, t1, List.take_add_one, List.getElem?_eq_getElem hi]
        rfl
      · rcases List.mem_append.mp ht' with z | z
        · exact h2 t' z
        · rw [List.mem_singleton.mp z]; exact t2)
  rw [List.length_map, List.length_range, List.take_length] at l1
  have lsl : ls.length = sm.length := by rw [← l1, List.length_map]
  obtain ⟨ρ2, w2, js, left, rfl, j0, j1, j2, j3⟩ := loop_all (t := .one 14) (body := B_law_house_v2_2) (ds := txs ns) (ρ := envHo sc a xs (1 + u4) (1 + u5) ns sm (some (.dat (.lst (ls.map tlD)))) o (some (.own (.l []))) (some (.dat (.int 16))))
    (fun i ρ => ∃ (js : List Jb) (left : Int), ρ = envHo sc a xs (1 + u4) (1 + u5) ns sm (some (.dat (.lst (ls.map tlD)))) o (some (.own (.l (js.map jbD)))) (some (.dat (.int left))) ∧ 0 ≤ left ∧ js.map Jb.n = (ns.take i).filter (fun x => !decide (x ∈ sm)) ∧ ((js.flatMap Jb.ws).length : Int) + left = 16 ∧ ∀ j ∈ js, 0 ≤ j.g ∧ j.g ≤ 99 ∧ 0 ≤ j.w ∧ j.w ≤ 99 ∧ j.ws.Nodup ∧ ∀ x ∈ j.ws, x ∈ sm) ⟨[], 16, rfl, by decide, rfl, rfl, fun j h => by cases h⟩ (by
      rintro i d ρ hd ⟨js, left, rfl, h0, h1, h2, h3⟩
      obtain ⟨x, hx, rfl⟩ := map_at hd
      have hi := (List.getElem?_eq_some_iff.mp hx).1
      have jl : js.length ≤ 8 := by
        have := congrArg List.length h1
        rw [List.length_map] at this
        have := List.length_filter_le (fun x => !decide (x ∈ sm)) (ns.take i)
        rw [List.length_take] at this
        omega
      obtain ⟨js', left', g0, g1, g2, g3, g4⟩ := house_job (sc := sc) (a := a) (xs := xs) (top := 1 + u4) (many := 1 + u5) (ns := ns) (ls := ls) (by omega) (by omega) snd sly (hN.lay x (List.mem_of_getElem? hx)) (by omega) jl h0 o
      refine ⟨_, _, bt_one, .inl g4, js', left', rfl, g0, ?_, by omega, fun j hj => ?_⟩
      · rw [g1, h1, List.take_add_one, hx, List.filter_append]
        congr 1
        by_cases c : x ∈ sm <;> simp [c]
      · rcases g3 j hj with z | z
        · exact h3 j z
        · exact z)
  rw [txs, List.length_map, List.take_length] at j1
  have ts : tupF [.dat (.lst (js.map jbD))] = .ok (.dat (.tup (js.map jbD))) := tupF_lst
  refine ⟨1 + u4, js, ls, ⟨by omega, by omega, ?_, ?_, fun x hx => ?_, ?_, ?_, fun j hj => ?_, fun t ht => l2 t ht, by omega⟩, ?_⟩
  · rw [j1]
    have fl : (ns.filter fun x => !decide (x ∈ sm)).length = js.length := by rw [← j1, List.length_map]
    refine ⟨fl, fun x hx => hN.nm x (List.mem_filter.mp hx).1, hN.nd.filter _, ?_⟩
    have := hN.srt
    exact this.sublist (List.filter_sublist.map _)
  · rw [l1]
    exact ⟨lsl.symm, fun x hx => hN.nm x (ssub.subset hx), snd, hN.srt.sublist (ssub.map _)⟩
  · rw [j1] at hx
    have := (List.mem_filter.mp hx).2
    rw [l1]
    simpa using this
  · have np : 0 < ns.length := by omega
    by_cases c : 0 < sm.length
    · omega
    · have : js.length = ns.length := by
        rw [← List.length_map (f := Jb.n), j1]
        have e : sm = [] := List.length_eq_zero_iff.mp (by omega)
        rw [e]
        have : ns.filter (fun x => !decide (x ∈ ([] : List Str))) = ns := List.filter_eq_self.mpr fun x _ => by simp
        rw [this]
      omega
  · have a1 : js.length = (ns.filter fun x => !decide (x ∈ sm)).length := by rw [← j1, List.length_map]
    have a2 := nodup_len (as := (ns.filter fun x => !decide (x ∈ sm)) ++ sm) (bs := ns) (List.nodup_append.mpr ⟨hN.nd.filter _, snd, fun x hx y hy e => by
      have := (List.mem_filter.mp hx).2
      rw [e] at this
      simp [hy] at this⟩) fun x hx => by
      rcases List.mem_append.mp hx with z | z
      · exact (List.mem_filter.mp z).1
      · exact ssub.subset z
    rw [List.length_append] at a2
    omega
  · obtain ⟨z1, z2, z3, z4, z5, z6⟩ := j3 j hj
    exact ⟨z1, z2, z3, z4, z5, fun x hx => by rw [l1]; exact z6 x hx⟩
  · rw [d_law_house_v2 (by rfl)]
    have w1 : loopF (.one 8) B_law_house_v2_1 ((List.range sm.length).map fun (i : Nat) => D.int i) [some (.scr sc), some (.dat (.int (a : Nat))), some (.dat (.lst (xs.map .int))), some (.dat (.int (1 + u4))), some (.dat (.int (1 + u5))), some (.dat (.lst (txs ns))), some (.dat (.lst (txs sm))), some (.own (.l [])), none, none, none, none, none, none, none, none, none] = _ := w1
    have w2 : loopF (.one 14) B_law_house_v2_2 (txs ns) [some (.scr sc), some (.dat (.int (a : Nat))), some (.dat (.lst (xs.map .int))), some (.dat (.int (1 + u4))), some (.dat (.int (1 + u5))), some (.dat (.lst (txs ns))), some (.dat (.lst (txs sm))), some (.dat (.lst (ls.map tlD))), o, none, none, none, some (.own (.l [])), some (.dat (.int 16)), none, none, none] = _ := w2
    simp only [B_law_house_v2, Fn.evT, List.getElem?_cons_zero, List.getElem?_cons_succ, List.set_cons_zero, List.set_cons_succ, List.length_cons, List.length_nil, Nat.reduceAdd, Nat.reduceLT, Bool.not_true, Bool.not_false, Nat.reduceLeDiff, Int.cast_ofNat_Int, Int.natCast_zero, Int.natCast_one, Int.reduceEq, eq_self, Int.reduceLE, Int.reduceLT, Int.reduceNeg, Int.reduceToNat, Int.toNat_natCast, Int.reduceAdd, Int.reduceSub, Int.reduceMul, Nat.reduceMul, Nat.reduceSub, decide_true, decide_false, Bool.true_and, Bool.false_and, Bool.and_true, Bool.true_or, Bool.false_or, Bool.or_false, not_true_eq_false, not_false_eq_true, if_true, if_false, Bool.false_eq_true, reduceCtorEq, c_law_cell, hc, c_law_numbers, hn, i4, m4, i5, i6, m6, hu, m5, c_law_names_v3, e0, frzM, comp, r1, w1, w2]
end P
namespace P
open PySem PySem.Spec PyProof.Rows L2 Fn
def isI : D → Bool
  | .int _ => true
  | _ => false
def wiB (lo hi : Int) : D → Bool
  | .int i => decide (lo ≤ i) && decide (i ≤ hi)
  | _ => false
def toB (t : Int) : D → Bool
  | .tup [n, c, .int f] => isNmD n && ((decide (0 ≤ f) && decide (f ≤ 99)) && wiB (f * t) 999 c)
  | _ => false
def nmIn (ns : List Str) (d : D) : Bool := isNmD d && inD ns d
def joB (ns : List Str) : D → Bool
  | .tup [n, g, w, .tup ws] => isNmD n && ((wiB 0 99 g && wiB 0 99 w) && (ws.all (nmIn ns) && risB ws))
  | _ => false
def hdD : D → D
  | .tup (a :: _) => a
  | _ => .non
def wnN : D → Nat
  | .tup [_, _, _, .tup ws] => ws.length
  | _ => 0
def hsB : D → Bool
  | .tup [.int t, .tup js, .tup ls] => (decide (1 ≤ t) && decide (t ≤ 9)) && ((decide (1 ≤ js.length + ls.length) && decide (js.length + ls.length ≤ 8)) && ((ls.all (toB t) && risB (ls.map hdD)) && ((js.all (joB ((ls.map hdD).map unS)) && risB (js.map hdD)) && (!(js.any fun j => inD ((ls.map hdD).map unS) (hdD j)) && decide ((js.map wnN).sum ≤ 16)))))
  | _ => false
theorem wiB_int {lo hi : Int} {d : D} (h : wiB lo hi d = true) : ∃ i, d = .int i ∧ lo ≤ i ∧ i ≤ hi := by
  unfold wiB at h
  split at h
  · rw [Bool.and_eq_true, decide_eq_true_eq, decide_eq_true_eq] at h
    exact ⟨_, rfl, h⟩
  · cases h
theorem toB_of {t : Int} {d : D} (h : toB t d = true) : ∃ n c f, d = .tup [n, c, .int f] ∧ isNmD n = true ∧ 0 ≤ f ∧ f ≤ 99 ∧ wiB (f * t) 999 c = true := by
  unfold toB at h
  split at h
  · rw [Bool.and_eq_true, Bool.and_eq_true, Bool.and_eq_true, decide_eq_true_eq, decide_eq_true_eq] at h
    exact ⟨_, _, _, rfl, h.1, h.2.1.1, h.2.1.2, h.2.2⟩
  · cases h
theorem joB_of {ns : List Str} {d : D} (h : joB ns d = true) : ∃ n g w ws, d = .tup [n, g, w, .tup ws] ∧ isNmD n = true ∧ wiB 0 99 g = true ∧ wiB 0 99 w = true ∧ ws.all (nmIn ns) = true ∧ risB ws = true := by
  unfold joB at h
  split at h
  · rw [Bool.and_eq_true, Bool.and_eq_true, Bool.and_eq_true, Bool.and_eq_true] at h
    exact ⟨_, _, _, _, rfl, h.1, h.2.1.1, h.2.1.2, h.2.2.1, h.2.2.2⟩
  · cases h
theorem wholeD (d : D) (h : d.isF = false) : E_is_whole.F [.dat d] = .ok (.dat (.bl (isI d))) := by
  rw [d_is_whole (by rfl)]
  cases d <;> first | (cases h; done) | rfl
theorem isI_int {d : D} (h : isI d = true) : ∃ i, d = .int i := by
  cases d <;> first | exact ⟨_, rfl⟩ | cases h
theorem within_spec (d : D) (h : d.isF = false) (lo hi : Int) : E_is_within.F [.dat d, .dat (.int lo), .dat (.int hi)] = .ok (.dat (.bl (wiB lo hi d))) := by
  have w := wholeD d h
  rw [d_is_within (by rfl)]
  cases c : isI d with
  | true =>
    obtain ⟨i, rfl⟩ := isI_int c
    rw [c] at w
    unfold wiB
    by_cases c1 : lo ≤ i
    · have d1 := decide_eq_true c1
      simp only [B_is_within, Fn.evT, List.getElem?_cons_zero, List.getElem?_cons_succ, List.set_cons_zero, List.set_cons_succ, List.length_cons, List.length_nil, Nat.reduceAdd, Nat.reduceLT, Bool.not_true, Bool.not_false, Nat.reduceLeDiff, Int.cast_ofNat_Int, Int.natCast_zero, Int.natCast_one, Int.reduceEq, eq_self, Int.reduceLE, Int.reduceLT, Int.reduceNeg, Int.reduceToNat, Int.toNat_natCast, Int.reduceAdd, Int.reduceSub, Int.reduceMul, Nat.reduceMul, Nat.reduceSub, decide_true, decide_false, Bool.true_and, Bool.false_and, Bool.and_true, Bool.true_or, Bool.false_or, Bool.or_false, not_true_eq_false, not_false_eq_true, if_true, if_false, Bool.false_eq_true, reduceCtorEq, c_is_whole, w, d1, Bool.true_and]
    · have d1 := decide_eq_false c1
      simp only [B_is_within, Fn.evT, List.getElem?_cons_zero, List.getElem?_cons_succ, List.set_cons_zero, List.set_cons_succ, List.length_cons, List.length_nil, Nat.reduceAdd, Nat.reduceLT, Bool.not_true, Bool.not_false, Nat.reduceLeDiff, Int.cast_ofNat_Int, Int.natCast_zero, Int.natCast_one, Int.reduceEq, eq_self, Int.reduceLE, Int.reduceLT, Int.reduceNeg, Int.reduceToNat, Int.toNat_natCast, Int.reduceAdd, Int.reduceSub, Int.reduceMul, Nat.reduceMul, Nat.reduceSub, decide_true, decide_false, Bool.true_and, Bool.false_and, Bool.and_true, Bool.true_or, Bool.false_or, Bool.or_false, not_true_eq_false, not_false_eq_true, if_true, if_false, Bool.false_eq_true, reduceCtorEq, c_is_whole, w, d1, Bool.false_and]
  | false =>
    rw [c] at w
    have e : wiB lo hi d = false := by cases d <;> first | rfl | cases c
    simp only [B_is_within, Fn.evT, List.getElem?_cons_zero, List.getElem?_cons_succ, List.set_cons_zero, List.set_cons_succ, List.length_cons, List.length_nil, Nat.reduceAdd, Nat.reduceLT, Bool.not_true, Bool.not_false, Nat.reduceLeDiff, Int.cast_ofNat_Int, Int.natCast_zero, Int.natCast_one, Int.reduceEq, eq_self, Int.reduceLE, Int.reduceLT, Int.reduceNeg, Int.reduceToNat, Int.toNat_natCast, Int.reduceAdd, Int.reduceSub, Int.reduceMul, Nat.reduceMul, Nat.reduceSub, decide_true, decide_false, Bool.true_and, Bool.false_and, Bool.and_true, Bool.true_or, Bool.false_or, Bool.or_false, not_true_eq_false, not_false_eq_true, if_true, if_false, Bool.false_eq_true, reduceCtorEq, c_is_whole, w, e]
theorem name_specD {n : Nat} (d : D) (f : fit n d = true) : E_is_name.F [.dat d] = .ok (.dat (.bl (isNmD d))) := by
  rw [d_is_name (by rfl)]
  by_cases hs : d.isS = true
  · obtain ⟨x, rfl⟩ := isS_str hs
    have hl := (fit_str f).2
    unfold isNmD nmB
    by_cases h1 : 1 ≤ x.length
    · by_cases h2 : x.length ≤ 8
      · have c1 : (1 : Int) ≤ (x.length : Int) := by omega
        have c2 : (x.length : Int) ≤ 8 := by omega
        simp only [B_is_name, Fn.evT, List.getElem?_cons_zero, List.getElem?_cons_succ, List.set_cons_zero, List.set_cons_succ, List.length_cons, List.length_nil, Nat.reduceAdd, Nat.reduceLT, Bool.not_true, Bool.not_false, Nat.reduceLeDiff, Int.cast_ofNat_Int, Int.natCast_zero, Int.natCast_one, Int.reduceEq, eq_self, Int.reduceLE, Int.reduceLT, Int.reduceNeg, Int.reduceToNat, Int.toNat_natCast, Int.reduceAdd, Int.reduceSub, Int.reduceMul, Nat.reduceMul, Nat.reduceSub, decide_true, decide_false, Bool.true_and, Bool.false_and, Bool.and_true, Bool.true_or, Bool.false_or, Bool.or_false, not_true_eq_false, not_false_eq_true, if_true, if_false, Bool.false_eq_true, reduceCtorEq, isi_str (fit_noF f), hs, hl, c1, c2, h1, h2]
        rw [compD_all (h := fun c => D.bl (strIn ⟨#[c]⟩ aToZ)) (by rw [Array.length_toList]; exact le_sz hl) (by
          intro c hc
          simp only [Fn.evT, List.getElem?_cons_zero, List.getElem?_cons_succ, List.set_cons_zero, List.set_cons_succ, List.length_cons, List.length_nil, Nat.reduceAdd, Nat.reduceLT, Bool.not_true, Bool.not_false, Nat.reduceLeDiff, Int.cast_ofNat_Int, Int.natCast_zero, Int.natCast_one, Int.reduceEq, eq_self, Int.reduceLE, Int.reduceLT, Int.reduceNeg, Int.reduceToNat, Int.toNat_natCast, Int.reduceAdd, Int.reduceSub, Int.reduceMul, Nat.reduceMul, Nat.reduceSub, decide_true, decide_false, Bool.true_and, Bool.false_and, Bool.and_true, Bool.true_or, Bool.false_or, Bool.or_false, not_true_eq_false, not_false_eq_true, if_true, if_false, Bool.false_eq_true, reduceCtorEq, Fn.evS, Option.toList, List.nil_append, List.cons_append, in_tt])]
        simp only [Fn.evT, List.getElem?_cons_zero, List.getElem?_cons_succ, List.set_cons_zero, List.set_cons_succ, List.length_cons, List.length_nil, Nat.reduceAdd, Nat.reduceLT, Bool.not_true, Bool.not_false, Nat.reduceLeDiff, Int.cast_ofNat_Int, Int.natCast_zero, Int.natCast_one, Int.reduceEq, eq_self, Int.reduceLE, Int.reduceLT, Int.reduceNeg, Int.reduceToNat, Int.toNat_natCast, Int.reduceAdd, Int.reduceSub, Int.reduceMul, Nat.reduceMul, Nat.reduceSub, decide_true, decide_false, Bool.true_and, Bool.false_and, Bool.and_true, Bool.true_or, Bool.false_or, Bool.or_false, not_true_eq_false, not_false_eq_true, if_true, if_false, Bool.false_eq_true, reduceCtorEq, all_map]
      · have c1 : (1 : Int) ≤ (x.length : Int) := by omega
        have c2 : ¬ (x.length : Int) ≤ 8 := by omega
        simp only [B_is_name, Fn.evT, List.getElem?_cons_zero, List.getElem?_cons_succ, List.set_cons_zero, List.set_cons_succ, List.length_cons, List.length_nil, Nat.reduceAdd, Nat.reduceLT, Bool.not_true, Bool.not_false, Nat.reduceLeDiff, Int.cast_ofNat_Int, Int.natCast_zero, Int.natCast_one, Int.reduceEq, eq_self, Int.reduceLE, Int.reduceLT, Int.reduceNeg, Int.reduceToNat, Int.toNat_natCast, Int.reduceAdd, Int.reduceSub, Int.reduceMul, Nat.reduceMul, Nat.reduceSub, decide_true, decide_false, Bool.true_and, Bool.false_and, Bool.and_true, Bool.true_or, Bool.false_or, Bool.or_false, not_true_eq_false, not_false_eq_true, if_true, if_false, Bool.false_eq_true, reduceCtorEq, isi_str (fit_noF f), hs, hl, c1, c2, h1, h2]
    · have c1 : ¬ (1 : Int) ≤ (x.length : Int) := by omega
      simp only [B_is_name, Fn.evT, List.getElem?_cons_zero, List.getElem?_cons_succ, List.set_cons_zero, List.set_cons_succ, List.length_cons, List.length_nil, Nat.reduceAdd, Nat.reduceLT, Bool.not_true, Bool.not_false, Nat.reduceLeDiff, Int.cast_ofNat_Int, Int.natCast_zero, Int.natCast_one, Int.reduceEq, eq_self, Int.reduceLE, Int.reduceLT, Int.reduceNeg, Int.reduceToNat, Int.toNat_natCast, Int.reduceAdd, Int.reduceSub, Int.reduceMul, Nat.reduceMul, Nat.reduceSub, decide_true, decide_false, Bool.true_and, Bool.false_and, Bool.and_true, Bool.true_or, Bool.false_or, Bool.or_false, not_true_eq_false, not_false_eq_true, if_true, if_false, Bool.false_eq_true, reduceCtorEq, isi_str (fit_noF f), hs, hl, c1, h1]
  · rw [Bool.not_eq_true] at hs
    have e : isNmD d = false := by cases d <;> first | rfl | cases hs
    simp only [B_is_name, Fn.evT, List.getElem?_cons_zero, List.getElem?_cons_succ, List.set_cons_zero, List.set_cons_succ, List.length_cons, List.length_nil, Nat.reduceAdd, Nat.reduceLT, Bool.not_true, Bool.not_false, Nat.reduceLeDiff, Int.cast_ofNat_Int, Int.natCast_zero, Int.natCast_one, Int.reduceEq, eq_self, Int.reduceLE, Int.reduceLT, Int.reduceNeg, Int.reduceToNat, Int.toNat_natCast, Int.reduceAdd, Int.reduceSub, Int.reduceMul, Nat.reduceMul, Nat.reduceSub, decide_true, decide_false, Bool.true_and, Bool.false_and, Bool.and_true, Bool.true_or, Bool.false_or, Bool.or_false, not_true_eq_false, not_false_eq_true, if_true, if_false, Bool.false_eq_true, reduceCtorEq, isi_str (fit_noF f), hs, e]
theorem rising_gen {L : D} (ds : List D) (hl : ds.length ≤ 1000) (hL : lenB [.dat L] = .ok (.dat (.int (ds.length : Nat)))) (hi : ∀ k : Int, 0 ≤ k → k < (ds.length : Int) → idxB (.dat L) (.dat (.int k)) = .ok (.dat (pick ds k))) (h : ∀ k < ds.length - 1, ∃ b, ltD (pick ds (k : Int)) (pick ds ((k : Int) + 1)) = .ok b) : E_is_rising.F [.dat L] = .ok (.dat (.bl (risB ds))) := by
  rw [d_is_rising (by rfl)]
  have r1 := rg1 (k := (ds.length : Int) - 1) (by omega) (by omega)
  rw [show ((ds.length : Int) - 1).toNat = ds.length - 1 by omega] at r1
  simp only [B_is_rising, Fn.evT, List.getElem?_cons_zero, List.getElem?_cons_succ, List.set_cons_zero, List.set_cons_succ, List.length_cons, List.length_nil, Nat.reduceAdd, Nat.reduceLT, Bool.not_true, Bool.not_false, Nat.reduceLeDiff, Int.cast_ofNat_Int, Int.natCast_zero, Int.natCast_one, Int.reduceEq, eq_self, Int.reduceLE, Int.reduceLT, Int.reduceNeg, Int.reduceToNat, Int.toNat_natCast, Int.reduceAdd, Int.reduceSub, Int.reduceMul, Nat.reduceMul, Nat.reduceSub, decide_true, decide_false, Bool.true_and, Bool.false_and, Bool.and_true, Bool.true_or, Bool.false_or, Bool.or_false, not_true_eq_false, not_false_eq_true, if_true, if_false, Bool.false_eq_true, reduceCtorEq, hL, r1]
  rw [compD_all (h := fun (k : Nat) => D.bl (okT (ltD (pick ds (k : Int)) (pick ds ((k : Int) + 1))))) (by rw [List.length_range]; exact le_sz (by omega)) (by
    intro k hk
    have hk' := List.mem_range.mp hk
    obtain ⟨b, hb⟩ := h k hk'
    have j1 := hi (k : Int) (by omega) (by omega)
    have j2 := hi ((k : Int) + 1) (by omega) (by omega)
    haveI : ISz (k : Int) 12 := isz_of (by omega) (by omega)
    simp only [Fn.evT, List.getElem?_cons_zero, List.getElem?_cons_succ, List.set_cons_zero, List.set_cons_succ, List.length_cons, List.length_nil, Nat.reduceAdd, Nat.reduceLT, Bool.not_true, Bool.not_false, Nat.reduceLeDiff, Int.cast_ofNat_Int, Int.natCast_zero, Int.natCast_one, Int.reduceEq, eq_self, Int.reduceLE, Int.reduceLT, Int.reduceNeg, Int.reduceToNat, Int.toNat_natCast, Int.reduceAdd, Int.reduceSub, Int.reduceMul, Nat.reduceMul, Nat.reduceSub, decide_true, decide_false, Bool.true_and, Bool.false_and, Bool.and_true, Bool.true_or, Bool.false_or, Bool.or_false, not_true_eq_false, not_false_eq_true, if_true, if_false, Bool.false_eq_true, reduceCtorEq, Fn.evS, Option.toList, List.nil_append, List.cons_append, j1, j2, lt_D, hb, okT])]
  simp only [Fn.evT, List.getElem?_cons_zero, List.getElem?_cons_succ, List.set_cons_zero, List.set_cons_succ, List.length_cons, List.length_nil, Nat.reduceAdd, Nat.reduceLT, Bool.not_true, Bool.not_false, Nat.reduceLeDiff, Int.cast_ofNat_Int, Int.natCast_zero, Int.natCast_one, Int.reduceEq, eq_self, Int.reduceLE, Int.reduceLT, Int.reduceNeg, Int.reduceToNat, Int.toNat_natCast, Int.reduceAdd, Int.reduceSub, Int.reduceMul, Nat.reduceMul, Nat.reduceSub, decide_true, decide_false, Bool.true_and, Bool.false_and, Bool.and_true, Bool.true_or, Bool.false_or, Bool.or_false, not_true_eq_false, not_false_eq_true, if_true, if_false, Bool.false_eq_true, reduceCtorEq, all_map, risB]
theorem rising_l (ds : List D) (hl : ds.length ≤ 1000) (h : ds.all isNmD = true) : E_is_rising.F [.dat (.lst ds)] = .ok (.dat (.bl (risB ds))) := rising_gen ds hl rfl (fun k h0 h1 => idx_pL h0 h1) (lt_all (lt_nms h))
theorem rising_t (ds : List D) (hl : ds.length ≤ 1000) (h : ds.all isNmD = true) : E_is_rising.F [.dat (.tup ds)] = .ok (.dat (.bl (risB ds))) := rising_gen ds hl (by rw [len_tup]) (fun k h0 h1 => idx_pT h0 h1) (lt_all (lt_nms h))
theorem lst3 {ds : List D} (h : (ds.length : Int) = 3) : ∃ a b c, ds = [a, b, c] := by
  match ds, h with
  | [a, b, c], _ => exact ⟨a, b, c, rfl⟩
theorem lst4 {ds : List D} (h : (ds.length : Int) = 4) : ∃ a b c d, ds = [a, b, c, d] := by
  match ds, h with
  | [a, b, c, d], _ => exact ⟨a, b, c, d, rfl⟩
theorem tool_spec {n : Nat} (d : D) (f : fit n d = true) {t : Int} (t1 : 1 ≤ t) (t9 : t ≤ 9) : E_is_tool.F [.dat d, .dat (.int t)] = .ok (.dat (.bl (toB t d))) := by
  rw [d_is_tool (by rfl)]
  by_cases hs : d.isT = true
  · obtain ⟨ds, rfl⟩ := isT_tup f hs
    obtain ⟨hl, hf⟩ := fit_tup f
    have tt := isi_tup (fit_noF f)
    rw [hs] at tt
    by_cases h3 : (ds.length : Int) = 3
    · obtain ⟨a, b, c, rfl⟩ := lst3 h3
      have fa := hf a (by simp)
      have fb := hf b (by simp)
      have fc := hf c (by simp)
      have i0 : idxB (.dat (.tup [a, b, c])) (.dat (.int 0)) = .ok (.dat a) := idx_tup rfl
      have i1 : idxB (.dat (.tup [a, b, c])) (.dat (.int 1)) = .ok (.dat b) := idx_tup rfl
      have i2 : idxB (.dat (.tup [a, b, c])) (.dat (.int 2)) = .ok (.dat c) := idx_tup rfl
      have l3 : lenB [.dat (.tup [a, b, c])] = .ok (.dat (.int 3)) := (rfl)
      have na := name_specD a fa
      have wc := within_spec c (fit_noF fc) 0 99
      cases h1 : isNmD a with
      | false =>
        rw [h1] at na
        have e : toB t (.tup [a, b, c]) = false := by
          cases z : toB t (.tup [a, b, c]) with
          | false => rfl
          | true =>
            obtain ⟨_, _, _, e, p, _⟩ := toB_of z
            injection e with e
            injection e with e
            rw [← e, h1] at p
            cases p
        simp only [B_is_tool, Fn.evT, List.getElem?_cons_zero, List.getElem?_cons_succ, List.set_cons_zero, List.set_cons_succ, List.length_cons, List.length_nil, Nat.reduceAdd, Nat.reduceLT, Bool.not_true, Bool.not_false, Nat.reduceLeDiff, Int.cast_ofNat_Int, Int.natCast_zero, Int.natCast_one, Int.reduceEq, eq_self, Int.reduceLE, Int.reduceLT, Int.reduceNeg, Int.reduceToNat, Int.toNat_natCast, Int.reduceAdd, Int.reduceSub, Int.reduceMul, Nat.reduceMul, Nat.reduceSub, decide_true, decide_false, Bool.true_and, Bool.false_and, Bool.and_true, Bool.true_or, Bool.false_or, Bool.or_false, not_true_eq_false, not_false_eq_true, if_true, if_false, Bool.false_eq_true, reduceCtorEq, tt, l3, i0, i1, i2, c_is_name, na, e]
      | true =>
        rw [h1] at na
        cases h2 : wiB 0 99 c with
        | false =>
          rw [h2] at wc
          have e : toB t (.tup [a, b, c]) = false := by
            cases z : toB t (.tup [a, b, c]) with
            | false => rfl
            | true =>
              obtain ⟨_, _, g, e, p, g0, g1, _⟩ := toB_of z
              injection e with e
              injection e with _ e
              injection e with _ e
              injection e with e _
              rw [e] at h2
              have h2 : (decide (0 ≤ g) && decide (g ≤ 99)) = false := h2
              rw [decide_eq_true g0, decide_eq_true g1] at h2
              cases h2
          simp only [B_is_tool, Fn.evT, List.getElem?_cons_zero, List.getElem?_cons_succ, List.set_cons_zero, List.set_cons_succ, List.length_cons, List.length_nil, Nat.reduceAdd, Nat.reduceLT, Bool.not_true, Bool.not_false, Nat.reduceLeDiff, Int.cast_ofNat_Int, Int.natCast_zero, Int.natCast_one, Int.reduceEq, eq_self, Int.reduceLE, Int.reduceLT, Int.reduceNeg, Int.reduceToNat, Int.toNat_natCast, Int.reduceAdd, Int.reduceSub, Int.reduceMul, Nat.reduceMul, Nat.reduceSub, decide_true, decide_false, Bool.true_and, Bool.false_and, Bool.and_true, Bool.true_or, Bool.false_or, Bool.or_false, not_true_eq_false, not_false_eq_true, if_true, if_false, Bool.false_eq_true, reduceCtorEq, tt, l3, i0, i1, i2, c_is_name, na, c_is_within, wc, e]
        | true =>
          rw [h2] at wc
          obtain ⟨g, rfl, g0, g1⟩ := wiB_int h2
          have wb := within_spec b (fit_noF fb) (g * t) 999
          haveI : ISz g 8 := isz_of (by omega) (by omega)
          haveI : ISz t 5 := isz_of (by omega) (by omega)
          have m := mul_z (i := g) (j := t) (by decide)
          have e : toB t (.tup [a, b, .int g]) = wiB (g * t) 999 b := by
            show (isNmD a && ((decide (0 ≤ g) && decide (g ≤ 99)) && wiB (g * t) 999 b)) = _
            rw [h1, decide_eq_true g0, decide_eq_true g1]
            rfl
          simp only [B_is_tool, Fn.evT, List.getElem?_cons_zero, List.getElem?_cons_succ, List.set_cons_zero, List.set_cons_succ, List.length_cons, List.length_nil, Nat.reduceAdd, Nat.reduceLT, Bool.not_true, Bool.not_false, Nat.reduceLeDiff, Int.cast_ofNat_Int, Int.natCast_zero, Int.natCast_one, Int.reduceEq, eq_self, Int.reduceLE, Int.reduceLT, Int.reduceNeg, Int.reduceToNat, Int.toNat_natCast, Int.reduceAdd, Int.reduceSub, Int.reduceMul, Nat.reduceMul, Nat.reduceSub, decide_true, decide_false, Bool.true_and, Bool.false_and, Bool.and_true, Bool.true_or, Bool.false_or, Bool.or_false, not_true_eq_false, not_false_eq_true, if_true, if_false, Bool.false_eq_true, reduceCtorEq, tt, l3, i0, i1, i2, c_is_name, na, c_is_within, wc, m, wb, e]
    · have e : toB t (.tup ds) = false := by
        cases z : toB t (.tup ds) with
        | false => rfl
        | true =>
          obtain ⟨_, _, _, e, _⟩ := toB_of z
          injection e with e
          rw [e] at h3
          exact absurd rfl h3
      have ll := len_tup (ds := ds)
      have d3 := decide_eq_false h3
      simp only [B_is_tool, Fn.evT, List.getElem?_cons_zero, List.getElem?_cons_succ, List.set_cons_zero, List.set_cons_succ, List.length_cons, List.length_nil, Nat.reduceAdd, Nat.reduceLT, Bool.not_true, Bool.not_false, Nat.reduceLeDiff, Int.cast_ofNat_Int, Int.natCast_zero, Int.natCast_one, Int.reduceEq, eq_self, Int.reduceLE, Int.reduceLT, Int.reduceNeg, Int.reduceToNat, Int.toNat_natCast, Int.reduceAdd, Int.reduceSub, Int.reduceMul, Nat.reduceMul, Nat.reduceSub, decide_true, decide_false, Bool.true_and, Bool.false_and, Bool.and_true, Bool.true_or, Bool.false_or, Bool.or_false, not_true_eq_false, not_false_eq_true, if_true, if_false, Bool.false_eq_true, reduceCtorEq, tt, ll, d3, e]
  · rw [Bool.not_eq_true] at hs
    have tt := isi_tup (fit_noF f)
    rw [hs] at tt
    have e : toB t d = false := by
      cases z : toB t d with
      | false => rfl
      | true =>
        obtain ⟨_, _, _, e, _⟩ := toB_of z
        rw [e] at hs
        cases hs
    simp only [B_is_tool, Fn.evT, List.getElem?_cons_zero, List.getElem?_cons_succ, List.set_cons_zero, List.set_cons_succ, List.length_cons, List.length_nil, Nat.reduceAdd, Nat.reduceLT, Bool.not_true, Bool.not_false, Nat.reduceLeDiff, Int.cast_ofNat_Int, Int.natCast_zero, Int.natCast_one, Int.reduceEq, eq_self, Int.reduceLE, Int.reduceLT, Int.reduceNeg, Int.reduceToNat, Int.toNat_natCast, Int.reduceAdd, Int.reduceSub, Int.reduceMul, Nat.reduceMul, Nat.reduceSub, decide_true, decide_false, Bool.true_and, Bool.false_and, Bool.and_true, Bool.true_or, Bool.false_or, Bool.or_false, not_true_eq_false, not_false_eq_true, if_true, if_false, Bool.false_eq_true, reduceCtorEq, tt, e]
theorem job_spec {n : Nat} (d : D) (f : fit n d = true) {ns : List Str} (ly : Lays ns) : E_is_job.F [.dat d, .dat (.lst (txs ns))] = .ok (.dat (.bl (joB ns d))) := by
  rw [d_is_job (by rfl)]
  have no : (joB ns d = true → False) → joB ns d = false := fun h => by
    cases z : joB ns d with
    | false => rfl
    | true => exact (h z).elim
  by_cases hs : d.isT = true
  · obtain ⟨ds, rfl⟩ := isT_tup f hs
    obtain ⟨hl, hf⟩ := fit_tup f
    have tt := isi_tup (fit_noF f)
    rw [hs] at tt
    by_cases h3 : (ds.length : Int) = 4
    · obtain ⟨a, b, c, w, rfl⟩ := lst4 h3
      have fa := hf a (by simp)
      have fb := hf b (by simp)
      have fc := hf c (by simp)
      have fw := hf w (by simp)
      have i0 : idxB (.dat (.tup [a, b, c, w])) (.dat (.int 0)) = .ok (.dat a) := idx_tup rfl
      have i1 : idxB (.dat (.tup [a, b, c, w])) (.dat (.int 1)) = .ok (.dat b) := idx_tup rfl
      have i2 : idxB (.dat (.tup [a, b, c, w])) (.dat (.int 2)) = .ok (.dat c) := idx_tup rfl
      have i3 : idxB (.dat (.tup [a, b, c, w])) (.dat (.int 3)) = .ok (.dat w) := idx_tup rfl
      have l3 : lenB [.dat (.tup [a, b, c, w])] = .ok (.dat (.int 4)) := (rfl)
      have na := name_specD a fa
      have wb := within_spec b (fit_noF fb) 0 99
      have wc := within_spec c (fit_noF fc) 0 99
      have tw := isi_tup (fit_noF fw)
      cases h1 : isNmD a with
      | false =>
        rw [h1] at na
        have e := no fun z => by
          obtain ⟨_, _, _, _, e, p, _⟩ := joB_of z
          injection e with e
          injection e with e
          rw [← e, h1] at p
          cases p
        simp only [B_is_job, Fn.evT, List.getElem?_cons_zero, List.getElem?_cons_succ, List.set_cons_zero, List.set_cons_succ, List.length_cons, List.length_nil, Nat.reduceAdd, Nat.reduceLT, Bool.not_true, Bool.not_false, Nat.reduceLeDiff, Int.cast_ofNat_Int, Int.natCast_zero, Int.natCast_one, Int.reduceEq, eq_self, Int.reduceLE, Int.reduceLT, Int.reduceNeg, Int.reduceToNat, Int.toNat_natCast, Int.reduceAdd, Int.reduceSub, Int.reduceMul, Nat.reduceMul, Nat.reduceSub, decide_true, decide_false, Bool.true_and, Bool.false_and, Bool.and_true, Bool.true_or, Bool.false_or, Bool.or_false, not_true_eq_false, not_false_eq_true, if_true, if_false, Bool.false_eq_true, reduceCtorEq, tt, l3, i0, i1, i2, i3, c_is_name, na, e]
      | true =>
        rw [h1] at na
        cases h4 : w.isT with
        | false =>
          rw [h4] at tw
          have e := no fun z => by
            obtain ⟨_, _, _, _, e, p, _⟩ := joB_of z
            injection e with e
            injection e with _ e
            injection e with _ e
            injection e with _ e
            injection e with e _
            rw [e] at h4
            cases h4
          simp only [B_is_job, Fn.evT, List.getElem?_cons_zero, List.getElem?_cons_succ, List.set_cons_zero, List.set_cons_succ, List.length_cons, List.length_nil, Nat.reduceAdd, Nat.reduceLT, Bool.not_true, Bool.not_false, Nat.reduceLeDiff, Int.cast_ofNat_Int, Int.natCast_zero, Int.natCast_one, Int.reduceEq, eq_self, Int.reduceLE, Int.reduceLT, Int.reduceNeg, Int.reduceToNat, Int.toNat_natCast, Int.reduceAdd, Int.reduceSub, Int.reduceMul, Nat.reduceMul, Nat.reduceSub, decide_true, decide_false, Bool.true_and, Bool.false_and, Bool.and_true, Bool.true_or, Bool.false_or, Bool.or_false, not_true_eq_false, not_false_eq_true, if_true, if_false, Bool.false_eq_true, reduceCtorEq, tt, l3, i0, i1, i2, i3, c_is_name, na, tw, e]
        | true =>
          obtain ⟨ws, rfl⟩ := isT_tup fw h4
          obtain ⟨hwl, hwf⟩ := fit_tup fw
          rw [h4] at tw
          cases h5 : wiB 0 99 b with
          | false =>
            rw [h5] at wb
            have e : joB ns (.tup [a, b, c, .tup ws]) = false := by
              show (isNmD a && ((wiB 0 99 b && wiB 0 99 c) && (ws.all (nmIn ns) && risB ws))) = false
              rw [h5, Bool.false_and, Bool.false_and, Bool.and_false]
            simp only [B_is_job, Fn.evT, List.getElem?_cons_zero, List.getElem?_cons_succ, List.set_cons_zero, List.set_cons_succ, List.length_cons, List.length_nil, Nat.reduceAdd, Nat.reduceLT, Bool.not_true, Bool.not_false, Nat.reduceLeDiff, Int.cast_ofNat_Int, Int.natCast_zero, Int.natCast_one, Int.reduceEq, eq_self, Int.reduceLE, Int.reduceLT, Int.reduceNeg, Int.reduceToNat, Int.toNat_natCast, Int.reduceAdd, Int.reduceSub, Int.reduceMul, Nat.reduceMul, Nat.reduceSub, decide_true, decide_false, Bool.true_and, Bool.false_and, Bool.and_true, Bool.true_or, Bool.false_or, Bool.or_false, not_true_eq_false, not_false_eq_true, if_true, if_false, Bool.false_eq_true, reduceCtorEq, tt, l3, i0, i1, i2, i3, c_is_name, na, tw, c_is_within, wb, e]
          | true =>
            rw [h5] at wb
            cases h6 : wiB 0 99 c with
            | false =>
              rw [h6] at wc
              have e : joB ns (.tup [a, b, c, .tup ws]) = false := by
                show (isNmD a && ((wiB 0 99 b && wiB 0 99 c) && (ws.all (nmIn ns) && risB ws))) = false
                rw [h6, Bool.and_false, Bool.false_and, Bool.and_false]
              simp only [B_is_job, Fn.evT, List.getElem?_cons_zero, List.getElem?_cons_succ, List.set_cons_zero, List.set_cons_succ, List.length_cons, List.length_nil, Nat.reduceAdd, Nat.reduceLT, Bool.not_true, Bool.not_false, Nat.reduceLeDiff, Int.cast_ofNat_Int, Int.natCast_zero, Int.natCast_one, Int.reduceEq, eq_self, Int.reduceLE, Int.reduceLT, Int.reduceNeg, Int.reduceToNat, Int.toNat_natCast, Int.reduceAdd, Int.reduceSub, Int.reduceMul, Nat.reduceMul, Nat.reduceSub, decide_true, decide_false, Bool.true_and, Bool.false_and, Bool.and_true, Bool.true_or, Bool.false_or, Bool.or_false, not_true_eq_false, not_false_eq_true, if_true, if_false, Bool.false_eq_true, reduceCtorEq, tt, l3, i0, i1, i2, i3, c_is_name, na, tw, c_is_within, wb, wc, e]
            | true =>
              rw [h6] at wc
              have e : joB ns (.tup [a, b, c, .tup ws]) = (ws.all (nmIn ns) && risB ws) := by
                show (isNmD a && ((wiB 0 99 b && wiB 0 99 c) && (ws.all (nmIn ns) && risB ws))) = _
                rw [h1, h5, h6, Bool.true_and, Bool.true_and, Bool.true_and]
              have co : compD (.one 2) yesF (andV (ownF E_is_name (consA (varB 2) nilA)) (bin2 (inB false) (varB 2) (varB 1))) [some (.dat (.tup [a, b, c, .tup ws])), some (.dat (.lst (txs ns))), none] ws = .ok (.own (.l (ws.map fun d => D.bl (nmIn ns d)))) := compD_D (h := fun d => D.bl (nmIn ns d)) (le_sz hwl) (by
                intro d hd
                have fd := hwf d hd
                have nd := name_specD d fd
                unfold nmIn
                cases h7 : isNmD d with
                | false =>
                  rw [h7] at nd
                  simp only [Fn.evT, List.getElem?_cons_zero, List.getElem?_cons_succ, List.set_cons_zero, List.set_cons_succ, List.length_cons, List.length_nil, Nat.reduceAdd, Nat.reduceLT, Bool.not_true, Bool.not_false, Nat.reduceLeDiff, Int.cast_ofNat_Int, Int.natCast_zero, Int.natCast_one, Int.reduceEq, eq_self, Int.reduceLE, Int.reduceLT, Int.reduceNeg, Int.reduceToNat, Int.toNat_natCast, Int.reduceAdd, Int.reduceSub, Int.reduceMul, Nat.reduceMul, Nat.reduceSub, decide_true, decide_false, Bool.true_and, Bool.false_and, Bool.and_true, Bool.true_or, Bool.false_or, Bool.or_false, not_true_eq_false, not_false_eq_true, if_true, if_false, Bool.false_eq_true, reduceCtorEq, Fn.evS, Option.toList, List.nil_append, List.cons_append, c_is_name, nd, Bool.false_and]
                | true =>
                  rw [h7] at nd
                  obtain ⟨x, rfl, _⟩ := isNmD_str h7
                  have q : inB false (.dat (.str x)) (.dat (.lst (txs ns))) = .ok (.dat (.bl (decide (x ∈ ns)))) := in_strs (fit_str fd).1 ly
                  simp only [Fn.evT, List.getElem?_cons_zero, List.getElem?_cons_succ, List.set_cons_zero, List.set_cons_succ, List.length_cons, List.length_nil, Nat.reduceAdd, Nat.reduceLT, Bool.not_true, Bool.not_false, Nat.reduceLeDiff, Int.cast_ofNat_Int, Int.natCast_zero, Int.natCast_one, Int.reduceEq, eq_self, Int.reduceLE, Int.reduceLT, Int.reduceNeg, Int.reduceToNat, Int.toNat_natCast, Int.reduceAdd, Int.reduceSub, Int.reduceMul, Nat.reduceMul, Nat.reduceSub, decide_true, decide_false, Bool.true_and, Bool.false_and, Bool.and_true, Bool.true_or, Bool.false_or, Bool.or_false, not_true_eq_false, not_false_eq_true, if_true, if_false, Bool.false_eq_true, reduceCtorEq, Fn.evS, Option.toList, List.nil_append, List.cons_append, c_is_name, nd, q, Bool.true_and, inD])
              cases h8 : ws.all (nmIn ns) with
              | false =>
                rw [h8, Bool.false_and] at e
                simp only [B_is_job, Fn.evT, List.getElem?_cons_zero, List.getElem?_cons_succ, List.set_cons_zero, List.set_cons_succ, List.length_cons, List.length_nil, Nat.reduceAdd, Nat.reduceLT, Bool.not_true, Bool.not_false, Nat.reduceLeDiff, Int.cast_ofNat_Int, Int.natCast_zero, Int.natCast_one, Int.reduceEq, eq_self, Int.reduceLE, Int.reduceLT, Int.reduceNeg, Int.reduceToNat, Int.toNat_natCast, Int.reduceAdd, Int.reduceSub, Int.reduceMul, Nat.reduceMul, Nat.reduceSub, decide_true, decide_false, Bool.true_and, Bool.false_and, Bool.and_true, Bool.true_or, Bool.false_or, Bool.or_false, not_true_eq_false, not_false_eq_true, if_true, if_false, Bool.false_eq_true, reduceCtorEq, tt, l3, i0, i1, i2, i3, c_is_name, na, tw, c_is_within, wb, wc, co, all_map, h8, e]
              | true =>
                rw [h8, Bool.true_and] at e
                have rt := rising_t ws hwl (by
                  rw [List.all_eq_true] at h8 ⊢
                  intro d hd
                  have := h8 d hd
                  unfold nmIn at this
                  rw [Bool.and_eq_true] at this
                  exact this.1)
                simp only [B_is_job, Fn.evT, List.getElem?_cons_zero, List.getElem?_cons_succ, List.set_cons_zero, List.set_cons_succ, List.length_cons, List.length_nil, Nat.reduceAdd, Nat.reduceLT, Bool.not_true, Bool.not_false, Nat.reduceLeDiff, Int.cast_ofNat_Int, Int.natCast_zero, Int.natCast_one, Int.reduceEq, eq_self, Int.reduceLE, Int.reduceLT, Int.reduceNeg, Int.reduceToNat, Int.toNat_natCast, Int.reduceAdd, Int.reduceSub, Int.reduceMul, Nat.reduceMul, Nat.reduceSub, decide_true, decide_false, Bool.true_and, Bool.false_and, Bool.and_true, Bool.true_or, Bool.false_or, Bool.or_false, not_true_eq_false, not_false_eq_true, if_true, if_false, Bool.false_eq_true, reduceCtorEq, tt, l3, i0, i1, i2, i3, c_is_name, na, tw, c_is_within, wb, wc, co, all_map, h8, c_is_rising, rt, e]
    · have e := no fun z => by
        obtain ⟨_, _, _, _, e, _⟩ := joB_of z
        injection e with e
        rw [e] at h3
        exact absurd rfl h3
      have ll := len_tup (ds := ds)
      have d3 := decide_eq_false h3
      simp only [B_is_job, Fn.evT, List.getElem?_cons_zero, List.getElem?_cons_succ, List.set_cons_zero, List.set_cons_succ, List.length_cons, List.length_nil, Nat.reduceAdd, Nat.reduceLT, Bool.not_true, Bool.not_false, Nat.reduceLeDiff, Int.cast_ofNat_Int, Int.natCast_zero, Int.natCast_one, Int.reduceEq, eq_self, Int.reduceLE, Int.reduceLT, Int.reduceNeg, Int.reduceToNat, Int.toNat_natCast, Int.reduceAdd, Int.reduceSub, Int.reduceMul, Nat.reduceMul, Nat.reduceSub, decide_true, decide_false, Bool.true_and, Bool.false_and, Bool.and_true, Bool.true_or, Bool.false_or, Bool.or_false, not_true_eq_false, not_false_eq_true, if_true, if_false, Bool.false_eq_true, reduceCtorEq, tt, ll, d3, e]
  · rw [Bool.not_eq_true] at hs
    have tt := isi_tup (fit_noF f)
    rw [hs] at tt
    have e := no fun z => by
      obtain ⟨_, _, _, _, e, _⟩ := joB_of z
      rw [e] at hs
      cases hs
    simp only [B_is_job, Fn.evT, List.getElem?_cons_zero, List.getElem?_cons_succ, List.set_cons_zero, List.set_cons_succ, List.length_cons, List.length_nil, Nat.reduceAdd, Nat.reduceLT, Bool.not_true, Bool.not_false, Nat.reduceLeDiff, Int.cast_ofNat_Int, Int.natCast_zero, Int.natCast_one, Int.reduceEq, eq_self, Int.reduceLE, Int.reduceLT, Int.reduceNeg, Int.reduceToNat, Int.toNat_natCast, Int.reduceAdd, Int.reduceSub, Int.reduceMul, Nat.reduceMul, Nat.reduceSub, decide_true, decide_false, Bool.true_and, Bool.false_and, Bool.and_true, Bool.true_or, Bool.false_or, Bool.or_false, not_true_eq_false, not_false_eq_true, if_true, if_false, Bool.false_eq_true, reduceCtorEq, tt, e]
end P
namespace P
open PySem PySem.Spec PyProof.Rows L2 Fn
theorem hsB_of {d : D} (h : hsB d = true) : ∃ t js ls, d = .tup [.int t, .tup js, .tup ls] := by
  unfold hsB at h
  split at h
  · exact ⟨_, _, _, rfl⟩
  · cases h
theorem toB_hd {t : Int} {d : D} (h : toB t d = true) : isNmD (hdD d) = true ∧ idxB (.dat d) (.dat (.int 0)) = .ok (.dat (hdD d)) := by
  obtain ⟨n, c, f, rfl, h1, _⟩ := toB_of h
  exact ⟨h1, idx_tup rfl⟩
theorem joB_hd {ns : List Str} {d : D} (h : joB ns d = true) : isNmD (hdD d) = true ∧ idxB (.dat d) (.dat (.int 0)) = .ok (.dat (hdD d)) := by
  obtain ⟨n, g, w, ws, rfl, h1, _⟩ := joB_of h
  exact ⟨h1, idx_tup rfl⟩
theorem joB_wn {ns : List Str} {d : D} (h : joB ns d = true) : ∃ ws, idxB (.dat d) (.dat (.int 3)) = .ok (.dat (.tup ws)) ∧ wnN d = ws.length := by
  obtain ⟨n, g, w, ws, rfl, _⟩ := joB_of h
  exact ⟨ws, idx_tup rfl, rfl⟩
theorem hd_fit {n : Nat} {d : D} (f : fit n d = true) : fit n (hdD d) = true := by
  unfold hdD
  split
  · exact (fit_tup f).2 _ List.mem_cons_self
  · cases n <;> rfl
theorem heads {n : Nat} {ds : List D} (f : ∀ d ∈ ds, fit n d = true) (h : ∀ d ∈ ds, isNmD (hdD d) = true) : ∃ xs : List Str, ds.map hdD = txs xs ∧ Lays xs ∧ (ds.map hdD).all isNmD = true := by
  have al : (ds.map hdD).all isNmD = true := by
    rw [List.all_map, List.all_eq_true]
    exact h
  obtain ⟨xs, e, ly⟩ := fit_lays (n := n) (ns := ds.map hdD) (fun d hd => by
    obtain ⟨e, he, rfl⟩ := List.mem_map.mp hd
    exact hd_fit (f e he)) al
  exact ⟨xs, e, ly, al⟩
theorem sum_cast {α : Type} (g : α → Nat) : ∀ l : List α, (l.map fun a => ((g a : Nat) : Int)).sum = ((l.map g).sum : Int)
  | [] => rfl
  | a :: l => by rw [List.map_cons, List.sum_cons, sum_cast g l, List.map_cons, List.sum_cons]; omega
theorem house_specD {n : Nat} (d : D) (f : fit n d = true) : E_is_house.F [.dat d] = .ok (.dat (.bl (hsB d))) := by
  rw [d_is_house (by rfl)]
  have no : (hsB d = true → False) → hsB d = false := fun h => by
    cases z : hsB d with
    | false => rfl
    | true => exact (h z).elim
  by_cases hs : d.isT = true
  · obtain ⟨ds, rfl⟩ := isT_tup f hs
    obtain ⟨hl, hf⟩ := fit_tup f
    have tt := isi_tup (fit_noF f)
    rw [hs] at tt
    by_cases h3 : (ds.length : Int) = 3
    · obtain ⟨a, b, c, rfl⟩ := lst3 h3
      have fa := hf a (by simp)
      have fb := hf b (by simp)
      have fc := hf c (by simp)
      have i0 : idxB (.dat (.tup [a, b, c])) (.dat (.int 0)) = .ok (.dat a) := idx_tup rfl
      have l3 : lenB [.dat (.tup [a, b, c])] = .ok (.dat (.int 3)) := (rfl)
      have wa := within_spec a (fit_noF fa) 1 9
      have bt : ∀ ρ : Fn.Env, bindT (.many [1, 2, 3]) (.tup [a, b, c]) ρ = some (putMany [1, 2, 3] [a, b, c] ρ) := fun ρ => bt_tup rfl
      cases h1 : wiB 1 9 a with
      | false =>
        rw [h1] at wa
        have e := no fun z => by
          obtain ⟨t, js, ls, e⟩ := hsB_of z
          rw [e] at z
          injection e with e
          injection e with e _
          rw [e] at h1
          unfold hsB at z
          rw [Bool.and_eq_true] at z
          have h1 : (decide (1 ≤ t) && decide (t ≤ 9)) = false := h1
          rw [z.1] at h1
          cases h1
        simp only [B_is_house, Fn.evT, List.getElem?_cons_zero, List.getElem?_cons_succ, List.set_cons_zero, List.set_cons_succ, List.length_cons, List.length_nil, Nat.reduceAdd, Nat.reduceLT, Bool.not_true, Bool.not_false, Nat.reduceLeDiff, Int.cast_ofNat_Int, Int.natCast_zero, Int.natCast_one, Int.reduceEq, eq_self, Int.reduceLE, Int.reduceLT, Int.reduceNeg, Int.reduceToNat, Int.toNat_natCast, Int.reduceAdd, Int.reduceSub, Int.reduceMul, Nat.reduceMul, Nat.reduceSub, decide_true, decide_false, Bool.true_and, Bool.false_and, Bool.and_true, Bool.true_or, Bool.false_or, Bool.or_false, not_true_eq_false, not_false_eq_true, if_true, if_false, Bool.false_eq_true, reduceCtorEq, tt, l3, i0, c_is_within, wa, e]
      | true =>
        rw [h1] at wa
        obtain ⟨t, rfl, t1, t9⟩ := wiB_int h1
        have tb := isi_tup (fit_noF fb)
        have tc := isi_tup (fit_noF fc)
        cases h2 : b.isT with
        | false =>
          rw [h2] at tb
          have e := no fun z => by
            obtain ⟨_, _, _, e⟩ := hsB_of z
            injection e with e
            injection e with _ e
            injection e with e _
            rw [e] at h2
            cases h2
          simp only [B_is_house, Fn.evT, List.getElem?_cons_zero, List.getElem?_cons_succ, List.set_cons_zero, List.set_cons_succ, List.length_cons, List.length_nil, Nat.reduceAdd, Nat.reduceLT, Bool.not_true, Bool.not_false, Nat.reduceLeDiff, Int.cast_ofNat_Int, Int.natCast_zero, Int.natCast_one, Int.reduceEq, eq_self, Int.reduceLE, Int.reduceLT, Int.reduceNeg, Int.reduceToNat, Int.toNat_natCast, Int.reduceAdd, Int.reduceSub, Int.reduceMul, Nat.reduceMul, Nat.reduceSub, decide_true, decide_false, Bool.true_and, Bool.false_and, Bool.and_true, Bool.true_or, Bool.false_or, Bool.or_false, not_true_eq_false, not_false_eq_true, if_true, if_false, Bool.false_eq_true, reduceCtorEq, tt, l3, i0, c_is_within, wa, bt, tb, e]
        | true =>
          rw [h2] at tb
          obtain ⟨js, rfl⟩ := isT_tup fb h2
          obtain ⟨hjl, hjf⟩ := fit_tup fb
          cases h4 : c.isT with
          | false =>
            rw [h4] at tc
            have e := no fun z => by
              obtain ⟨_, _, _, e⟩ := hsB_of z
              injection e with e
              injection e with _ e
              injection e with _ e
              injection e with e _
              rw [e] at h4
              cases h4
            simp only [B_is_house, Fn.evT, List.getElem?_cons_zero, List.getElem?_cons_succ, List.set_cons_zero, List.set_cons_succ, List.length_cons, List.length_nil, Nat.reduceAdd, Nat.reduceLT, Bool.not_true, Bool.not_false, Nat.reduceLeDiff, Int.cast_ofNat_Int, Int.natCast_zero, Int.natCast_one, Int.reduceEq, eq_self, Int.reduceLE, Int.reduceLT, Int.reduceNeg, Int.reduceToNat, Int.toNat_natCast, Int.reduceAdd, Int.reduceSub, Int.reduceMul, Nat.reduceMul, Nat.reduceSub, decide_true, decide_false, Bool.true_and, Bool.false_and, Bool.and_true, Bool.true_or, Bool.false_or, Bool.or_false, not_true_eq_false, not_false_eq_true, if_true, if_false, Bool.false_eq_true, reduceCtorEq, tt, l3, i0, c_is_within, wa, bt, tb, tc, e]
          | true =>
            rw [h4] at tc
            obtain ⟨ls, rfl⟩ := isT_tup fc h4
            obtain ⟨hll, hlf⟩ := fit_tup fc
            have e0 : hsB (.tup [.int t, .tup js, .tup ls]) = ((decide (1 ≤ js.length + ls.length) && decide (js.length + ls.length ≤ 8)) && ((ls.all (toB t) && risB (ls.map hdD)) && ((js.all (joB ((ls.map hdD).map unS)) && risB (js.map hdD)) && (!(js.any fun j => inD ((ls.map hdD).map unS) (hdD j)) && decide ((js.map wnN).sum ≤ 16))))) := by
              show ((decide (1 ≤ t) && decide (t ≤ 9)) && _) = _
              rw [decide_eq_true t1, decide_eq_true t9]
              rfl
            rw [e0]
            have lj := len_tup (ds := js)
            have lt := len_tup (ds := ls)
            haveI : ISz (js.length : Int) 12 := isz_of (by omega) (by omega)
            haveI : ISz (ls.length : Int) 12 := isz_of (by omega) (by omega)
            by_cases n1 : 1 ≤ js.length + ls.length
            · have d1 : decide ((1 : Int) ≤ (js.length : Int) + (ls.length : Int)) = true := decide_eq_true (by omega)
              by_cases n8 : js.length + ls.length ≤ 8
              · have d8 : decide ((js.length : Int) + (ls.length : Int) ≤ 8) = true := decide_eq_true (by omega)
                rw [decide_eq_true n1, decide_eq_true n8, Bool.and_self, Bool.true_and]
                have c1 : compD (.one 5) yesF (ownF E_is_tool (consA (varB 5) (consA (varB 1) nilA))) [some (.dat (.tup [.int t, .tup js, .tup ls])), some (.dat (.int t)), some (.dat (.tup js)), some (.dat (.tup ls)), none, none, none] ls = .ok (.own (.l (ls.map fun d => D.bl (toB t d)))) := compD_D (h := fun d => D.bl (toB t d)) (le_sz (by omega)) (by
                  intro d hd
                  have e := tool_spec d (hlf d hd) t1 t9
                  simp only [Fn.evT, List.getElem?_cons_zero, List.getElem?_cons_succ, List.set_cons_zero, List.set_cons_succ, List.length_cons, List.length_nil, Nat.reduceAdd, Nat.reduceLT, Bool.not_true, Bool.not_false, Nat.reduceLeDiff, Int.cast_ofNat_Int, Int.natCast_zero, Int.natCast_one, Int.reduceEq, eq_self, Int.reduceLE, Int.reduceLT, Int.reduceNeg, Int.reduceToNat, Int.toNat_natCast, Int.reduceAdd, Int.reduceSub, Int.reduceMul, Nat.reduceMul, Nat.reduceSub, decide_true, decide_false, Bool.true_and, Bool.false_and, Bool.and_true, Bool.true_or, Bool.false_or, Bool.or_false, not_true_eq_false, not_false_eq_true, if_true, if_false, Bool.false_eq_true, reduceCtorEq, Fn.evS, Option.toList, List.nil_append, List.cons_append, c_is_tool, e])
                cases h5 : ls.all (toB t) with
                | false => simp only [B_is_house, Fn.evT, List.getElem?_cons_zero, List.getElem?_cons_succ, List.set_cons_zero, List.set_cons_succ, List.length_cons, List.length_nil, Nat.reduceAdd, Nat.reduceLT, Bool.not_true, Bool.not_false, Nat.reduceLeDiff, Int.cast_ofNat_Int, Int.natCast_zero, Int.natCast_one, Int.reduceEq, eq_self, Int.reduceLE, Int.reduceLT, Int.reduceNeg, Int.reduceToNat, Int.toNat_natCast, Int.reduceAdd, Int.reduceSub, Int.reduceMul, Nat.reduceMul, Nat.reduceSub, decide_true, decide_false, Bool.true_and, Bool.false_and, Bool.and_true, Bool.true_or, Bool.false_or, Bool.or_false, not_true_eq_false, not_false_eq_true, if_true, if_false, Bool.false_eq_true, reduceCtorEq, tt, l3, i0, c_is_within, wa, bt, tb, tc, lj, lt, d1, d8, c1, all_map, h5, Bool.false_and]
                | true =>
                  have h5' := List.all_eq_true.mp h5
                  obtain ⟨xs, ex, ly, ax⟩ := heads hlf fun d hd => (toB_hd (h5' d hd)).1
                  have c2 : ∀ r4 : Option Fn.B, compD (.one 5) yesF (bin2 idxB (varB 5) (litI 0)) [some (.dat (.tup [.int t, .tup js, .tup ls])), some (.dat (.int t)), some (.dat (.tup js)), some (.dat (.tup ls)), r4, none, none] ls = .ok (.own (.l (ls.map hdD))) := fun r4 => compD_D (h := hdD) (le_sz (by omega)) (by
                    intro d hd
                    have e := (toB_hd (h5' d hd)).2
                    simp only [Fn.evT, List.getElem?_cons_zero, List.getElem?_cons_succ, List.set_cons_zero, List.set_cons_succ, List.length_cons, List.length_nil, Nat.reduceAdd, Nat.reduceLT, Bool.not_true, Bool.not_false, Nat.reduceLeDiff, Int.cast_ofNat_Int, Int.natCast_zero, Int.natCast_one, Int.reduceEq, eq_self, Int.reduceLE, Int.reduceLT, Int.reduceNeg, Int.reduceToNat, Int.toNat_natCast, Int.reduceAdd, Int.reduceSub, Int.reduceMul, Nat.reduceMul, Nat.reduceSub, decide_true, decide_false, Bool.true_and, Bool.false_and, Bool.and_true, Bool.true_or, Bool.false_or, Bool.or_false, not_true_eq_false, not_false_eq_true, if_true, if_false, Bool.false_eq_true, reduceCtorEq, Fn.evS, Option.toList, List.nil_append, List.cons_append, e])
                  have rl := rising_l (ls.map hdD) (by rw [List.length_map]; omega) ax
                  cases h6 : risB (ls.map hdD) with
                  | false =>
                    rw [h6] at rl
                    simp only [B_is_house, Fn.evT, List.getElem?_cons_zero, List.getElem?_cons_succ, List.set_cons_zero, List.set_cons_succ, List.length_cons, List.length_nil, Nat.reduceAdd, Nat.reduceLT, Bool.not_true, Bool.not_false, Nat.reduceLeDiff, Int.cast_ofNat_Int, Int.natCast_zero, Int.natCast_one, Int.reduceEq, eq_self, Int.reduceLE, Int.reduceLT, Int.reduceNeg, Int.reduceToNat, Int.toNat_natCast, Int.reduceAdd, Int.reduceSub, Int.reduceMul, Nat.reduceMul, Nat.reduceSub, decide_true, decide_false, Bool.true_and, Bool.false_and, Bool.and_true, Bool.true_or, Bool.false_or, Bool.or_false, not_true_eq_false, not_false_eq_true, if_true, if_false, Bool.false_eq_true, reduceCtorEq, tt, l3, i0, c_is_within, wa, bt, tb, tc, lj, lt, d1, d8, c1, all_map, h5, c2, c_is_rising, rl, Bool.and_false, Bool.false_and]
                  | true =>
                    rw [h6] at rl
                    rw [Bool.and_self, Bool.true_and]
                    rw [ex] at rl c2 ⊢
                    rw [unS_txs]
                    have c3 : compD (.one 6) yesF (ownF E_is_job (consA (varB 6) (consA (varB 4) nilA))) [some (.dat (.tup [.int t, .tup js, .tup ls])), some (.dat (.int t)), some (.dat (.tup js)), some (.dat (.tup ls)), some (.dat (.lst (txs xs))), none, none] js = .ok (.own (.l (js.map fun d => D.bl (joB xs d)))) := compD_D (h := fun d => D.bl (joB xs d)) (le_sz (by omega)) (by
                      intro d hd
                      have e := job_spec d (hjf d hd) ly
                      simp only [Fn.evT, List.getElem?_cons_zero, List.getElem?_cons_succ, List.set_cons_zero, List.set_cons_succ, List.length_cons, List.length_nil, Nat.reduceAdd, Nat.reduceLT, Bool.not_true, Bool.not_false, Nat.reduceLeDiff, Int.cast_ofNat_Int, Int.natCast_zero, Int.natCast_one, Int.reduceEq, eq_self, Int.reduceLE, Int.reduceLT, Int.reduceNeg, Int.reduceToNat, Int.toNat_natCast, Int.reduceAdd, Int.reduceSub, Int.reduceMul, Nat.reduceMul, Nat.reduceSub, decide_true, decide_false, Bool.true_and, Bool.false_and, Bool.and_true, Bool.true_or, Bool.false_or, Bool.or_false, not_true_eq_false, not_false_eq_true, if_true, if_false, Bool.false_eq_true, reduceCtorEq, Fn.evS, Option.toList, List.nil_append, List.cons_append, c_is_job, e])
                    cases h7 : js.all (joB xs) with
                    | false => simp only [B_is_house, Fn.evT, List.getElem?_cons_zero, List.getElem?_cons_succ, List.set_cons_zero, List.set_cons_succ, List.length_cons, List.length_nil, Nat.reduceAdd, Nat.reduceLT, Bool.not_true, Bool.not_false, Nat.reduceLeDiff, Int.cast_ofNat_Int, Int.natCast_zero, Int.natCast_one, Int.reduceEq, eq_self, Int.reduceLE, Int.reduceLT, Int.reduceNeg, Int.reduceToNat, Int.toNat_natCast, Int.reduceAdd, Int.reduceSub, Int.reduceMul, Nat.reduceMul, Nat.reduceSub, decide_true, decide_false, Bool.true_and, Bool.false_and, Bool.and_true, Bool.true_or, Bool.false_or, Bool.or_false, not_true_eq_false, not_false_eq_true, if_true, if_false, Bool.false_eq_true, reduceCtorEq, tt, l3, i0, c_is_within, wa, bt, tb, tc, lj, lt, d1, d8, c1, all_map, h5, c2, c_is_rising, rl, c3, h7, Bool.false_and]
                    | true =>
                      have h7' := List.all_eq_true.mp h7
                      obtain ⟨ys, ey, ly2, ay⟩ := heads hjf fun d hd => (joB_hd (h7' d hd)).1
                      have c4 : compD (.one 6) yesF (bin2 idxB (varB 6) (litI 0)) [some (.dat (.tup [.int t, .tup js, .tup ls])), some (.dat (.int t)), some (.dat (.tup js)), some (.dat (.tup ls)), some (.dat (.lst (txs xs))), none, none] js = .ok (.own (.l (js.map hdD))) := compD_D (h := hdD) (le_sz (by omega)) (by
                        intro d hd
                        have e := (joB_hd (h7' d hd)).2
                        simp only [Fn.evT, List.getElem?_cons_zero, List.getElem?_cons_succ, List.set_cons_zero, List.set_cons_succ, List.length_cons, List.length_nil, Nat.reduceAdd, Nat.reduceLT, Bool.not_true, Bool.not_false, Nat.reduceLeDiff, Int.cast_ofNat_Int, Int.natCast_zero, Int.natCast_one, Int.reduceEq, eq_self, Int.reduceLE, Int.reduceLT, Int.reduceNeg, Int.reduceToNat, Int.toNat_natCast, Int.reduceAdd, Int.reduceSub, Int.reduceMul, Nat.reduceMul, Nat.reduceSub, decide_true, decide_false, Bool.true_and, Bool.false_and, Bool.and_true, Bool.true_or, Bool.false_or, Bool.or_false, not_true_eq_false, not_false_eq_true, if_true, if_false, Bool.false_eq_true, reduceCtorEq, Fn.evS, Option.toList, List.nil_append, List.cons_append, e])
                      have rj := rising_l (js.map hdD) (by rw [List.length_map]; omega) ay
                      cases h8 : risB (js.map hdD) with
                      | false =>
                        rw [h8] at rj
                        simp only [B_is_house, Fn.evT, List.getElem?_cons_zero, List.getElem?_cons_succ, List.set_cons_zero, List.set_cons_succ, List.length_cons, List.length_nil, Nat.reduceAdd, Nat.reduceLT, Bool.not_true, Bool.not_false, Nat.reduceLeDiff, Int.cast_ofNat_Int, Int.natCast_zero, Int.natCast_one, Int.reduceEq, eq_self, Int.reduceLE, Int.reduceLT, Int.reduceNeg, Int.reduceToNat, Int.toNat_natCast, Int.reduceAdd, Int.reduceSub, Int.reduceMul, Nat.reduceMul, Nat.reduceSub, decide_true, decide_false, Bool.true_and, Bool.false_and, Bool.and_true, Bool.true_or, Bool.false_or, Bool.or_false, not_true_eq_false, not_false_eq_true, if_true, if_false, Bool.false_eq_true, reduceCtorEq, tt, l3, i0, c_is_within, wa, bt, tb, tc, lj, lt, d1, d8, c1, all_map, h5, c2, c_is_rising, rl, c3, h7, c4, rj, Bool.and_false, Bool.false_and]
                      | true =>
                        rw [h8] at rj
                        rw [Bool.and_self, Bool.true_and]
                        have c5 : compD (.one 6) yesF (bin2 (inB false) (bin2 idxB (varB 6) (litI 0)) (varB 4)) [some (.dat (.tup [.int t, .tup js, .tup ls])), some (.dat (.int t)), some (.dat (.tup js)), some (.dat (.tup ls)), some (.dat (.lst (txs xs))), none, none] js = .ok (.own (.l (js.map fun j => D.bl (inD xs (hdD j))))) := compD_D (h := fun j => D.bl (inD xs (hdD j))) (le_sz (by omega)) (by
                          intro d hd
                          obtain ⟨e1, e2⟩ := joB_hd (h7' d hd)
                          obtain ⟨x, ex, _⟩ := isNmD_str e1
                          have fx := hd_fit (hjf d hd)
                          rw [ex] at e2 fx
                          have q : inB false (.dat (.str x)) (.dat (.lst (txs xs))) = .ok (.dat (.bl (decide (x ∈ xs)))) := in_strs (fit_str fx).1 ly
                          simp only [Fn.evT, List.getElem?_cons_zero, List.getElem?_cons_succ, List.set_cons_zero, List.set_cons_succ, List.length_cons, List.length_nil, Nat.reduceAdd, Nat.reduceLT, Bool.not_true, Bool.not_false, Nat.reduceLeDiff, Int.cast_ofNat_Int, Int.natCast_zero, Int.natCast_one, Int.reduceEq, eq_self, Int.reduceLE, Int.reduceLT, Int.reduceNeg, Int.reduceToNat, Int.toNat_natCast, Int.reduceAdd, Int.reduceSub, Int.reduceMul, Nat.reduceMul, Nat.reduceSub, decide_true, decide_false, Bool.true_and, Bool.false_and, Bool.and_true, Bool.true_or, Bool.false_or, Bool.or_false, not_true_eq_false, not_false_eq_true, if_true, if_false, Bool.false_eq_true, reduceCtorEq, Fn.evS, Option.toList, List.nil_append, List.cons_append, e2, q, ex, inD])
                        cases h9 : js.any fun j => inD xs (hdD j) with
                        | true => simp only [B_is_house, Fn.evT, List.getElem?_cons_zero, List.getElem?_cons_succ, List.set_cons_zero, List.set_cons_succ, List.length_cons, List.length_nil, Nat.reduceAdd, Nat.reduceLT, Bool.not_true, Bool.not_false, Nat.reduceLeDiff, Int.cast_ofNat_Int, Int.natCast_zero, Int.natCast_one, Int.reduceEq, eq_self, Int.reduceLE, Int.reduceLT, Int.reduceNeg, Int.reduceToNat, Int.toNat_natCast, Int.reduceAdd, Int.reduceSub, Int.reduceMul, Nat.reduceMul, Nat.reduceSub, decide_true, decide_false, Bool.true_and, Bool.false_and, Bool.and_true, Bool.true_or, Bool.false_or, Bool.or_false, not_true_eq_false, not_false_eq_true, if_true, if_false, Bool.false_eq_true, reduceCtorEq, tt, l3, i0, c_is_within, wa, bt, tb, tc, lj, lt, d1, d8, c1, all_map, h5, c2, c_is_rising, rl, c3, h7, c4, rj, c5, any_map, h9, Bool.not_true, Bool.false_and]
                        | false =>
                          have c6 : compD (.one 6) yesF (callF lenB (consA (bin2 idxB (varB 6) (litI 3)) nilA)) [some (.dat (.tup [.int t, .tup js, .tup ls])), some (.dat (.int t)), some (.dat (.tup js)), some (.dat (.tup ls)), some (.dat (.lst (txs xs))), none, none] js = .ok (.own (.l (js.map fun j => D.int ((wnN j : Nat) : Int)))) := compD_D (h := fun j => D.int ((wnN j : Nat) : Int)) (le_sz (by omega)) (by
                            intro d hd
                            obtain ⟨ws, e1, e2⟩ := joB_wn (h7' d hd)
                            have e3 := len_tup (ds := ws)
                            simp only [Fn.evT, List.getElem?_cons_zero, List.getElem?_cons_succ, List.set_cons_zero, List.set_cons_succ, List.length_cons, List.length_nil, Nat.reduceAdd, Nat.reduceLT, Bool.not_true, Bool.not_false, Nat.reduceLeDiff, Int.cast_ofNat_Int, Int.natCast_zero, Int.natCast_one, Int.reduceEq, eq_self, Int.reduceLE, Int.reduceLT, Int.reduceNeg, Int.reduceToNat, Int.toNat_natCast, Int.reduceAdd, Int.reduceSub, Int.reduceMul, Nat.reduceMul, Nat.reduceSub, decide_true, decide_false, Bool.true_and, Bool.false_and, Bool.and_true, Bool.true_or, Bool.false_or, Bool.or_false, not_true_eq_false, not_false_eq_true, if_true, if_false, Bool.false_eq_true, reduceCtorEq, Fn.evS, Option.toList, List.nil_append, List.cons_append, e1, e3, e2])
                          have sm := sum_map (as := js) (g := fun j => ((wnN j : Nat) : Int))
                          rw [sum_cast] at sm
                          have ed : decide (((js.map wnN).sum : Int) ≤ 16) = decide ((js.map wnN).sum ≤ 16) := decide_eq_decide.mpr (by omega)
                          simp only [B_is_house, Fn.evT, List.getElem?_cons_zero, List.getElem?_cons_succ, List.set_cons_zero, List.set_cons_succ, List.length_cons, List.length_nil, Nat.reduceAdd, Nat.reduceLT, Bool.not_true, Bool.not_false, Nat.reduceLeDiff, Int.cast_ofNat_Int, Int.natCast_zero, Int.natCast_one, Int.reduceEq, eq_self, Int.reduceLE, Int.reduceLT, Int.reduceNeg, Int.reduceToNat, Int.toNat_natCast, Int.reduceAdd, Int.reduceSub, Int.reduceMul, Nat.reduceMul, Nat.reduceSub, decide_true, decide_false, Bool.true_and, Bool.false_and, Bool.and_true, Bool.true_or, Bool.false_or, Bool.or_false, not_true_eq_false, not_false_eq_true, if_true, if_false, Bool.false_eq_true, reduceCtorEq, tt, l3, i0, c_is_within, wa, bt, tb, tc, lj, lt, d1, d8, c1, all_map, h5, c2, c_is_rising, rl, c3, h7, c4, rj, c5, any_map, h9, Bool.not_false, Bool.true_and, c6, sm, ed]
              · have d8 : decide ((js.length : Int) + (ls.length : Int) ≤ 8) = false := decide_eq_false (by omega)
                simp only [B_is_house, Fn.evT, List.getElem?_cons_zero, List.getElem?_cons_succ, List.set_cons_zero, List.set_cons_succ, List.length_cons, List.length_nil, Nat.reduceAdd, Nat.reduceLT, Bool.not_true, Bool.not_false, Nat.reduceLeDiff, Int.cast_ofNat_Int, Int.natCast_zero, Int.natCast_one, Int.reduceEq, eq_self, Int.reduceLE, Int.reduceLT, Int.reduceNeg, Int.reduceToNat, Int.toNat_natCast, Int.reduceAdd, Int.reduceSub, Int.reduceMul, Nat.reduceMul, Nat.reduceSub, decide_true, decide_false, Bool.true_and, Bool.false_and, Bool.and_true, Bool.true_or, Bool.false_or, Bool.or_false, not_true_eq_false, not_false_eq_true, if_true, if_false, Bool.false_eq_true, reduceCtorEq, tt, l3, i0, c_is_within, wa, bt, tb, tc, lj, lt, d1, d8, decide_eq_false n8, Bool.and_false, Bool.false_and]
            · have d1 : decide ((1 : Int) ≤ (js.length : Int) + (ls.length : Int)) = false := decide_eq_false (by omega)
              simp only [B_is_house, Fn.evT, List.getElem?_cons_zero, List.getElem?_cons_succ, List.set_cons_zero, List.set_cons_succ, List.length_cons, List.length_nil, Nat.reduceAdd, Nat.reduceLT, Bool.not_true, Bool.not_false, Nat.reduceLeDiff, Int.cast_ofNat_Int, Int.natCast_zero, Int.natCast_one, Int.reduceEq, eq_self, Int.reduceLE, Int.reduceLT, Int.reduceNeg, Int.reduceToNat, Int.toNat_natCast, Int.reduceAdd, Int.reduceSub, Int.reduceMul, Nat.reduceMul, Nat.reduceSub, decide_true, decide_false, Bool.true_and, Bool.false_and, Bool.and_true, Bool.true_or, Bool.false_or, Bool.or_false, not_true_eq_false, not_false_eq_true, if_true, if_false, Bool.false_eq_true, reduceCtorEq, tt, l3, i0, c_is_within, wa, bt, tb, tc, lj, lt, d1, decide_eq_false n1, Bool.false_and]
    · have e := no fun z => by
        obtain ⟨_, _, _, e⟩ := hsB_of z
        injection e with e
        rw [e] at h3
        exact absurd rfl h3
      have ll := len_tup (ds := ds)
      have d3 := decide_eq_false h3
      simp only [B_is_house, Fn.evT, List.getElem?_cons_zero, List.getElem?_cons_succ, List.set_cons_zero, List.set_cons_succ, List.length_cons, List.length_nil, Nat.reduceAdd, Nat.reduceLT, Bool.not_true, Bool.not_false, Nat.reduceLeDiff, Int.cast_ofNat_Int, Int.natCast_zero, Int.natCast_one, Int.reduceEq, eq_self, Int.reduceLE, Int.reduceLT, Int.reduceNeg, Int.reduceToNat, Int.toNat_natCast, Int.reduceAdd, Int.reduceSub, Int.reduceMul, Nat.reduceMul, Nat.reduceSub, decide_true, decide_false, Bool.true_and, Bool.false_and, Bool.and_true, Bool.true_or, Bool.false_or, Bool.or_false, not_true_eq_false, not_false_eq_true, if_true, if_false, Bool.false_eq_true, reduceCtorEq, tt, ll, d3, e]
  · rw [Bool.not_eq_true] at hs
    have tt := isi_tup (fit_noF f)
    rw [hs] at tt
    have e := no fun z => by
      obtain ⟨_, _, _, e⟩ := hsB_of z
      rw [e] at hs
      cases hs
    simp only [B_is_house, Fn.evT, List.getElem?_cons_zero, List.getElem?_cons_succ, List.set_cons_zero, List.set_cons_succ, List.length_cons, List.length_nil, Nat.reduceAdd, Nat.reduceLT, Bool.not_true, Bool.not_false, Nat.reduceLeDiff, Int.cast_ofNat_Int, Int.natCast_zero, Int.natCast_one, Int.reduceEq, eq_self, Int.reduceLE, Int.reduceLT, Int.reduceNeg, Int.reduceToNat, Int.toNat_natCast, Int.reduceAdd, Int.reduceSub, Int.reduceMul, Nat.reduceMul, Nat.reduceSub, decide_true, decide_false, Bool.true_and, Bool.false_and, Bool.and_true, Bool.true_or, Bool.false_or, Bool.or_false, not_true_eq_false, not_false_eq_true, if_true, if_false, Bool.false_eq_true, reduceCtorEq, tt, e]
end P
namespace P
open PySem PySem.Spec PyProof.Rows L2 Fn
theorem txs_inj_ {xs ys : List Str} (h : txs xs = txs ys) : xs = ys := (List.map_inj_right (fun x y z => by injection z)).mp h
theorem purs_strs : ∀ xs : List Str, purs (txs xs) = true
  | [] => rfl
  | x :: xs => by show (pur (.str x) && purs (txs xs)) = true; rw [purs_strs xs]; rfl
theorem pur_strs (xs : List Str) : pur (.lst (txs xs)) = true := purs_strs xs
theorem strict_ris : ∀ {xs : List Str}, risL xs = true → Strict xs
  | [], _ => List.Pairwise.nil
  | [x], _ => List.pairwise_singleton _ _
  | x :: y :: r, h => by
    rw [risL, Bool.and_eq_true, decide_eq_true_eq] at h
    have ih := strict_ris h.2
    refine List.pairwise_cons.mpr ⟨fun z hz => ?_, ih⟩
    rcases List.mem_cons.mp hz with rfl | hz
    · exact h.1
    · exact List.lt_trans h.1 ((List.pairwise_cons.mp ih).1 z hz)
theorem strict_nodup {xs : List Str} (h : Strict xs) : xs.Nodup := h.imp fun {a b} l e => by
  subst e
  exact absurd l (List.lt_irrefl _)
theorem add_len : ∀ (xs acc : List Str), acc.Nodup → ((xs.foldl addK acc).length = acc.length + xs.length ↔ (acc ++ xs).Nodup)
  | [], acc, h => by simp [h]
  | x :: xs, acc, h => by
    rw [List.foldl_cons]
    by_cases c : x ∈ acc
    · have e : addK acc x = acc := by unfold addK; rw [if_pos c]
      rw [e]
      have l := (dd_go xs acc h).2.1
      refine ⟨fun z => ?_, fun z => ?_⟩
      · rw [List.length_cons] at z
        omega
      · exact absurd rfl ((List.nodup_append.mp z).2.2 x c x List.mem_cons_self)
    · have e : addK acc x = acc ++ [x] := by unfold addK; rw [if_neg c]
      have nd := addK_nd h x
      rw [e] at nd
      rw [e, show acc ++ x :: xs = (acc ++ [x]) ++ xs by rw [List.append_assoc]; rfl, ← add_len xs (acc ++ [x]) nd, List.length_append, List.length_singleton, List.length_cons]
      omega
theorem dd_len_iff {xs : List Str} : (ddK xs).length = xs.length ↔ xs.Nodup := by
  have := add_len xs [] List.nodup_nil
  rw [List.length_nil, Nat.zero_add, List.nil_append] at this
  exact this
theorem strict_sorted {zs : List Str} (nd : zs.Nodup) {zs' : List Str} (h : (txs zs).mergeSort leD = txs zs') : Strict zs' := by
  obtain ⟨w, e, p⟩ := txs_sort zs
  have e2 : zs' = w := txs_inj_ (h.symm.trans e)
  rw [e2]
  exact strict_of (p.nodup_iff.mpr nd) (by rw [← e]; exact sortD_pair _)
theorem set_sorted {ws zs : List Str} (h : (txs (ddK ws)).mergeSort leD = txs zs) : ws = zs ↔ risL ws = true := by
  have sz := strict_sorted (dd_nd ws) h
  obtain ⟨w, e, p⟩ := txs_sort (ddK ws)
  have e2 : zs = w := txs_inj_ (h.symm.trans e)
  refine ⟨fun z => ?_, fun z => ?_⟩
  · rw [z]
    exact ris_strict sz
  · exact strict_ext (strict_ris z) sz fun x => by rw [e2, p.mem_iff, mem_dd]
theorem own_sorted {ys xs ys' xs' : List Str} (hy : (txs ys).mergeSort leD = txs ys') (hx : (txs xs).mergeSort leD = txs xs') : (ys = ys' ∧ xs = xs' ∧ (ddK (ys ++ xs)).length = (ys ++ xs).length) ↔ (risL xs = true ∧ risL ys = true ∧ ∀ y ∈ ys, y ∉ xs) := by
  rw [dd_len_iff]
  obtain ⟨w, e, p⟩ := txs_sort ys
  have e2 : ys' = w := txs_inj_ (hy.symm.trans e)
  obtain ⟨v, f, q⟩ := txs_sort xs
  have f2 : xs' = v := txs_inj_ (hx.symm.trans f)
  constructor
  · rintro ⟨h1, h2, h3⟩
    obtain ⟨n1, n2, n3⟩ := List.nodup_append.mp h3
    refine ⟨?_, ?_, fun y hy hx => n3 y hy y hx rfl⟩
    · have := strict_sorted n2 hx
      rw [← h2] at this
      exact ris_strict this
    · have := strict_sorted n1 hy
      rw [← h1] at this
      exact ris_strict this
  · rintro ⟨h1, h2, h3⟩
    have s1 := strict_ris h1
    have s2 := strict_ris h2
    refine ⟨strict_ext s2 (strict_sorted (strict_nodup s2) hy) fun x => by rw [e2, p.mem_iff], strict_ext s1 (strict_sorted (strict_nodup s1) hx) fun x => by rw [f2, q.mem_iff], List.nodup_append.mpr ⟨strict_nodup s2, strict_nodup s1, fun a ha b hb e => h3 a ha (e ▸ hb)⟩⟩
theorem ne_strs {xs ys : List Str} (hx : Lays xs) (hy : Lays ys) : neB (.dat (.lst (txs xs))) (.dat (.lst (txs ys))) = .ok (.dat (.bl (!decide (xs = ys)))) := by
  refine ne_pur_b (n := 1) (m := 1) (shp_lst fun d hd => ?_) (shp_lst fun d hd => ?_) (by decide) (by decide) (pur_strs xs) (pur_strs ys) ?_
  · obtain ⟨x, h, rfl⟩ := List.mem_map.mp hd
    exact (shp_str (hx x h))
  · obtain ⟨x, h, rfl⟩ := List.mem_map.mp hd
    exact (shp_str (hy x h))
  · rw [decide_eq_true_eq]
    exact ⟨fun h => by rw [h], fun h => by injection h with h; exact txs_inj_ h⟩
end P
namespace P
open PySem PySem.Spec PyProof.Rows L2 Fn
theorem law_whole_spec (d : D) (h : d.isF = false) (lo hi : Int) : E_law_whole_v2.F [.dat d, .dat (.int lo), .dat (.int hi)] = .ok (.dat (.bl (wiB lo hi d))) := by
  rw [d_law_whole_v2 (by rfl)]
  cases c : isI d with
  | true =>
    obtain ⟨i, rfl⟩ := isI_int c
    have i1 : isiB .int (.dat (.int i)) = .ok (.dat (.bl true)) := (rfl)
    have i2 : isiB .bool (.dat (.int i)) = .ok (.dat (.bl false)) := (rfl)
    unfold wiB
    by_cases c1 : lo ≤ i
    · have d1 := decide_eq_true c1
      simp only [B_law_whole_v2, Fn.evT, List.getElem?_cons_zero, List.getElem?_cons_succ, List.set_cons_zero, List.set_cons_succ, List.length_cons, List.length_nil, Nat.reduceAdd, Nat.reduceLT, Bool.not_true, Bool.not_false, Nat.reduceLeDiff, Int.cast_ofNat_Int, Int.natCast_zero, Int.natCast_one, Int.reduceEq, eq_self, Int.reduceLE, Int.reduceLT, Int.reduceNeg, Int.reduceToNat, Int.toNat_natCast, Int.reduceAdd, Int.reduceSub, Int.reduceMul, Nat.reduceMul, Nat.reduceSub, decide_true, decide_false, Bool.true_and, Bool.false_and, Bool.and_true, Bool.true_or, Bool.false_or, Bool.or_false, not_true_eq_false, not_false_eq_true, if_true, if_false, Bool.false_eq_true, reduceCtorEq, i1, i2, d1, Bool.true_and]
    · have d1 := decide_eq_false c1
      simp only [B_law_whole_v2, Fn.evT, List.getElem?_cons_zero, List.getElem?_cons_succ, List.set_cons_zero, List.set_cons_succ, List.length_cons, List.length_nil, Nat.reduceAdd, Nat.reduceLT, Bool.not_true, Bool.not_false, Nat.reduceLeDiff, Int.cast_ofNat_Int, Int.natCast_zero, Int.natCast_one, Int.reduceEq, eq_self, Int.reduceLE, Int.reduceLT, Int.reduceNeg, Int.reduceToNat, Int.toNat_natCast, Int.reduceAdd, Int.reduceSub, Int.reduceMul, Nat.reduceMul, Nat.reduceSub, decide_true, decide_false, Bool.true_and, Bool.false_and, Bool.and_true, Bool.true_or, Bool.false_or, Bool.or_false, not_true_eq_false, not_false_eq_true, if_true, if_false, Bool.false_eq_true, reduceCtorEq, i1, i2, d1, Bool.false_and]
  | false =>
    have e : wiB lo hi d = false := by cases d <;> first | rfl | cases c
    by_cases hb : ∃ b, d = .bl b
    · obtain ⟨b, rfl⟩ := hb
      have i1 : isiB .int (.dat (.bl b)) = .ok (.dat (.bl true)) := (rfl)
      have i2 : isiB .bool (.dat (.bl b)) = .ok (.dat (.bl true)) := (rfl)
      simp only [B_law_whole_v2, Fn.evT, List.getElem?_cons_zero, List.getElem?_cons_succ, List.set_cons_zero, List.set_cons_succ, List.length_cons, List.length_nil, Nat.reduceAdd, Nat.reduceLT, Bool.not_true, Bool.not_false, Nat.reduceLeDiff, Int.cast_ofNat_Int, Int.natCast_zero, Int.natCast_one, Int.reduceEq, eq_self, Int.reduceLE, Int.reduceLT, Int.reduceNeg, Int.reduceToNat, Int.toNat_natCast, Int.reduceAdd, Int.reduceSub, Int.reduceMul, Nat.reduceMul, Nat.reduceSub, decide_true, decide_false, Bool.true_and, Bool.false_and, Bool.and_true, Bool.true_or, Bool.false_or, Bool.or_false, not_true_eq_false, not_false_eq_true, if_true, if_false, Bool.false_eq_true, reduceCtorEq, i1, i2, e]
    · have i1 : isiB .int (.dat d) = .ok (.dat (.bl false)) := by
        cases d <;> first | (cases h; done) | (cases c; done) | rfl | exact absurd ⟨_, rfl⟩ hb
      simp only [B_law_whole_v2, Fn.evT, List.getElem?_cons_zero, List.getElem?_cons_succ, List.set_cons_zero, List.set_cons_succ, List.length_cons, List.length_nil, Nat.reduceAdd, Nat.reduceLT, Bool.not_true, Bool.not_false, Nat.reduceLeDiff, Int.cast_ofNat_Int, Int.natCast_zero, Int.natCast_one, Int.reduceEq, eq_self, Int.reduceLE, Int.reduceLT, Int.reduceNeg, Int.reduceToNat, Int.toNat_natCast, Int.reduceAdd, Int.reduceSub, Int.reduceMul, Nat.reduceMul, Nat.reduceSub, decide_true, decide_false, Bool.true_and, Bool.false_and, Bool.and_true, Bool.true_or, Bool.false_or, Bool.or_false, not_true_eq_false, not_false_eq_true, if_true, if_false, Bool.false_eq_true, reduceCtorEq, i1, e]
theorem law_name_specD {n : Nat} (d : D) (f : fit n d = true) : E_law_name.F [.dat d] = .ok (.dat (.bl (isNmD d))) := by
  rw [d_law_name (by rfl)]
  by_cases hs : d.isS = true
  · obtain ⟨x, rfl⟩ := isS_str hs
    have hl := (fit_str f).2
    unfold isNmD nmB
    by_cases h1 : 1 ≤ x.length
    · by_cases h2 : x.length ≤ 8
      · have c1 : (1 : Int) ≤ (x.length : Int) := by omega
        have c2 : (x.length : Int) ≤ 8 := by omega
        simp only [B_law_name, Fn.evT, List.getElem?_cons_zero, List.getElem?_cons_succ, List.set_cons_zero, List.set_cons_succ, List.length_cons, List.length_nil, Nat.reduceAdd, Nat.reduceLT, Bool.not_true, Bool.not_false, Nat.reduceLeDiff, Int.cast_ofNat_Int, Int.natCast_zero, Int.natCast_one, Int.reduceEq, eq_self, Int.reduceLE, Int.reduceLT, Int.reduceNeg, Int.reduceToNat, Int.toNat_natCast, Int.reduceAdd, Int.reduceSub, Int.reduceMul, Nat.reduceMul, Nat.reduceSub, decide_true, decide_false, Bool.true_and, Bool.false_and, Bool.and_true, Bool.true_or, Bool.false_or, Bool.or_false, not_true_eq_false, not_false_eq_true, if_true, if_false, Bool.false_eq_true, reduceCtorEq, isi_str (fit_noF f), hs, hl, c1, c2, h1, h2]
        rw [compD_all (h := fun c => D.bl (strIn ⟨#[c]⟩ aToZ)) (by rw [Array.length_toList]; exact le_sz hl) (by
          intro c hc
          simp only [Fn.evT, List.getElem?_cons_zero, List.getElem?_cons_succ, List.set_cons_zero, List.set_cons_succ, List.length_cons, List.length_nil, Nat.reduceAdd, Nat.reduceLT, Bool.not_true, Bool.not_false, Nat.reduceLeDiff, Int.cast_ofNat_Int, Int.natCast_zero, Int.natCast_one, Int.reduceEq, eq_self, Int.reduceLE, Int.reduceLT, Int.reduceNeg, Int.reduceToNat, Int.toNat_natCast, Int.reduceAdd, Int.reduceSub, Int.reduceMul, Nat.reduceMul, Nat.reduceSub, decide_true, decide_false, Bool.true_and, Bool.false_and, Bool.and_true, Bool.true_or, Bool.false_or, Bool.or_false, not_true_eq_false, not_false_eq_true, if_true, if_false, Bool.false_eq_true, reduceCtorEq, Fn.evS, Option.toList, List.nil_append, List.cons_append, in_tt])]
        simp only [Fn.evT, List.getElem?_cons_zero, List.getElem?_cons_succ, List.set_cons_zero, List.set_cons_succ, List.length_cons, List.length_nil, Nat.reduceAdd, Nat.reduceLT, Bool.not_true, Bool.not_false, Nat.reduceLeDiff, Int.cast_ofNat_Int, Int.natCast_zero, Int.natCast_one, Int.reduceEq, eq_self, Int.reduceLE, Int.reduceLT, Int.reduceNeg, Int.reduceToNat, Int.toNat_natCast, Int.reduceAdd, Int.reduceSub, Int.reduceMul, Nat.reduceMul, Nat.reduceSub, decide_true, decide_false, Bool.true_and, Bool.false_and, Bool.and_true, Bool.true_or, Bool.false_or, Bool.or_false, not_true_eq_false, not_false_eq_true, if_true, if_false, Bool.false_eq_true, reduceCtorEq, all_map]
      · have c1 : (1 : Int) ≤ (x.length : Int) := by omega
        have c2 : ¬ (x.length : Int) ≤ 8 := by omega
        simp only [B_law_name, Fn.evT, List.getElem?_cons_zero, List.getElem?_cons_succ, List.set_cons_zero, List.set_cons_succ, List.length_cons, List.length_nil, Nat.reduceAdd, Nat.reduceLT, Bool.not_true, Bool.not_false, Nat.reduceLeDiff, Int.cast_ofNat_Int, Int.natCast_zero, Int.natCast_one, Int.reduceEq, eq_self, Int.reduceLE, Int.reduceLT, Int.reduceNeg, Int.reduceToNat, Int.toNat_natCast, Int.reduceAdd, Int.reduceSub, Int.reduceMul, Nat.reduceMul, Nat.reduceSub, decide_true, decide_false, Bool.true_and, Bool.false_and, Bool.and_true, Bool.true_or, Bool.false_or, Bool.or_false, not_true_eq_false, not_false_eq_true, if_true, if_false, Bool.false_eq_true, reduceCtorEq, isi_str (fit_noF f), hs, hl, c1, c2, h1, h2]
    · have c1 : ¬ (1 : Int) ≤ (x.length : Int) := by omega
      simp only [B_law_name, Fn.evT, List.getElem?_cons_zero, List.getElem?_cons_succ, List.set_cons_zero, List.set_cons_succ, List.length_cons, List.length_nil, Nat.reduceAdd, Nat.reduceLT, Bool.not_true, Bool.not_false, Nat.reduceLeDiff, Int.cast_ofNat_Int, Int.natCast_zero, Int.natCast_one, Int.reduceEq, eq_self, Int.reduceLE, Int.reduceLT, Int.reduceNeg, Int.reduceToNat, Int.toNat_natCast, Int.reduceAdd, Int.reduceSub, Int.reduceMul, Nat.reduceMul, Nat.reduceSub, decide_true, decide_false, Bool.true_and, Bool.false_and, Bool.and_true, Bool.true_or, Bool.false_or, Bool.or_false, not_true_eq_false, not_false_eq_true, if_true, if_false, Bool.false_eq_true, reduceCtorEq, isi_str (fit_noF f), hs, hl, c1, h1]
  · rw [Bool.not_eq_true] at hs
    have e : isNmD d = false := by cases d <;> first | rfl | cases hs
    simp only [B_law_name, Fn.evT, List.getElem?_cons_zero, List.getElem?_cons_succ, List.set_cons_zero, List.set_cons_succ, List.length_cons, List.length_nil, Nat.reduceAdd, Nat.reduceLT, Bool.not_true, Bool.not_false, Nat.reduceLeDiff, Int.cast_ofNat_Int, Int.natCast_zero, Int.natCast_one, Int.reduceEq, eq_self, Int.reduceLE, Int.reduceLT, Int.reduceNeg, Int.reduceToNat, Int.toNat_natCast, Int.reduceAdd, Int.reduceSub, Int.reduceMul, Nat.reduceMul, Nat.reduceSub, decide_true, decide_false, Bool.true_and, Bool.false_and, Bool.and_true, Bool.true_or, Bool.false_or, Bool.or_false, not_true_eq_false, not_false_eq_true, if_true, if_false, Bool.false_eq_true, reduceCtorEq, isi_str (fit_noF f), hs, e]
def roB (k : Int) : D → Bool
  | .tup ds => decide ((ds.length : Int) = k) && isNmD (hdD (.tup ds))
  | _ => false
theorem law_row_spec {n : Nat} (d : D) (f : fit n d = true) {k : Int} (hk : 0 < k) : E_law_row_v1.F [.dat d, .dat (.int k)] = .ok (.dat (.bl (roB k d))) := by
  rw [d_law_row_v1 (by rfl)]
  by_cases hs : d.isT = true
  · obtain ⟨ds, rfl⟩ := isT_tup f hs
    obtain ⟨hl, hf⟩ := fit_tup f
    have tt := isi_tup (fit_noF f)
    rw [hs] at tt
    have ll := len_tup (ds := ds)
    by_cases h3 : (ds.length : Int) = k
    · match ds, h3 with
      | [], z => exact absurd z (by simp; omega)
      | a :: r, h3 =>
        have i0 : idxB (.dat (.tup (a :: r))) (.dat (.int 0)) = .ok (.dat a) := idx_pT (ds := a :: r) (k := 0) (by decide) (by rw [List.length_cons]; omega)
        have na := law_name_specD a (hf a List.mem_cons_self)
        have e : roB k (.tup (a :: r)) = isNmD a := by
          show (decide (((a :: r).length : Int) = k) && isNmD a) = _
          rw [decide_eq_true h3, Bool.true_and]
        rw [h3] at ll
        have d3 : decide (k = k) = true := decide_eq_true rfl
        simp only [B_law_row_v1, Fn.evT, List.getElem?_cons_zero, List.getElem?_cons_succ, List.set_cons_zero, List.set_cons_succ, List.length_cons, List.length_nil, Nat.reduceAdd, Nat.reduceLT, Bool.not_true, Bool.not_false, Nat.reduceLeDiff, Int.cast_ofNat_Int, Int.natCast_zero, Int.natCast_one, Int.reduceEq, eq_self, Int.reduceLE, Int.reduceLT, Int.reduceNeg, Int.reduceToNat, Int.toNat_natCast, Int.reduceAdd, Int.reduceSub, Int.reduceMul, Nat.reduceMul, Nat.reduceSub, decide_true, decide_false, Bool.true_and, Bool.false_and, Bool.and_true, Bool.true_or, Bool.false_or, Bool.or_false, not_true_eq_false, not_false_eq_true, if_true, if_false, Bool.false_eq_true, reduceCtorEq, tt, ll, d3, i0, c_law_name, na, e]
    · have e : roB k (.tup ds) = false := by
        show (decide ((ds.length : Int) = k) && _) = false
        rw [decide_eq_false h3, Bool.false_and]
      have d3 := decide_eq_false h3
      simp only [B_law_row_v1, Fn.evT, List.getElem?_cons_zero, List.getElem?_cons_succ, List.set_cons_zero, List.set_cons_succ, List.length_cons, List.length_nil, Nat.reduceAdd, Nat.reduceLT, Bool.not_true, Bool.not_false, Nat.reduceLeDiff, Int.cast_ofNat_Int, Int.natCast_zero, Int.natCast_one, Int.reduceEq, eq_self, Int.reduceLE, Int.reduceLT, Int.reduceNeg, Int.reduceToNat, Int.toNat_natCast, Int.reduceAdd, Int.reduceSub, Int.reduceMul, Nat.reduceMul, Nat.reduceSub, decide_true, decide_false, Bool.true_and, Bool.false_and, Bool.and_true, Bool.true_or, Bool.false_or, Bool.or_false, not_true_eq_false, not_false_eq_true, if_true, if_false, Bool.false_eq_true, reduceCtorEq, tt, ll, d3, e]
  · rw [Bool.not_eq_true] at hs
    have tt := isi_tup (fit_noF f)
    rw [hs] at tt
    have e : roB k d = false := by
      unfold roB
      split
      · cases hs
      · rfl
    simp only [B_law_row_v1, Fn.evT, List.getElem?_cons_zero, List.getElem?_cons_succ, List.set_cons_zero, List.set_cons_succ, List.length_cons, List.length_nil, Nat.reduceAdd, Nat.reduceLT, Bool.not_true, Bool.not_false, Nat.reduceLeDiff, Int.cast_ofNat_Int, Int.natCast_zero, Int.natCast_one, Int.reduceEq, eq_self, Int.reduceLE, Int.reduceLT, Int.reduceNeg, Int.reduceToNat, Int.toNat_natCast, Int.reduceAdd, Int.reduceSub, Int.reduceMul, Nat.reduceMul, Nat.reduceSub, decide_true, decide_false, Bool.true_and, Bool.false_and, Bool.and_true, Bool.true_or, Bool.false_or, Bool.or_false, not_true_eq_false, not_false_eq_true, if_true, if_false, Bool.false_eq_true, reduceCtorEq, tt, e]
theorem roB_of {k : Int} {d : D} (h : roB k d = true) : ∃ ds, d = .tup ds ∧ (ds.length : Int) = k ∧ isNmD (hdD (.tup ds)) = true := by
  unfold roB at h
  split at h
  · rw [Bool.and_eq_true, decide_eq_true_eq] at h
    exact ⟨_, rfl, h⟩
  · cases h
theorem toB_ro {t : Int} {d : D} (h : toB t d = true) : roB 3 d = true := by
  obtain ⟨a, c, f, rfl, h1, _⟩ := toB_of h
  exact h1
theorem joB_ro {ns : List Str} {d : D} (h : joB ns d = true) : roB 4 d = true := by
  obtain ⟨a, c, f, ws, rfl, h1, _⟩ := joB_of h
  exact h1
theorem ro_hd {k : Int} {d : D} (h : roB k d = true) (hk : 0 < k) : isNmD (hdD d) = true ∧ idxB (.dat d) (.dat (.int 0)) = .ok (.dat (hdD d)) := by
  obtain ⟨ds, rfl, h1, h2⟩ := roB_of h
  match ds, h1 with
  | [], z => exact absurd z (by simp; omega)
  | a :: r, _ => exact ⟨h2, idx_pT (ds := a :: r) (k := 0) (by decide) (by rw [List.length_cons]; omega)⟩
abbrev envDu (d0 : D) (t : Int) (js ls : List D) (xs : List Str) (r8 r9 : Option Fn.B) : Fn.Env := [some (.dat d0), some (.dat (.int t)), some (.dat (.tup js)), some (.dat (.tup ls)), some (.dat (.lst (txs xs))), none, none, none, r8, r9, none, none, none]
theorem due_tool {n : Nat} {t : Int} (t1 : 1 ≤ t) (t9 : t ≤ 9) {d d0 : D} {js ls : List D} {xs : List Str} (f : fit n d = true) (ro : roB 3 d = true) : ∃ ρ1, bindT (.many [5, 6, 7]) d (envDu d0 t js ls xs none none) = some ρ1 ∧ B_law_due_v14_1 ρ1 = if (!toB t d) = true then .rt (.dat (.bl false)) else .nx (envDu d0 t js ls xs none none) := by
  obtain ⟨ds, rfl, h1, h2⟩ := roB_of ro
  obtain ⟨a, b, c, rfl⟩ := lst3 h1
  obtain ⟨_, hf⟩ := fit_tup f
  have fb := hf b (by simp)
  have fc := hf c (by simp)
  have na : isNmD a = true := h2
  refine ⟨_, bt_tup rfl, ?_⟩
  have wc := law_whole_spec c (fit_noF fc) 0 99
  cases h3 : wiB 0 99 c with
  | false =>
    rw [h3] at wc
    have e : toB t (.tup [a, b, c]) = false := by
      cases z : toB t (.tup [a, b, c]) with
      | false => rfl
      | true =>
        obtain ⟨_, _, g, e, p, g0, g1, _⟩ := toB_of z
        injection e with e
        injection e with _ e
        injection e with _ e
        injection e with e _
        rw [e] at h3
        have h3 : (decide (0 ≤ g) && decide (g ≤ 99)) = false := h3
        rw [decide_eq_true g0, decide_eq_true g1] at h3
        cases h3
    rw [e]
    simp only [envDu, B_law_due_v14_1, Fn.evT, List.getElem?_cons_zero, List.getElem?_cons_succ, List.set_cons_zero, List.set_cons_succ, List.length_cons, List.length_nil, Nat.reduceAdd, Nat.reduceLT, Bool.not_true, Bool.not_false, Nat.reduceLeDiff, Int.cast_ofNat_Int, Int.natCast_zero, Int.natCast_one, Int.reduceEq, eq_self, Int.reduceLE, Int.reduceLT, Int.reduceNeg, Int.reduceToNat, Int.toNat_natCast, Int.reduceAdd, Int.reduceSub, Int.reduceMul, Nat.reduceMul, Nat.reduceSub, decide_true, decide_false, Bool.true_and, Bool.false_and, Bool.and_true, Bool.true_or, Bool.false_or, Bool.or_false, not_true_eq_false, not_false_eq_true, if_true, if_false, Bool.false_eq_true, reduceCtorEq, c_law_whole_v2, wc, Bool.not_false]
  | true =>
    rw [h3] at wc
    obtain ⟨g, rfl, g0, g1⟩ := wiB_int h3
    have wb := law_whole_spec b (fit_noF fb) (g * t) 999
    haveI : ISz g 8 := isz_of (by omega) (by omega)
    haveI : ISz t 5 := isz_of (by omega) (by omega)
    have m := mul_z (i := g) (j := t) (by decide)
    have e : toB t (.tup [a, b, .int g]) = wiB (g * t) 999 b := by
      show (isNmD a && ((decide (0 ≤ g) && decide (g ≤ 99)) && wiB (g * t) 999 b)) = _
      rw [na, decide_eq_true g0, decide_eq_true g1]
      rfl
    rw [e]
    cases h4 : wiB (g * t) 999 b with
    | false =>
      rw [h4] at wb
      simp only [envDu, B_law_due_v14_1, Fn.evT, List.getElem?_cons_zero, List.getElem?_cons_succ, List.set_cons_zero, List.set_cons_succ, List.length_cons, List.length_nil, Nat.reduceAdd, Nat.reduceLT, Bool.not_true, Bool.not_false, Nat.reduceLeDiff, Int.cast_ofNat_Int, Int.natCast_zero, Int.natCast_one, Int.reduceEq, eq_self, Int.reduceLE, Int.reduceLT, Int.reduceNeg, Int.reduceToNat, Int.toNat_natCast, Int.reduceAdd, Int.reduceSub, Int.reduceMul, Nat.reduceMul, Nat.reduceSub, decide_true, decide_false, Bool.true_and, Bool.false_and, Bool.and_true, Bool.true_or, Bool.false_or, Bool.or_false, not_true_eq_false, not_false_eq_true, if_true, if_false, Bool.false_eq_true, reduceCtorEq, c_law_whole_v2, wc, m, wb, Bool.not_false]
    | true =>
      rw [h4] at wb
      simp only [envDu, B_law_due_v14_1, Fn.evT, List.getElem?_cons_zero, List.getElem?_cons_succ, List.set_cons_zero, List.set_cons_succ, List.length_cons, List.length_nil, Nat.reduceAdd, Nat.reduceLT, Bool.not_true, Bool.not_false, Nat.reduceLeDiff, Int.cast_ofNat_Int, Int.natCast_zero, Int.natCast_one, Int.reduceEq, eq_self, Int.reduceLE, Int.reduceLT, Int.reduceNeg, Int.reduceToNat, Int.toNat_natCast, Int.reduceAdd, Int.reduceSub, Int.reduceMul, Nat.reduceMul, Nat.reduceSub, decide_true, decide_false, Bool.true_and, Bool.false_and, Bool.and_true, Bool.true_or, Bool.false_or, Bool.or_false, not_true_eq_false, not_false_eq_true, if_true, if_false, Bool.false_eq_true, reduceCtorEq, c_law_whole_v2, wc, m, wb, Bool.not_true]
theorem due_job {n : Nat} {t : Int} {d d0 : D} {js ls : List D} {xs : List Str} (ly : Lays xs) (f : fit n d = true) (ro : roB 4 d = true) (s : Int) : B_law_due_v14_2 (envDu d0 t js ls xs (some (.dat (.int s))) (some (.dat d))) = if joB xs d = true then .nx (envDu d0 t js ls xs (some (.dat (.int (s + (wnN d : Nat))))) (some (.dat d))) else .rt (.dat (.bl false)) := by
  obtain ⟨ds, rfl, h1, h2⟩ := roB_of ro
  obtain ⟨a, b, c, w, rfl⟩ := lst4 h1
  obtain ⟨_, hf⟩ := fit_tup f
  have fb := hf b (by simp)
  have fc := hf c (by simp)
  have fw := hf w (by simp)
  have na : isNmD a = true := h2
  have i1 : idxB (.dat (.tup [a, b, c, w])) (.dat (.int 1)) = .ok (.dat b) := idx_tup rfl
  have i2 : idxB (.dat (.tup [a, b, c, w])) (.dat (.int 2)) = .ok (.dat c) := idx_tup rfl
  have i3 : idxB (.dat (.tup [a, b, c, w])) (.dat (.int 3)) = .ok (.dat w) := idx_tup rfl
  have wb := law_whole_spec b (fit_noF fb) 0 99
  have wc := law_whole_spec c (fit_noF fc) 0 99
  have tw := isi_tup (fit_noF fw)
  have no : (joB xs (.tup [a, b, c, w]) = true → False) → joB xs (.tup [a, b, c, w]) = false := fun h => by
    cases z : joB xs (.tup [a, b, c, w]) with
    | false => rfl
    | true => exact (h z).elim
  cases h5 : wiB 0 99 b with
  | false =>
    rw [h5] at wb
    have e := no fun z => by
      obtain ⟨_, _, _, _, e, _, p, _⟩ := joB_of z
      injection e with e
      injection e with _ e
      injection e with e _
      rw [← e, h5] at p
      cases p
    rw [e]
    simp only [envDu, B_law_due_v14_2, Fn.evT, List.getElem?_cons_zero, List.getElem?_cons_succ, List.set_cons_zero, List.set_cons_succ, List.length_cons, List.length_nil, Nat.reduceAdd, Nat.reduceLT, Bool.not_true, Bool.not_false, Nat.reduceLeDiff, Int.cast_ofNat_Int, Int.natCast_zero, Int.natCast_one, Int.reduceEq, eq_self, Int.reduceLE, Int.reduceLT, Int.reduceNeg, Int.reduceToNat, Int.toNat_natCast, Int.reduceAdd, Int.reduceSub, Int.reduceMul, Nat.reduceMul, Nat.reduceSub, decide_true, decide_false, Bool.true_and, Bool.false_and, Bool.and_true, Bool.true_or, Bool.false_or, Bool.or_false, not_true_eq_false, not_false_eq_true, if_true, if_false, Bool.false_eq_true, reduceCtorEq, i1, i2, i3, c_law_whole_v2, wb, Bool.false_eq_true, if_false]
  | true =>
    rw [h5] at wb
    cases h6 : wiB 0 99 c with
    | false =>
      rw [h6] at wc
      have e := no fun z => by
        obtain ⟨_, _, _, _, e, _, _, p, _⟩ := joB_of z
        injection e with e
        injection e with _ e
        injection e with _ e
        injection e with e _
        rw [← e, h6] at p
        cases p
      rw [e]
      simp only [envDu, B_law_due_v14_2, Fn.evT, List.getElem?_cons_zero, List.getElem?_cons_succ, List.set_cons_zero, List.set_cons_succ, List.length_cons, List.length_nil, Nat.reduceAdd, Nat.reduceLT, Bool.not_true, Bool.not_false, Nat.reduceLeDiff, Int.cast_ofNat_Int, Int.natCast_zero, Int.natCast_one, Int.reduceEq, eq_self, Int.reduceLE, Int.reduceLT, Int.reduceNeg, Int.reduceToNat, Int.toNat_natCast, Int.reduceAdd, Int.reduceSub, Int.reduceMul, Nat.reduceMul, Nat.reduceSub, decide_true, decide_false, Bool.true_and, Bool.false_and, Bool.and_true, Bool.true_or, Bool.false_or, Bool.or_false, not_true_eq_false, not_false_eq_true, if_true, if_false, Bool.false_eq_true, reduceCtorEq, i1, i2, i3, c_law_whole_v2, wb, wc, Bool.false_eq_true, if_false]
    | true =>
      rw [h6] at wc
      cases h4 : w.isT with
      | false =>
        rw [h4] at tw
        have e := no fun z => by
          obtain ⟨_, _, _, _, e, _⟩ := joB_of z
          injection e with e
          injection e with _ e
          injection e with _ e
          injection e with _ e
          injection e with e _
          rw [e] at h4
          cases h4
        rw [e]
        simp only [envDu, B_law_due_v14_2, Fn.evT, List.getElem?_cons_zero, List.getElem?_cons_succ, List.set_cons_zero, List.set_cons_succ, List.length_cons, List.length_nil, Nat.reduceAdd, Nat.reduceLT, Bool.not_true, Bool.not_false, Nat.reduceLeDiff, Int.cast_ofNat_Int, Int.natCast_zero, Int.natCast_one, Int.reduceEq, eq_self, Int.reduceLE, Int.reduceLT, Int.reduceNeg, Int.reduceToNat, Int.toNat_natCast, Int.reduceAdd, Int.reduceSub, Int.reduceMul, Nat.reduceMul, Nat.reduceSub, decide_true, decide_false, Bool.true_and, Bool.false_and, Bool.and_true, Bool.true_or, Bool.false_or, Bool.or_false, not_true_eq_false, not_false_eq_true, if_true, if_false, Bool.false_eq_true, reduceCtorEq, i1, i2, i3, c_law_whole_v2, wb, wc, tw, Bool.false_eq_true, if_false]
      | true =>
        obtain ⟨ws, rfl⟩ := isT_tup fw h4
        obtain ⟨hwl, hwf⟩ := fit_tup fw
        rw [h4] at tw
        have e : joB xs (.tup [a, b, c, .tup ws]) = (ws.all (nmIn xs) && risB ws) := by
          show (isNmD a && ((wiB 0 99 b && wiB 0 99 c) && (ws.all (nmIn xs) && risB ws))) = _
          rw [na, h5, h6, Bool.true_and, Bool.true_and, Bool.true_and]
        have co : compD (.one 12) yesF (andV (ownF E_law_name (consA (varB 12) nilA)) (bin2 (inB false) (varB 12) (varB 4))) (envDu d0 t js ls xs (some (.dat (.int s))) (some (.dat (.tup [a, b, c, .tup ws])))) ws = .ok (.own (.l (ws.map fun d => D.bl (nmIn xs d)))) := compD_D (h := fun d => D.bl (nmIn xs d)) (le_sz hwl) (by
          intro d hd
          have fd := hwf d hd
          have nd := law_name_specD d fd
          unfold nmIn
          cases h7 : isNmD d with
          | false =>
            rw [h7] at nd
            simp only [envDu, Fn.evT, List.getElem?_cons_zero, List.getElem?_cons_succ, List.set_cons_zero, List.set_cons_succ, List.length_cons, List.length_nil, Nat.reduceAdd, Nat.reduceLT, Bool.not_true, Bool.not_false, Nat.reduceLeDiff, Int.cast_ofNat_Int, Int.natCast_zero, Int.natCast_one, Int.reduceEq, eq_self, Int.reduceLE, Int.reduceLT, Int.reduceNeg, Int.reduceToNat, Int.toNat_natCast, Int.reduceAdd, Int.reduceSub, Int.reduceMul, Nat.reduceMul, Nat.reduceSub, decide_true, decide_false, Bool.true_and, Bool.false_and, Bool.and_true, Bool.true_or, Bool.false_or, Bool.or_false, not_true_eq_false, not_false_eq_true, if_true, if_false, Bool.false_eq_true, reduceCtorEq, Fn.evS, Option.toList, List.nil_append, List.cons_append, c_law_name, nd, Bool.false_and]
          | true =>
            rw [h7] at nd
            obtain ⟨x, rfl, _⟩ := isNmD_str h7
            have q : inB false (.dat (.str x)) (.dat (.lst (txs xs))) = .ok (.dat (.bl (decide (x ∈ xs)))) := in_strs (fit_str fd).1 ly
            simp only [envDu, Fn.evT, List.getElem?_cons_zero, List.getElem?_cons_succ, List.set_cons_zero, List.set_cons_succ, List.length_cons, List.length_nil, Nat.reduceAdd, Nat.reduceLT, Bool.not_true, Bool.not_false, Nat.reduceLeDiff, Int.cast_ofNat_Int, Int.natCast_zero, Int.natCast_one, Int.reduceEq, eq_self, Int.reduceLE, Int.reduceLT, Int.reduceNeg, Int.reduceToNat, Int.toNat_natCast, Int.reduceAdd, Int.reduceSub, Int.reduceMul, Nat.reduceMul, Nat.reduceSub, decide_true, decide_false, Bool.true_and, Bool.false_and, Bool.and_true, Bool.true_or, Bool.false_or, Bool.or_false, not_true_eq_false, not_false_eq_true, if_true, if_false, Bool.false_eq_true, reduceCtorEq, Fn.evS, Option.toList, List.nil_append, List.cons_append, c_law_name, nd, q, Bool.true_and, inD])
        rw [e]
        cases h8 : ws.all (nmIn xs) with
        | false =>
          rw [Bool.false_and]
          simp only [envDu, B_law_due_v14_2, Fn.evT, List.getElem?_cons_zero, List.getElem?_cons_succ, List.set_cons_zero, List.set_cons_succ, List.length_cons, List.length_nil, Nat.reduceAdd, Nat.reduceLT, Bool.not_true, Bool.not_false, Nat.reduceLeDiff, Int.cast_ofNat_Int, Int.natCast_zero, Int.natCast_one, Int.reduceEq, eq_self, Int.reduceLE, Int.reduceLT, Int.reduceNeg, Int.reduceToNat, Int.toNat_natCast, Int.reduceAdd, Int.reduceSub, Int.reduceMul, Nat.reduceMul, Nat.reduceSub, decide_true, decide_false, Bool.true_and, Bool.false_and, Bool.and_true, Bool.true_or, Bool.false_or, Bool.or_false, not_true_eq_false, not_false_eq_true, if_true, if_false, Bool.false_eq_true, reduceCtorEq, i1, i2, i3, c_law_whole_v2, wb, wc, tw, co, all_map, h8, Bool.false_eq_true, if_false]
        | true =>
          rw [Bool.true_and]
          have an : ws.all isNmD = true := by
            rw [List.all_eq_true] at h8 ⊢
            intro d hd
            have := h8 d hd
            unfold nmIn at this
            rw [Bool.and_eq_true] at this
            exact this.1
          obtain ⟨zs, ez, lz⟩ := fit_lays hwf an
          have ld : Lays (ddK zs) := fun x hx => lz x (mem_dd.mp hx)
          obtain ⟨us, eu, pu⟩ := txs_sort (ddK zs)
          have lu : Lays us := fun x hx => ld x (pu.mem_iff.mp hx)
          have hz : zs.length ≤ 1000 := by rw [ez, List.length_map] at hwl; exact hwl
          have ss : ssetB (.dat (.tup (txs zs))) = .ok (.own (.l (txs us))) := by
            rw [sset_strs (xs := zs) rfl hz (sortOk_txs ld), eu]
          have lg : lstG [.dat (.tup (txs zs))] = .ok (.own (.l (txs zs))) := (rfl)
          have ne := ne_strs lz lu
          have iff := set_sorted eu
          have er : risB ws = decide (zs = us) := by
            rw [ez, risB_txs]
            cases z : risL zs with
            | true => exact (decide_eq_true (iff.mpr z)).symm
            | false => exact (decide_eq_false fun q => by rw [iff.mp q] at z; cases z).symm
          rw [er]
          have ll : lenB [.dat (.tup (txs zs))] = .ok (.dat (.int (zs.length : Nat))) := by rw [len_tup, List.length_map]
          have wn : wnN (.tup [a, b, c, .tup ws]) = zs.length := by
            show ws.length = _
            rw [ez, List.length_map]
          rw [wn]
          rw [ez] at co h8 tw i1 i2 i3 ⊢
          cases h9 : decide (zs = us) with
          | false =>
            rw [h9] at ne
            simp only [envDu, B_law_due_v14_2, Fn.evT, List.getElem?_cons_zero, List.getElem?_cons_succ, List.set_cons_zero, List.set_cons_succ, List.length_cons, List.length_nil, Nat.reduceAdd, Nat.reduceLT, Bool.not_true, Bool.not_false, Nat.reduceLeDiff, Int.cast_ofNat_Int, Int.natCast_zero, Int.natCast_one, Int.reduceEq, eq_self, Int.reduceLE, Int.reduceLT, Int.reduceNeg, Int.reduceToNat, Int.toNat_natCast, Int.reduceAdd, Int.reduceSub, Int.reduceMul, Nat.reduceMul, Nat.reduceSub, decide_true, decide_false, Bool.true_and, Bool.false_and, Bool.and_true, Bool.true_or, Bool.false_or, Bool.or_false, not_true_eq_false, not_false_eq_true, if_true, if_false, Bool.false_eq_true, reduceCtorEq, i1, i2, i3, c_law_whole_v2, wb, wc, tw, co, all_map, h8, lg, ss, ne, Bool.false_eq_true, if_false, Bool.not_false]
          | true =>
            rw [h9] at ne
            simp only [envDu, B_law_due_v14_2, Fn.evT, List.getElem?_cons_zero, List.getElem?_cons_succ, List.set_cons_zero, List.set_cons_succ, List.length_cons, List.length_nil, Nat.reduceAdd, Nat.reduceLT, Bool.not_true, Bool.not_false, Nat.reduceLeDiff, Int.cast_ofNat_Int, Int.natCast_zero, Int.natCast_one, Int.reduceEq, eq_self, Int.reduceLE, Int.reduceLT, Int.reduceNeg, Int.reduceToNat, Int.toNat_natCast, Int.reduceAdd, Int.reduceSub, Int.reduceMul, Nat.reduceMul, Nat.reduceSub, decide_true, decide_false, Bool.true_and, Bool.false_and, Bool.and_true, Bool.true_or, Bool.false_or, Bool.or_false, not_true_eq_false, not_false_eq_true, if_true, if_false, Bool.false_eq_true, reduceCtorEq, i1, i2, i3, c_law_whole_v2, wb, wc, tw, co, all_map, h8, lg, ss, ne, if_true, Bool.not_true, ll]
end P
namespace P
open PySem PySem.Spec PyProof.Rows L2 Fn
theorem due_tools {n : Nat} {t : Int} (t1 : 1 ≤ t) (t9 : t ≤ 9) {d0 : D} {js ls : List D} {xs : List Str} {l : List D} (f : ∀ d ∈ l, fit n d = true) (ro : ∀ d ∈ l, roB 3 d = true) : loopF (.many [5, 6, 7]) B_law_due_v14_1 l (envDu d0 t js ls xs none none) = if (l.any fun d => !toB t d) = true then .rt (.dat (.bl false)) else .nx (envDu d0 t js ls xs none none) :=
  loop_anyD (fun d => !toB t d) fun d hd => by
    obtain ⟨ρ1, e1, e2⟩ := due_tool (js := js) (ls := ls) (xs := xs) (d0 := d0) t1 t9 (f d hd) (ro d hd)
    exact ⟨ρ1, e1, .inl e2⟩
theorem due_jobs {n : Nat} {t : Int} {d0 : D} {js ls : List D} {xs : List Str} (ly : Lays xs) : ∀ {l : List D} (s : Int) (r9 : Option Fn.B), (∀ d ∈ l, fit n d = true) → (∀ d ∈ l, roB 4 d = true) → ∃ r9' : Option Fn.B, loopF (.one 9) B_law_due_v14_2 l (envDu d0 t js ls xs (some (.dat (.int s))) r9) = if l.all (joB xs) = true then .nx (envDu d0 t js ls xs (some (.dat (.int (s + ((l.map wnN).sum : Nat))))) r9') else .rt (.dat (.bl false))
  | [], s, r9, _, _ => ⟨r9, by
    rw [loop_nil, List.all_nil, if_pos rfl, List.map_nil, List.sum_nil]
    rw [show s + ((0 : Nat) : Int) = s by omega]⟩
  | d :: l, s, r9, f, ro => by
    have e := due_job (d0 := d0) (t := t) (js := js) (ls := ls) ly (f d List.mem_cons_self) (ro d List.mem_cons_self) s
    obtain ⟨r9', ih⟩ := due_jobs (d0 := d0) (t := t) (js := js) (ls := ls) ly (l := l) (s + (wnN d : Nat)) (some (.dat d)) (fun x hx => f x (List.mem_cons_of_mem _ hx)) (fun x hx => ro x (List.mem_cons_of_mem _ hx))
    refine ⟨r9', ?_⟩
    have b : bindT (.one 9) d (envDu d0 t js ls xs (some (.dat (.int s))) r9) = some (envDu d0 t js ls xs (some (.dat (.int s))) (some (.dat d))) := bt_one
    rw [loop_one b, e, List.all_cons]
    cases c : joB xs d with
    | false => rw [if_neg (by decide), lk_rt, Bool.false_and, if_neg (by decide)]
    | true =>
      rw [if_pos rfl, lk_nx, ih, Bool.true_and, List.map_cons, List.sum_cons, show s + (wnN d : Int) + ((l.map wnN).sum : Int) = s + ((wnN d + (l.map wnN).sum : Nat) : Int) by omega]
theorem due_specD {n : Nat} (d : D) (f : fit n d = true) (sm : ∀ t js ls, d = .tup [t, .tup js, .tup ls] → js.length + ls.length ≤ 1000) : E_law_due_v14.F [.dat d] = .ok (.dat (.bl (hsB d))) := by
  rw [d_law_due_v14 (by rfl)]
  have no : (hsB d = true → False) → hsB d = false := fun h => by
    cases z : hsB d with
    | false => rfl
    | true => exact (h z).elim
  by_cases hs : d.isT = true
  · obtain ⟨ds, rfl⟩ := isT_tup f hs
    obtain ⟨hl, hf⟩ := fit_tup f
    have tt := isi_tup (fit_noF f)
    rw [hs] at tt
    by_cases h3 : (ds.length : Int) = 3
    · obtain ⟨a, b, c, rfl⟩ := lst3 h3
      have fa := hf a (by simp)
      have fb := hf b (by simp)
      have fc := hf c (by simp)
      have i0 : idxB (.dat (.tup [a, b, c])) (.dat (.int 0)) = .ok (.dat a) := idx_tup rfl
      have l3 : lenB [.dat (.tup [a, b, c])] = .ok (.dat (.int 3)) := (rfl)
      have wa := law_whole_spec a (fit_noF fa) 1 9
      have bt : ∀ ρ : Fn.Env, bindT (.many [1, 2, 3]) (.tup [a, b, c]) ρ = some (putMany [1, 2, 3] [a, b, c] ρ) := fun ρ => bt_tup rfl
      cases h1 : wiB 1 9 a with
      | false =>
        rw [h1] at wa
        have e := no fun z => by
          obtain ⟨t, js, ls, e⟩ := hsB_of z
          rw [e] at z
          injection e with e
          injection e with e _
          rw [e] at h1
          unfold hsB at z
          rw [Bool.and_eq_true] at z
          have h1 : (decide (1 ≤ t) && decide (t ≤ 9)) = false := h1
          rw [z.1] at h1
          cases h1
        simp only [B_law_due_v14, Fn.evT, List.getElem?_cons_zero, List.getElem?_cons_succ, List.set_cons_zero, List.set_cons_succ, List.length_cons, List.length_nil, Nat.reduceAdd, Nat.reduceLT, Bool.not_true, Bool.not_false, Nat.reduceLeDiff, Int.cast_ofNat_Int, Int.natCast_zero, Int.natCast_one, Int.reduceEq, eq_self, Int.reduceLE, Int.reduceLT, Int.reduceNeg, Int.reduceToNat, Int.toNat_natCast, Int.reduceAdd, Int.reduceSub, Int.reduceMul, Nat.reduceMul, Nat.reduceSub, decide_true, decide_false, Bool.true_and, Bool.false_and, Bool.and_true, Bool.true_or, Bool.false_or, Bool.or_false, not_true_eq_false, not_false_eq_true, if_true, if_false, Bool.false_eq_true, reduceCtorEq, tt, l3, i0, c_law_whole_v2, wa, e]
      | true =>
        rw [h1] at wa
        obtain ⟨t, rfl, t1, t9⟩ := wiB_int h1
        have tb := isi_tup (fit_noF fb)
        have tc := isi_tup (fit_noF fc)
        cases h2 : b.isT with
        | false =>
          rw [h2] at tb
          have e := no fun z => by
            obtain ⟨_, _, _, e⟩ := hsB_of z
            injection e with e
            injection e with _ e
            injection e with e _
            rw [e] at h2
            cases h2
          simp only [B_law_due_v14, Fn.evT, List.getElem?_cons_zero, List.getElem?_cons_succ, List.set_cons_zero, List.set_cons_succ, List.length_cons, List.length_nil, Nat.reduceAdd, Nat.reduceLT, Bool.not_true, Bool.not_false, Nat.reduceLeDiff, Int.cast_ofNat_Int, Int.natCast_zero, Int.natCast_one, Int.reduceEq, eq_self, Int.reduceLE, Int.reduceLT, Int.reduceNeg, Int.reduceToNat, Int.toNat_natCast, Int.reduceAdd, Int.reduceSub, Int.reduceMul, Nat.reduceMul, Nat.reduceSub, decide_true, decide_false, Bool.true_and, Bool.false_and, Bool.and_true, Bool.true_or, Bool.false_or, Bool.or_false, not_true_eq_false, not_false_eq_true, if_true, if_false, Bool.false_eq_true, reduceCtorEq, tt, l3, i0, c_law_whole_v2, wa, bt, tb, e]
        | true =>
          rw [h2] at tb
          obtain ⟨js, rfl⟩ := isT_tup fb h2
          obtain ⟨hjl, hjf⟩ := fit_tup fb
          cases h4 : c.isT with
          | false =>
            rw [h4] at tc
            have e := no fun z => by
              obtain ⟨_, _, _, e⟩ := hsB_of z
              injection e with e
              injection e with _ e
              injection e with _ e
              injection e with e _
              rw [e] at h4
              cases h4
            simp only [B_law_due_v14, Fn.evT, List.getElem?_cons_zero, List.getElem?_cons_succ, List.set_cons_zero, List.set_cons_succ, List.length_cons, List.length_nil, Nat.reduceAdd, Nat.reduceLT, Bool.not_true, Bool.not_false, Nat.reduceLeDiff, Int.cast_ofNat_Int, Int.natCast_zero, Int.natCast_one, Int.reduceEq, eq_self, Int.reduceLE, Int.reduceLT, Int.reduceNeg, Int.reduceToNat, Int.toNat_natCast, Int.reduceAdd, Int.reduceSub, Int.reduceMul, Nat.reduceMul, Nat.reduceSub, decide_true, decide_false, Bool.true_and, Bool.false_and, Bool.and_true, Bool.true_or, Bool.false_or, Bool.or_false, not_true_eq_false, not_false_eq_true, if_true, if_false, Bool.false_eq_true, reduceCtorEq, tt, l3, i0, c_law_whole_v2, wa, bt, tb, tc, e]
          | true =>
            rw [h4] at tc
            obtain ⟨ls, rfl⟩ := isT_tup fc h4
            obtain ⟨hll, hlf⟩ := fit_tup fc
            have e0 : hsB (.tup [.int t, .tup js, .tup ls]) = ((decide (1 ≤ js.length + ls.length) && decide (js.length + ls.length ≤ 8)) && ((ls.all (toB t) && risB (ls.map hdD)) && ((js.all (joB ((ls.map hdD).map unS)) && risB (js.map hdD)) && (!(js.any fun j => inD ((ls.map hdD).map unS) (hdD j)) && decide ((js.map wnN).sum ≤ 16))))) := by
              show ((decide (1 ≤ t) && decide (t ≤ 9)) && _) = _
              rw [decide_eq_true t1, decide_eq_true t9]
              rfl
            clear no
            rw [e0]
            have sm := sm _ _ _ rfl
            have c1 : compD (.one 9) yesF (ownF E_law_row_v1 (consA (varB 9) (consA (litI 4) nilA))) [some (.dat (.tup [.int t, .tup js, .tup ls])), some (.dat (.int t)), some (.dat (.tup js)), some (.dat (.tup ls)), none, none, none, none, none, none, none, none, none] js = .ok (.own (.l (js.map fun d => D.bl (roB 4 d)))) := compD_D (h := fun d => D.bl (roB 4 d)) (le_sz (by omega)) (by
              intro d hd
              have e := law_row_spec d (hjf d hd) (k := 4) (by decide)
              simp only [Fn.evT, List.getElem?_cons_zero, List.getElem?_cons_succ, List.set_cons_zero, List.set_cons_succ, List.length_cons, List.length_nil, Nat.reduceAdd, Nat.reduceLT, Bool.not_true, Bool.not_false, Nat.reduceLeDiff, Int.cast_ofNat_Int, Int.natCast_zero, Int.natCast_one, Int.reduceEq, eq_self, Int.reduceLE, Int.reduceLT, Int.reduceNeg, Int.reduceToNat, Int.toNat_natCast, Int.reduceAdd, Int.reduceSub, Int.reduceMul, Nat.reduceMul, Nat.reduceSub, decide_true, decide_false, Bool.true_and, Bool.false_and, Bool.and_true, Bool.true_or, Bool.false_or, Bool.or_false, not_true_eq_false, not_false_eq_true, if_true, if_false, Bool.false_eq_true, reduceCtorEq, Fn.evS, Option.toList, List.nil_append, List.cons_append, c_law_row_v1, e])
            have c2 : compD (.one 11) yesF (ownF E_law_row_v1 (consA (varB 11) (consA (litI 3) nilA))) [some (.dat (.tup [.int t, .tup js, .tup ls])), some (.dat (.int t)), some (.dat (.tup js)), some (.dat (.tup ls)), none, none, none, none, none, none, none, none, none] ls = .ok (.own (.l (ls.map fun d => D.bl (roB 3 d)))) := compD_D (h := fun d => D.bl (roB 3 d)) (le_sz (by omega)) (by
              intro d hd
              have e := law_row_spec d (hlf d hd) (k := 3) (by decide)
              simp only [Fn.evT, List.getElem?_cons_zero, List.getElem?_cons_succ, List.set_cons_zero, List.set_cons_succ, List.length_cons, List.length_nil, Nat.reduceAdd, Nat.reduceLT, Bool.not_true, Bool.not_false, Nat.reduceLeDiff, Int.cast_ofNat_Int, Int.natCast_zero, Int.natCast_one, Int.reduceEq, eq_self, Int.reduceLE, Int.reduceLT, Int.reduceNeg, Int.reduceToNat, Int.toNat_natCast, Int.reduceAdd, Int.reduceSub, Int.reduceMul, Nat.reduceMul, Nat.reduceSub, decide_true, decide_false, Bool.true_and, Bool.false_and, Bool.and_true, Bool.true_or, Bool.false_or, Bool.or_false, not_true_eq_false, not_false_eq_true, if_true, if_false, Bool.false_eq_true, reduceCtorEq, Fn.evS, Option.toList, List.nil_append, List.cons_append, c_law_row_v1, e])
            cases h5 : js.all (roB 4) with
            | false =>
              have e : js.all (joB ((ls.map hdD).map unS)) = false := by
                cases z : js.all (joB ((ls.map hdD).map unS)) with
                | false => rfl
                | true =>
                  have : js.all (roB 4) = true := List.all_eq_true.mpr fun d hd => joB_ro (List.all_eq_true.mp z d hd)
                  rw [h5] at this
                  cases this
              rw [e]
              simp only [B_law_due_v14, Fn.evT, List.getElem?_cons_zero, List.getElem?_cons_succ, List.set_cons_zero, List.set_cons_succ, List.length_cons, List.length_nil, Nat.reduceAdd, Nat.reduceLT, Bool.not_true, Bool.not_false, Nat.reduceLeDiff, Int.cast_ofNat_Int, Int.natCast_zero, Int.natCast_one, Int.reduceEq, eq_self, Int.reduceLE, Int.reduceLT, Int.reduceNeg, Int.reduceToNat, Int.toNat_natCast, Int.reduceAdd, Int.reduceSub, Int.reduceMul, Nat.reduceMul, Nat.reduceSub, decide_true, decide_false, Bool.true_and, Bool.false_and, Bool.and_true, Bool.true_or, Bool.false_or, Bool.or_false, not_true_eq_false, not_false_eq_true, if_true, if_false, Bool.false_eq_true, reduceCtorEq, tt, l3, i0, c_law_whole_v2, wa, bt, tb, tc, c1, all_map, h5, Bool.false_and, Bool.and_false]
            | true =>
              cases h6 : ls.all (roB 3) with
              | false =>
                have e : ls.all (toB t) = false := by
                  cases z : ls.all (toB t) with
                  | false => rfl
                  | true =>
                    have : ls.all (roB 3) = true := List.all_eq_true.mpr fun d hd => toB_ro (List.all_eq_true.mp z d hd)
                    rw [h6] at this
                    cases this
                rw [e]
                simp only [B_law_due_v14, Fn.evT, List.getElem?_cons_zero, List.getElem?_cons_succ, List.set_cons_zero, List.set_cons_succ, List.length_cons, List.length_nil, Nat.reduceAdd, Nat.reduceLT, Bool.not_true, Bool.not_false, Nat.reduceLeDiff, Int.cast_ofNat_Int, Int.natCast_zero, Int.natCast_one, Int.reduceEq, eq_self, Int.reduceLE, Int.reduceLT, Int.reduceNeg, Int.reduceToNat, Int.toNat_natCast, Int.reduceAdd, Int.reduceSub, Int.reduceMul, Nat.reduceMul, Nat.reduceSub, decide_true, decide_false, Bool.true_and, Bool.false_and, Bool.and_true, Bool.true_or, Bool.false_or, Bool.or_false, not_true_eq_false, not_false_eq_true, if_true, if_false, Bool.false_eq_true, reduceCtorEq, tt, l3, i0, c_law_whole_v2, wa, bt, tb, tc, c1, c2, all_map, h5, h6, Bool.false_and, Bool.and_false]
              | true =>
                have h5' := List.all_eq_true.mp h5
                have h6' := List.all_eq_true.mp h6
                obtain ⟨xs, ex, ly, ax⟩ := heads hlf fun d hd => (ro_hd (h6' d hd) (by decide)).1
                obtain ⟨ys, ey, ly2, ay⟩ := heads hjf fun d hd => (ro_hd (h5' d hd) (by decide)).1
                have xl : xs.length = ls.length := by have := congrArg List.length ex; rw [List.length_map, List.length_map] at this; exact this.symm
                have yl : ys.length = js.length := by have := congrArg List.length ey; rw [List.length_map, List.length_map] at this; exact this.symm
                have c3 : ∀ r4 : Option Fn.B, compD (.one 11) yesF (bin2 idxB (varB 11) (litI 0)) [some (.dat (.tup [.int t, .tup js, .tup ls])), some (.dat (.int t)), some (.dat (.tup js)), some (.dat (.tup ls)), r4, none, none, none, none, none, none, none, none] ls = .ok (.own (.l (ls.map hdD))) := fun r4 => compD_D (h := hdD) (le_sz (by omega)) (by
                  intro d hd
                  have e := (ro_hd (h6' d hd) (by decide)).2
                  simp only [Fn.evT, List.getElem?_cons_zero, List.getElem?_cons_succ, List.set_cons_zero, List.set_cons_succ, List.length_cons, List.length_nil, Nat.reduceAdd, Nat.reduceLT, Bool.not_true, Bool.not_false, Nat.reduceLeDiff, Int.cast_ofNat_Int, Int.natCast_zero, Int.natCast_one, Int.reduceEq, eq_self, Int.reduceLE, Int.reduceLT, Int.reduceNeg, Int.reduceToNat, Int.toNat_natCast, Int.reduceAdd, Int.reduceSub, Int.reduceMul, Nat.reduceMul, Nat.reduceSub, decide_true, decide_false, Bool.true_and, Bool.false_and, Bool.and_true, Bool.true_or, Bool.false_or, Bool.or_false, not_true_eq_false, not_false_eq_true, if_true, if_false, Bool.false_eq_true, reduceCtorEq, Fn.evS, Option.toList, List.nil_append, List.cons_append, e])
                rw [ex] at c3
                have lt := due_tools (d0 := .tup [.int t, .tup js, .tup ls]) (js := js) (ls := ls) (xs := xs) t1 t9 hlf h6'
                rw [ex, ey, unS_txs, risB_txs, risB_txs]
                cases h7 : ls.all (toB t) with
                | false =>
                  have e : (ls.any fun d => !toB t d) = true := by
                    cases z : ls.any fun d => !toB t d with
                    | true => rfl
                    | false =>
                      have : ls.all (toB t) = true := List.all_eq_true.mpr fun d hd => by
                        have := List.any_eq_false.mp z d hd
                        simpa using this
                      rw [h7] at this
                      cases this
                  rw [e, if_pos rfl] at lt
                  simp only [envDu] at lt
                  simp only [B_law_due_v14, Fn.evT, List.getElem?_cons_zero, List.getElem?_cons_succ, List.set_cons_zero, List.set_cons_succ, List.length_cons, List.length_nil, Nat.reduceAdd, Nat.reduceLT, Bool.not_true, Bool.not_false, Nat.reduceLeDiff, Int.cast_ofNat_Int, Int.natCast_zero, Int.natCast_one, Int.reduceEq, eq_self, Int.reduceLE, Int.reduceLT, Int.reduceNeg, Int.reduceToNat, Int.toNat_natCast, Int.reduceAdd, Int.reduceSub, Int.reduceMul, Nat.reduceMul, Nat.reduceSub, decide_true, decide_false, Bool.true_and, Bool.false_and, Bool.and_true, Bool.true_or, Bool.false_or, Bool.or_false, not_true_eq_false, not_false_eq_true, if_true, if_false, Bool.false_eq_true, reduceCtorEq, tt, l3, i0, c_law_whole_v2, wa, bt, tb, tc, c1, c2, all_map, h5, h6, c3, lt, Bool.false_and, Bool.and_false]
                | true =>
                  have e : (ls.any fun d => !toB t d) = false := List.any_eq_false.mpr fun d hd => by
                    have := List.all_eq_true.mp h7 d hd
                    rw [this]
                    decide
                  rw [e, if_neg (by decide)] at lt
                  obtain ⟨r9, lj⟩ := due_jobs (d0 := .tup [.int t, .tup js, .tup ls]) (t := t) (js := js) (ls := ls) ly 0 none hjf h5'
                  cases h8 : js.all (joB xs) with
                  | false =>
                    rw [h8, if_neg (by decide)] at lj
                    simp only [envDu] at lt lj
                    simp only [B_law_due_v14, Fn.evT, List.getElem?_cons_zero, List.getElem?_cons_succ, List.set_cons_zero, List.set_cons_succ, List.length_cons, List.length_nil, Nat.reduceAdd, Nat.reduceLT, Bool.not_true, Bool.not_false, Nat.reduceLeDiff, Int.cast_ofNat_Int, Int.natCast_zero, Int.natCast_one, Int.reduceEq, eq_self, Int.reduceLE, Int.reduceLT, Int.reduceNeg, Int.reduceToNat, Int.toNat_natCast, Int.reduceAdd, Int.reduceSub, Int.reduceMul, Nat.reduceMul, Nat.reduceSub, decide_true, decide_false, Bool.true_and, Bool.false_and, Bool.and_true, Bool.true_or, Bool.false_or, Bool.or_false, not_true_eq_false, not_false_eq_true, if_true, if_false, Bool.false_eq_true, reduceCtorEq, tt, l3, i0, c_law_whole_v2, wa, bt, tb, tc, c1, c2, all_map, h5, h6, c3, lt, lj, Bool.false_and, Bool.and_false]
                  | true =>
                    rw [h8, if_pos rfl, show (0 : Int) + ((js.map wnN).sum : Nat) = ((js.map wnN).sum : Nat) by omega] at lj
                    simp only [envDu] at lt lj
                    have c4 : ∀ r8 r9 : Option Fn.B, compD (.one 9) yesF (bin2 idxB (varB 9) (litI 0)) [some (.dat (.tup [.int t, .tup js, .tup ls])), some (.dat (.int t)), some (.dat (.tup js)), some (.dat (.tup ls)), some (.dat (.lst (txs xs))), none, none, none, r8, r9, none, none, none] js = .ok (.own (.l (txs ys))) := fun r8 r9 => by
                      rw [← ey]
                      exact compD_D (h := hdD) (le_sz (by omega)) (by
                        intro d hd
                        have e := (ro_hd (h5' d hd) (by decide)).2
                        simp only [Fn.evT, List.getElem?_cons_zero, List.getElem?_cons_succ, List.set_cons_zero, List.set_cons_succ, List.length_cons, List.length_nil, Nat.reduceAdd, Nat.reduceLT, Bool.not_true, Bool.not_false, Nat.reduceLeDiff, Int.cast_ofNat_Int, Int.natCast_zero, Int.natCast_one, Int.reduceEq, eq_self, Int.reduceLE, Int.reduceLT, Int.reduceNeg, Int.reduceToNat, Int.toNat_natCast, Int.reduceAdd, Int.reduceSub, Int.reduceMul, Nat.reduceMul, Nat.reduceSub, decide_true, decide_false, Bool.true_and, Bool.false_and, Bool.and_true, Bool.true_or, Bool.false_or, Bool.or_false, not_true_eq_false, not_false_eq_true, if_true, if_false, Bool.false_eq_true, reduceCtorEq, Fn.evS, Option.toList, List.nil_append, List.cons_append, e])
                    obtain ⟨ys', sy, py⟩ := txs_sort ys
                    obtain ⟨xs', sx, px⟩ := txs_sort xs
                    have gy := sort_txs ly2 sy
                    have gx := sort_txs ly sx
                    have ny := ne_strs ly2 (ys := ys') fun x hx => ly2 x (py.mem_iff.mp hx)
                    have nx := ne_strs ly (ys := xs') fun x hx => ly x (px.mem_iff.mp hx)
                    have ca := cat_l (ds := txs ys) (es := txs xs) (by rw [List.length_map, List.length_map]; omega)
                    rw [show txs ys ++ txs xs = txs (ys ++ xs) from (List.map_append ..).symm] at ca
                    have own := own_sorted sy sx
                    have an : (js.any fun j => inD xs (hdD j)) = ys.any fun y => decide (y ∈ xs) := by
                      have : (js.map hdD).any (inD xs) = (txs ys).any (inD xs) := by rw [ey]
                      rw [List.any_map, List.any_map] at this
                      exact this
                    rw [an]
                    have zz : (ys ++ xs).length = js.length + ls.length := by rw [List.length_append, xl, yl]
                    have s1 : lsetB (.dat (.lst (txs (ys ++ xs)))) = .ok (.dat (.int ((ddK (ys ++ xs)).length : Nat))) := lset_strs rfl (by omega)
                    have le : lenB [.dat (.lst (txs (ys ++ xs)))] = .ok (.dat (.int ((ys ++ xs).length : Nat))) := by
                      have : lenB [.dat (.lst (txs (ys ++ xs)))] = .ok (.dat (.int ((txs (ys ++ xs)).length : Nat))) := (rfl)
                      rw [this, List.length_map]
                    have ec : decide (((ddK (ys ++ xs)).length : Int) = ((ys ++ xs).length : Int)) = decide ((ddK (ys ++ xs)).length = (ys ++ xs).length) := decide_eq_decide.mpr (by omega)
                    have d1 : decide ((1 : Int) ≤ ((ys ++ xs).length : Int)) = decide (1 ≤ js.length + ls.length) := decide_eq_decide.mpr (by omega)
                    have d8 : decide (((ys ++ xs).length : Int) ≤ 8) = decide (js.length + ls.length ≤ 8) := decide_eq_decide.mpr (by omega)
                    have dw : decide (((js.map wnN).sum : Int) ≤ 16) = decide ((js.map wnN).sum ≤ 16) := decide_eq_decide.mpr (by omega)
                    have Q : (risL xs && (risL ys && !(ys.any fun y => decide (y ∈ xs)))) = (decide (ys = ys') && (decide (xs = xs') && decide ((ddK (ys ++ xs)).length = (ys ++ xs).length))) := by
                      rw [Bool.eq_iff_iff]
                      simp only [Bool.and_eq_true, decide_eq_true_eq]
                      rw [own]
                      refine and_congr_right fun _ => and_congr_right fun _ => ?_
                      rw [Bool.not_eq_true', List.any_eq_false]
                      exact ⟨fun h y hy => by have := h y hy; simpa using this, fun h y hy => by have := h y hy; simpa using this⟩
                    have goalQ : ((decide (1 ≤ js.length + ls.length) && decide (js.length + ls.length ≤ 8)) && ((true && risL xs) && ((true && risL ys) && (!(ys.any fun y => decide (y ∈ xs)) && decide ((js.map wnN).sum ≤ 16))))) = ((decide (ys = ys') && (decide (xs = xs') && decide ((ddK (ys ++ xs)).length = (ys ++ xs).length))) && ((decide (1 ≤ js.length + ls.length) && decide (js.length + ls.length ≤ 8)) && decide ((js.map wnN).sum ≤ 16))) := by
                      rw [← Q]
                      cases risL xs <;> cases risL ys <;> cases (ys.any fun y => decide (y ∈ xs)) <;> simp
                    rw [goalQ]
                    cases p1 : decide (ys = ys') with
                    | false =>
                      rw [p1] at ny
                      simp only [B_law_due_v14, Fn.evT, List.getElem?_cons_zero, List.getElem?_cons_succ, List.set_cons_zero, List.set_cons_succ, List.length_cons, List.length_nil, Nat.reduceAdd, Nat.reduceLT, Bool.not_true, Bool.not_false, Nat.reduceLeDiff, Int.cast_ofNat_Int, Int.natCast_zero, Int.natCast_one, Int.reduceEq, eq_self, Int.reduceLE, Int.reduceLT, Int.reduceNeg, Int.reduceToNat, Int.toNat_natCast, Int.reduceAdd, Int.reduceSub, Int.reduceMul, Nat.reduceMul, Nat.reduceSub, decide_true, decide_false, Bool.true_and, Bool.false_and, Bool.and_true, Bool.true_or, Bool.false_or, Bool.or_false, not_true_eq_false, not_false_eq_true, if_true, if_false, Bool.false_eq_true, reduceCtorEq, tt, l3, i0, c_law_whole_v2, wa, bt, tb, tc, c1, c2, all_map, h5, h6, c3, lt, lj, c4, gy, ny, Bool.not_false, Bool.false_and]
                    | true =>
                      rw [p1] at ny
                      cases p2 : decide (xs = xs') with
                      | false =>
                        rw [p2] at nx
                        simp only [B_law_due_v14, Fn.evT, List.getElem?_cons_zero, List.getElem?_cons_succ, List.set_cons_zero, List.set_cons_succ, List.length_cons, List.length_nil, Nat.reduceAdd, Nat.reduceLT, Bool.not_true, Bool.not_false, Nat.reduceLeDiff, Int.cast_ofNat_Int, Int.natCast_zero, Int.natCast_one, Int.reduceEq, eq_self, Int.reduceLE, Int.reduceLT, Int.reduceNeg, Int.reduceToNat, Int.toNat_natCast, Int.reduceAdd, Int.reduceSub, Int.reduceMul, Nat.reduceMul, Nat.reduceSub, decide_true, decide_false, Bool.true_and, Bool.false_and, Bool.and_true, Bool.true_or, Bool.false_or, Bool.or_false, not_true_eq_false, not_false_eq_true, if_true, if_false, Bool.false_eq_true, reduceCtorEq, tt, l3, i0, c_law_whole_v2, wa, bt, tb, tc, c1, c2, all_map, h5, h6, c3, lt, lj, c4, gy, ny, gx, nx, Bool.not_false, Bool.not_true, Bool.false_and, Bool.and_false]
                      | true =>
                        rw [p2] at nx
                        cases p3 : decide ((ddK (ys ++ xs)).length = (ys ++ xs).length) with
                        | false =>
                          rw [p3] at ec
                          simp only [B_law_due_v14, Fn.evT, List.getElem?_cons_zero, List.getElem?_cons_succ, List.set_cons_zero, List.set_cons_succ, List.length_cons, List.length_nil, Nat.reduceAdd, Nat.reduceLT, Bool.not_true, Bool.not_false, Nat.reduceLeDiff, Int.cast_ofNat_Int, Int.natCast_zero, Int.natCast_one, Int.reduceEq, eq_self, Int.reduceLE, Int.reduceLT, Int.reduceNeg, Int.reduceToNat, Int.toNat_natCast, Int.reduceAdd, Int.reduceSub, Int.reduceMul, Nat.reduceMul, Nat.reduceSub, decide_true, decide_false, Bool.true_and, Bool.false_and, Bool.and_true, Bool.true_or, Bool.false_or, Bool.or_false, not_true_eq_false, not_false_eq_true, if_true, if_false, Bool.false_eq_true, reduceCtorEq, tt, l3, i0, c_law_whole_v2, wa, bt, tb, tc, c1, c2, all_map, h5, h6, c3, lt, lj, c4, gy, ny, gx, nx, ca, s1, le, ec, Bool.not_false, Bool.not_true, Bool.false_and, Bool.and_false]
                        | true =>
                          rw [p3] at ec
                          rw [Bool.and_self, Bool.and_self, Bool.true_and]
                          cases q1 : decide (1 ≤ js.length + ls.length) with
                          | false =>
                            rw [q1] at d1
                            simp only [B_law_due_v14, Fn.evT, List.getElem?_cons_zero, List.getElem?_cons_succ, List.set_cons_zero, List.set_cons_succ, List.length_cons, List.length_nil, Nat.reduceAdd, Nat.reduceLT, Bool.not_true, Bool.not_false, Nat.reduceLeDiff, Int.cast_ofNat_Int, Int.natCast_zero, Int.natCast_one, Int.reduceEq, eq_self, Int.reduceLE, Int.reduceLT, Int.reduceNeg, Int.reduceToNat, Int.toNat_natCast, Int.reduceAdd, Int.reduceSub, Int.reduceMul, Nat.reduceMul, Nat.reduceSub, decide_true, decide_false, Bool.true_and, Bool.false_and, Bool.and_true, Bool.true_or, Bool.false_or, Bool.or_false, not_true_eq_false, not_false_eq_true, if_true, if_false, Bool.false_eq_true, reduceCtorEq, tt, l3, i0, c_law_whole_v2, wa, bt, tb, tc, c1, c2, all_map, h5, h6, c3, lt, lj, c4, gy, ny, gx, nx, ca, s1, le, ec, Bool.not_true, d1, Bool.false_and]
                          | true =>
                            rw [q1] at d1
                            cases q2 : decide (js.length + ls.length ≤ 8) with
                            | false =>
                              rw [q2] at d8
                              simp only [B_law_due_v14, Fn.evT, List.getElem?_cons_zero, List.getElem?_cons_succ, List.set_cons_zero, List.set_cons_succ, List.length_cons, List.length_nil, Nat.reduceAdd, Nat.reduceLT, Bool.not_true, Bool.not_false, Nat.reduceLeDiff, Int.cast_ofNat_Int, Int.natCast_zero, Int.natCast_one, Int.reduceEq, eq_self, Int.reduceLE, Int.reduceLT, Int.reduceNeg, Int.reduceToNat, Int.toNat_natCast, Int.reduceAdd, Int.reduceSub, Int.reduceMul, Nat.reduceMul, Nat.reduceSub, decide_true, decide_false, Bool.true_and, Bool.false_and, Bool.and_true, Bool.true_or, Bool.false_or, Bool.or_false, not_true_eq_false, not_false_eq_true, if_true, if_false, Bool.false_eq_true, reduceCtorEq, tt, l3, i0, c_law_whole_v2, wa, bt, tb, tc, c1, c2, all_map, h5, h6, c3, lt, lj, c4, gy, ny, gx, nx, ca, s1, le, ec, Bool.not_true, d1, d8, Bool.false_and, Bool.and_false]
                            | true =>
                              rw [q2] at d8
                              simp only [B_law_due_v14, Fn.evT, List.getElem?_cons_zero, List.getElem?_cons_succ, List.set_cons_zero, List.set_cons_succ, List.length_cons, List.length_nil, Nat.reduceAdd, Nat.reduceLT, Bool.not_true, Bool.not_false, Nat.reduceLeDiff, Int.cast_ofNat_Int, Int.natCast_zero, Int.natCast_one, Int.reduceEq, eq_self, Int.reduceLE, Int.reduceLT, Int.reduceNeg, Int.reduceToNat, Int.toNat_natCast, Int.reduceAdd, Int.reduceSub, Int.reduceMul, Nat.reduceMul, Nat.reduceSub, decide_true, decide_false, Bool.true_and, Bool.false_and, Bool.and_true, Bool.true_or, Bool.false_or, Bool.or_false, not_true_eq_false, not_false_eq_true, if_true, if_false, Bool.false_eq_true, reduceCtorEq, tt, l3, i0, c_law_whole_v2, wa, bt, tb, tc, c1, c2, all_map, h5, h6, c3, lt, lj, c4, gy, ny, gx, nx, ca, s1, le, ec, Bool.not_true, d1, d8, dw, Bool.and_self, Bool.true_and]
    · have e := no fun z => by
        obtain ⟨_, _, _, e⟩ := hsB_of z
        injection e with e
        rw [e] at h3
        exact absurd rfl h3
      have ll := len_tup (ds := ds)
      have d3 := decide_eq_false h3
      simp only [B_law_due_v14, Fn.evT, List.getElem?_cons_zero, List.getElem?_cons_succ, List.set_cons_zero, List.set_cons_succ, List.length_cons, List.length_nil, Nat.reduceAdd, Nat.reduceLT, Bool.not_true, Bool.not_false, Nat.reduceLeDiff, Int.cast_ofNat_Int, Int.natCast_zero, Int.natCast_one, Int.reduceEq, eq_self, Int.reduceLE, Int.reduceLT, Int.reduceNeg, Int.reduceToNat, Int.toNat_natCast, Int.reduceAdd, Int.reduceSub, Int.reduceMul, Nat.reduceMul, Nat.reduceSub, decide_true, decide_false, Bool.true_and, Bool.false_and, Bool.and_true, Bool.true_or, Bool.false_or, Bool.or_false, not_true_eq_false, not_false_eq_true, if_true, if_false, Bool.false_eq_true, reduceCtorEq, tt, ll, d3, e]
  · rw [Bool.not_eq_true] at hs
    have tt := isi_tup (fit_noF f)
    rw [hs] at tt
    have e := no fun z => by
      obtain ⟨_, _, _, e⟩ := hsB_of z
      rw [e] at hs
      cases hs
    simp only [B_law_due_v14, Fn.evT, List.getElem?_cons_zero, List.getElem?_cons_succ, List.set_cons_zero, List.set_cons_succ, List.length_cons, List.length_nil, Nat.reduceAdd, Nat.reduceLT, Bool.not_true, Bool.not_false, Nat.reduceLeDiff, Int.cast_ofNat_Int, Int.natCast_zero, Int.natCast_one, Int.reduceEq, eq_self, Int.reduceLE, Int.reduceLT, Int.reduceNeg, Int.reduceToNat, Int.toNat_natCast, Int.reduceAdd, Int.reduceSub, Int.reduceMul, Nat.reduceMul, Nat.reduceSub, decide_true, decide_false, Bool.true_and, Bool.false_and, Bool.and_true, Bool.true_or, Bool.false_or, Bool.or_false, not_true_eq_false, not_false_eq_true, if_true, if_false, Bool.false_eq_true, reduceCtorEq, tt, e]
end P
namespace P
open PySem PySem.Spec PyProof.Rows L2 Fn
theorem cut_mem {α : Type} {l : List α} {lo hi : Option Int} : ∀ d ∈ cutL l lo hi, d ∈ l := fun d hd => List.mem_of_mem_drop (List.mem_of_mem_take hd)
theorem put_spec56 (ds : List D) (hl : ds.length ≤ 900) (k : Int) (h0 : 0 ≤ k) (d : D) : E_law_put_v3.F [.dat (.tup ds), .dat (.int k), .dat d] = .ok (.dat (.tup (ds.take k.toNat ++ [d] ++ ds.drop (k + 1).toNat))) := by
  rw [d_law_put_v3 (by rfl)]
  have c1 := cut_tak (l := ds) h0
  have c2 := cut_drop (l := ds) (k := k + 1) (by omega)
  have l1 : (ds.take k.toNat).length ≤ 900 := by rw [List.length_take]; omega
  have l2 : (ds.drop (k + 1).toNat).length ≤ 900 := by rw [List.length_drop]; omega
  have l3 : ds.length ≥ (ds.take k.toNat).length + (ds.drop (k + 1).toNat).length := by rw [List.length_take, List.length_drop]; omega
  have a1 := cat_t (ds := ds.take k.toNat) (es := [d]) (by show _ + 1 ≤ 1000; omega)
  have a2 := cat_t (ds := ds.take k.toNat ++ [d]) (es := ds.drop (k + 1).toNat) (by rw [List.length_append]; show _ + 1 + _ ≤ 1000; omega)
  simp only [B_law_put_v3, Fn.evT, List.getElem?_cons_zero, List.getElem?_cons_succ, List.set_cons_zero, List.set_cons_succ, List.length_cons, List.length_nil, Nat.reduceAdd, Nat.reduceLT, Bool.not_true, Bool.not_false, Nat.reduceLeDiff, Int.cast_ofNat_Int, Int.natCast_zero, Int.natCast_one, Int.reduceEq, eq_self, Int.reduceLE, Int.reduceLT, Int.reduceNeg, Int.reduceToNat, Int.toNat_natCast, Int.reduceAdd, Int.reduceSub, Int.reduceMul, Nat.reduceMul, Nat.reduceSub, decide_true, decide_false, Bool.true_and, Bool.false_and, Bool.and_true, Bool.true_or, Bool.false_or, Bool.or_false, not_true_eq_false, not_false_eq_true, if_true, if_false, Bool.false_eq_true, reduceCtorEq, c1, c2, a1, a2]
theorem put_fit {n : Nat} {ds : List D} (hl : ds.length ≤ 400) (f : ∀ d ∈ ds, fit n d = true) {d : D} (fd : fit n d = true) (i j : Nat) : fit (n + 1) (.tup (ds.take i ++ [d] ++ ds.drop j)) = true :=
  fit_t (by rw [List.length_append, List.length_append, List.length_take, List.length_drop]; show _ + 1 + _ ≤ 1000; omega) (all_app_ (all_app_ (all_take_ f _) (all_cons_ fd all_nil_)) (all_drop_ f _))
abbrev sgA : Str := " !#$&'()*+,-./0123456789:;<=>?@ABCDEFGHIJKLMNOPQRSTUVWXYZ[]^_abcdefghijklmnopqrstuvwxyz{|}~"
abbrev sgB : Str := "\n\"\\`"
theorem sign_spec56 (x : Int) : ∃ y : Str, E_law_sign.F [.dat (.int x)] = .ok (.dat (.str y)) ∧ PyData.strOk y = true ∧ y.length = 1 := by
  have la : sgA.length = 91 := by decide +kernel
  have lb : sgB.length = 4 := by decide +kernel
  have oa : PyData.strOk sgA = true := by decide +kernel
  have ob : PyData.strOk sgB = true := by decide +kernel
  have c := cat_s (y := sgA) (z := sgB) (by rw [la, lb]; decide)
  have lc := app_len sgA sgB
  rw [la, lb] at lc
  have oc := app_ok2 oa ob
  obtain ⟨z, hz⟩ : ∃ z, z = sgA ++ sgB := ⟨_, rfl⟩
  rw [← hz] at c lc oc
  have lz := len_S (z := z) (by rw [lc]; decide)
  rw [lc] at lz
  obtain ⟨y, e, o, l⟩ := idx_chr (x := z) (k := x % 95) oc (by rw [lc]; decide) (by omega) (by rw [lc]; omega)
  refine ⟨y, ?_, o, l⟩
  have lz : lenB [.dat (.str z)] = .ok (.dat (.int 95)) := lz
  rw [d_law_sign (by rfl)]
  simp (decide := true) only [B_law_sign, Fn.evT, List.getElem?_cons_zero, List.getElem?_cons_succ, List.set_cons_zero, List.set_cons_succ, List.length_cons, List.length_nil, Nat.reduceAdd, Nat.reduceLT, Bool.not_true, Bool.not_false, Nat.reduceLeDiff, Int.cast_ofNat_Int, Int.natCast_zero, Int.natCast_one, Int.reduceEq, eq_self, Int.reduceLE, Int.reduceLT, Int.reduceNeg, Int.reduceToNat, Int.toNat_natCast, Int.reduceAdd, Int.reduceSub, Int.reduceMul, Nat.reduceMul, Nat.reduceSub, decide_true, decide_false, Bool.true_and, Bool.false_and, Bool.and_true, Bool.true_or, Bool.false_or, Bool.or_false, not_true_eq_false, not_false_eq_true, if_true, if_false, Bool.false_eq_true, reduceCtorEq, c, lz, mod_pos, e]
theorem spoilt_row_spec {rs rest : List D} {nm other : Str} (er : rs = .str nm :: rest) (hn : isNm nm) (ho : isNm other) (hl : rs.length ≤ 4) (h3 : 3 ≤ rs.length) (fr : ∀ d ∈ rs, fit 3 d = true) (h4 : rs.length = 4 → ∃ ws : List D, idxB (.dat (.tup rs)) (.dat (.int 3)) = .ok (.dat (.tup ws)) ∧ ws.length ≤ 16 ∧ ∀ d ∈ ws, fit 2 d = true) {xs : List Int} (hx : 3 ≤ xs.length) {top : Int} (t1 : 1 ≤ top) (t9 : top ≤ 9) :
    ∃ d, fit 4 d = true ∧ E_law_spoilt_row.F [.dat (.tup rs), .dat (.lst (xs.map .int)), .dat (.int top), .dat (.str other)] = .ok (.dat d) := by
  have i0 := ixI (l := xs) (k := 0) (by omega) (by omega)
  have i1 := ixI (l := xs) (k := 1) (by omega) (by omega)
  have i2 := ixI (l := xs) (k := 2) (by omega) (by omega)
  generalize xs.getD (Int.toNat 0) 0 = x0 at *
  generalize xs.getD (Int.toNat 1) 0 = x1 at *
  generalize xs.getD (Int.toNat 2) 0 = x2 at *
  have r0 : idxB (.dat (.tup rs)) (.dat (.int 0)) = .ok (.dat (.str nm)) := by
    rw [er, idx_pT (ds := .str nm :: rest) (k := 0) (by decide) (by rw [List.length_cons]; omega)]
    rfl
  have on := isNm_ok hn
  have oo := isNm_ok ho
  have n8 := hn.2.1
  have n1 := hn.1
  have o8 := ho.2.1
  haveI : ISz top 4 := isz_of (by omega) (by omega)
  have m99 : mulB (.dat (.int 99)) (.dat (.int top)) = .ok (.dat (.int (99 * top))) := by
    haveI : ISz 99 8 := isz_of (by decide) (by decide)
    exact mul_z (by decide)
  have ng : negB (.dat (.int 1)) = .ok (.dat (.int (-1))) := rfl
  rw [d_law_spoilt_row (by rfl)]
  by_cases c0 : x0 % 4 = 0
  · have d0 := decide_eq_true c0
    have lo : (D.str "\n" = D.str "\n") := rfl
    have cn := cat_s (y := nm) (z := ("\n" : Str)) (by rw [show ("\n" : Str).length = 1 from by decide +kernel]; omega)
    have cno := app_ok2 on (show PyData.strOk ("\n" : Str) = true by decide +kernel)
    have cnl := app_len nm ("\n" : Str)
    rw [show ("\n" : Str).length = 1 from by decide +kernel] at cnl
    generalize nm ++ ("\n" : Str) = nl at *
    have ln := len_S (z := nm) (by omega)
    have m2 : modB (.dat (.int x2)) (.dat (.int (nm.length : Int))) = .ok (.dat (.int (x2 % (nm.length : Int)))) := mod_pos (by omega)
    have k0 : 0 ≤ x2 % (nm.length : Int) := Int.emod_nonneg _ (by omega)
    generalize x2 % (nm.length : Int) = at_ at *
    have s1 := slc_str (z := nm) (lo := none) (hi := some at_) (by omega)
    obtain ⟨s1o, s1l⟩ := cutS_ok on none (some at_)
    generalize cutS nm none (some at_) = p1 at *
    obtain ⟨sg, hsg, sgo, sgl⟩ := sign_spec56 (x2 / 8)
    have dv : divB (.dat (.int x2)) (.dat (.int 8)) = .ok (.dat (.int (x2 / 8))) := div_pos (by decide) (by decide)
    have a1 := cat_s (y := p1) (z := sg) (by omega)
    have a1o := app_ok2 s1o sgo
    have a1l := app_len p1 sg
    generalize p1 ++ sg = p2 at *
    have s2 := slc_str (z := nm) (lo := some (at_ + 1)) (hi := none) (by omega)
    obtain ⟨s2o, s2l⟩ := cutS_ok on (some (at_ + 1)) none
    generalize cutS nm (some (at_ + 1)) none = p3 at *
    have a2 := cat_s (y := p2) (z := p3) (by omega)
    have a2o := app_ok2 a1o s2o
    have a2l := app_len p2 p3
    generalize p2 ++ p3 = pt at *
    have fpt : fit 1 (.str pt) = true := fit_s a2o (by omega)
    obtain ⟨R, rp, Rl, Rf⟩ : ∃ R, repLB (.dat (.lst [.str pt])) (.dat (.int 13)) = .ok (.own (.l R)) ∧ R.length = 13 ∧ ∀ d ∈ R, fit 1 d = true := ⟨_, rep_l (by decide) (by decide) (by show 1 ≤ 1000; decide), rfl, fun d hd => by
      obtain ⟨l, h1, h2⟩ := List.mem_flatten.mp hd
      rw [List.eq_of_mem_replicate h1] at h2
      rw [List.mem_singleton.mp h2]
      exact fpt⟩
    have Lf : ∀ d ∈ [D.str "", .str "A", .str "ninesigns", .int 7, .non, .str "a b", .tup [.str "a"], .str "zzzzzzzz", .str "z", .str "none", .str nl, .lst [], .str other], fit 1 d = true :=
      all_cons_ (by decide +kernel) (all_cons_ (by decide +kernel) (all_cons_ (by decide +kernel) (all_cons_ rfl (all_cons_ rfl (all_cons_ (by decide +kernel) (all_cons_ (by decide +kernel) (all_cons_ (by decide +kernel) (all_cons_ (by decide +kernel) (all_cons_ (by decide +kernel) (all_cons_ (fit_s cno (by omega)) (all_cons_ rfl (all_cons_ (fit_s oo (by omega)) all_nil_))))))))))))
    obtain ⟨Q, cQ, Ql, Qf⟩ : ∃ Q, addB (.dat (.lst [D.str "", .str "A", .str "ninesigns", .int 7, .non, .str "a b", .tup [.str "a"], .str "zzzzzzzz", .str "z", .str "none", .str nl, .lst [], .str other])) (.dat (.lst R)) = .ok (.own (.l Q)) ∧ Q.length = 26 ∧ ∀ d ∈ Q, fit 1 d = true := ⟨_, cat_l (by rw [Rl]; show 13 + 13 ≤ 1000; decide), by rw [List.length_append, Rl]; rfl, all_app_ Lf Rf⟩
    have e0 : 0 ≤ x1 % 26 := by omega
    have e1 : x1 % 26 < (Q.length : Int) := by omega
    have jq := idx_pL (ds := Q) e0 e1
    have fq := Qf _ (pick_mem e0 e1)
    generalize pick Q (x1 % 26) = od at *
    have pu := put_spec56 rs (by omega) 0 (by decide) od
    refine ⟨_, put_fit (n := 3) (by omega) fr (fit_le (by decide) fq) (Int.toNat 0) (Int.toNat (0 + 1)), ?_⟩
    simp (decide := true) only [B_law_spoilt_row, Fn.evT, List.getElem?_cons_zero, List.getElem?_cons_succ, List.set_cons_zero, List.set_cons_succ, List.length_cons, List.length_nil, Nat.reduceAdd, Nat.reduceLT, Bool.not_true, Bool.not_false, Nat.reduceLeDiff, Int.cast_ofNat_Int, Int.natCast_zero, Int.natCast_one, Int.reduceEq, eq_self, Int.reduceLE, Int.reduceLT, Int.reduceNeg, Int.reduceToNat, Int.toNat_natCast, Int.reduceAdd, Int.reduceSub, Int.reduceMul, Nat.reduceMul, Nat.reduceSub, decide_true, decide_false, Bool.true_and, Bool.false_and, Bool.and_true, Bool.true_or, Bool.false_or, Bool.or_false, not_true_eq_false, not_false_eq_true, if_true, if_false, Bool.false_eq_true, reduceCtorEq, i0, i1, i2, r0, m99, ng, mod_pos, d0, cn, ln, m2, s1, dv, c_law_sign, hsg, a1, s2, a2, rp, cQ, jq, c_law_put_v3, pu]
  · have d0 := decide_eq_false c0
    by_cases c1 : x0 % 4 = 1
    · have d1 := decide_eq_true c1
      have lg : lstG [.dat (.tup rs)] = .ok (.own (.l rs)) := (rfl)
      have sl := slc_tup (ds := rs) (lo := none) (hi := some (-1))
      have cl : (cutL rs none (some (-1))).length ≤ 4 := Nat.le_trans cut_len_ hl
      have cf : ∀ d ∈ cutL rs none (some (-1)), fit 3 d = true := fun d hd => fr d (cut_mem d hd)
      generalize cutL rs none (some (-1)) = cr at *
      have ca := cat_t (ds := rs) (es := [.int 0]) (by show _ + 1 ≤ 1000; omega)
      have bk := back_tup (ds := rs)
      have e0 : 0 ≤ x1 % 8 := by omega
      have e1 : x1 % 8 < 8 := by omega
      have Lf : ∀ d ∈ [D.lst rs, .tup cr, .tup (rs ++ [.int 0]), .tup rs.reverse, .non, .int 7, .str "abcd", .dk []], fit 4 d = true :=
        all_cons_ (fit_l (by omega) fr) (all_cons_ (fit_t (by omega) cf) (all_cons_ (fit_t (by rw [List.length_append]; show _ + 1 ≤ 1000; omega) (all_app_ fr (all_cons_ rfl all_nil_))) (all_cons_ (fit_t (by rw [List.length_reverse]; omega) (all_rev_ fr)) (all_cons_ rfl (all_cons_ rfl (all_cons_ (by decide +kernel) (all_cons_ rfl all_nil_)))))))
      have jq := idx_pL (ds := [D.lst rs, .tup cr, .tup (rs ++ [.int 0]), .tup rs.reverse, .non, .int 7, .str "abcd", .dk []]) e0 (by exact e1)
      have fq := Lf _ (pick_mem e0 (by exact e1))
      refine ⟨_, fq, ?_⟩
      simp (decide := true) only [B_law_spoilt_row, Fn.evT, List.getElem?_cons_zero, List.getElem?_cons_succ, List.set_cons_zero, List.set_cons_succ, List.length_cons, List.length_nil, Nat.reduceAdd, Nat.reduceLT, Bool.not_true, Bool.not_false, Nat.reduceLeDiff, Int.cast_ofNat_Int, Int.natCast_zero, Int.natCast_one, Int.reduceEq, eq_self, Int.reduceLE, Int.reduceLT, Int.reduceNeg, Int.reduceToNat, Int.toNat_natCast, Int.reduceAdd, Int.reduceSub, Int.reduceMul, Nat.reduceMul, Nat.reduceSub, decide_true, decide_false, Bool.true_and, Bool.false_and, Bool.and_true, Bool.true_or, Bool.false_or, Bool.or_false, not_true_eq_false, not_false_eq_true, if_true, if_false, Bool.false_eq_true, reduceCtorEq, i0, i1, i2, r0, m99, ng, mod_pos, d0, d1, lg, sl, ca, bk, jq]
    · have d1 := decide_eq_false c1
      have Of : ∀ d ∈ [D.int 0, .int 99, .int 100, .int (-1), .bl true, .non, .int 999, .int 1000, .str "0", .tup [], .lst [], .int (99 * top), .int 891, .tup [.int 1, .int 1]], fit 3 d = true :=
        all_cons_ rfl (all_cons_ rfl (all_cons_ rfl (all_cons_ rfl (all_cons_ rfl (all_cons_ rfl (all_cons_ rfl (all_cons_ rfl (all_cons_ (by decide +kernel) (all_cons_ rfl (all_cons_ rfl (all_cons_ rfl (all_cons_ rfl (all_cons_ (by decide +kernel) all_nil_)))))))))))))
      have e0 : 0 ≤ x1 % 14 := by omega
      have e1 : x1 % 14 < 14 := by omega
      have jo := idx_pL (ds := [D.int 0, .int 99, .int 100, .int (-1), .bl true, .non, .int 999, .int 1000, .str "0", .tup [], .lst [], .int (99 * top), .int 891, .tup [.int 1, .int 1]]) e0 (by exact e1)
      have fo := Of _ (pick_mem e0 (by exact e1))
      have po : ∀ k : Int, 0 ≤ k → _ := fun k hk => put_spec56 rs (by omega) k hk (pick [D.int 0, .int 99, .int 100, .int (-1), .bl true, .non, .int 999, .int 1000, .str "0", .tup [], .lst [], .int (99 * top), .int 891, .tup [.int 1, .int 1]] (x1 % 14))
      have po := po (1 + x2 % 2) (by omega)
      have ff := put_fit (n := 3) (by omega) fr fo (1 + x2 % 2).toNat (1 + x2 % 2 + 1).toNat
      have lr := len_tup (ds := rs)
      by_cases c2 : x0 % 4 = 2
      · have d2 := decide_eq_true c2
        by_cases c4 : rs.length = 4
        · obtain ⟨ws, iw, wl, wf⟩ := h4 c4
          have d4 : decide ((rs.length : Int) = 4) = true := decide_eq_true (by omega)
          have lg : lstG [.dat (.tup ws)] = .ok (.own (.l ws)) := (rfl)
          have sl := slc_tup (ds := ws) (lo := none) (hi := some 1)
          have cl : (cutL ws none (some 1)).length ≤ 16 := Nat.le_trans cut_len_ wl
          have cf : ∀ d ∈ cutL ws none (some 1), fit 2 d = true := fun d hd => wf d (cut_mem d hd)
          generalize cutL ws none (some 1) = cw at *
          have ca1 := cat_t (ds := ws) (es := cw) (by omega)
          have bk := back_tup (ds := ws)
          have ca2 := cat_t (ds := ws) (es := [.str "zzzzzzzz"]) (by show _ + 1 ≤ 1000; omega)
          have ca3 := cat_t (ds := ws) (es := [.non]) (by show _ + 1 ≤ 1000; omega)
          have ca4 := cat_t (ds := [.int 7]) (es := ws) (by show 1 + _ ≤ 1000; omega)
          have ca5 := cat_t (ds := ws) (es := [.lst []]) (by show _ + 1 ≤ 1000; omega)
          have fw : ∀ {es : List D}, es.length ≤ 40 → (∀ d ∈ es, fit 2 d = true) → fit 3 (.tup es) = true := fun h1 h2 => fit_t (by omega) h2
          have q1 : ∀ d ∈ [D.lst ws, .tup (ws ++ cw), .tup ws.reverse, .tup (ws ++ [.str "zzzzzzzz"])], fit 3 d = true :=
            all_cons_ (fit_l (by omega) wf) (all_cons_ (fw (by rw [List.length_append]; omega) (all_app_ wf cf)) (all_cons_ (fw (by rw [List.length_reverse]; omega) (all_rev_ wf)) (all_cons_ (fw (by rw [List.length_append]; show _ + 1 ≤ 40; omega) (all_app_ wf (all_cons_ (by decide +kernel) all_nil_))) all_nil_)))
          have q2 : ∀ d ∈ [D.tup [.str nm], .non, .str nm, .tup [.tup []], .tup [.lst []], .tup [.dk []]], fit 3 d = true :=
            all_cons_ (fw (by show 1 ≤ 40; decide) (all_cons_ (fit_s on (by omega)) all_nil_)) (all_cons_ rfl (all_cons_ (fit_s on (by omega)) (all_cons_ (by decide +kernel) (all_cons_ (by decide +kernel) (all_cons_ (by decide +kernel) all_nil_)))))
          have q3 : ∀ d ∈ [D.tup (ws ++ [.non]), .tup ([.int 7] ++ ws), .tup (ws ++ [.lst []])], fit 3 d = true :=
            all_cons_ (fw (by rw [List.length_append]; show _ + 1 ≤ 40; omega) (all_app_ wf (all_cons_ rfl all_nil_))) (all_cons_ (fw (by rw [List.length_append]; show 1 + _ ≤ 40; omega) (all_app_ (all_cons_ rfl all_nil_) wf)) (all_cons_ (fw (by rw [List.length_append]; show _ + 1 ≤ 40; omega) (all_app_ wf (all_cons_ rfl all_nil_))) all_nil_))
          obtain ⟨W1, cW1, W1l, W1f⟩ : ∃ Q, addB (.dat (.lst [D.lst ws, .tup (ws ++ cw), .tup ws.reverse, .tup (ws ++ [.str "zzzzzzzz"])])) (.dat (.lst [D.tup [.str nm], .non, .str nm, .tup [.tup []], .tup [.lst []], .tup [.dk []]])) = .ok (.own (.l Q)) ∧ Q.length = 10 ∧ ∀ d ∈ Q, fit 3 d = true := ⟨_, cat_l (by show 4 + 6 ≤ 1000; decide), rfl, all_app_ q1 q2⟩
          obtain ⟨W2, cW2, W2l, W2f⟩ : ∃ Q, addB (.dat (.lst W1)) (.dat (.lst [D.tup (ws ++ [.non]), .tup ([.int 7] ++ ws), .tup (ws ++ [.lst []])])) = .ok (.own (.l Q)) ∧ Q.length = 13 ∧ ∀ d ∈ Q, fit 3 d = true := ⟨_, cat_l (by rw [W1l]; show 10 + 3 ≤ 1000; decide), by rw [List.length_append, W1l]; rfl, all_app_ W1f q3⟩
          have y0 : 0 ≤ x1 % 13 := by omega
          have y1 : x1 % 13 < (W2.length : Int) := by omega
          have jw := idx_pL (ds := W2) y0 y1
          have fq := W2f _ (pick_mem y0 y1)
          generalize pick W2 (x1 % 13) = od at *
          have pu := put_spec56 rs (by omega) 3 (by decide) od
          refine ⟨_, put_fit (n := 3) (by omega) fr fq (Int.toNat 3) (Int.toNat (3 + 1)), ?_⟩
          simp (decide := true) only [B_law_spoilt_row, Fn.evT, List.getElem?_cons_zero, List.getElem?_cons_succ, List.set_cons_zero, List.set_cons_succ, List.length_cons, List.length_nil, Nat.reduceAdd, Nat.reduceLT, Bool.not_true, Bool.not_false, Nat.reduceLeDiff, Int.cast_ofNat_Int, Int.natCast_zero, Int.natCast_one, Int.reduceEq, eq_self, Int.reduceLE, Int.reduceLT, Int.reduceNeg, Int.reduceToNat, Int.toNat_natCast, Int.reduceAdd, Int.reduceSub, Int.reduceMul, Nat.reduceMul, Nat.reduceSub, decide_true, decide_false, Bool.true_and, Bool.false_and, Bool.and_true, Bool.true_or, Bool.false_or, Bool.or_false, not_true_eq_false, not_false_eq_true, if_true, if_false, Bool.false_eq_true, reduceCtorEq, i0, i1, i2, r0, m99, ng, mod_pos, d0, d1, d2, lr, d4, iw, lg, sl, ca1, bk, ca2, ca3, ca4, ca5, cW1, cW2, jw, c_law_put_v3, pu]
        · have d4 : decide ((rs.length : Int) = 4) = false := decide_eq_false (by omega)
          refine ⟨_, ff, ?_⟩
          simp (decide := true) only [B_law_spoilt_row, Fn.evT, List.getElem?_cons_zero, List.getElem?_cons_succ, List.set_cons_zero, List.set_cons_succ, List.length_cons, List.length_nil, Nat.reduceAdd, Nat.reduceLT, Bool.not_true, Bool.not_false, Nat.reduceLeDiff, Int.cast_ofNat_Int, Int.natCast_zero, Int.natCast_one, Int.reduceEq, eq_self, Int.reduceLE, Int.reduceLT, Int.reduceNeg, Int.reduceToNat, Int.toNat_natCast, Int.reduceAdd, Int.reduceSub, Int.reduceMul, Nat.reduceMul, Nat.reduceSub, decide_true, decide_false, Bool.true_and, Bool.false_and, Bool.and_true, Bool.true_or, Bool.false_or, Bool.or_false, not_true_eq_false, not_false_eq_true, if_true, if_false, Bool.false_eq_true, reduceCtorEq, i0, i1, i2, r0, m99, ng, mod_pos, d0, d1, d2, lr, d4, jo, c_law_put_v3, po]
      · have d2 := decide_eq_false c2
        refine ⟨_, ff, ?_⟩
        simp (decide := true) only [B_law_spoilt_row, Fn.evT, List.getElem?_cons_zero, List.getElem?_cons_succ, List.set_cons_zero, List.set_cons_succ, List.length_cons, List.length_nil, Nat.reduceAdd, Nat.reduceLT, Bool.not_true, Bool.not_false, Nat.reduceLeDiff, Int.cast_ofNat_Int, Int.natCast_zero, Int.natCast_one, Int.reduceEq, eq_self, Int.reduceLE, Int.reduceLT, Int.reduceNeg, Int.reduceToNat, Int.toNat_natCast, Int.reduceAdd, Int.reduceSub, Int.reduceMul, Nat.reduceMul, Nat.reduceSub, decide_true, decide_false, Bool.true_and, Bool.false_and, Bool.and_true, Bool.true_or, Bool.false_or, Bool.or_false, not_true_eq_false, not_false_eq_true, if_true, if_false, Bool.false_eq_true, reduceCtorEq, i0, i1, i2, r0, m99, ng, mod_pos, d0, d1, d2, lr, jo, c_law_put_v3, po]
end P
namespace P
open PySem PySem.Spec PyProof.Rows L2 Fn
def Gd (d : D) : Prop := fit 6 d = true ∧ ∀ t js ls, d = .tup [t, .tup js, .tup ls] → js.length + ls.length ≤ 1000
theorem gd3 {a : D} {X Y : List D} (fa : fit 5 a = true) (fX : ∀ d ∈ X, fit 4 d = true) (lX : X.length ≤ 400) (fY : ∀ d ∈ Y, fit 4 d = true) (lY : Y.length ≤ 400) : Gd (.tup [a, .tup X, .tup Y]) :=
  ⟨fit_t (by show 3 ≤ 1000; decide) (all_cons_ fa (all_cons_ (fit_t (by omega) fX) (all_cons_ (fit_t (by omega) fY) all_nil_))), fun t js ls e => by
    injection e with e
    injection e with _ e
    injection e with e1 e
    injection e with e2 _
    injection e1 with e1
    injection e2 with e2
    rw [← e1, ← e2]
    omega⟩
structure RowOk (rs : List D) (nm : Str) (rest : List D) : Prop where
  er : rs = .str nm :: rest
  n : isNm nm
  l4 : rs.length ≤ 4
  l3 : 3 ≤ rs.length
  fr : ∀ d ∈ rs, fit 3 d = true
  h4 : rs.length = 4 → ∃ ws : List D, idxB (.dat (.tup rs)) (.dat (.int 3)) = .ok (.dat (.tup ws)) ∧ ws.length ≤ 16 ∧ ∀ d ∈ ws, fit 2 d = true
def IsRow (d : D) : Prop := ∃ rs nm rest, d = .tup rs ∧ RowOk rs nm rest
theorem jb_row {top : Int} {js : List Jb} {ls : List Tl} (h : HouseOk top js ls) {j : Jb} (hj : j ∈ js) : IsRow (jbD j) := by
  have few := h.few
  have wl : j.ws.length ≤ 16 := by
    obtain ⟨a, b, e⟩ := List.append_of_mem hj
    rw [e] at few
    simp only [List.flatMap_append, List.flatMap_cons, List.length_append] at few
    omega
  have n := h.jn.nm _ (List.mem_map_of_mem hj)
  have fw : ∀ d ∈ txs j.ws, fit 2 d = true := all_map_ fun x hx => by
    have m := h.ln.nm x ((h.jg j hj).2.2.2.2.2 x hx)
    exact fit_s (isNm_ok m) (by have := m.2.1; omega)
  exact ⟨_, j.n, [.int j.g, .int j.w, .tup (txs j.ws)], rfl, rfl, n, by show 4 ≤ 4; decide, by show 3 ≤ 4; decide, all_cons_ (fit_s (isNm_ok n) (by have := n.2.1; omega)) (all_cons_ rfl (all_cons_ rfl (all_cons_ (fit_t (by rw [List.length_map]; omega) fw) all_nil_))), fun _ => ⟨txs j.ws, idx_tup rfl, by rw [List.length_map]; exact wl, fw⟩⟩
theorem tl_row {top : Int} {js : List Jb} {ls : List Tl} (h : HouseOk top js ls) {t : Tl} (ht : t ∈ ls) : IsRow (tlD t) := by
  have n := h.ln.nm _ (List.mem_map_of_mem ht)
  exact ⟨_, t.n, [.int t.c, .int t.f], rfl, rfl, n, by show 3 ≤ 4; decide, by show 3 ≤ 3; decide, all_cons_ (fit_s (isNm_ok n) (by have := n.2.1; omega)) (all_cons_ rfl (all_cons_ rfl all_nil_)), fun z => absurd z (by show ¬ 3 = 4; decide)⟩
theorem row_fit {d : D} (h : IsRow d) : fit 4 d = true := by
  obtain ⟨rs, nm, rest, rfl, r⟩ := h
  exact fit_t (by have := r.l4; omega) r.fr
theorem row_hd {d : D} (h : IsRow d) : ∃ nm, isNm nm ∧ idxB (.dat d) (.dat (.int 0)) = .ok (.dat (.str nm)) := by
  obtain ⟨rs, nm, rest, rfl, r⟩ := h
  refine ⟨nm, r.n, ?_⟩
  rw [r.er, idx_pT (ds := .str nm :: rest) (k := 0) (by decide) (by rw [List.length_cons]; omega)]
  rfl
theorem rows_spoilt {X Z : List D} (rX : ∀ d ∈ X, IsRow d) (rZ : ∀ d ∈ Z, IsRow d) (lX : X.length ≤ 8) (lZ : Z.length ≤ 8) (pX : 0 < X.length) {xs : List Int} (hx : 3 ≤ xs.length) {top : Int} (t1 : 1 ≤ top) (t9 : top ≤ 9) (x1 : Int) :
    ∃ (k : Int) (r d : D) (other : Str) (zd : D), lenB [.dat (.tup X)] = .ok (.dat (.int (X.length : Nat))) ∧ modB (.dat (.int x1)) (.dat (.int (X.length : Nat))) = .ok (.dat (.int k)) ∧ addB (.dat (.tup Z)) (.dat (.tup X)) = .ok (.dat (.tup (Z ++ X))) ∧ idxB (.dat (.tup (Z ++ X))) (.dat (.int 0)) = .ok (.dat zd) ∧ idxB (.dat zd) (.dat (.int 0)) = .ok (.dat (.str other)) ∧ idxB (.dat (.tup X)) (.dat (.int k)) = .ok (.dat r) ∧ E_law_spoilt_row.F [.dat r, .dat (.lst (xs.map .int)), .dat (.int top), .dat (.str other)] = .ok (.dat d) ∧
      ∃ Y : List D, Y.length ≤ 20 ∧ (∀ e ∈ Y, fit 4 e = true) ∧ ∃ Y1 Y2 Y3 : List D, sliceB (.dat (.tup X)) none (some k) = .ok (.dat (.tup Y1)) ∧ addB (.dat (.tup Y1)) (.dat (.tup [d])) = .ok (.dat (.tup Y2)) ∧ sliceB (.dat (.tup X)) (some (k + 1)) none = .ok (.dat (.tup Y3)) ∧ addB (.dat (.tup Y2)) (.dat (.tup Y3)) = .ok (.dat (.tup Y)) := by
  have m1 : modB (.dat (.int x1)) (.dat (.int (X.length : Nat))) = .ok (.dat (.int (x1 % (X.length : Nat)))) := mod_pos (by omega)
  have k0 : 0 ≤ x1 % (X.length : Nat) := Int.emod_nonneg _ (by omega)
  have k1 : x1 % (X.length : Nat) < (X.length : Nat) := Int.emod_lt_of_pos _ (by omega)
  generalize x1 % ((X.length : Nat) : Int) = k at *
  have ix := idx_pT (ds := X) k0 k1
  obtain ⟨rs, nm, rest, er, r⟩ := rX _ (pick_mem k0 k1)
  have zl : (0 : Int) < ((Z ++ X).length : Int) := by rw [List.length_append]; omega
  have iz := idx_pT (ds := Z ++ X) (k := 0) (by decide) zl
  obtain ⟨other, ho, io⟩ := row_hd (all_app_ rZ rX _ (pick_mem (ds := Z ++ X) (k := 0) (by decide) zl))
  rw [er] at ix
  obtain ⟨d, fd, ed⟩ := spoilt_row_spec r.er r.n ho r.l4 r.l3 r.fr r.h4 hx t1 t9
  have fX : ∀ e ∈ X, fit 4 e = true := fun e he => row_fit (rX e he)
  have l1 : (cutL X none (some k)).length ≤ 8 := Nat.le_trans cut_len_ lX
  have l2 : (cutL X (some (k + 1)) none).length ≤ 8 := Nat.le_trans cut_len_ lX
  refine ⟨k, _, d, other, _, len_tup, m1, cat_t (by omega), iz, io, ix, ed, cutL X none (some k) ++ [d] ++ cutL X (some (k + 1)) none, ?_, all_app_ (all_app_ (fun e he => fX e (cut_mem e he)) (all_cons_ fd all_nil_)) (fun e he => fX e (cut_mem e he)), _, _, _, slc_tup, cat_t ?_, slc_tup, cat_t ?_⟩
  · rw [List.length_append, List.length_append, List.length_singleton]; omega
  · rw [List.length_singleton]; omega
  · rw [List.length_append, List.length_singleton]; omega
theorem spoilt_spec {top : Int} {js : List Jb} {ls : List Tl} (h : HouseOk top js ls) {xs : List Int} (hx : 5 ≤ xs.length) : ∃ d, Gd d ∧ E_law_spoilt_v3.F [.dat (houseD top js ls), .dat (.lst (xs.map .int))] = .ok (.dat d) := by
  have t1 := h.t1
  have t9 := h.t9
  have hle := h.le
  have pos := h.pos
  have i0 := ixI (l := xs) (k := 0) (by omega) (by omega)
  have i1 := ixI (l := xs) (k := 1) (by omega) (by omega)
  have sx : sliceB (.dat (.lst (xs.map .int))) (some 2) none = .ok (.own (.l ((xs.drop 2).map .int))) := by
    rw [slc_l, cut_drop (by decide), List.map_drop]
    rfl
  have hx2 : 3 ≤ (xs.drop 2).length := by rw [List.length_drop]; omega
  generalize xs.drop 2 = zs at *
  generalize xs.getD (Int.toNat 0) 0 = x0 at *
  generalize xs.getD (Int.toNat 1) 0 = x1 at *
  have rJ : ∀ d ∈ js.map jbD, IsRow d := all_map_ fun j hj => jb_row h hj
  have rT : ∀ d ∈ ls.map tlD, IsRow d := all_map_ fun t ht => tl_row h ht
  have shJ : ∀ d ∈ js.map jbD, Shp d 2 := all_map_ fun j hj => shp_tup (all_cons_ ((shp_str (h.jn.lay _ (List.mem_map_of_mem hj))).up (by decide)) (all_cons_ ((shp_int _).up (by decide)) (all_cons_ ((shp_int _).up (by decide)) (all_cons_ (shp_txs fun x hx => h.ln.lay x ((h.jg j hj).2.2.2.2.2 x hx)) all_nil_))))
  have shT : ∀ d ∈ ls.map tlD, Shp d 1 := all_map_ fun t ht => shp_tup (all_cons_ (shp_str (h.ln.lay _ (List.mem_map_of_mem ht))) (all_cons_ (shp_int _) (all_cons_ (shp_int _) all_nil_)))
  have nJ := ne_nil shJ (by decide)
  have nT := ne_nil shT (by decide)
  have lJ : (js.map jbD).length ≤ 8 := by rw [List.length_map]; omega
  have lT : (ls.map tlD).length ≤ 8 := by rw [List.length_map]; omega
  have pJT : 0 < (js.map jbD).length + (ls.map tlD).length := by rw [List.length_map, List.length_map]; exact pos
  have hH : houseD top js ls = .tup [.int top, .tup (js.map jbD), .tup (ls.map tlD)] := rfl
  rw [hH]
  generalize js.map jbD = J at *
  generalize ls.map tlD = T at *
  have fJ : ∀ d ∈ J, fit 4 d = true := fun d hd => row_fit (rJ d hd)
  have fT : ∀ d ∈ T, fit 4 d = true := fun d hd => row_fit (rT d hd)
  have bt : ∀ ρ : Fn.Env, bindT (.many [2, 3, 4]) (.tup [.int top, .tup J, .tup T]) ρ = some (putMany [2, 3, 4] [.int top, .tup J, .tup T] ρ) := fun ρ => bt_tup rfl
  rw [d_law_spoilt_v3 (by rfl)]
  have w0 : 0 ≤ x0 % 7 := by omega
  have w7 : x0 % 7 < 7 := by omega
  have m7 : modB (.dat (.int x0)) (.dat (.int 7)) = .ok (.dat (.int (x0 % 7))) := mod_pos (by decide)
  generalize x0 % 7 = w at *
  by_cases c0 : w = 0
  · have d0 := decide_eq_true c0
    have e0 : 0 ≤ x1 % 8 := by omega
    have e1 : x1 % 8 < 8 := by omega
    have Lf : ∀ d ∈ [D.int 0, .int 10, .int 9, .int 1, .bl true, .non, .str "1", .tup [.int 1, .int 1]], fit 5 d = true := all_cons_ rfl (all_cons_ rfl (all_cons_ rfl (all_cons_ rfl (all_cons_ rfl (all_cons_ rfl (all_cons_ (by decide +kernel) (all_cons_ (by decide +kernel) all_nil_)))))))
    have jq := idx_pL (ds := [D.int 0, .int 10, .int 9, .int 1, .bl true, .non, .str "1", .tup [.int 1, .int 1]]) e0 (by exact e1)
    have fq := Lf _ (pick_mem e0 (by exact e1))
    refine ⟨_, gd3 fq fJ (by omega) fT (by omega), ?_⟩
    simp (decide := true) only [B_law_spoilt_v3, Fn.evT, List.getElem?_cons_zero, List.getElem?_cons_succ, List.set_cons_zero, List.set_cons_succ, List.length_cons, List.length_nil, Nat.reduceAdd, Nat.reduceLT, Bool.not_true, Bool.not_false, Nat.reduceLeDiff, Int.cast_ofNat_Int, Int.natCast_zero, Int.natCast_one, Int.reduceEq, eq_self, Int.reduceLE, Int.reduceLT, Int.reduceNeg, Int.reduceToNat, Int.toNat_natCast, Int.reduceAdd, Int.reduceSub, Int.reduceMul, Nat.reduceMul, Nat.reduceSub, decide_true, decide_false, Bool.true_and, Bool.false_and, Bool.and_true, Bool.true_or, Bool.false_or, Bool.or_false, not_true_eq_false, not_false_eq_true, if_true, if_false, Bool.false_eq_true, reduceCtorEq, bt, i0, i1, m7, mod_pos, d0, jq]
  · have d0 := decide_eq_false c0
    by_cases c1 : w = 1
    · have d1 := decide_eq_true c1
      have lg : lstG [.dat (.tup [.int top, .tup J, .tup T])] = .ok (.own (.l [.int top, .tup J, .tup T])) := (rfl)
      have lgJ : lstG [.dat (.tup J)] = .ok (.own (.l J)) := (rfl)
      have lgT : lstG [.dat (.tup T)] = .ok (.own (.l T)) := (rfl)
      have sl : sliceB (.dat (.tup [.int top, .tup J, .tup T])) none (some 2) = .ok (.dat (.tup [.int top, .tup J])) := rfl
      have ca := cat_t (ds := [.int top, .tup J, .tup T]) (es := [.tup []]) (by show 3 + 1 ≤ 1000; decide)
      have tJ : fit 5 (.tup J) = true := fit_t (by omega) fJ
      have tT : fit 5 (.tup T) = true := fit_t (by omega) fT
      have uJ : fit 5 (.lst J) = true := fit_l (by omega) fJ
      have uT : fit 5 (.lst T) = true := fit_l (by omega) fT
      have G1 : Gd (.lst [.int top, .tup J, .tup T]) := ⟨fit_l (by show 3 ≤ 1000; decide) (all_cons_ rfl (all_cons_ tJ (all_cons_ tT all_nil_))), fun t js ls e => by cases e⟩
      have G2 : Gd (.tup [.int top, .tup J]) := ⟨fit_t (by show 2 ≤ 1000; decide) (all_cons_ rfl (all_cons_ tJ all_nil_)), fun t js ls e => by cases e⟩
      have G3 : Gd (.tup ([.int top, .tup J, .tup T] ++ [.tup []])) := ⟨fit_t (by show 4 ≤ 1000; decide) (all_app_ (all_cons_ rfl (all_cons_ tJ (all_cons_ tT all_nil_))) (all_cons_ rfl all_nil_)), fun t js ls e => by cases e⟩
      have G4 : Gd (.tup [.int top, .lst J, .tup T]) := ⟨fit_t (by show 3 ≤ 1000; decide) (all_cons_ rfl (all_cons_ uJ (all_cons_ tT all_nil_))), fun t js ls e => by cases e⟩
      have G5 : Gd (.tup [.int top, .tup J, .lst T]) := ⟨fit_t (by show 3 ≤ 1000; decide) (all_cons_ rfl (all_cons_ tJ (all_cons_ uT all_nil_))), fun t js ls e => by cases e⟩
      obtain ⟨Q, cQ, Ql, Qf⟩ : ∃ Q, addB (.dat (.lst [D.lst [.int top, .tup J, .tup T], .tup [.int top, .tup J], .tup ([.int top, .tup J, .tup T] ++ [.tup []]), .tup [.int top, .lst J, .tup T]])) (.dat (.lst [D.tup [.int top, .tup J, .lst T]])) = .ok (.own (.l Q)) ∧ Q.length = 5 ∧ ∀ d ∈ Q, Gd d := ⟨_, cat_l (by show 4 + 1 ≤ 1000; decide), rfl, all_app_ (all_cons_ G1 (all_cons_ G2 (all_cons_ G3 (all_cons_ G4 all_nil_)))) (all_cons_ G5 all_nil_)⟩
      have e0 : 0 ≤ x1 % 5 := by omega
      have e1 : x1 % 5 < (Q.length : Int) := by omega
      have jq := idx_pL (ds := Q) e0 e1
      refine ⟨_, Qf _ (pick_mem e0 e1), ?_⟩
      simp (decide := true) only [B_law_spoilt_v3, Fn.evT, List.getElem?_cons_zero, List.getElem?_cons_succ, List.set_cons_zero, List.set_cons_succ, List.length_cons, List.length_nil, Nat.reduceAdd, Nat.reduceLT, Bool.not_true, Bool.not_false, Nat.reduceLeDiff, Int.cast_ofNat_Int, Int.natCast_zero, Int.natCast_one, Int.reduceEq, eq_self, Int.reduceLE, Int.reduceLT, Int.reduceNeg, Int.reduceToNat, Int.toNat_natCast, Int.reduceAdd, Int.reduceSub, Int.reduceMul, Nat.reduceMul, Nat.reduceSub, decide_true, decide_false, Bool.true_and, Bool.false_and, Bool.and_true, Bool.true_or, Bool.false_or, Bool.or_false, not_true_eq_false, not_false_eq_true, if_true, if_false, Bool.false_eq_true, reduceCtorEq, bt, i0, i1, m7, mod_pos, d0, d1, lg, lgJ, lgT, sl, ca, cQ, jq]
    · have d1 := decide_eq_false c1
      by_cases c2 : w = 2
      · have d2 := decide_eq_true c2
        have bJ := back_tup (ds := J)
        have bT := back_tup (ds := T)
        have G1 : Gd (.tup [.int top, .tup J.reverse, .tup T]) := gd3 rfl (all_rev_ fJ) (by rw [List.length_reverse]; omega) fT (by omega)
        have G2 : Gd (.tup [.int top, .tup J, .tup T.reverse]) := gd3 rfl fJ (by omega) (all_rev_ fT) (by rw [List.length_reverse]; omega)
        have G3 : Gd (.tup [.int top, .tup T, .tup J]) := gd3 rfl fT (by omega) fJ (by omega)
        have G4 : Gd (.tup [.int top, .tup [], .tup []]) := gd3 rfl all_nil_ (by decide) all_nil_ (by decide)
        obtain ⟨Q, cQ, Ql, Qf⟩ : ∃ Q, addB (.dat (.lst [D.tup [.int top, .tup J.reverse, .tup T], .tup [.int top, .tup J, .tup T.reverse]])) (.dat (.lst [D.tup [.int top, .tup T, .tup J], .tup [.int top, .tup [], .tup []]])) = .ok (.own (.l Q)) ∧ Q.length = 4 ∧ ∀ d ∈ Q, Gd d := ⟨_, cat_l (by show 2 + 2 ≤ 1000; decide), rfl, all_app_ (all_cons_ G1 (all_cons_ G2 all_nil_)) (all_cons_ G3 (all_cons_ G4 all_nil_))⟩
        have e0 : 0 ≤ x1 % 4 := by omega
        have e1 : x1 % 4 < (Q.length : Int) := by omega
        have jq := idx_pL (ds := Q) e0 e1
        refine ⟨_, Qf _ (pick_mem e0 e1), ?_⟩
        simp (decide := true) only [B_law_spoilt_v3, Fn.evT, List.getElem?_cons_zero, List.getElem?_cons_succ, List.set_cons_zero, List.set_cons_succ, List.length_cons, List.length_nil, Nat.reduceAdd, Nat.reduceLT, Bool.not_true, Bool.not_false, Nat.reduceLeDiff, Int.cast_ofNat_Int, Int.natCast_zero, Int.natCast_one, Int.reduceEq, eq_self, Int.reduceLE, Int.reduceLT, Int.reduceNeg, Int.reduceToNat, Int.toNat_natCast, Int.reduceAdd, Int.reduceSub, Int.reduceMul, Nat.reduceMul, Nat.reduceSub, decide_true, decide_false, Bool.true_and, Bool.false_and, Bool.and_true, Bool.true_or, Bool.false_or, Bool.or_false, not_true_eq_false, not_false_eq_true, if_true, if_false, Bool.false_eq_true, reduceCtorEq, bt, i0, i1, m7, mod_pos, d0, d1, d2, bJ, bT, cQ, jq]
      · have d2 := decide_eq_false c2
        have lTn := len_tup (ds := T)
        have lJn := len_tup (ds := J)
        by_cases pT : 0 < T.length
        · have eT : T.isEmpty = false := by
            cases T with
            | nil => exact absurd pT (by decide)
            | cons a l => rfl
          rw [eT] at nT
          by_cases c3 : w = 3
          · have d3 := decide_eq_true c3
            have m1 : modB (.dat (.int x1)) (.dat (.int (T.length : Nat))) = .ok (.dat (.int (x1 % (T.length : Nat)))) := mod_pos (by omega)
            generalize x1 % ((T.length : Nat) : Int) = k at *
            have s1 := slc_tup (ds := T) (lo := some k) (hi := none)
            have l1 : (cutL T (some k) none).length ≤ 8 := Nat.le_trans cut_len_ lT
            have f1 : ∀ d ∈ cutL T (some k) none, fit 4 d = true := fun d hd => fT d (cut_mem d hd)
            generalize cutL T (some k) none = T1 at *
            have s2 := slc_tup (ds := T1) (lo := none) (hi := some 1)
            have l2 : (cutL T1 none (some 1)).length ≤ 8 := Nat.le_trans cut_len_ l1
            have f2 : ∀ d ∈ cutL T1 none (some 1), fit 4 d = true := fun d hd => f1 d (cut_mem d hd)
            generalize cutL T1 none (some 1) = T2 at *
            have ca := cat_t (ds := T) (es := T2) (by omega)
            refine ⟨_, gd3 (a := .int top) rfl fJ (by omega) (all_app_ fT f2) (by rw [List.length_append]; omega), ?_⟩
            simp (decide := true) only [B_law_spoilt_v3, Fn.evT, List.getElem?_cons_zero, List.getElem?_cons_succ, List.set_cons_zero, List.set_cons_succ, List.length_cons, List.length_nil, Nat.reduceAdd, Nat.reduceLT, Bool.not_true, Bool.not_false, Nat.reduceLeDiff, Int.cast_ofNat_Int, Int.natCast_zero, Int.natCast_one, Int.reduceEq, eq_self, Int.reduceLE, Int.reduceLT, Int.reduceNeg, Int.reduceToNat, Int.toNat_natCast, Int.reduceAdd, Int.reduceSub, Int.reduceMul, Nat.reduceMul, Nat.reduceSub, decide_true, decide_false, Bool.true_and, Bool.false_and, Bool.and_true, Bool.true_or, Bool.false_or, Bool.or_false, not_true_eq_false, not_false_eq_true, if_true, if_false, Bool.false_eq_true, reduceCtorEq, bt, i0, i1, m7, d0, d1, d2, d3, nT, lTn, m1, s1, s2, ca, Bool.not_false]
          · have d3 := decide_eq_false c3
            obtain ⟨k, r, d, other, zd, z1, z2, z3, z4, z5, z6, z7, Y, y1, y2, Y1, Y2, Y3, y3, y4, y5, y6⟩ := rows_spoilt rT rJ lT lJ pT hx2 t1 t9 x1
            by_cases c4 : w = 4
            · have d4 := decide_eq_true c4
              by_cases pJ : 0 < J.length
              · have eJ : J.isEmpty = false := by
                  cases J with
                  | nil => exact absurd pJ (by decide)
                  | cons a l => rfl
                rw [eJ] at nJ
                obtain ⟨k, r, d, other, zd, z1, z2, z3, z4, z5, z6, z7, Y, y1, y2, Y1, Y2, Y3, y3, y4, y5, y6⟩ := rows_spoilt rJ rT lJ lT pJ hx2 t1 t9 x1
                refine ⟨_, gd3 (a := .int top) rfl y2 (by omega) fT (by omega), ?_⟩
                simp (decide := true) only [B_law_spoilt_v3, Fn.evT, List.getElem?_cons_zero, List.getElem?_cons_succ, List.set_cons_zero, List.set_cons_succ, List.length_cons, List.length_nil, Nat.reduceAdd, Nat.reduceLT, Bool.not_true, Bool.not_false, Nat.reduceLeDiff, Int.cast_ofNat_Int, Int.natCast_zero, Int.natCast_one, Int.reduceEq, eq_self, Int.reduceLE, Int.reduceLT, Int.reduceNeg, Int.reduceToNat, Int.toNat_natCast, Int.reduceAdd, Int.reduceSub, Int.reduceMul, Nat.reduceMul, Nat.reduceSub, decide_true, decide_false, Bool.true_and, Bool.false_and, Bool.and_true, Bool.true_or, Bool.false_or, Bool.or_false, not_true_eq_false, not_false_eq_true, if_true, if_false, Bool.false_eq_true, reduceCtorEq, bt, i0, i1, m7, d0, d1, d2, d3, d4, nJ, sx, z1, z2, z3, z4, z5, z6, c_law_spoilt_row, z7, y3, y4, y5, y6, Bool.not_false]
              · have eJ : J.isEmpty = true := by
                  cases J with
                  | nil => rfl
                  | cons a l => exact absurd (by show 0 < l.length + 1; omega) pJ
                rw [eJ] at nJ
                refine ⟨_, gd3 (a := .int top) rfl fJ (by omega) y2 (by omega), ?_⟩
                simp (decide := true) only [B_law_spoilt_v3, Fn.evT, List.getElem?_cons_zero, List.getElem?_cons_succ, List.set_cons_zero, List.set_cons_succ, List.length_cons, List.length_nil, Nat.reduceAdd, Nat.reduceLT, Bool.not_true, Bool.not_false, Nat.reduceLeDiff, Int.cast_ofNat_Int, Int.natCast_zero, Int.natCast_one, Int.reduceEq, eq_self, Int.reduceLE, Int.reduceLT, Int.reduceNeg, Int.reduceToNat, Int.toNat_natCast, Int.reduceAdd, Int.reduceSub, Int.reduceMul, Nat.reduceMul, Nat.reduceSub, decide_true, decide_false, Bool.true_and, Bool.false_and, Bool.and_true, Bool.true_or, Bool.false_or, Bool.or_false, not_true_eq_false, not_false_eq_true, if_true, if_false, Bool.false_eq_true, reduceCtorEq, bt, i0, i1, m7, d0, d1, d2, d3, d4, nJ, nT, sx, z1, z2, z3, z4, z5, z6, c_law_spoilt_row, z7, y3, y4, y5, y6, Bool.not_false, Bool.not_true]
            · have d4 := decide_eq_false c4
              refine ⟨_, gd3 (a := .int top) rfl fJ (by omega) y2 (by omega), ?_⟩
              simp (decide := true) only [B_law_spoilt_v3, Fn.evT, List.getElem?_cons_zero, List.getElem?_cons_succ, List.set_cons_zero, List.set_cons_succ, List.length_cons, List.length_nil, Nat.reduceAdd, Nat.reduceLT, Bool.not_true, Bool.not_false, Nat.reduceLeDiff, Int.cast_ofNat_Int, Int.natCast_zero, Int.natCast_one, Int.reduceEq, eq_self, Int.reduceLE, Int.reduceLT, Int.reduceNeg, Int.reduceToNat, Int.toNat_natCast, Int.reduceAdd, Int.reduceSub, Int.reduceMul, Nat.reduceMul, Nat.reduceSub, decide_true, decide_false, Bool.true_and, Bool.false_and, Bool.and_true, Bool.true_or, Bool.false_or, Bool.or_false, not_true_eq_false, not_false_eq_true, if_true, if_false, Bool.false_eq_true, reduceCtorEq, bt, i0, i1, m7, d0, d1, d2, d3, d4, nJ, nT, sx, z1, z2, z3, z4, z5, z6, c_law_spoilt_row, z7, y3, y4, y5, y6, Bool.not_false, Bool.not_true]
        · have eT : T.isEmpty = true := by
            cases T with
            | nil => rfl
            | cons a l => exact absurd (by show 0 < l.length + 1; omega) pT
          rw [eT] at nT
          have pJ : 0 < J.length := by omega
          have eJ : J.isEmpty = false := by
            cases J with
            | nil => exact absurd pJ (by decide)
            | cons a l => rfl
          rw [eJ] at nJ
          by_cases c4 : w = 4
          · have d4 := decide_eq_true c4
            have d3 : decide (w = 3) = false := decide_eq_false (by omega)
            obtain ⟨k, r, d, other, zd, z1, z2, z3, z4, z5, z6, z7, Y, y1, y2, Y1, Y2, Y3, y3, y4, y5, y6⟩ := rows_spoilt rJ rT lJ lT pJ hx2 t1 t9 x1
            refine ⟨_, gd3 (a := .int top) rfl y2 (by omega) fT (by omega), ?_⟩
            simp (decide := true) only [B_law_spoilt_v3, Fn.evT, List.getElem?_cons_zero, List.getElem?_cons_succ, List.set_cons_zero, List.set_cons_succ, List.length_cons, List.length_nil, Nat.reduceAdd, Nat.reduceLT, Bool.not_true, Bool.not_false, Nat.reduceLeDiff, Int.cast_ofNat_Int, Int.natCast_zero, Int.natCast_one, Int.reduceEq, eq_self, Int.reduceLE, Int.reduceLT, Int.reduceNeg, Int.reduceToNat, Int.toNat_natCast, Int.reduceAdd, Int.reduceSub, Int.reduceMul, Nat.reduceMul, Nat.reduceSub, decide_true, decide_false, Bool.true_and, Bool.false_and, Bool.and_true, Bool.true_or, Bool.false_or, Bool.or_false, not_true_eq_false, not_false_eq_true, if_true, if_false, Bool.false_eq_true, reduceCtorEq, bt, i0, i1, m7, d0, d1, d2, d3, d4, nJ, sx, z1, z2, z3, z4, z5, z6, c_law_spoilt_row, z7, y3, y4, y5, y6, Bool.not_false]
          · have d4 := decide_eq_false c4
            have m1 : modB (.dat (.int x1)) (.dat (.int (J.length : Nat))) = .ok (.dat (.int (x1 % (J.length : Nat)))) := mod_pos (by omega)
            generalize x1 % ((J.length : Nat) : Int) = k at *
            have s1 := slc_tup (ds := J) (lo := some k) (hi := none)
            have l1 : (cutL J (some k) none).length ≤ 8 := Nat.le_trans cut_len_ lJ
            have f1 : ∀ d ∈ cutL J (some k) none, fit 4 d = true := fun d hd => fJ d (cut_mem d hd)
            generalize cutL J (some k) none = J1 at *
            refine ⟨_, gd3 (a := .int top) rfl f1 (by omega) fT (by omega), ?_⟩
            by_cases c3 : w = 3
            · have d3 := decide_eq_true c3
              simp (decide := true) only [B_law_spoilt_v3, Fn.evT, List.getElem?_cons_zero, List.getElem?_cons_succ, List.set_cons_zero, List.set_cons_succ, List.length_cons, List.length_nil, Nat.reduceAdd, Nat.reduceLT, Bool.not_true, Bool.not_false, Nat.reduceLeDiff, Int.cast_ofNat_Int, Int.natCast_zero, Int.natCast_one, Int.reduceEq, eq_self, Int.reduceLE, Int.reduceLT, Int.reduceNeg, Int.reduceToNat, Int.toNat_natCast, Int.reduceAdd, Int.reduceSub, Int.reduceMul, Nat.reduceMul, Nat.reduceSub, decide_true, decide_false, Bool.true_and, Bool.false_and, Bool.and_true, Bool.true_or, Bool.false_or, Bool.or_false, not_true_eq_false, not_false_eq_true, if_true, if_false, Bool.false_eq_true, reduceCtorEq, bt, i0, i1, m7, d0, d1, d2, d3, d4, nJ, nT, lJn, m1, s1, Bool.not_false, Bool.not_true]
            · have d3 := decide_eq_false c3
              simp (decide := true) only [B_law_spoilt_v3, Fn.evT, List.getElem?_cons_zero, List.getElem?_cons_succ, List.set_cons_zero, List.set_cons_succ, List.length_cons, List.length_nil, Nat.reduceAdd, Nat.reduceLT, Bool.not_true, Bool.not_false, Nat.reduceLeDiff, Int.cast_ofNat_Int, Int.natCast_zero, Int.natCast_one, Int.reduceEq, eq_self, Int.reduceLE, Int.reduceLT, Int.reduceNeg, Int.reduceToNat, Int.toNat_natCast, Int.reduceAdd, Int.reduceSub, Int.reduceMul, Nat.reduceMul, Nat.reduceSub, decide_true, decide_false, Bool.true_and, Bool.false_and, Bool.and_true, Bool.true_or, Bool.false_or, Bool.or_false, not_true_eq_false, not_false_eq_true, if_true, if_false, Bool.false_eq_true, reduceCtorEq, bt, i0, i1, m7, d0, d1, d2, d3, d4, nJ, nT, lJn, m1, s1, Bool.not_false, Bool.not_true]
end P
namespace P
open PySem PySem.Spec PyProof.Rows L2 Fn
theorem gd_of {d : D} (f : fit 6 d = true) (h : ∀ t js ls, d ≠ .tup [t, .tup js, .tup ls]) : Gd d := ⟨f, fun t js ls e => absurd e (h t js ls)⟩
theorem q_fit : ∀ k : Nat, k < 4 → fit 1 (.str (repS "q" ((k : Int) + 1))) = true := by decide +kernel
theorem a_fit : ∀ k : Nat, k < 4 → fit 1 (.str (("a" : Str) ++ cutS "bcdefgh" none (some (k : Int)))) = true := by decide +kernel
theorem edges_spec : ∃ L : List D, (∀ d ∈ L, Gd d) ∧ L.length ≤ 20 ∧ E_law_edges.F [] = .ok (.own (.l L)) := by
  have r4 : rgZ [.dat (.int 4)] = .ok ((List.range 4).map fun (i : Nat) => D.int i) := rg1 (k := 4) (by decide) (by decide)
  obtain ⟨T, hT, lT, fT, iT⟩ : ∃ T : List D, compD (.one 5) yesF (callF tupB (consA (bin2 addB (litS "a") (slcV (litS "bcdefgh") noP (atP (varB 5)))) (consA (litI 1) (consA (litI 0) nilA)))) [none, none, none, none, none, none, none] ((List.range 4).map fun (i : Nat) => D.int i) = .ok (.own (.l T)) ∧ T.length = 4 ∧ (∀ d ∈ T, fit 2 d = true) ∧ ∀ d ∈ T, ∃ x, idxB (.dat d) (.dat (.int 0)) = .ok (.dat x) ∧ fit 1 x = true := by
    refine ⟨_, compD_all (fun (k : Nat) => .tup [.str (("a" : Str) ++ cutS "bcdefgh" none (some (k : Int))), .int 1, .int 0]) (by rw [List.length_range]; exact le_sz (by decide)) (fun k hk => ?_), by rw [List.length_map, List.length_range], fun d hd => ?_, fun d hd => ?_⟩
    · have sl := slc_str (z := ("bcdefgh" : Str)) (lo := none) (hi := some (k : Int)) (by decide +kernel)
      have cl := (cutS_ok (x := ("bcdefgh" : Str)) (by decide +kernel) none (some (k : Int))).2
      rw [show ("bcdefgh" : Str).length = 7 from by decide +kernel] at cl
      have ca := cat_s (y := ("a" : Str)) (z := cutS "bcdefgh" none (some (k : Int))) (by rw [show ("a" : Str).length = 1 from by decide +kernel]; omega)
      simp only [Fn.evT, List.getElem?_cons_zero, List.getElem?_cons_succ, List.set_cons_zero, List.set_cons_succ, List.length_cons, List.length_nil, Nat.reduceAdd, Nat.reduceLT, Bool.not_true, Bool.not_false, Nat.reduceLeDiff, Int.cast_ofNat_Int, Int.natCast_zero, Int.natCast_one, Int.reduceEq, eq_self, Int.reduceLE, Int.reduceLT, Int.reduceNeg, Int.reduceToNat, Int.toNat_natCast, Int.reduceAdd, Int.reduceSub, Int.reduceMul, Nat.reduceMul, Nat.reduceSub, decide_true, decide_false, Bool.true_and, Bool.false_and, Bool.and_true, Bool.true_or, Bool.false_or, Bool.or_false, not_true_eq_false, not_false_eq_true, if_true, if_false, Bool.false_eq_true, reduceCtorEq, Fn.evS, Option.toList, List.nil_append, List.cons_append, sl, ca]
    · obtain ⟨k, hk, rfl⟩ := List.mem_map.mp hd
      exact fit_t (by show 3 ≤ 1000; decide) (all_cons_ (a_fit k (List.mem_range.mp hk)) (all_cons_ rfl (all_cons_ rfl all_nil_)))
    · obtain ⟨k, hk, rfl⟩ := List.mem_map.mp hd
      exact ⟨_, idx_tup rfl, a_fit k (List.mem_range.mp hk)⟩
  obtain ⟨W, hW, lW, fW⟩ : ∃ W : List D, (∀ r1 r2 r3 r4 r5 : Option Fn.B, compD (.one 6) yesF (bin2 idxB (varB 6) (litI 0)) [some (.dat (.tup T)), r1, r2, r3, r4, r5, none] T = .ok (.own (.l W))) ∧ W.length = 4 ∧ ∀ d ∈ W, fit 1 d = true := by
    let f : D → D := fun d => match idxB (.dat d) (.dat (.int 0)) with
      | .ok (.dat x) => x
      | _ => .non
    have hf : ∀ d ∈ T, idxB (.dat d) (.dat (.int 0)) = .ok (.dat (f d)) ∧ fit 1 (f d) = true := fun d hd => by
      obtain ⟨x, e, fx⟩ := iT d hd
      have : f d = x := by
        show (match idxB (.dat d) (.dat (.int 0)) with | .ok (.dat x) => x | _ => .non) = x
        rw [e]
      rw [this]
      exact ⟨e, fx⟩
    refine ⟨T.map f, fun r1 r2 r3 r4 r5 => compD_D (h := f) (le_sz (by omega)) (fun d hd => ?_), by rw [List.length_map, lT], fun d hd => ?_⟩
    · have e := (hf d hd).1
      simp only [Fn.evT, List.getElem?_cons_zero, List.getElem?_cons_succ, List.set_cons_zero, List.set_cons_succ, List.length_cons, List.length_nil, Nat.reduceAdd, Nat.reduceLT, Bool.not_true, Bool.not_false, Nat.reduceLeDiff, Int.cast_ofNat_Int, Int.natCast_zero, Int.natCast_one, Int.reduceEq, eq_self, Int.reduceLE, Int.reduceLT, Int.reduceNeg, Int.reduceToNat, Int.toNat_natCast, Int.reduceAdd, Int.reduceSub, Int.reduceMul, Nat.reduceMul, Nat.reduceSub, decide_true, decide_false, Bool.true_and, Bool.false_and, Bool.and_true, Bool.true_or, Bool.false_or, Bool.or_false, not_true_eq_false, not_false_eq_true, if_true, if_false, Bool.false_eq_true, reduceCtorEq, Fn.evS, Option.toList, List.nil_append, List.cons_append, e]
    · obtain ⟨e, he, rfl⟩ := List.mem_map.mp hd
      exact (hf e he).2
  have tW : fit 2 (.tup W) = true := fit_t (by omega) fW
  obtain ⟨J, hJ, lJ, fJ⟩ : ∃ J : List D, (∀ r2 r3 r4 : Option Fn.B, compD (.one 5) yesF (callF tupB (consA (bin2 mulB (litS "q") (bin2 addB (varB 5) (litI 1))) (consA (litI 1) (consA (litI 1) (consA (varB 1) nilA))))) [some (.dat (.tup T)), some (.dat (.tup W)), r2, r3, r4, none, none] ((List.range 4).map fun (i : Nat) => D.int i) = .ok (.own (.l J))) ∧ J.length = 4 ∧ ∀ d ∈ J, fit 3 d = true := by
    refine ⟨_, fun r2 r3 r4 => compD_all (fun (k : Nat) => .tup [.str (repS "q" ((k : Int) + 1)), .int 1, .int 1, .tup W]) (by rw [List.length_range]; exact le_sz (by decide)) (fun k hk => ?_), by rw [List.length_map, List.length_range], fun d hd => ?_⟩
    · have hk' : k < 4 := List.mem_range.mp hk
      have mu : mulB (.dat (.str "q")) (.dat (.int ((k : Int) + 1))) = .ok (.dat (.str (repS "q" ((k : Int) + 1)))) := by
        show (if -1000 ≤ ((k : Int) + 1) ∧ ((k : Int) + 1) ≤ 1000 ∧ ("q" : Str).length ≤ 1000 then (.ok (.dat (.str (repS "q" ((k : Int) + 1)))) : Res B) else .bad) = _
        exact if_pos ⟨by omega, by omega, by decide +kernel⟩
      haveI : ISz (k : Int) 12 := isz_of (by omega) (by omega)
      simp only [Fn.evT, List.getElem?_cons_zero, List.getElem?_cons_succ, List.set_cons_zero, List.set_cons_succ, List.length_cons, List.length_nil, Nat.reduceAdd, Nat.reduceLT, Bool.not_true, Bool.not_false, Nat.reduceLeDiff, Int.cast_ofNat_Int, Int.natCast_zero, Int.natCast_one, Int.reduceEq, eq_self, Int.reduceLE, Int.reduceLT, Int.reduceNeg, Int.reduceToNat, Int.toNat_natCast, Int.reduceAdd, Int.reduceSub, Int.reduceMul, Nat.reduceMul, Nat.reduceSub, decide_true, decide_false, Bool.true_and, Bool.false_and, Bool.and_true, Bool.true_or, Bool.false_or, Bool.or_false, not_true_eq_false, not_false_eq_true, if_true, if_false, Bool.false_eq_true, reduceCtorEq, Fn.evS, Option.toList, List.nil_append, List.cons_append, mu]
    · obtain ⟨k, hk, rfl⟩ := List.mem_map.mp hd
      exact fit_t (by show 4 ≤ 1000; decide) (all_cons_ (fit_up (q_fit k (List.mem_range.mp hk))) (all_cons_ rfl (all_cons_ rfl (all_cons_ tW all_nil_))))
  have sJ3 := slc_tup (ds := J) (lo := none) (hi := some 3)
  have sJ1 := slc_tup (ds := J) (lo := none) (hi := some 1)
  have sJ2 := slc_tup (ds := J) (lo := none) (hi := some 2)
  have sT1 := slc_tup (ds := T) (lo := none) (hi := some 1)
  have sW1 := slc_tup (ds := W) (lo := some 1) (hi := none)
  have cJ : ∀ lo hi, (cutL J lo hi).length ≤ 4 ∧ ∀ d ∈ cutL J lo hi, fit 4 d = true := fun lo hi => ⟨Nat.le_trans cut_len_ (by omega), fun d hd => fit_up (fJ d (cut_mem d hd))⟩
  have cT : ∀ lo hi, (cutL T lo hi).length ≤ 4 ∧ ∀ d ∈ cutL T lo hi, fit 4 d = true := fun lo hi => ⟨Nat.le_trans cut_len_ (by omega), fun d hd => fit_up (fit_up (fT d (cut_mem d hd)))⟩
  have cW : (cutL W (some 1) none).length ≤ 4 ∧ ∀ d ∈ cutL W (some 1) none, fit 1 d = true := ⟨Nat.le_trans cut_len_ (by omega), fun d hd => fW d (cut_mem d hd)⟩
  obtain ⟨lJ3, fJ3⟩ := cJ none (some 3)
  obtain ⟨lJ1, fJ1⟩ := cJ none (some 1)
  obtain ⟨lJ2, fJ2⟩ := cJ none (some 2)
  obtain ⟨lT1, fT1⟩ := cT none (some 1)
  generalize cutL J none (some 3) = J3 at *
  generalize cutL J none (some 1) = J1 at *
  generalize cutL J none (some 2) = J2 at *
  generalize cutL T none (some 1) = T1 at *
  obtain ⟨lW1, fW1⟩ := cW
  generalize cutL W (some 1) none = W1 at *
  have fJ' : ∀ d ∈ J, fit 4 d = true := fun d hd => fit_up (fJ d hd)
  have fT' : ∀ d ∈ T, fit 4 d = true := fun d hd => fit_up (fit_up (fT d hd))
  have fq : fit 4 (.tup [.str "qqqq", .int 1, .int 1, .tup W1]) = true := fit_t (by show 4 ≤ 1000; decide) (all_cons_ (by decide +kernel) (all_cons_ rfl (all_cons_ rfl (all_cons_ (fit_t (by omega) fun d hd => fit_up (fW1 d hd)) all_nil_))))
  have fb : fit 4 (.tup [.str "b", .int 1, .int 0]) = true := by decide +kernel
  have cWb := cat_t (ds := W) (es := [.str "b"]) (by show _ + 1 ≤ 1000; omega)
  have fq3 : fit 4 (.tup [.str "qqq", .int 1, .int 1, .tup (W ++ [.str "b"])]) = true := fit_t (by show 4 ≤ 1000; decide) (all_cons_ (by decide +kernel) (all_cons_ rfl (all_cons_ rfl (all_cons_ (fit_t (by rw [List.length_append]; show _ + 1 ≤ 1000; omega) (all_app_ (fun d hd => fit_up (fW d hd)) (all_cons_ (by decide +kernel) all_nil_))) all_nil_))))
  have a1 := cat_t (ds := J3) (es := [.tup [.str "qqqq", .int 1, .int 1, .tup W1]]) (by show _ + 1 ≤ 1000; omega)
  have a2 := cat_t (ds := T) (es := [.tup [.str "b", .int 1, .int 0]]) (by show _ + 1 ≤ 1000; omega)
  have a3 := cat_t (ds := T) (es := T1) (by omega)
  have a4 := cat_t (ds := J2) (es := [.tup [.str "qqq", .int 1, .int 1, .tup (W ++ [.str "b"])]]) (by show _ + 1 ≤ 1000; omega)
  have G1 : Gd (.tup [.int 9, .tup J, .tup T]) := gd3 rfl fJ' (by omega) fT' (by omega)
  have G2 : Gd (.tup [.int 9, .tup (J3 ++ [.tup [.str "qqqq", .int 1, .int 1, .tup W1]]), .tup T]) := gd3 rfl (all_app_ fJ3 (all_cons_ fq all_nil_)) (by rw [List.length_append]; show _ + 1 ≤ 400; omega) fT' (by omega)
  have fTb : ∀ d ∈ T ++ [D.tup [.str "b", .int 1, .int 0]], fit 4 d = true := all_app_ fT' (all_cons_ fb all_nil_)
  have lTb : (T ++ [D.tup [.str "b", .int 1, .int 0]]).length ≤ 400 := by rw [List.length_append]; show _ + 1 ≤ 400; omega
  have G3 : Gd (.tup [.int 9, .tup J, .tup (T ++ [.tup [.str "b", .int 1, .int 0]])]) := gd3 rfl fJ' (by omega) fTb lTb
  have G4 : Gd (.tup [.int 9, .tup [], .tup T]) := gd3 rfl all_nil_ (by decide) fT' (by omega)
  have G5 : Gd (.tup [.int 9, .tup J1, .tup (T ++ T1)]) := gd3 rfl fJ1 (by omega) (all_app_ fT' fT1) (by rw [List.length_append]; omega)
  have G6 : Gd (.tup [.int 9, .tup (J2 ++ [.tup [.str "qqq", .int 1, .int 1, .tup (W ++ [.str "b"])]]), .tup (T ++ [.tup [.str "b", .int 1, .int 0]])]) := gd3 rfl (all_app_ fJ2 (all_cons_ fq3 all_nil_)) (by rw [List.length_append]; show _ + 1 ≤ 400; omega) fTb lTb
  have G7 : Gd (.tup [.int 9, .tup J3, .tup (T ++ [.tup [.str "b", .int 1, .int 0]])]) := gd3 rfl fJ3 (by omega) fTb lTb
  have G8 : Gd (.tup [.int 1, .tup [.tup [.str "x", .int 99, .int 99, .tup [.str "y"]]], .tup [.tup [.str "y", .int 99, .int 99]]]) := gd3 rfl (all_cons_ (by decide +kernel) all_nil_) (by decide) (all_cons_ (by decide +kernel) all_nil_) (by decide)
  have G9 : Gd (.tup [.int 9, .tup [], .tup [.tup [.str "y", .int 891, .int 99]]]) := gd3 rfl all_nil_ (by decide) (all_cons_ (by decide +kernel) all_nil_) (by decide)
  have G10 : Gd .non := gd_of rfl fun _ _ _ e => by cases e
  generalize T ++ [D.tup [.str "b", .int 1, .int 0]] = T5 at *
  generalize J2 ++ [D.tup [.str "qqq", .int 1, .int 1, .tup (W ++ [D.str "b"])]] = J5 at *
  generalize J3 ++ [D.tup [.str "qqqq", .int 1, .int 1, .tup W1]] = J6 at *
  generalize T ++ T1 = T6 at *
  obtain ⟨L1, c1, l1, g1⟩ : ∃ Q, addB (.vw (.l [D.tup [.int 9, .tup J, .tup T], .tup [.int 9, .tup J6, .tup T]])) (.dat (.lst [D.tup [.int 9, .tup J, .tup T5], .tup [.int 9, .tup [], .tup T], .tup [.int 9, .tup J1, .tup T6]])) = .ok (.own (.l Q)) ∧ Q.length = 5 ∧ ∀ d ∈ Q, Gd d := ⟨_, cat_v (by show 2 + 3 ≤ 1000; decide), rfl, all_app_ (all_cons_ G1 (all_cons_ G2 all_nil_)) (all_cons_ G3 (all_cons_ G4 (all_cons_ G5 all_nil_)))⟩
  have ap : L1.length < 1000 := by omega
  obtain ⟨L2, c2, l2, g2⟩ : ∃ Q, addB (.dat (.lst (L1 ++ [.tup [.int 9, .tup J5, .tup T5]]))) (.dat (.lst [D.tup [.int 9, .tup J3, .tup T5], .tup [.int 1, .tup [.tup [.str "x", .int 99, .int 99, .tup [.str "y"]]], .tup [.tup [.str "y", .int 99, .int 99]]]])) = .ok (.own (.l Q)) ∧ Q.length = 8 ∧ ∀ d ∈ Q, Gd d := ⟨_, cat_l (by rw [List.length_append, l1]; show 5 + 1 + 2 ≤ 1000; decide), by rw [List.length_append, List.length_append, l1]; rfl, all_app_ (all_app_ g1 (all_cons_ G6 all_nil_)) (all_cons_ G7 (all_cons_ G8 all_nil_))⟩
  obtain ⟨L3, c3, l3, g3⟩ : ∃ Q, addB (.vw (.l L2)) (.dat (.lst [D.tup [.int 9, .tup [], .tup [.tup [.str "y", .int 891, .int 99]]], .non])) = .ok (.own (.l Q)) ∧ Q.length = 10 ∧ ∀ d ∈ Q, Gd d := ⟨_, cat_v (by rw [l2]; show 8 + 2 ≤ 1000; decide), by rw [List.length_append, l2]; rfl, all_app_ g2 (all_cons_ G9 (all_cons_ G10 all_nil_))⟩
  refine ⟨L3, g3, by omega, ?_⟩
  rw [d_law_edges (by rfl)]
  simp (decide := true) only [B_law_edges, Fn.evT, List.getElem?_cons_zero, List.getElem?_cons_succ, List.set_cons_zero, List.set_cons_succ, List.length_cons, List.length_nil, Nat.reduceAdd, Nat.reduceLT, Bool.not_true, Bool.not_false, Nat.reduceLeDiff, Int.cast_ofNat_Int, Int.natCast_zero, Int.natCast_one, Int.reduceEq, eq_self, Int.reduceLE, Int.reduceLT, Int.reduceNeg, Int.reduceToNat, Int.toNat_natCast, Int.reduceAdd, Int.reduceSub, Int.reduceMul, Nat.reduceMul, Nat.reduceSub, decide_true, decide_false, Bool.true_and, Bool.false_and, Bool.and_true, Bool.true_or, Bool.false_or, Bool.or_false, not_true_eq_false, not_false_eq_true, if_true, if_false, Bool.false_eq_true, reduceCtorEq, r4, hT, frzM, hW, hJ, sJ3, sJ1, sJ2, sT1, sW1, a1, a2, a3, cWb, a4, c1, ap, c2, c3]
theorem things_turn (sc : List Int) (k : Nat) (hk : k < 8) {L : List D} (hL : L.length ≤ 100) (gL : ∀ d ∈ L, Gd d) : ∃ L' : List D, L'.length ≤ L.length + 3 ∧ (∀ d ∈ L', Gd d) ∧ ∀ r5 r6 : Option Fn.B, B_law_1 [some (.scr sc), some (.dat (.lst L)), some (.dat (.int (k : Nat))), none, none, r5, r6] = .nx [some (.scr sc), some (.dat (.lst L')), none, none, none, r5, r6] := by
  obtain ⟨top, js, ls, h, eh⟩ := house_spec sc k (by omega)
  obtain ⟨c, hc⟩ := cell_spec sc (k : Int) (by omega) (by omega)
  obtain ⟨xs, hx, _, hn⟩ := numbers_spec c 24 (by decide) (by decide)
  have sl1 : sliceB (.dat (.lst (xs.map .int))) (some 16) none = .ok (.own (.l ((xs.drop 16).map .int))) := by
    rw [slc_l, cut_drop (by decide), List.map_drop]
    rfl
  have sl2 : sliceB (.dat (.lst ((xs.drop 16).map .int))) (some 3) none = .ok (.own (.l (((xs.drop 16).drop 3).map .int))) := by
    rw [slc_l, cut_drop (by decide)]
    show Res.ok (B.own (M.l (((xs.drop 16).map D.int).drop 3))) = _
    rw [← List.map_drop]
  obtain ⟨d1, g1, e1⟩ := spoilt_spec h (xs := xs.drop 16) (by rw [List.length_drop]; omega)
  obtain ⟨d2, g2, e2⟩ := spoilt_spec h (xs := (xs.drop 16).drop 3) (by rw [List.length_drop, List.length_drop]; omega)
  have gh : Gd (houseD top js ls) := gd3 rfl (all_map_ fun j hj => row_fit (jb_row h hj)) (by rw [List.length_map]; have := h.le; omega) (all_map_ fun t ht => row_fit (tl_row h ht)) (by rw [List.length_map]; have := h.le; omega)
  obtain ⟨Q, cQ, Ql, Qf⟩ : ∃ Q, addB (.dat (.lst L)) (.dat (.lst [houseD top js ls, d1, d2])) = .ok (.own (.l Q)) ∧ Q.length = L.length + 3 ∧ ∀ d ∈ Q, Gd d := ⟨_, cat_l (by show _ + 3 ≤ 1000; omega), by rw [List.length_append]; rfl, all_app_ gL (all_cons_ gh (all_cons_ g1 (all_cons_ g2 all_nil_)))⟩
  refine ⟨Q, by omega, Qf, fun r5 r6 => ?_⟩
  generalize houseD top js ls = H at *
  simp only [B_law_1, Fn.evT, List.getElem?_cons_zero, List.getElem?_cons_succ, List.set_cons_zero, List.set_cons_succ, List.length_cons, List.length_nil, Nat.reduceAdd, Nat.reduceLT, Bool.not_true, Bool.not_false, Nat.reduceLeDiff, Int.cast_ofNat_Int, Int.natCast_zero, Int.natCast_one, Int.reduceEq, eq_self, Int.reduceLE, Int.reduceLT, Int.reduceNeg, Int.reduceToNat, Int.toNat_natCast, Int.reduceAdd, Int.reduceSub, Int.reduceMul, Nat.reduceMul, Nat.reduceSub, decide_true, decide_false, Bool.true_and, Bool.false_and, Bool.and_true, Bool.true_or, Bool.false_or, Bool.or_false, not_true_eq_false, not_false_eq_true, if_true, if_false, Bool.false_eq_true, reduceCtorEq, c_law_house_v2, eh, c_law_cell, hc, c_law_numbers, hn, sl1, c_law_spoilt_v3, e1, sl2, e2, cQ]
theorem thing_turn {d : D} (g : Gd d) (r0 r1 r2 r3 r4 : Option Fn.B) : B_law_2 [r0, r1, r2, r3, r4, some (.dat d), none] = .nx [r0, r1, r2, r3, r4, none, none] := by
  have e1 := house_specD d g.1
  have e2 := due_specD d g.1 g.2
  have ib : isiB .bool (.dat (.bl (hsB d))) = .ok (.dat (.bl true)) := (rfl)
  have ne : neB (.dat (.bl (hsB d))) (.dat (.bl (hsB d))) = .ok (.dat (.bl false)) := by cases hsB d <;> rfl
  simp only [B_law_2, Fn.evT, List.getElem?_cons_zero, List.getElem?_cons_succ, List.set_cons_zero, List.set_cons_succ, List.length_cons, List.length_nil, Nat.reduceAdd, Nat.reduceLT, Bool.not_true, Bool.not_false, Nat.reduceLeDiff, Int.cast_ofNat_Int, Int.natCast_zero, Int.natCast_one, Int.reduceEq, eq_self, Int.reduceLE, Int.reduceLT, Int.reduceNeg, Int.reduceToNat, Int.toNat_natCast, Int.reduceAdd, Int.reduceSub, Int.reduceMul, Nat.reduceMul, Nat.reduceSub, decide_true, decide_false, Bool.true_and, Bool.false_and, Bool.and_true, Bool.true_or, Bool.false_or, Bool.or_false, not_true_eq_false, not_false_eq_true, if_true, if_false, Bool.false_eq_true, reduceCtorEq, c_is_house, e1, ib, c_law_due_v14, e2, ne]
theorem main (sc : List Int) (hsc : sc.length ≤ 63) : E_law.F [.scr sc] = .ok (.dat (.bl true)) := by
  rw [d_law (by rfl)]
  obtain ⟨L, gL, lL, eL⟩ := edges_spec
  obtain ⟨n, hn, e⟩ : ∃ n : Nat, n ≤ 8 ∧ maxF [.dat (.int 1), .dat (.int (min (sc.length : Int) 8))] = .ok (.dat (.int (n : Int))) := by
    refine ⟨(max 1 (min (sc.length : Int) 8)).toNat, by omega, ?_⟩
    rw [max_ii]
    congr 4
    omega
  have rg := rg1 (k := (n : Int)) (by omega) (by omega)
  rw [Int.toNat_natCast] at rg
  obtain ⟨Q, cQ, Ql, Qf⟩ : ∃ Q, addB (.dat (.lst L)) (.dat (.lst [D.str "", .int 7, .tup [], .tup [.int 1], .lst [], .dk []])) = .ok (.own (.l Q)) ∧ Q.length ≤ 26 ∧ ∀ d ∈ Q, Gd d := ⟨_, cat_l (by show _ + 6 ≤ 1000; omega), by rw [List.length_append]; show _ + 6 ≤ 26; omega, all_app_ gL (all_cons_ (gd_of (by decide +kernel) fun _ _ _ e => by cases e) (all_cons_ (gd_of rfl fun _ _ _ e => by cases e) (all_cons_ (gd_of rfl fun _ _ _ e => by cases e) (all_cons_ (gd_of (by decide +kernel) fun _ _ _ e => by cases e) (all_cons_ (gd_of rfl fun _ _ _ e => by cases e) (all_cons_ (gd_of rfl fun _ _ _ e => by cases e) all_nil_))))))⟩
  obtain ⟨ρ', lp, X, rfl, lX, gX⟩ := loop_inv (tg := .one 2) (f := B_law_1) (e := fun (i : Nat) => D.int i) (as := List.range n) (fun as ρ => ∃ X : List D, ρ = [some (.scr sc), some (.dat (.lst X)), none, none, none, none, none] ∧ X.length + 3 * as.length ≤ 26 + 24 ∧ (∀ d ∈ X, Gd d) ∧ ∀ k ∈ as, k < 8)
    (ρ := [some (.scr sc), some (.dat (.lst Q)), none, none, none, none, none]) ⟨Q, rfl, by rw [List.length_range]; omega, Qf, fun k hk => by have := List.mem_range.mp hk; omega⟩ (by
    rintro k as ρ ⟨X, rfl, lX, gX, hk⟩
    rw [List.length_cons] at lX
    obtain ⟨X', l', g', e'⟩ := things_turn sc k (hk k List.mem_cons_self) (L := X) (by omega) gX
    exact ⟨_, _, bt_one, .inl (e' none none), X', rfl, by omega, g', fun j hj => hk j (List.mem_cons_of_mem _ hj)⟩)
  have lp2 : loopF (.one 5) B_law_2 X [some (.scr sc), some (.dat (.lst X)), none, none, none, none, none] = .nx [some (.scr sc), some (.dat (.lst X)), none, none, none, none, none] :=
    loop_sameD fun d hd => ⟨_, bt_one, .inl (thing_turn (gX.1 d hd) _ _ _ _ _)⟩
  simp only [B_law, Fn.evT, List.getElem?_cons_zero, List.getElem?_cons_succ, List.set_cons_zero, List.set_cons_succ, List.length_cons, List.length_nil, Nat.reduceAdd, Nat.reduceLT, Bool.not_true, Bool.not_false, Nat.reduceLeDiff, Int.cast_ofNat_Int, Int.natCast_zero, Int.natCast_one, Int.reduceEq, eq_self, Int.reduceLE, Int.reduceLT, Int.reduceNeg, Int.reduceToNat, Int.toNat_natCast, Int.reduceAdd, Int.reduceSub, Int.reduceMul, Nat.reduceMul, Nat.reduceSub, decide_true, decide_false, Bool.true_and, Bool.false_and, Bool.and_true, Bool.true_or, Bool.false_or, Bool.or_false, not_true_eq_false, not_false_eq_true, if_true, if_false, Bool.false_eq_true, reduceCtorEq, c_law_edges, eL, cQ, e, rg, lp, lp2]
end P
namespace P
open PySem L2 Fn
theorem all_mk {l : PySem.W.OpenLaw} {w : World} {K : PySem.W.Frag} {h : Heap} {mg : Str → Option Value} {fa : Addr} (X : K.In h) (G : h.Ns mainGlobals mg) (hfa : mg "law" = some (.ref fa))
    {od0 an0 : Option Addr} {sl0 : Array (Option Value)} {oc0 kV0 dc0 pm0 cd0 ct0 : Value} {f0 : Addr}
    {od1 an1 : Option Addr} {sl1 : Array (Option Value)} {oc1 kV1 dc1 pm1 cd1 ct1 : Value} {f1 : Addr}
    {od2 an2 : Option Addr} {sl2 : Array (Option Value)} {oc2 kV2 dc2 pm2 cd2 ct2 : Value} {f2 : Addr}
    {od3 an3 : Option Addr} {sl3 : Array (Option Value)} {oc3 kV3 dc3 pm3 cd3 ct3 : Value} {f3 : Addr}
    {od4 an4 : Option Addr} {sl4 : Array (Option Value)} {oc4 kV4 dc4 pm4 cd4 ct4 : Value} {f4 : Addr}
    {od5 an5 : Option Addr} {sl5 : Array (Option Value)} {oc5 kV5 dc5 pm5 cd5 ct5 : Value} {f5 : Addr}
    {od6 an6 : Option Addr} {sl6 : Array (Option Value)} {oc6 kV6 dc6 pm6 cd6 ct6 : Value} {f6 : Addr}
    {od7 an7 : Option Addr} {sl7 : Array (Option Value)} {oc7 kV7 dc7 pm7 cd7 ct7 : Value} {f7 : Addr}
    {od8 an8 : Option Addr} {sl8 : Array (Option Value)} {oc8 kV8 dc8 pm8 cd8 ct8 : Value} {f8 : Addr}
    {od9 an9 : Option Addr} {sl9 : Array (Option Value)} {oc9 kV9 dc9 pm9 cd9 ct9 : Value} {f9 : Addr}
    {od10 an10 : Option Addr} {sl10 : Array (Option Value)} {oc10 kV10 dc10 pm10 cd10 ct10 : Value} {f10 : Addr}
    {od11 an11 : Option Addr} {sl11 : Array (Option Value)} {oc11 kV11 dc11 pm11 cd11 ct11 : Value} {f11 : Addr}
    {od12 an12 : Option Addr} {sl12 : Array (Option Value)} {oc12 kV12 dc12 pm12 cd12 ct12 : Value} {f12 : Addr}
    {od13 an13 : Option Addr} {sl13 : Array (Option Value)} {oc13 kV13 dc13 pm13 cd13 ct13 : Value} {f13 : Addr}
    {od14 an14 : Option Addr} {sl14 : Array (Option Value)} {oc14 kV14 dc14 pm14 cd14 ct14 : Value} {f14 : Addr}
    {od15 an15 : Option Addr} {sl15 : Array (Option Value)} {oc15 kV15 dc15 pm15 cd15 ct15 : Value} {f15 : Addr}
    {od16 an16 : Option Addr} {sl16 : Array (Option Value)} {oc16 kV16 dc16 pm16 cd16 ct16 : Value} {f16 : Addr}
    {od17 an17 : Option Addr} {sl17 : Array (Option Value)} {oc17 kV17 dc17 pm17 cd17 ct17 : Value} {f17 : Addr}
    {od18 an18 : Option Addr} {sl18 : Array (Option Value)} {oc18 kV18 dc18 pm18 cd18 ct18 : Value} {f18 : Addr}
    {od19 an19 : Option Addr} {sl19 : Array (Option Value)} {oc19 kV19 dc19 pm19 cd19 ct19 : Value} {f19 : Addr}
    {od20 an20 : Option Addr} {sl20 : Array (Option Value)} {oc20 kV20 dc20 pm20 cd20 ct20 : Value} {f20 : Addr}
    (a0 : PySem.W.nsIn K mainGlobals "_law_edges" = some (some (.ref f0))) (l0 : K.lookup f0 = some ⟨oc0, od0, .func (PySem.W.fnOf "_law_edges" "_law_edges" (defArgs S_law_edges) (defBody S_law_edges) (defScope S_law_edges) .none kV0 dc0 pm0 an0 cd0 ct0), sl0⟩) (c0 : PySem.W.codeIn K cd0 "_law_edges" = true) (k0 : PySem.W.keepIn K (.ref f0) = true)
    (a1 : PySem.W.nsIn K mainGlobals "_law_numbers" = some (some (.ref f1))) (l1 : K.lookup f1 = some ⟨oc1, od1, .func (PySem.W.fnOf "_law_numbers" "_law_numbers" (defArgs S_law_numbers) (defBody S_law_numbers) (defScope S_law_numbers) .none kV1 dc1 pm1 an1 cd1 ct1), sl1⟩) (c1 : PySem.W.codeIn K cd1 "_law_numbers" = true) (k1 : PySem.W.keepIn K (.ref f1) = true)
    (a2 : PySem.W.nsIn K mainGlobals "_law_cell" = some (some (.ref f2))) (l2 : K.lookup f2 = some ⟨oc2, od2, .func (PySem.W.fnOf "_law_cell" "_law_cell" (defArgs S_law_cell) (defBody S_law_cell) (defScope S_law_cell) .none kV2 dc2 pm2 an2 cd2 ct2), sl2⟩) (c2 : PySem.W.codeIn K cd2 "_law_cell" = true) (k2 : PySem.W.keepIn K (.ref f2) = true)
    (a3 : PySem.W.nsIn K mainGlobals "_law_names" = some (some (.ref f3))) (l3 : K.lookup f3 = some ⟨oc3, od3, .func (PySem.W.fnOf "_law_names" "_law_names" (defArgs S_law_names_v3) (defBody S_law_names_v3) (defScope S_law_names_v3) .none kV3 dc3 pm3 an3 cd3 ct3), sl3⟩) (c3 : PySem.W.codeIn K cd3 "_law_names" = true) (k3 : PySem.W.keepIn K (.ref f3) = true)
    (a4 : PySem.W.nsIn K mainGlobals "_law_house" = some (some (.ref f4))) (l4 : K.lookup f4 = some ⟨oc4, od4, .func (PySem.W.fnOf "_law_house" "_law_house" (defArgs S_law_house_v2) (defBody S_law_house_v2) (defScope S_law_house_v2) .none kV4 dc4 pm4 an4 cd4 ct4), sl4⟩) (c4 : PySem.W.codeIn K cd4 "_law_house" = true) (k4 : PySem.W.keepIn K (.ref f4) = true)
    (a5 : PySem.W.nsIn K mainGlobals "_law_sign" = some (some (.ref f5))) (l5 : K.lookup f5 = some ⟨oc5, od5, .func (PySem.W.fnOf "_law_sign" "_law_sign" (defArgs S_law_sign) (defBody S_law_sign) (defScope S_law_sign) .none kV5 dc5 pm5 an5 cd5 ct5), sl5⟩) (c5 : PySem.W.codeIn K cd5 "_law_sign" = true) (k5 : PySem.W.keepIn K (.ref f5) = true)
    (a6 : PySem.W.nsIn K mainGlobals "_law_put" = some (some (.ref f6))) (l6 : K.lookup f6 = some ⟨oc6, od6, .func (PySem.W.fnOf "_law_put" "_law_put" (defArgs S_law_put_v3) (defBody S_law_put_v3) (defScope S_law_put_v3) .none kV6 dc6 pm6 an6 cd6 ct6), sl6⟩) (c6 : PySem.W.codeIn K cd6 "_law_put" = true) (k6 : PySem.W.keepIn K (.ref f6) = true)
    (a7 : PySem.W.nsIn K mainGlobals "_law_spoilt_row" = some (some (.ref f7))) (l7 : K.lookup f7 = some ⟨oc7, od7, .func (PySem.W.fnOf "_law_spoilt_row" "_law_spoilt_row" (defArgs S_law_spoilt_row) (defBody S_law_spoilt_row) (defScope S_law_spoilt_row) .none kV7 dc7 pm7 an7 cd7 ct7), sl7⟩) (c7 : PySem.W.codeIn K cd7 "_law_spoilt_row" = true) (k7 : PySem.W.keepIn K (.ref f7) = true)
    (a8 : PySem.W.nsIn K mainGlobals "_law_spoilt" = some (some (.ref f8))) (l8 : K.lookup f8 = some ⟨oc8, od8, .func (PySem.W.fnOf "_law_spoilt" "_law_spoilt" (defArgs S_law_spoilt_v3) (defBody S_law_spoilt_v3) (defScope S_law_spoilt_v3) .none kV8 dc8 pm8 an8 cd8 ct8), sl8⟩) (c8 : PySem.W.codeIn K cd8 "_law_spoilt" = true) (k8 : PySem.W.keepIn K (.ref f8) = true)
    (a9 : PySem.W.nsIn K mainGlobals "is_whole" = some (some (.ref f9))) (l9 : K.lookup f9 = some ⟨oc9, od9, .func (PySem.W.fnOf "is_whole" "is_whole" (defArgs S_is_whole) (defBody S_is_whole) (defScope S_is_whole) .none kV9 dc9 pm9 an9 cd9 ct9), sl9⟩) (c9 : PySem.W.codeIn K cd9 "is_whole" = true) (k9 : PySem.W.keepIn K (.ref f9) = true)
    (a10 : PySem.W.nsIn K mainGlobals "is_within" = some (some (.ref f10))) (l10 : K.lookup f10 = some ⟨oc10, od10, .func (PySem.W.fnOf "is_within" "is_within" (defArgs S_is_within) (defBody S_is_within) (defScope S_is_within) .none kV10 dc10 pm10 an10 cd10 ct10), sl10⟩) (c10 : PySem.W.codeIn K cd10 "is_within" = true) (k10 : PySem.W.keepIn K (.ref f10) = true)
    (a11 : PySem.W.nsIn K mainGlobals "is_name" = some (some (.ref f11))) (l11 : K.lookup f11 = some ⟨oc11, od11, .func (PySem.W.fnOf "is_name" "is_name" (defArgs S_is_name) (defBody S_is_name) (defScope S_is_name) .none kV11 dc11 pm11 an11 cd11 ct11), sl11⟩) (c11 : PySem.W.codeIn K cd11 "is_name" = true) (k11 : PySem.W.keepIn K (.ref f11) = true)
    (a12 : PySem.W.nsIn K mainGlobals "is_tool" = some (some (.ref f12))) (l12 : K.lookup f12 = some ⟨oc12, od12, .func (PySem.W.fnOf "is_tool" "is_tool" (defArgs S_is_tool) (defBody S_is_tool) (defScope S_is_tool) .none kV12 dc12 pm12 an12 cd12 ct12), sl12⟩) (c12 : PySem.W.codeIn K cd12 "is_tool" = true) (k12 : PySem.W.keepIn K (.ref f12) = true)
    (a13 : PySem.W.nsIn K mainGlobals "is_rising" = some (some (.ref f13))) (l13 : K.lookup f13 = some ⟨oc13, od13, .func (PySem.W.fnOf "is_rising" "is_rising" (defArgs S_is_rising) (defBody S_is_rising) (defScope S_is_rising) .none kV13 dc13 pm13 an13 cd13 ct13), sl13⟩) (c13 : PySem.W.codeIn K cd13 "is_rising" = true) (k13 : PySem.W.keepIn K (.ref f13) = true)
    (a14 : PySem.W.nsIn K mainGlobals "is_job" = some (some (.ref f14))) (l14 : K.lookup f14 = some ⟨oc14, od14, .func (PySem.W.fnOf "is_job" "is_job" (defArgs S_is_job) (defBody S_is_job) (defScope S_is_job) .none kV14 dc14 pm14 an14 cd14 ct14), sl14⟩) (c14 : PySem.W.codeIn K cd14 "is_job" = true) (k14 : PySem.W.keepIn K (.ref f14) = true)
    (a15 : PySem.W.nsIn K mainGlobals "is_house" = some (some (.ref f15))) (l15 : K.lookup f15 = some ⟨oc15, od15, .func (PySem.W.fnOf "is_house" "is_house" (defArgs S_is_house) (defBody S_is_house) (defScope S_is_house) .none kV15 dc15 pm15 an15 cd15 ct15), sl15⟩) (c15 : PySem.W.codeIn K cd15 "is_house" = true) (k15 : PySem.W.keepIn K (.ref f15) = true)
    (a16 : PySem.W.nsIn K mainGlobals "_law_whole" = some (some (.ref f16))) (l16 : K.lookup f16 = some ⟨oc16, od16, .func (PySem.W.fnOf "_law_whole" "_law_whole" (defArgs S_law_whole_v2) (defBody S_law_whole_v2) (defScope S_law_whole_v2) .none kV16 dc16 pm16 an16 cd16 ct16), sl16⟩) (c16 : PySem.W.codeIn K cd16 "_law_whole" = true) (k16 : PySem.W.keepIn K (.ref f16) = true)
    (a17 : PySem.W.nsIn K mainGlobals "_law_name" = some (some (.ref f17))) (l17 : K.lookup f17 = some ⟨oc17, od17, .func (PySem.W.fnOf "_law_name" "_law_name" (defArgs S_law_name) (defBody S_law_name) (defScope S_law_name) .none kV17 dc17 pm17 an17 cd17 ct17), sl17⟩) (c17 : PySem.W.codeIn K cd17 "_law_name" = true) (k17 : PySem.W.keepIn K (.ref f17) = true)
    (a18 : PySem.W.nsIn K mainGlobals "_law_row" = some (some (.ref f18))) (l18 : K.lookup f18 = some ⟨oc18, od18, .func (PySem.W.fnOf "_law_row" "_law_row" (defArgs S_law_row_v1) (defBody S_law_row_v1) (defScope S_law_row_v1) .none kV18 dc18 pm18 an18 cd18 ct18), sl18⟩) (c18 : PySem.W.codeIn K cd18 "_law_row" = true) (k18 : PySem.W.keepIn K (.ref f18) = true)
    (a19 : PySem.W.nsIn K mainGlobals "_law_due" = some (some (.ref f19))) (l19 : K.lookup f19 = some ⟨oc19, od19, .func (PySem.W.fnOf "_law_due" "_law_due" (defArgs S_law_due_v14) (defBody S_law_due_v14) (defScope S_law_due_v14) .none kV19 dc19 pm19 an19 cd19 ct19), sl19⟩) (c19 : PySem.W.codeIn K cd19 "_law_due" = true) (k19 : PySem.W.keepIn K (.ref f19) = true)
    (a20 : PySem.W.nsIn K mainGlobals "law" = some (some (.ref f20))) (l20 : K.lookup f20 = some ⟨oc20, od20, .func (PySem.W.fnOf "law" "law" (defArgs S_law) (defBody S_law) (defScope S_law) .none kV20 dc20 pm20 an20 cd20 ct20), sl20⟩) (c20 : PySem.W.codeIn K cd20 "law" = true) (k20 : PySem.W.keepIn K (.ref f20) = true)
    (z0 : PySem.W.nsIn K mainGlobals "abs" = some none) (z1 : PySem.W.nsIn K mainGlobals "all" = some none) (z2 : PySem.W.nsIn K mainGlobals "any" = some none) (z3 : PySem.W.nsIn K mainGlobals "bool" = some none) (z4 : PySem.W.nsIn K mainGlobals "enumerate" = some none) (z5 : PySem.W.nsIn K mainGlobals "int" = some none) (z6 : PySem.W.nsIn K mainGlobals "isinstance" = some none) (z7 : PySem.W.nsIn K mainGlobals "len" = some none) (z8 : PySem.W.nsIn K mainGlobals "list" = some none) (z9 : PySem.W.nsIn K mainGlobals "max" = some none) (z10 : PySem.W.nsIn K mainGlobals "min" = some none) (z11 : PySem.W.nsIn K mainGlobals "range" = some none) (z12 : PySem.W.nsIn K mainGlobals "set" = some none) (z13 : PySem.W.nsIn K mainGlobals "sorted" = some none) (z14 : PySem.W.nsIn K mainGlobals "str" = some none) (z15 : PySem.W.nsIn K mainGlobals "sum" = some none) (z16 : PySem.W.nsIn K mainGlobals "tuple" = some none) {gt0 : Tok} {gt1 : Tok} {gt2 : Tok} (q0 : PySem.W.nsIn K mainGlobals "MOST_LETTERS" = some (some (.int 8 gt0))) (q1 : PySem.W.nsIn K mainGlobals "SMALL" = some (some (.str "abcdefghijklmnopqrstuvwxyz" gt1))) (q2 : PySem.W.nsIn K mainGlobals "MOST_WANTS" = some (some (.int 16 gt2)))
    (main : ∀ ns : List Int, ns.length ≤ 63 → E_law.F [.scr ns] = .ok (.dat (.bl true))) :
    ∃ fd : FuncData, (∀ (s : Shared) (v : Value), BindsTo s fd ⟨[v], []⟩ [("_law_script", v)]) ∧ ∀ base : Heap, K.In base → base.Ns mainGlobals mg → FnOk l.prog w K mg base (L2.CX l.prog w) 21 fa fd ["_law_script"] (spLaw K) := by
  have e := hfa.symm.trans (PySem.W.mg_of X G a20)
  cases e
  let fl : Nat → Option Addr := fun i => if i < 1000 then [f0, f1, f2, f3, f4, f5, f6, f7, f8, f9, f10, f11, f12, f13, f14, f15, f16, f17, f18, f19][i]? else [][i - 1000]?
  have hbi : ∀ b : Bt, b.bi = bt0.bi → b.cs = bt0.cs → BiOk K fl mg b := by
    intro b h1 h2
    refine ⟨fun x hx => ?_, fun p hp => ?_⟩
    · rw [h1] at hx
      simp only [bt0, List.mem_cons, List.not_mem_nil, or_false] at hx
      rcases hx with rfl | rfl | rfl | rfl | rfl | rfl | rfl | rfl | rfl | rfl | rfl | rfl | rfl | rfl | rfl | rfl | rfl
      · exact PySem.W.mg_none_of X G z0
      · exact PySem.W.mg_none_of X G z1
      · exact PySem.W.mg_none_of X G z2
      · exact PySem.W.mg_none_of X G z3
      · exact PySem.W.mg_none_of X G z4
      · exact PySem.W.mg_none_of X G z5
      · exact PySem.W.mg_none_of X G z6
      · exact PySem.W.mg_none_of X G z7
      · exact PySem.W.mg_none_of X G z8
      · exact PySem.W.mg_none_of X G z9
      · exact PySem.W.mg_none_of X G z10
      · exact PySem.W.mg_none_of X G z11
      · exact PySem.W.mg_none_of X G z12
      · exact PySem.W.mg_none_of X G z13
      · exact PySem.W.mg_none_of X G z14
      · exact PySem.W.mg_none_of X G z15
      · exact PySem.W.mg_none_of X G z16
    · rw [h2] at hp
      simp only [bt0, List.mem_cons, List.not_mem_nil, or_false] at hp
      rcases hp with rfl | rfl | rfl
      · exact ⟨.int 8, .int 8 gt0, PySem.W.mg_of X G q0, ⟨_, rfl⟩, fun F => .int _⟩
      · exact ⟨.str "abcdefghijklmnopqrstuvwxyz", .str "abcdefghijklmnopqrstuvwxyz" gt1, PySem.W.mg_of X G q1, ⟨_, rfl⟩, fun F => .str _⟩
      · exact ⟨.int 16, .int 16 gt2, PySem.W.mg_of X G q2, ⟨_, rfl⟩, fun F => .int _⟩
  have hex : ∀ b : Bt, b.ex = bt0.ex → b.rs = bt0.rs → ExOk K fl (clsOf fl) mg b := by
    intro b h1 h2
    refine ⟨fun c x h => ?_, fun c h => ?_, fun c h c2 D D2 hl e1 e2 => ?_⟩
    · rw [h1] at h
      match c, h with
      | c, h => cases h
    · rw [h2] at h
      cases h
    · rw [h2] at h
      rw [h1] at hl
      cases h
  refine ⟨PySem.W.fnOf "law" "law" (defArgs S_law) (defBody S_law) (defScope S_law) .none kV20 dc20 pm20 an20 cd20 ct20, fun s v => .of_eq rfl, fun base _ _ => ?_⟩
  have hh0 : HotOk l.prog w K mg base fl (clsOf fl) 0 [] := HotOk.nil
  have W0 : TabW l.prog w K mg base fl (clsOf fl) 0 T0 := TabW.nil
  have F0 := fun_mk (st := S_law_edges) l0 c0 k0
  have W1 : TabW l.prog w K mg base fl (clsOf fl) 1 T1 := W0.more (en := E_law_edges) F0 sc_law_edges (hbi bt rfl rfl) (hex bt rfl rfl) (hh0.mono (by decide)) rfl (fun X g C => ok_law_edges C) (PySem.W.mg_of X G a0) rfl (F0.binds (ps := []) fun _ _ _ _ _ _ us hl => match us, hl with | [], _ => rfl)
  have F1 := fun_mk (st := S_law_numbers) l1 c1 k1
  have W2 : TabW l.prog w K mg base fl (clsOf fl) 2 T2 := W1.more (en := E_law_numbers) F1 sc_law_numbers (hbi bt rfl rfl) (hex bt rfl rfl) (hh0.mono (by decide)) rfl (fun X g C => ok_law_numbers C) (PySem.W.mg_of X G a1) rfl (F1.binds (ps := ["_law_cell_here", "_law_many"]) fun _ _ _ _ _ _ us hl => match us, hl with | [_, _], _ => rfl)
  have F2 := fun_mk (st := S_law_cell) l2 c2 k2
  have W3 : TabW l.prog w K mg base fl (clsOf fl) 3 T3 := W2.more (en := E_law_cell) F2 sc_law_cell (hbi bt rfl rfl) (hex bt rfl rfl) (hh0.mono (by decide)) rfl (fun X g C => ok_law_cell C) (PySem.W.mg_of X G a2) rfl (F2.binds (ps := ["_law_script", "_law_k"]) fun _ _ _ _ _ _ us hl => match us, hl with | [_, _], _ => rfl)
  have F3 := fun_mk (st := S_law_names_v3) l3 c3 k3
  have W4 : TabW l.prog w K mg base fl (clsOf fl) 4 T4 := W3.more (en := E_law_names_v3) F3 sc_law_names_v3 (hbi bt rfl rfl) (hex bt rfl rfl) (hh0.mono (by decide)) rfl (fun X g C => ok_law_names_v3 C) (PySem.W.mg_of X G a3) rfl (F3.binds (ps := ["_law_xs", "_law_many"]) fun _ _ _ _ _ _ us hl => match us, hl with | [_, _], _ => rfl)
  have F4 := fun_mk (st := S_law_house_v2) l4 c4 k4
  have W5 : TabW l.prog w K mg base fl (clsOf fl) 5 T5 := W4.more (en := E_law_house_v2) F4 sc_law_house_v2 (hbi bt rfl rfl) (hex bt rfl rfl) (hh0.mono (by decide)) rfl (fun X g C => ok_law_house_v2 C) (PySem.W.mg_of X G a4) rfl (F4.binds (ps := ["_law_script", "_law_at"]) fun _ _ _ _ _ _ us hl => match us, hl with | [_, _], _ => rfl)
  have F5 := fun_mk (st := S_law_sign) l5 c5 k5
  have W6 : TabW l.prog w K mg base fl (clsOf fl) 6 T6 := W5.more (en := E_law_sign) F5 sc_law_sign (hbi bt rfl rfl) (hex bt rfl rfl) (hh0.mono (by decide)) rfl (fun X g C => ok_law_sign C) (PySem.W.mg_of X G a5) rfl (F5.binds (ps := ["_law_x"]) fun _ _ _ _ _ _ us hl => match us, hl with | [_], _ => rfl)
  have F6 := fun_mk (st := S_law_put_v3) l6 c6 k6
  have W7 : TabW l.prog w K mg base fl (clsOf fl) 7 T7 := W6.more (en := E_law_put_v3) F6 sc_law_put_v3 (hbi bt rfl rfl) (hex bt rfl rfl) (hh0.mono (by decide)) rfl (fun X g C => ok_law_put_v3 C) (PySem.W.mg_of X G a6) rfl (F6.binds (ps := ["_law_row_here", "_law_k", "_law_thing"]) fun _ _ _ _ _ _ us hl => match us, hl with | [_, _, _], _ => rfl)
  have F7 := fun_mk (st := S_law_spoilt_row) l7 c7 k7
  have W8 : TabW l.prog w K mg base fl (clsOf fl) 8 T8 := W7.more (en := E_law_spoilt_row) F7 sc_law_spoilt_row (hbi bt rfl rfl) (hex bt rfl rfl) (hh0.mono (by decide)) rfl (fun X g C => ok_law_spoilt_row C) (PySem.W.mg_of X G a7) rfl (F7.binds (ps := ["_law_row_here", "_law_xs", "_law_top", "_law_other"]) fun _ _ _ _ _ _ us hl => match us, hl with | [_, _, _, _], _ => rfl)
  have F8 := fun_mk (st := S_law_spoilt_v3) l8 c8 k8
  have W9 : TabW l.prog w K mg base fl (clsOf fl) 9 T9 := W8.more (en := E_law_spoilt_v3) F8 sc_law_spoilt_v3 (hbi bt rfl rfl) (hex bt rfl rfl) (hh0.mono (by decide)) rfl (fun X g C => ok_law_spoilt_v3 C) (PySem.W.mg_of X G a8) rfl (F8.binds (ps := ["_law_house_here", "_law_xs"]) fun _ _ _ _ _ _ us hl => match us, hl with | [_, _], _ => rfl)
  have F9 := fun_mk (st := S_is_whole) l9 c9 k9
  have W10 : TabW l.prog w K mg base fl (clsOf fl) 10 T10 := W9.more (en := E_is_whole) F9 sc_is_whole (hbi bt rfl rfl) (hex bt rfl rfl) (hh0.mono (by decide)) rfl (fun X g C => ok_is_whole C) (PySem.W.mg_of X G a9) rfl (F9.binds (ps := ["thing"]) fun _ _ _ _ _ _ us hl => match us, hl with | [_], _ => rfl)
  have F10 := fun_mk (st := S_is_within) l10 c10 k10
  have W11 : TabW l.prog w K mg base fl (clsOf fl) 11 T11 := W10.more (en := E_is_within) F10 sc_is_within (hbi bt rfl rfl) (hex bt rfl rfl) (hh0.mono (by decide)) rfl (fun X g C => ok_is_within C) (PySem.W.mg_of X G a10) rfl (F10.binds (ps := ["thing", "least", "most"]) fun _ _ _ _ _ _ us hl => match us, hl with | [_, _, _], _ => rfl)
  have F11 := fun_mk (st := S_is_name) l11 c11 k11
  have W12 : TabW l.prog w K mg base fl (clsOf fl) 12 T12 := W11.more (en := E_is_name) F11 sc_is_name (hbi bt rfl rfl) (hex bt rfl rfl) (hh0.mono (by decide)) rfl (fun X g C => ok_is_name C) (PySem.W.mg_of X G a11) rfl (F11.binds (ps := ["thing"]) fun _ _ _ _ _ _ us hl => match us, hl with | [_], _ => rfl)
  have F12 := fun_mk (st := S_is_tool) l12 c12 k12
  have W13 : TabW l.prog w K mg base fl (clsOf fl) 13 T13 := W12.more (en := E_is_tool) F12 sc_is_tool (hbi bt rfl rfl) (hex bt rfl rfl) (hh0.mono (by decide)) rfl (fun X g C => ok_is_tool C) (PySem.W.mg_of X G a12) rfl (F12.binds (ps := ["thing", "top"]) fun _ _ _ _ _ _ us hl => match us, hl with | [_, _], _ => rfl)
  have F13 := fun_mk (st := S_is_rising) l13 c13 k13
  have W14 : TabW l.prog w K mg base fl (clsOf fl) 14 T14 := W13.more (en := E_is_rising) F13 sc_is_rising (hbi bt rfl rfl) (hex bt rfl rfl) (hh0.mono (by decide)) rfl (fun X g C => ok_is_rising C) (PySem.W.mg_of X G a13) rfl (F13.binds (ps := ["things"]) fun _ _ _ _ _ _ us hl => match us, hl with | [_], _ => rfl)
  have F14 := fun_mk (st := S_is_job) l14 c14 k14
  have W15 : TabW l.prog w K mg base fl (clsOf fl) 15 T15 := W14.more (en := E_is_job) F14 sc_is_job (hbi bt rfl rfl) (hex bt rfl rfl) (hh0.mono (by decide)) rfl (fun X g C => ok_is_job C) (PySem.W.mg_of X G a14) rfl (F14.binds (ps := ["thing", "tools"]) fun _ _ _ _ _ _ us hl => match us, hl with | [_, _], _ => rfl)
  have F15 := fun_mk (st := S_is_house) l15 c15 k15
  have W16 : TabW l.prog w K mg base fl (clsOf fl) 16 T16 := W15.more (en := E_is_house) F15 sc_is_house (hbi bt rfl rfl) (hex bt rfl rfl) (hh0.mono (by decide)) rfl (fun X g C => ok_is_house C) (PySem.W.mg_of X G a15) rfl (F15.binds (ps := ["thing"]) fun _ _ _ _ _ _ us hl => match us, hl with | [_], _ => rfl)
  have F16 := fun_mk (st := S_law_whole_v2) l16 c16 k16
  have W17 : TabW l.prog w K mg base fl (clsOf fl) 17 T17 := W16.more (en := E_law_whole_v2) F16 sc_law_whole_v2 (hbi bt rfl rfl) (hex bt rfl rfl) (hh0.mono (by decide)) rfl (fun X g C => ok_law_whole_v2 C) (PySem.W.mg_of X G a16) rfl (F16.binds (ps := ["_law_thing", "_law_least", "_law_most"]) fun _ _ _ _ _ _ us hl => match us, hl with | [_, _, _], _ => rfl)
  have F17 := fun_mk (st := S_law_name) l17 c17 k17
  have W18 : TabW l.prog w K mg base fl (clsOf fl) 18 T18 := W17.more (en := E_law_name) F17 sc_law_name (hbi bt rfl rfl) (hex bt rfl rfl) (hh0.mono (by decide)) rfl (fun X g C => ok_law_name C) (PySem.W.mg_of X G a17) rfl (F17.binds (ps := ["_law_thing"]) fun _ _ _ _ _ _ us hl => match us, hl with | [_], _ => rfl)
  have F18 := fun_mk (st := S_law_row_v1) l18 c18 k18
  have W19 : TabW l.prog w K mg base fl (clsOf fl) 19 T19 := W18.more (en := E_law_row_v1) F18 sc_law_row_v1 (hbi bt rfl rfl) (hex bt rfl rfl) (hh0.mono (by decide)) rfl (fun X g C => ok_law_row_v1 C) (PySem.W.mg_of X G a18) rfl (F18.binds (ps := ["_law_thing", "_law_size"]) fun _ _ _ _ _ _ us hl => match us, hl with | [_, _], _ => rfl)
  have F19 := fun_mk (st := S_law_due_v14) l19 c19 k19
  have W20 : TabW l.prog w K mg base fl (clsOf fl) 20 T20 := W19.more (en := E_law_due_v14) F19 sc_law_due_v14 (hbi bt rfl rfl) (hex bt rfl rfl) (hh0.mono (by decide)) rfl (fun X g C => ok_law_due_v14 C) (PySem.W.mg_of X G a19) rfl (F19.binds (ps := ["_law_thing"]) fun _ _ _ _ _ _ us hl => match us, hl with | [_], _ => rfl)
  have F20 := fun_mk (st := S_law) l20 c20 k20
  exact (def_ok (fa := fl) (cls := clsOf fl) (n := 1) (tab := T20) F20 sc_law rfl (hbi bt rfl rfl) (hex bt rfl rfl) (hh0.mono (by decide)) W20.use (fun X g _ C => ok_law C)).imp (spLaw_of main)
end P
open PySem PySem.W PyProof.Rows
set_option maxRecDepth 100000 in
set_option maxHeartbeats 0 in
theorem PySem.Challenge.cw_cutstairs_k56_what_houses_are_holds : PySem.Challenge.rw_cutstairs_k56_what_houses_are.Holds := by
  w_on; o_law; k_head; (case hw => w_witness2)
  k_fill
  refine Fn.walk (l := PySem.Challenge.rw_cutstairs_k56_what_houses_are) (x := "_law_script") 21 (by exact ⟨rfl, by decide, by decide⟩) rfl rfl (fun w h Y => PySem.W.kIn_of Y) ?F
  case F =>
    intro w mg fa h KX G hmg
    refine' P.all_mk KX G hmg ?a0 ?l0 ?c0 ?k0 ?a1 ?l1 ?c1 ?k1 ?a2 ?l2 ?c2 ?k2 ?a3 ?l3 ?c3 ?k3 ?a4 ?l4 ?c4 ?k4 ?a5 ?l5 ?c5 ?k5 ?a6 ?l6 ?c6 ?k6 ?a7 ?l7 ?c7 ?k7 ?a8 ?l8 ?c8 ?k8 ?a9 ?l9 ?c9 ?k9 ?a10 ?l10 ?c10 ?k10 ?a11 ?l11 ?c11 ?k11 ?a12 ?l12 ?c12 ?k12 ?a13 ?l13 ?c13 ?k13 ?a14 ?l14 ?c14 ?k14 ?a15 ?l15 ?c15 ?k15 ?a16 ?l16 ?c16 ?k16 ?a17 ?l17 ?c17 ?k17 ?a18 ?l18 ?c18 ?k18 ?a19 ?l19 ?c19 ?k19 ?a20 ?l20 ?c20 ?k20 ?z0 ?z1 ?z2 ?z3 ?z4 ?z5 ?z6 ?z7 ?z8 ?z9 ?z10 ?z11 ?z12 ?z13 ?z14 ?z15 ?z16 ?q0 ?q1 ?q2  P.main
    (case a0 => k_is); (case l0 => k_is); (case c0 => k_is); (case k0 => k_is)
    (case a1 => k_is); (case l1 => k_is); (case c1 => k_is); (case k1 => k_is)
    (case a2 => k_is); (case l2 => k_is); (case c2 => k_is); (case k2 => k_is)
    (case a3 => k_is); (case l3 => k_is); (case c3 => k_is); (case k3 => k_is)
    (case a4 => k_is); (case l4 => k_is); (case c4 => k_is); (case k4 => k_is)
    (case a5 => k_is); (case l5 => k_is); (case c5 => k_is); (case k5 => k_is)
    (case a6 => k_is); (case l6 => k_is); (case c6 => k_is); (case k6 => k_is)
    (case a7 => k_is); (case l7 => k_is); (case c7 => k_is); (case k7 => k_is)
    (case a8 => k_is); (case l8 => k_is); (case c8 => k_is); (case k8 => k_is)
    (case a9 => k_is); (case l9 => k_is); (case c9 => k_is); (case k9 => k_is)
    (case a10 => k_is); (case l10 => k_is); (case c10 => k_is); (case k10 => k_is)
    (case a11 => k_is); (case l11 => k_is); (case c11 => k_is); (case k11 => k_is)
    (case a12 => k_is); (case l12 => k_is); (case c12 => k_is); (case k12 => k_is)
    (case a13 => k_is); (case l13 => k_is); (case c13 => k_is); (case k13 => k_is)
    (case a14 => k_is); (case l14 => k_is); (case c14 => k_is); (case k14 => k_is)
    (case a15 => k_is); (case l15 => k_is); (case c15 => k_is); (case k15 => k_is)
    (case a16 => k_is); (case l16 => k_is); (case c16 => k_is); (case k16 => k_is)
    (case a17 => k_is); (case l17 => k_is); (case c17 => k_is); (case k17 => k_is)
    (case a18 => k_is); (case l18 => k_is); (case c18 => k_is); (case k18 => k_is)
    (case a19 => k_is); (case l19 => k_is); (case c19 => k_is); (case k19 => k_is)
    (case a20 => k_is); (case l20 => k_is); (case c20 => k_is); (case k20 => k_is)
    (case z0 => k_is); (case z1 => k_is); (case z2 => k_is); (case z3 => k_is); (case z4 => k_is); (case z5 => k_is); (case z6 => k_is); (case z7 => k_is); (case z8 => k_is); (case z9 => k_is); (case z10 => k_is); (case z11 => k_is); (case z12 => k_is); (case z13 => k_is); (case z14 => k_is); (case z15 => k_is); (case z16 => k_is)
    (case q0 => k_is); (case q1 => k_is); (case q2 => k_is)
