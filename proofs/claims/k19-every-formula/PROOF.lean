import PyProof.Rows.All
import Wide.All
import OpenK.AllK
import Wide.FinOn
import HandS.Base
import HandS.Call
import HandS.List
import HandS.Comp
import HandS.Iter
import HandS.Ends
import HandS.Exc
import HandS.Words
import HandS.WordsList
import HandS.Defaults
import HandS.IsInst
import HandS.TupAny
import HandS.Walk
import HandS.Zip
import HandS.Star
import KE.SortData
import KE.KSortTup
import HandS.Strs
import HandS.SetFor
import HandS.TupSets
import KE.GoesMore
import PyProof.EnumMake
import HandS.Codes
import PySem.Challenge.RW_rebut_k19_whole_every_formula_is_solved
import PyProof.Rows.BootFacts
import KE.KExcSuper
import KE.OsGo
import HandS.TryOnly
import HandS.ExcOwn
import HandS.WordsExc
import HandS.Dict
import HandS.More
import PyProof.Rows.SortShell
import HandS.Head0
import HandS.Head1
import HandS.Head2
import HandS.HeadEnd
import HandS.HeadHook1
import HandS.HeadHook2
section
set_option Elab.async false
set_option linter.all false
set_option maxRecDepth 100000
namespace K19
open PySem L2
/-! ## data in the abstract heap -/
abbrev Pd := PyData
mutual
inductive Rp (N : Addr → Prop) (H : Hp) : V → Pd → Prop
  | non : Rp N H .non .none
  | bl (b : Bool) : Rp N H (.bl b) (.bool b)
  | int (i : Int) : Rp N H (.int i) (.int i)
  | str (x : Str) : Rp N H (.str x) (.str x)
  | lst {a : Addr} {xs : List V} {ds : List Pd} : ¬ N a → H a = some (.lst xs) → RpA N H xs ds → Rp N H (.ref a) (.list ds)
  | tup {a : Addr} {xs : List V} {ds : List Pd} : H a = some (.tup xs) → RpA N H xs ds → Rp N H (.ref a) (.tuple ds)
inductive RpA (N : Addr → Prop) (H : Hp) : List V → List Pd → Prop
  | nil : RpA N H [] []
  | cons {v : V} {vs : List V} {d : Pd} {ds : List Pd} : Rp N H v d → RpA N H vs ds → RpA N H (v :: vs) (d :: ds)
end
section
variable {N N' : Addr → Prop} {H H' : Hp}
mutual
theorem Rp.keep (t : ∀ a xs, H a = some (.tup xs) → H' a = some (.tup xs)) (l : ∀ a xs, ¬ N a → H a = some (.lst xs) → H' a = some (.lst xs)) (n : ∀ a xs, H a = some (.lst xs) → N' a → N a) : ∀ (d : Pd) (v : V), Rp N H v d → Rp N' H' v d
  | .none, _, h => by cases h; exact .non
  | .bool _, _, h => by cases h; exact .bl _
  | .int _, _, h => by cases h; exact .int _
  | .str _, _, h => by cases h; exact .str _
  | .list ds, _, h => by
    cases h with
    | lst hn ha hs => exact .lst (fun z => hn (n _ _ ha z)) (l _ _ hn ha) (RpA.keep t l n ds _ hs)
  | .tuple ds, _, h => by
    cases h with
    | tup ha hs => exact .tup (t _ _ ha) (RpA.keep t l n ds _ hs)
  | .dict _, _, h => by cases h
theorem RpA.keep (t : ∀ a xs, H a = some (.tup xs) → H' a = some (.tup xs)) (l : ∀ a xs, ¬ N a → H a = some (.lst xs) → H' a = some (.lst xs)) (n : ∀ a xs, H a = some (.lst xs) → N' a → N a) : ∀ (ds : List Pd) (vs : List V), RpA N H vs ds → RpA N' H' vs ds
  | [], _, h => by cases h; exact .nil
  | d :: ds, _, h => by
    cases h with
    | cons h1 h2 => exact .cons (Rp.keep t l n d _ h1) (RpA.keep t l n ds _ h2)
end
mutual
/-- no list in it -/
def nl : Pd → Bool
  | .list _ => false
  | .tuple ds => nlA ds
  | .dict _ => false
  | _ => true
def nlA : List Pd → Bool
  | [] => true
  | d :: ds => nl d && nlA ds
end
mutual
theorem Rp.nl_keep (t : ∀ a xs, H a = some (.tup xs) → H' a = some (.tup xs)) : ∀ (d : Pd) (v : V), nl d = true → Rp N H v d → Rp N' H' v d
  | .none, _, _, h => by cases h; exact .non
  | .bool _, _, _, h => by cases h; exact .bl _
  | .int _, _, _, h => by cases h; exact .int _
  | .str _, _, _, h => by cases h; exact .str _
  | .list ds, _, e, h => by simp [nl] at e
  | .tuple ds, _, e, h => by
    cases h with
    | tup ha hs => exact .tup (t _ _ ha) (RpA.nl_keep t ds _ (by simpa [nl] using e) hs)
  | .dict _, _, e, h => by cases h
theorem RpA.nl_keep (t : ∀ a xs, H a = some (.tup xs) → H' a = some (.tup xs)) : ∀ (ds : List Pd) (vs : List V), nlA ds = true → RpA N H vs ds → RpA N' H' vs ds
  | [], _, _, h => by cases h; exact .nil
  | d :: ds, _, e, h => by
    have e' : nl d = true ∧ nlA ds = true := by simpa [nlA] using e
    cases h with
    | cons h1 h2 => exact .cons (Rp.nl_keep t d _ e'.1 h1) (RpA.nl_keep t ds _ e'.2 h2)
end
theorem RpA.length : ∀ {vs : List V} {ds : List Pd}, RpA N H vs ds → vs.length = ds.length
  | [], [], _ => rfl
  | _ :: _, _ :: _, h => by
    cases h with
    | cons _ h2 => rw [List.length_cons, List.length_cons, RpA.length h2]
  | [], _ :: _, h => by cases h
  | _ :: _, [], h => by cases h
theorem RpA.get : ∀ {vs : List V} {ds : List Pd} {i : Nat} {d : Pd}, RpA N H vs ds → ds[i]? = some d → ∃ v, vs[i]? = some v ∧ Rp N H v d
  | _ :: _, _ :: _, 0, _, .cons h _, e => by
    have e' := Option.some.inj e
    subst e'
    exact ⟨_, rfl, h⟩
  | _ :: _, _ :: _, i + 1, _, .cons _ h, e => RpA.get (i := i) h e
  | _, [], _, _, _, e => by cases e
theorem RpA.getV : ∀ {vs : List V} {ds : List Pd} {i : Nat} {v : V}, RpA N H vs ds → vs[i]? = some v → ∃ d, ds[i]? = some d ∧ Rp N H v d
  | _ :: _, _ :: _, 0, _, .cons h _, e => by
    have e' := Option.some.inj e
    subst e'
    exact ⟨_, rfl, h⟩
  | _ :: _, _ :: _, i + 1, _, .cons _ h, e => RpA.getV (i := i) h e
  | [], _, _, _, _, e => by cases e
theorem RpA.append : ∀ {vs ws : List V} {ds es : List Pd}, RpA N H vs ds → RpA N H ws es → RpA N H (vs ++ ws) (ds ++ es)
  | _, _, _, _, .nil, h => h
  | _, _, _, _, .cons h1 h2, h => .cons h1 (RpA.append h2 h)
theorem RpA.take : ∀ {vs : List V} {ds : List Pd} (n : Nat), RpA N H vs ds → RpA N H (vs.take n) (ds.take n)
  | _, _, 0, _ => .nil
  | _, _, _ + 1, .nil => .nil
  | _, _, n + 1, .cons h1 h2 => .cons h1 (RpA.take n h2)
theorem RpA.drop : ∀ {vs : List V} {ds : List Pd} (n : Nat), RpA N H vs ds → RpA N H (vs.drop n) (ds.drop n)
  | _, _, 0, h => h
  | _, _, _ + 1, .nil => .nil
  | _, _, n + 1, .cons _ h2 => RpA.drop n h2
theorem RpA.set {v : V} {d : Pd} (r : Rp N H v d) : ∀ {vs : List V} {ds : List Pd} (i : Nat), RpA N H vs ds → RpA N H (vs.set i v) (ds.set i d)
  | _, _, _, .nil => .nil
  | _, _, 0, .cons _ h2 => .cons r h2
  | _, _, i + 1, .cons h1 h2 => .cons h1 (RpA.set r i h2)
theorem RpA.ints (is : List Int) : RpA N H (is.map V.int) (is.map PyData.int) := by
  induction is with
  | nil => exact .nil
  | cons i is ih => exact .cons (.int i) ih
theorem RpA.ints_eq : ∀ {is : List Int} {vs : List V}, RpA N H vs (is.map PyData.int) → vs = is.map V.int
  | [], _, h => by cases h; rfl
  | i :: is, _, h => by
    cases h with
    | cons h1 h2 =>
      cases h1
      rw [RpA.ints_eq h2, List.map_cons]
theorem Rp.same (e : Same H H') {d : Pd} {v : V} (h : Rp N H v d) : Rp N H' v d := Rp.keep (fun _ _ q => e _ _ q) (fun _ _ _ q => e _ _ q) (fun _ _ _ z => z) d v h
theorem RpA.same (e : Same H H') {d : List Pd} {v : List V} (h : RpA N H v d) : RpA N H' v d := RpA.keep (fun _ _ q => e _ _ q) (fun _ _ _ q => e _ _ q) (fun _ _ _ z => z) d v h
end
theorem same_new {H : Hp} {p : Addr} (h : H p = none) (o : HO) : Same H (upd H p o) := fun b u q => by rw [upd_ne (ne_of_none q h)]; exact q
/-! ## worlds: what a piece of code may rely on and change -/
structure Wd where
  N : Addr → Prop
  X : Addr → Prop
  S : Addr → Prop
  G : Hp → Prop
  ns : ∀ a, N a → S a
  xn : ∀ a, X a → N a
  live : ∀ H a, G H → S a → H a ≠ none
  chg : ∀ H H', G H → (∀ a, S a → H' a = H a) → G H'
  mts : ∀ H a xs, G H → X a → H a ≠ some (.tup xs)
def Wd.R (W : Wd) (H H' : Hp) : Prop := ∀ a o, ¬ W.X a → H a = some o → H' a = some o
section
variable {W : Wd} {H H' H1 : Hp}
theorem Wd.rfl' : W.R H H := fun _ _ _ e => e
theorem Wd.trans (a : W.R H H1) (b : W.R H1 H') : W.R H H' := fun x o n e => b x o n (a x o n e)
theorem Wd.tups (g : W.G H) (r : W.R H H') : ∀ a xs, H a = some (.tup xs) → H' a = some (.tup xs) := fun a xs e => by
  exact r a _ (fun z => W.mts H a xs g z e) e
theorem Wd.rp (g : W.G H) (r : W.R H H') {v : V} {d : Pd} (h : Rp W.N H v d) : Rp W.N H' v d :=
  Rp.keep (Wd.tups g r) (fun a xs n e => r a _ (fun z => n (W.xn a z)) e) (fun _ _ _ z => z) d v h
theorem Wd.rpA (g : W.G H) (r : W.R H H') {v : List V} {d : List Pd} (h : RpA W.N H v d) : RpA W.N H' v d :=
  RpA.keep (Wd.tups g r) (fun a xs n e => r a _ (fun z => n (W.xn a z)) e) (fun _ _ _ z => z) d v h
theorem Wd.fr (g : W.G H) {p : Addr} (h : H p = none) : ¬ W.S p := fun z => W.live H p g z h
theorem Wd.frN (g : W.G H) {p : Addr} (h : H p = none) : ¬ W.N p := fun z => Wd.fr g h (W.ns p z)
theorem Wd.ofSame (g : W.G H) (e : Same H H') : W.G H' := W.chg H H' g fun a s => by
  cases q : H a with
  | none => exact absurd q (W.live H a g s)
  | some o => exact e a o q
theorem Wd.rSame (e : Same H H') : W.R H H' := fun a o _ q => e a o q
theorem Wd.gNew (g : W.G H) {p : Addr} (h : H p = none) (o : HO) : W.G (upd H p o) := Wd.ofSame g (same_new h o)
theorem Wd.rNew {p : Addr} (h : H p = none) (o : HO) : W.R H (upd H p o) := Wd.rSame (same_new h o)
end
/-- nothing that stands changes -/
def pureW (N : Addr → Prop) (H0 : Hp) (hl : ∀ a, N a → H0 a ≠ none) : Wd where
  N := N
  X := fun _ => False
  S := fun a => H0 a ≠ none
  G := fun H => Same H0 H
  ns := hl
  xn := fun _ z => z.elim
  live := fun H a g s e => by
    cases q : H0 a with
    | none => exact s q
    | some o =>
      rw [g a o q] at e
      cases e
  chg := fun H H' g k a o e => by
    have z := k a (by rw [e]; exact fun z => nomatch z)
    rw [z]
    exact g a o e
  mts := fun _ _ _ _ z => z.elim
/-! ## slots -/
inductive Kn | no | d (x : Pd) | v (x : V)
abbrev Dn := List Kn
def Slot (N : Addr → Prop) (H : Hp) (o : Option V) : Kn → Prop
  | .no => True
  | .d x => ∃ v, o = some v ∧ Rp N H v x
  | .v x => o = some x
structure En (N : Addr → Prop) (H : Hp) (σ : St) (δ : Dn) : Prop where
  len : σ.length = δ.length
  at_ : ∀ (i : Nat) (k : Kn), δ[i]? = some k → ∃ o, σ[i]? = some o ∧ Slot N H o k
section
variable {N N' : Addr → Prop} {H H' : Hp} {σ : St} {δ : Dn}
theorem En.map (h : En N H σ δ) (k : ∀ v d, Rp N H v d → Rp N' H' v d) : En N' H' σ δ := ⟨h.len, fun i c e => by
  obtain ⟨o, e1, s⟩ := h.at_ i c e
  refine ⟨o, e1, ?_⟩
  cases c with
  | no => exact True.intro
  | d x => obtain ⟨v, e2, r⟩ := s; exact ⟨v, e2, k v x r⟩
  | v x => exact s⟩
theorem En.same (h : En N H σ δ) (e : Same H H') : En N H' σ δ := h.map fun _ _ r => r.same e
theorem En.getD (h : En N H σ δ) {i : Nat} {x : Pd} (e : δ[i]? = some (.d x)) : ∃ v, σ[i]? = some (some v) ∧ Rp N H v x := by
  obtain ⟨o, e1, v, e2, r⟩ := h.at_ i _ e
  exact ⟨v, by rw [e1, e2], r⟩
theorem En.getV (h : En N H σ δ) {i : Nat} {x : V} (e : δ[i]? = some (.v x)) : σ[i]? = some (some x) := by
  obtain ⟨o, e1, e2⟩ := h.at_ i _ e
  rw [e1]
  exact congrArg some e2
theorem En.setK (h : En N H σ δ) {i : Nat} {o : Option V} {k : Kn} (s : Slot N H o k) : En N H (σ.set i o) (δ.set i k) := ⟨by simpa using h.len, fun j c e => by
  by_cases q : i = j
  · subst q
    by_cases lt : i < δ.length
    · rw [List.getElem?_set_self lt] at e
      cases e
      exact ⟨o, List.getElem?_set_self (by rw [h.len]; exact lt), s⟩
    · rw [List.getElem?_eq_none_iff.mpr (by simpa using lt)] at e
      cases e
  · rw [List.getElem?_set_ne q] at e
    rw [List.getElem?_set_ne q]
    exact h.at_ j c e⟩
theorem En.set (h : En N H σ δ) {i : Nat} {v : V} {d : Pd} (r : Rp N H v d) : En N H (σ.set i (some v)) (δ.set i (.d d)) := h.setK (k := .d d) ⟨v, rfl, r⟩
theorem En.setV (h : En N H σ δ) {i : Nat} {v : V} : En N H (σ.set i (some v)) (δ.set i (.v v)) := h.setK (k := .v v) rfl
theorem En.forget (h : En N H σ δ) {i : Nat} {o : Option V} : En N H (σ.set i o) (δ.set i .no) := h.setK (k := .no) True.intro
end
def okW (δ : Dn) (vs : List Nat) : Bool := vs.all fun i => match δ[i]? with
  | some .no => true
  | none => true
  | _ => false
theorem wipe_out {σ : St} : ∀ {vs : List Nat} {i : Nat}, i ∉ vs → (wipe σ vs)[i]? = σ[i]? := fun {vs i} h => L2.wipe_out h
theorem En.wipe {N : Addr → Prop} {H : Hp} {σ : St} {δ : Dn} {vs : List Nat} (h : En N H σ δ) (hw : okW δ vs = true) : En N H (wipe σ vs) δ := ⟨by rw [wipe_length]; exact h.len, fun i k e => by
  by_cases m : i ∈ vs
  · have q := List.all_eq_true.mp hw i m
    rw [e] at q
    cases k with
    | no =>
      have lt : i < (L2.wipe σ vs).length := by rw [wipe_length, h.len]; exact (List.getElem?_eq_some_iff.mp e).1
      exact ⟨_, List.getElem?_eq_getElem lt, True.intro⟩
    | d x => cases q
    | v x => cases q
  · rw [wipe_out m]
    exact h.at_ i k e⟩
theorem wipe_set {σ : St} {j : Nat} {o : Option V} : ∀ {vs : List Nat}, j ∈ vs → wipe (σ.set j o) vs = wipe σ vs := by
  intro vs hj
  apply List.ext_getElem?
  intro i
  by_cases m : i ∈ vs
  · have key : ∀ (τ : St) (us : List Nat), i ∈ us → (wipe τ us)[i]? = if i < τ.length then some none else none := by
      intro τ us
      induction us with
      | nil => intro z; cases z
      | cons u us ih =>
        intro z
        show ((wipe τ us).set u none)[i]? = _
        by_cases q : u = i
        · subst q
          by_cases lt : u < τ.length
          · rw [List.getElem?_set_self (by rw [wipe_length]; exact lt), if_pos lt]
          · rw [if_neg lt, List.getElem?_eq_none_iff]
            simp only [List.length_set, wipe_length]
            omega
        · rw [List.getElem?_set_ne q]
          exact ih (by simpa [Ne.symm q] using z)
    rw [key _ _ m, key _ _ m, List.length_set]
  · rw [wipe_out m, wipe_out m]
    have : j ≠ i := fun e => m (e ▸ hj)
    rw [List.getElem?_set_ne this]
end K19
end
section
set_option Elab.async false
set_option linter.all false
set_option maxRecDepth 100000
namespace K19
open PySem L2
abbrev Sl := L2.St
/-! ## what an expression, a test, a row of arguments evaluates to -/
def Ev (W : Wd) (te : TE) (δ : Dn) (P : Pd → Prop) : Prop := ∀ H σ, W.G H → En W.N H σ δ → ∀ Q : VK, (∀ v d H', W.R H H' → W.G H' → P d → Rp W.N H' v d → Q v H') → te σ H Q
def EvT (W : Wd) (tt : TT) (δ : Dn) (P : Bool → Prop) : Prop := ∀ H σ, W.G H → En W.N H σ δ → ∀ Q : Bool → Hp → Prop, (∀ b H', W.R H H' → W.G H' → P b → Q b H') → tt σ H Q
def EvA (W : Wd) (ta : TA) (δ : Dn) (P : List Pd → Prop) : Prop := ∀ H σ, W.G H → En W.N H σ δ → ∀ Q : List V → Hp → Prop, (∀ vs ds H', W.R H H' → W.G H' → P ds → RpA W.N H' vs ds → Q vs H') → ta σ H Q
abbrev EvE (W : Wd) (te : TE) (δ : Dn) (d : Pd) : Prop := Ev W te δ fun x => x = d
abbrev TvE (W : Wd) (tt : TT) (δ : Dn) (b : Bool) : Prop := EvT W tt δ fun x => x = b
abbrev AvE (W : Wd) (ta : TA) (δ : Dn) (ds : List Pd) : Prop := EvA W ta δ fun x => x = ds
def OpD (W : Wd) (r : R2) (a b : Pd) (P : Pd → Prop) : Prop := ∀ H x y, W.G H → Rp W.N H x a → Rp W.N H y b → ∀ Q : VK, (∀ v d H', W.R H H' → W.G H' → P d → Rp W.N H' v d → Q v H') → r x y H Q
def UnD (W : Wd) (r : V → Hp → VK → Prop) (a : Pd) (P : Pd → Prop) : Prop := ∀ H x, W.G H → Rp W.N H x a → ∀ Q : VK, (∀ v d H', W.R H H' → W.G H' → P d → Rp W.N H' v d → Q v H') → r x H Q
def CbD (W : Wd) (r : List V → Hp → VK → Prop) (ds : List Pd) (P : Pd → Prop) : Prop := ∀ H xs, W.G H → RpA W.N H xs ds → ∀ Q : VK, (∀ v d H', W.R H H' → W.G H' → P d → Rp W.N H' v d → Q v H') → r xs H Q
section
variable {W : Wd} {δ : Dn} {ta tb tc te : TE} {t u : TT} {tr tq : TA} {K : PySem.W.Frag} {H H' : Hp} {σ : Sl} {P : Pd → Prop} {r r' : R2} {a b c d : Pd}
theorem En.go (en : En W.N H σ δ) (g : W.G H) (k : W.R H H') : En W.N H' σ δ := en.map fun _ _ q => Wd.rp g k q
theorem Ev.mono {P' : Pd → Prop} (h : Ev W te δ P) (k : ∀ d, P d → P' d) : Ev W te δ P' := fun H σ g en Q q => h H σ g en Q fun v d H1 r1 g1 p => q v d H1 r1 g1 (k d p)
theorem EvT.mono {P P' : Bool → Prop} (h : EvT W t δ P) (k : ∀ d, P d → P' d) : EvT W t δ P' := fun H σ g en Q q => h H σ g en Q fun d H1 r1 g1 p => q d H1 r1 g1 (k d p)
theorem Ev.is (h : EvE W te δ c) (e : c = d) : EvE W te δ d := e ▸ h
theorem EvT.is {x y : Bool} (h : TvE W t δ x) (e : x = y) : TvE W t δ y := e ▸ h
/-! ### names, constants -/
theorem v_var {i : Nat} (h : δ[i]? = some (.d d)) (hp : P d) : Ev W (tVar i) δ P := fun H σ g en Q q => by
  obtain ⟨v, e, rr⟩ := en.getD h
  exact ⟨v, e, q v d H Wd.rfl' g hp rr⟩
theorem e_var {i : Nat} (h : δ[i]? = some (.d d)) : EvE W (tVar i) δ d := v_var h rfl
theorem e_int {i : Int} : EvE W (tC (.int i)) δ (.int i) := fun H σ g en Q q => q _ _ H Wd.rfl' g rfl (.int i)
theorem e_bl {i : Bool} : EvE W (tC (.bl i)) δ (.bool i) := fun H σ g en Q q => q _ _ H Wd.rfl' g rfl (.bl i)
theorem e_non : EvE W (tC .non) δ .none := fun H σ g en Q q => q _ _ H Wd.rfl' g rfl .non
theorem e_str {x : Str} : EvE W (tC (.str x)) δ (.str x) := fun H σ g en Q q => q _ _ H Wd.rfl' g rfl (.str x)
/-! ### operators -/
theorem v_op {A B : Pd → Prop} (ha : Ev W ta δ A) (hb : ∀ a, A a → Ev W tb δ B) (h : ∀ a b, A a → B b → OpD W r a b P) : Ev W (tOp r ta tb) δ P := fun H σ g en Q q =>
  ha H σ g en _ fun v d H1 r1 g1 p1 s1 => hb d p1 H1 σ g1 (en.go g r1) _ fun w e H2 r2 g2 p2 s2 => h d e p1 p2 H2 v w g2 (Wd.rp g1 r2 s1) s2 Q fun u f H3 r3 g3 p3 s3 => q u f H3 (Wd.trans (Wd.trans r1 r2) r3) g3 p3 s3
theorem e_op (ha : EvE W ta δ a) (hb : EvE W tb δ b) (h : OpD W r a b P) : Ev W (tOp r ta tb) δ P := v_op ha (fun _ _ => hb) fun _ _ ea eb => by
  subst ea eb
  exact h
theorem v_un {A : Pd → Prop} {r : V → Hp → VK → Prop} (ha : Ev W ta δ A) (h : ∀ a, A a → UnD W r a P) : Ev W (tUn r ta) δ P := fun H σ g en Q q =>
  ha H σ g en _ fun v d H1 r1 g1 p1 s1 => h d p1 H1 v g1 s1 Q fun u f H3 r3 g3 p3 s3 => q u f H3 (Wd.trans r1 r3) g3 p3 s3
theorem e_un {r : V → Hp → VK → Prop} (ha : EvE W ta δ a) (h : UnD W r a P) : Ev W (tUn r ta) δ P := v_un ha fun _ e => by
  subst e
  exact h
theorem u_neg {i : Int} (h : P (.int (-i))) : UnD W (rU fun i => .int (-i)) (.int i) P := fun H x g rx Q q => by
  cases rx
  exact ⟨i, rfl, q _ _ H Wd.rfl' g h (.int _)⟩
theorem o_int {f : Int → Int → Int} {i j : Int} (h : P (.int (f i j))) : OpD W (rI0 fun i j => .int (f i j)) (.int i) (.int j) P := fun H x y g rx ry Q q => by
  cases rx
  cases ry
  exact ⟨i, j, rfl, rfl, q _ _ H Wd.rfl' g h (.int _)⟩
theorem o_bl {f : Int → Int → Bool} {i j : Int} (h : P (.bool (f i j))) : OpD W (rI0 fun i j => .bl (f i j)) (.int i) (.int j) P := fun H x y g rx ry Q q => by
  cases rx
  cases ry
  exact ⟨i, j, rfl, rfl, q _ _ H Wd.rfl' g h (.bl _)⟩
theorem o_intC {C : Int → Int → Prop} {f : Int → Int → Int} {i j : Int} (hc : C i j) (h : P (.int (f i j))) : OpD W (rI C fun i j => .int (f i j)) (.int i) (.int j) P := fun H x y g rx ry Q q => by
  cases rx
  cases ry
  exact ⟨i, j, rfl, rfl, hc, q _ _ H Wd.rfl' g h (.int _)⟩
theorem o_eqI {i j : Int} (h : P (.bool (decide (i = j)))) : OpD W rEq (.int i) (.int j) P := fun H x y g rx ry Q q => by
  cases rx
  cases ry
  refine ⟨rfl, ?_⟩
  have e : decide (V.int i = V.int j) = decide (i = j) := by rw [dec_int]; exact Bool.beq_eq_decide_eq i j
  rw [e]
  exact q _ _ H Wd.rfl' g h (.bl _)
theorem o_neI {i j : Int} (h : P (.bool (!decide (i = j)))) : OpD W rNe (.int i) (.int j) P := fun H x y g rx ry Q q => by
  cases rx
  cases ry
  refine ⟨rfl, ?_⟩
  have e : decide (V.int i = V.int j) = decide (i = j) := by rw [dec_int]; exact Bool.beq_eq_decide_eq i j
  rw [e]
  exact q _ _ H Wd.rfl' g h (.bl _)
theorem o_eqB {i j : Bool} (h : P (.bool (i == j))) : OpD W rEq (.bool i) (.bool j) P := fun H x y g rx ry Q q => by
  cases rx
  cases ry
  refine ⟨rfl, ?_⟩
  rw [dec_bl]
  exact q _ _ H Wd.rfl' g h (.bl _)
theorem o_neB {i j : Bool} (h : P (.bool (!(i == j)))) : OpD W rNe (.bool i) (.bool j) P := fun H x y g rx ry Q q => by
  cases rx
  cases ry
  refine ⟨rfl, ?_⟩
  rw [dec_bl]
  exact q _ _ H Wd.rfl' g h (.bl _)
def isN : Pd → Bool
  | .none => true
  | _ => false
theorem Rp.isN {N : Addr → Prop} {H : Hp} {v : V} {d : Pd} (h : Rp N H v d) : decide (v = .non) = isN d := by
  cases h <;> rfl
theorem o_isN {a : Pd} (h : P (.bool (isN a))) : OpD W (fun x y H Q => y = .non ∧ Q (.bl (decide (x = .non))) H) a .none P := fun H x y g rx ry Q q => by
  cases ry
  refine ⟨rfl, ?_⟩
  rw [rx.isN]
  exact q _ _ H Wd.rfl' g h (.bl _)
theorem o_notN {a : Pd} (h : P (.bool (!isN a))) : OpD W (fun x y H Q => y = .non ∧ Q (.bl (!decide (x = .non))) H) a .none P := fun H x y g rx ry Q q => by
  cases ry
  refine ⟨rfl, ?_⟩
  rw [rx.isN]
  exact q _ _ H Wd.rfl' g h (.bl _)
/-! ### items -/
theorem RpA.atI {N : Addr → Prop} {H : Hp} {vs : List V} {ds : List Pd} (h : RpA N H vs ds) {i : Int} {d : Pd} (e : L2.atI ds i = some d) : ∃ v, L2.atI vs i = some v ∧ Rp N H v d := by
  unfold L2.atI at e ⊢
  rw [h.length]
  cases q : ixN ds.length i with
  | none => rw [q] at e; cases e
  | some j =>
    rw [q] at e
    exact h.get (i := j) e
theorem o_ix {ds : List Pd} {i : Int} {d : Pd} (hs : a = .tuple ds ∨ a = .list ds) (e : L2.atI ds i = some d) (h : P d) : OpD W (rIx K) a (.int i) P := fun H x y g rx ry Q q => by
  cases ry
  rcases hs with rfl | rfl
  · cases rx with
    | @tup p xs _ hp rs =>
      obtain ⟨v, e1, rv⟩ := rs.atI e
      exact .inr (.inl ⟨p, xs, i, v, rfl, rfl, SqT.of hp, e1, q v d H Wd.rfl' g h rv⟩)
  · cases rx with
    | @lst p xs _ hn hp rs =>
      obtain ⟨v, e1, rv⟩ := rs.atI e
      exact .inl ⟨p, xs, i, v, rfl, rfl, SqL.of hp, e1, q v d H Wd.rfl' g h rv⟩
/-! ### in -/
theorem eqV_int (i : Int) (v : V) {N : Addr → Prop} {H : Hp} {j : Int} (h : Rp N H v (.int j)) : eqV v (.int i) = decide (j = i) := by
  cases h
  show (j == i) = _
  exact Bool.beq_eq_decide_eq j i
theorem inV_ints (i : Int) : ∀ is : List Int, inV (.int i) (is.map V.int) = decide (i ∈ is)
  | [] => by simp [inV]
  | j :: is => by
    have ih := inV_ints i is
    unfold inV at ih ⊢
    rw [List.map_cons, List.any_cons, ih]
    have e : eqV (.int j) (.int i) = decide (j = i) := Bool.beq_eq_decide_eq j i
    rw [e]
    by_cases h : j = i
    · subst h; simp
    · have h' : ¬ i = j := fun z => h z.symm
      simp [h, h']
theorem flat_ints (is : List Int) : (is.map V.int).all flatV = true := by
  rw [List.all_eq_true]
  intro x hx
  obtain ⟨i, _, rfl⟩ := List.mem_map.mp hx
  rfl
theorem o_in {is : List Int} {i : Int} {neg : Bool} (hs : b = .tuple (is.map .int) ∨ b = .list (is.map .int)) (h : P (.bool (if neg then !decide (i ∈ is) else decide (i ∈ is)))) : OpD W (rIn K neg) (.int i) b P := fun H x y g rx ry Q q => by
  cases rx
  have fin : Q (.bl (if neg then !inV (.int i) (is.map V.int) else inV (.int i) (is.map V.int))) H := by
    rw [inV_ints]
    exact q _ _ H Wd.rfl' g h (.bl _)
  rcases hs with rfl | rfl
  · cases ry with
    | @tup p xs _ hp rs =>
      have e := rs.ints_eq
      subst e
      exact ⟨p, _, rfl, .inr (SqT.of hp), rfl, flat_ints is, fin⟩
  · cases ry with
    | @lst p xs _ hn hp rs =>
      have e := rs.ints_eq
      subst e
      exact ⟨p, _, rfl, .inl (SqL.of hp), rfl, flat_ints is, fin⟩
/-! ### deep == -/
section
variable {N : Addr → Prop}
mutual
theorem Rp.dp : ∀ (d : Pd) (v : V), Rp N H v d → Dp K H v d
  | .none, _, h => by cases h; exact .non
  | .bool _, _, h => by cases h; exact .bl _
  | .int _, _, h => by cases h; exact .int _
  | .str _, _, h => by cases h; exact .str _
  | .list ds, _, h => by
    cases h with
    | lst hn ha hs => exact .lst (SqL.of ha) (RpA.dp ds _ hs)
  | .tuple ds, _, h => by
    cases h with
    | tup ha hs => exact .tup (SqT.of ha) (RpA.dp ds _ hs)
  | .dict _, _, h => by cases h
theorem RpA.dp : ∀ (ds : List Pd) (vs : List V), RpA N H vs ds → DpAll K H vs ds
  | [], _, h => by cases h; exact .nil
  | d :: ds, _, h => by
    cases h with
    | cons h1 h2 => exact .cons (Rp.dp d _ h1) (RpA.dp ds _ h2)
end
end
theorem o_eqD (sa : SeqAt.shaped a = true) (sb : SeqAt.shaped b = true) (h : P (.bool (PyData.eqv a b))) : OpD W (rEqD K) a b P := fun H x y g rx ry Q q =>
  ⟨a, b, Rp.dp a x rx, Rp.dp b y ry, sa, sb, q _ _ H Wd.rfl' g h (.bl _)⟩
theorem o_neD (sa : SeqAt.shaped a = true) (sb : SeqAt.shaped b = true) (h : P (.bool (!PyData.eqv a b))) : OpD W (rNeD K) a b P := fun H x y g rx ry Q q =>
  ⟨a, b, Rp.dp a x rx, Rp.dp b y ry, sa, sb, q _ _ H Wd.rfl' g h (.bl _)⟩
/-! ### tests -/
theorem vt_test (h : Ev W te δ fun d => ∃ b, d = .bool b ∧ Pb b) : EvT W (tTest te) δ Pb := fun H σ g en Q q => h H σ g en _ fun v d H1 r1 g1 p1 s1 => by
  obtain ⟨b, rfl, pb⟩ := p1
  cases s1
  exact ⟨b, rfl, q b H1 r1 g1 pb⟩
theorem vt_B (h : Ev W te δ fun d => ∃ b, d = .bool b ∧ Pb b) : EvT W (tB te) δ Pb := fun H σ g en Q q => h H σ g en _ fun v d H1 r1 g1 p1 s1 => by
  obtain ⟨b, rfl, pb⟩ := p1
  cases s1
  exact ⟨b, rfl, q b H1 r1 g1 pb⟩
theorem t_test {x : Bool} (h : EvE W te δ (.bool x)) : TvE W (tTest te) δ x := vt_test (h.mono fun d e => ⟨x, e, rfl⟩)
theorem t_B {x : Bool} (h : EvE W te δ (.bool x)) : TvE W (tB te) δ x := vt_B (h.mono fun d e => ⟨x, e, rfl⟩)
theorem vt_and {A Pb : Bool → Prop} (h1 : EvT W t δ A) (h2 : A true → EvT W u δ Pb) (h3 : A false → Pb false) : EvT W (tAnd t u) δ Pb := fun H σ g en Q q => h1 H σ g en _ fun x H1 r1 g1 p1 => by
  cases x with
  | true => exact h2 p1 H1 σ g1 (en.go g r1) Q fun y H2 r2 g2 p2 => q y H2 (Wd.trans r1 r2) g2 p2
  | false => exact q false H1 r1 g1 (h3 p1)
theorem vt_or {A Pb : Bool → Prop} (h1 : EvT W t δ A) (h2 : A false → EvT W u δ Pb) (h3 : A true → Pb true) : EvT W (tOr t u) δ Pb := fun H σ g en Q q => h1 H σ g en _ fun x H1 r1 g1 p1 => by
  cases x with
  | false => exact h2 p1 H1 σ g1 (en.go g r1) Q fun y H2 r2 g2 p2 => q y H2 (Wd.trans r1 r2) g2 p2
  | true => exact q true H1 r1 g1 (h3 p1)
theorem vt_not {Pb : Bool → Prop} (h1 : EvT W t δ fun x => Pb (!x)) : EvT W (tNot t) δ Pb := fun H σ g en Q q => h1 H σ g en _ fun x H1 r1 g1 p1 => q (!x) H1 r1 g1 p1
theorem t_and {x y : Bool} (h1 : TvE W t δ x) (h2 : x = true → TvE W u δ y) : TvE W (tAnd t u) δ (x && y) := vt_and h1 (fun e => (h2 e.symm).mono fun z ez => by rw [ez, ← e]; rfl) fun e => by rw [← e]; rfl
theorem t_or {x y : Bool} (h1 : TvE W t δ x) (h2 : x = false → TvE W u δ y) : TvE W (tOr t u) δ (x || y) := vt_or h1 (fun e => (h2 e.symm).mono fun z ez => by rw [ez, ← e]; rfl) fun e => by rw [← e]; rfl
theorem t_not {x : Bool} (h1 : TvE W t δ x) : TvE W (tNot t) δ (!x) := vt_not (h1.mono fun z e => by rw [e])
def truD : Pd → Bool
  | .list ds => !ds.isEmpty
  | .tuple ds => !ds.isEmpty
  | .none => false
  | .bool b => b
  | .int i => i != 0
  | _ => false
theorem t_tru {K : PySem.W.Frag} (hs : (∃ ds, d = .list ds) ∨ (∃ ds, d = .tuple ds)) (h : EvE W te δ d) : TvE W (fun σ H Q => te σ H fun x H' => ∃ k, TruV K x H' k ∧ Q k H') δ (truD d) := fun H σ g en Q q => h H σ g en _ fun v e H1 r1 g1 p1 s1 => by
  subst p1
  rcases hs with ⟨ds, rfl⟩ | ⟨ds, rfl⟩
  · cases s1 with
    | @lst p xs _ hn hp rs =>
      refine ⟨_, .inl ⟨xs, SqL.of hp, rfl⟩, q _ H1 r1 g1 ?_⟩
      cases rs <;> rfl
  · cases s1 with
    | @tup p xs _ hp rs =>
      refine ⟨_, .inr (.inl ⟨xs, SqT.of hp, rfl⟩), q _ H1 r1 g1 ?_⟩
      cases rs <;> rfl
/-! ### and, or, not, if as values -/
theorem e_andV {x y : Bool} (h1 : EvE W ta δ (.bool x)) (h2 : x = true → EvE W tb δ (.bool y)) : EvE W (tAndV ta tb) δ (.bool (x && y)) := fun H σ g en Q q => h1 H σ g en _ fun v d H1 r1 g1 p1 s1 => by
  subst p1
  cases s1
  refine ⟨x, rfl, ?_⟩
  cases x with
  | true => exact h2 rfl H1 σ g1 (en.go g r1) Q fun w e H2 r2 g2 p2 s2 => q w e H2 (Wd.trans r1 r2) g2 p2 s2
  | false => exact q _ _ H1 r1 g1 rfl (.bl false)
theorem e_orV {x y : Bool} (h1 : EvE W ta δ (.bool x)) (h2 : x = false → EvE W tb δ (.bool y)) : EvE W (tOrV ta tb) δ (.bool (x || y)) := fun H σ g en Q q => h1 H σ g en _ fun v d H1 r1 g1 p1 s1 => by
  subst p1
  cases s1
  refine ⟨x, rfl, ?_⟩
  cases x with
  | false => exact h2 rfl H1 σ g1 (en.go g r1) Q fun w e H2 r2 g2 p2 s2 => q w e H2 (Wd.trans r1 r2) g2 p2 s2
  | true => exact q _ _ H1 r1 g1 rfl (.bl true)
theorem e_notV {x : Bool} (h1 : EvE W ta δ (.bool x)) : EvE W (tNotV ta) δ (.bool (!x)) := fun H σ g en Q q => h1 H σ g en _ fun v d H1 r1 g1 p1 s1 => by
  subst p1
  cases s1
  exact ⟨x, rfl, q _ _ H1 r1 g1 rfl (.bl _)⟩
theorem v_if {A : Bool → Prop} (h : EvT W t δ A) (h1 : A true → Ev W ta δ P) (h2 : A false → Ev W tb δ P) : Ev W (tIf t ta tb) δ P := fun H σ g en Q q => h H σ g en _ fun x H1 r1 g1 p1 => by
  cases x with
  | true => exact h1 p1 H1 σ g1 (en.go g r1) Q fun w e H2 r2 g2 p2 s2 => q w e H2 (Wd.trans r1 r2) g2 p2 s2
  | false => exact h2 p1 H1 σ g1 (en.go g r1) Q fun w e H2 r2 g2 p2 s2 => q w e H2 (Wd.trans r1 r2) g2 p2 s2
theorem e_if {x : Bool} (h : TvE W t δ x) (h1 : x = true → Ev W ta δ P) (h2 : x = false → Ev W tb δ P) : Ev W (tIf t ta tb) δ P := v_if h (fun e => h1 e.symm) fun e => h2 e.symm
theorem e_chain {x y : Bool} (ha : EvE W ta δ a) (hb : EvE W tb δ b) (h1 : OpD W r a b fun z => z = .bool x) (h2 : x = true → Ev W tc δ fun c => OpD W r' b c fun z => z = .bool y) : EvE W (tChain r r' ta tb tc) δ (.bool (x && y)) := fun H σ g en Q q =>
  ha H σ g en _ fun v d H1 r1 g1 p1 s1 => hb H1 σ g1 (en.go g r1) _ fun w e H2 r2 g2 p2 s2 => by
    subst p1 p2
    refine h1 H2 v w g2 (Wd.rp g1 r2 s1) s2 _ fun z dz H3 r3 g3 p3 s3 => ?_
    subst p3
    cases s3
    refine ⟨x, rfl, ?_⟩
    have r13 := Wd.trans (Wd.trans r1 r2) r3
    cases x with
    | true => exact h2 rfl H3 σ g3 (en.go g r13) _ fun c' dc H4 r4 g4 p4 s4 => p4 H4 w c' g4 (Wd.rp g3 r4 (Wd.rp g2 r3 s2)) s4 Q fun z' dz' H5 r5 g5 p5 s5 => q z' dz' H5 (Wd.trans (Wd.trans r13 r4) r5) g5 p5 s5
    | false => exact q _ _ H3 r13 g3 rfl (.bl false)
/-! ### arguments, displays -/
theorem a_nil : AvE W tNil δ [] := fun H σ g en Q q => q [] [] H Wd.rfl' g rfl .nil
theorem va_cons {A : Pd → Prop} {Pl : List Pd → Prop} {B : Pd → List Pd → Prop} (h : Ev W te δ A) (hr : ∀ d, A d → EvA W tr δ (B d)) (k : ∀ d ds, A d → B d ds → Pl (d :: ds)) : EvA W (tCons te tr) δ Pl := fun H σ g en Q q =>
  h H σ g en _ fun v d H1 r1 g1 p1 s1 => hr d p1 H1 σ g1 (en.go g r1) _ fun vs ds H2 r2 g2 p2 s2 => q (v :: vs) (d :: ds) H2 (Wd.trans r1 r2) g2 (k d ds p1 p2) (.cons (Wd.rp g1 r2 s1) s2)
theorem a_cons {ds : List Pd} (h : EvE W te δ d) (hr : AvE W tr δ ds) : AvE W (tCons te tr) δ (d :: ds) := va_cons h (fun _ _ => hr) fun _ _ e1 e2 => by rw [e1, e2]
theorem a_star {K : PySem.W.Frag} {ds es : List Pd} (hs : d = .tuple ds ∨ d = .list ds) (h : EvE W te δ d) (hr : AvE W tr δ es) : AvE W (StX.tStar K te tr) δ (ds ++ es) := fun H σ g en Q q =>
  h H σ g en _ fun v e H1 r1 g1 p1 s1 => by
    subst p1
    rcases hs with rfl | rfl
    · cases s1 with
      | @tup p xs _ hp rs => exact ⟨p, xs, rfl, .inl (SqT.of hp), hr H1 σ g1 (en.go g r1) _ fun vs ds2 H2 r2 g2 p2 s2 => by subst p2; exact q _ _ H2 (Wd.trans r1 r2) g2 rfl ((Wd.rpA g1 r2 rs).append s2)⟩
    · cases s1 with
      | @lst p xs _ hn hp rs => exact ⟨p, xs, rfl, .inr (SqL.of hp), hr H1 σ g1 (en.go g r1) _ fun vs ds2 H2 r2 g2 p2 s2 => by subst p2; exact q _ _ H2 (Wd.trans r1 r2) g2 rfl ((Wd.rpA g1 r2 rs).append s2)⟩
theorem szL {n : Nat} (h : n ≤ 100000) : n ≤ sizeLine := Nat.le_trans h (by decide)
theorem rp_newT {p : Addr} {xs : List V} {ds : List Pd} (hp : H p = none) (h : RpA W.N H xs ds) : Rp W.N (upd H p (.tup xs)) (.ref p) (.tuple ds) := .tup upd_same (h.same (same_new hp _))
theorem rp_newL {p : Addr} {xs : List V} {ds : List Pd} (g : W.G H) (hp : H p = none) (h : RpA W.N H xs ds) : Rp W.N (upd H p (.lst xs)) (.ref p) (.list ds) := .lst (Wd.frN g hp) upd_same (h.same (same_new hp _))
theorem v_tup {A : List Pd → Prop} (h : EvA W tr δ A) (k : ∀ ds, A ds → ds.length ≤ 100000 ∧ P (.tuple ds)) : Ev W (tTup tr) δ P := fun H σ g en Q q =>
  h H σ g en _ fun vs ds H1 r1 g1 p1 s1 => ⟨szL (by rw [s1.length]; exact (k ds p1).1), fun p hp => q _ _ _ (Wd.trans r1 (Wd.rNew hp _)) (Wd.gNew g1 hp _) (k ds p1).2 (rp_newT hp s1)⟩
theorem v_lst {A : List Pd → Prop} (h : EvA W tr δ A) (k : ∀ ds, A ds → ds.length ≤ 100000 ∧ P (.list ds)) : Ev W (tLst tr) δ P := fun H σ g en Q q =>
  h H σ g en _ fun vs ds H1 r1 g1 p1 s1 => ⟨szL (by rw [s1.length]; exact (k ds p1).1), fun p hp => q _ _ _ (Wd.trans r1 (Wd.rNew hp _)) (Wd.gNew g1 hp _) (k ds p1).2 (rp_newL g1 hp s1)⟩
theorem e_tup {ds : List Pd} (h : AvE W tr δ ds) (hl : ds.length ≤ 100000 := by first | decide | assumption) : EvE W (tTup tr) δ (.tuple ds) := v_tup h fun _ e => by subst e; exact ⟨hl, rfl⟩
theorem e_lst {ds : List Pd} (h : AvE W tr δ ds) (hl : ds.length ≤ 100000 := by first | decide | assumption) : EvE W (tLst tr) δ (.list ds) := v_lst h fun _ e => by subst e; exact ⟨hl, rfl⟩
/-! ### calls -/
theorem v_cb {A : List Pd → Prop} {r : List V → Hp → VK → Prop} (h : EvA W tr δ A) (k : ∀ ds, A ds → CbD W r ds P) : Ev W (tCB r tr) δ P := fun H σ g en Q q =>
  h H σ g en _ fun vs ds H1 r1 g1 p1 s1 => k ds p1 H1 vs g1 s1 Q fun v d H2 r2 g2 p2 s2 => q v d H2 (Wd.trans r1 r2) g2 p2 s2
theorem e_cb {ds : List Pd} {r : List V → Hp → VK → Prop} (h : AvE W tr δ ds) (k : CbD W r ds P) : Ev W (tCB r tr) δ P := v_cb h fun _ e => by subst e; exact k
end
/-- a def that changes nothing: asked pre of the arguments' data, given f of them and the answer's -/
def spR (pre : List Pd → Prop) (f : List Pd → Pd → Prop) : Sp := fun vs H Q _ => ∃ (N : Addr → Prop) (ds : List Pd), (∀ a, N a → H a ≠ none) ∧ RpA N H vs ds ∧ pre ds ∧ ∀ v d H', Same H H' → f ds d → Rp N H' v d → Q v H'
abbrev spF (pre : List Pd → Prop) (f : List Pd → Pd) : Sp := spR pre fun ds d => d = f ds
section
variable {W : Wd} {δ : Dn} {ta tb tc te : TE} {tr tq : TA} {K : PySem.W.Frag} {H H' : Hp} {σ : Sl} {P : Pd → Prop} {pre : List Pd → Prop} {f : List Pd → Pd → Prop} {E : XK}
theorem v_call {A : List Pd → Prop} (h : EvA W tr δ A) (k : ∀ ds, A ds → pre ds ∧ ∀ d, f ds d → P d) : Ev W (tCall (spR pre f) [] E tr) δ P := fun H σ g en Q q =>
  h H σ g en _ fun vs ds H1 r1 g1 p1 s1 => ⟨W.N, ds, fun a n => W.live H1 a g1 (W.ns a n), by rw [List.append_nil]; exact s1, (k ds p1).1, fun v d H2 e2 p2 s2 => q v d H2 (Wd.trans r1 (Wd.rSame e2)) (Wd.ofSame g1 e2) ((k ds p1).2 d p2) s2⟩
theorem e_call {f : List Pd → Pd} {ds : List Pd} (h : AvE W tr δ ds) (hp : pre ds) : EvE W (tCall (spF pre f) [] E tr) δ (f ds) := v_call h fun _ e => by
  subst e
  exact ⟨hp, fun _ z => z⟩
theorem e_callR {ds : List Pd} (h : AvE W tr δ ds) (hp : pre ds) : Ev W (tCall (spR pre f) [] E tr) δ (f ds) := v_call h fun _ e => by
  subst e
  exact ⟨hp, fun _ z => z⟩
/-! ### what is walked -/
def ItE (W : Wd) (wi : TI) (δ : Dn) (ds : List Pd) : Prop := ∀ H σ, W.G H → En W.N H σ δ → ∀ Rr : It → Hp → Prop, (∀ J H1 xs, W.R H H1 → W.G H1 → RpA W.N H1 xs ds → Walk J xs.length (fun H2 => W.R H1 H2) (YAt xs) → Rr J H1) → wi σ H Rr
theorem i_tup {ds : List Pd} (h : EvE W te δ (.tuple ds)) : ItE W (iTup K te) δ ds := fun H σ g en Rr q => h H σ g en _ fun v d H1 r1 g1 p1 s1 => by
  subst p1
  cases s1 with
  | @tup p xs _ hp rs => exact ⟨p, rfl, ⟨xs, SqT.of hp⟩, q _ H1 xs r1 g1 rs (walk_tup.mono (fun H2 r2 => SqT.of (Wd.tups g1 r2 p xs hp)) fun _ _ _ _ _ _ y => y)⟩
theorem i_lst {ds : List Pd} (h : EvE W te δ (.list ds)) : ItE W (iList K te) δ ds := fun H σ g en Rr q => h H σ g en _ fun v d H1 r1 g1 p1 s1 => by
  subst p1
  cases s1 with
  | @lst p xs _ hn hp rs => exact ⟨p, rfl, ⟨xs, SqL.of hp⟩, q _ H1 xs r1 g1 rs (walk_list.mono (fun H2 r2 => SqL.of (r2 p _ (fun z => hn (W.xn p z)) hp)) fun _ _ _ _ _ _ y => y)⟩
def rgV (lo : Int) (n : Nat) : List Int := (List.range n).map fun (i : Nat) => lo + (i : Int)
theorem walk_rg {lo : Int} {n : Nat} {G : Hp → Prop} : Walk (Itr lo n) ((rgV lo n).map V.int).length G (YAt ((rgV lo n).map V.int)) := by
  have hl : ((rgV lo n).map V.int).length = n := by simp [rgV]
  rw [hl]
  refine walk_range.mono (fun _ _ => True.intro) fun i H x H' hi _ y => ⟨y.1, ?_⟩
  rw [y.2]
  simp [rgV, hi]
theorem i_rg1 {n : Int} (h : AvE W tr δ [.int n]) (hn : n ≤ 1000000) (h0 : -1000000 ≤ n) : ItE W (iRng1 tr) δ ((rgV 0 n.toNat).map .int) := fun H σ g en Rr q => h H σ g en _ fun vs ds H1 r1 g1 p1 s1 => by
  subst p1
  cases s1 with
  | cons h1 h2 =>
    cases h2
    cases h1
    exact ⟨n, rfl, by omega, by omega, q _ H1 _ r1 g1 (RpA.ints _) walk_rg⟩
theorem i_rg2 {lo n : Int} (h : AvE W tr δ [.int lo, .int n]) (hl : lo ≤ 1000000) (hl0 : -1000000 ≤ lo) (hn : n ≤ 1000000) (h0 : -1000000 ≤ n) : ItE W (iRng2 tr) δ ((rgV lo (n - lo).toNat).map .int) := fun H σ g en Rr q => h H σ g en _ fun vs ds H1 r1 g1 p1 s1 => by
  subst p1
  cases s1 with
  | cons h1 h2 =>
    cases h2 with
    | cons h2 h3 =>
      cases h3
      cases h1
      cases h2
      exact ⟨lo, n, rfl, by omega, q _ H1 _ r1 g1 (RpA.ints _) walk_rg⟩
end
end K19
end
section
set_option Elab.async false
set_option linter.all false
set_option maxRecDepth 100000
namespace K19
open PySem L2
section
variable {W : Wd} {δ : Dn} {ta tb tc te : TE} {t u tt : TT} {tr tq : TA} {K : PySem.W.Frag} {H H' : Hp} {σ : Sl} {P : Pd → Prop}
/-! ## built-ins -/
theorem c_len {a : Pd} {ds : List Pd} (hs : a = .tuple ds ∨ a = .list ds) (h : P (.int ds.length)) : CbD W (fun xs H Q => ∃ p ys, xs = [.ref p] ∧ (SqL K H p ys ∨ SqT K H p ys) ∧ Q (.int ys.length) H) [a] P := fun H xs g rs Q q => by
  cases rs with
  | cons r1 r2 =>
    cases r2
    rcases hs with rfl | rfl
    · cases r1 with
      | @tup p ys _ hp rs => exact ⟨p, ys, rfl, .inr (SqT.of hp), by rw [rs.length]; exact q _ _ H Wd.rfl' g h (.int _)⟩
    · cases r1 with
      | @lst p ys _ hn hp rs => exact ⟨p, ys, rfl, .inl (SqL.of hp), by rw [rs.length]; exact q _ _ H Wd.rfl' g h (.int _)⟩
theorem c_abs {i : Int} (h : P (.int (if i < 0 then -i else i))) : CbD W (fun xs H Q => ∃ i, xs = [.int i] ∧ Q (.int (if i < 0 then -i else i)) H) [.int i] P := fun H xs g rs Q q => by
  cases rs with
  | cons r1 r2 =>
    cases r2
    cases r1
    exact ⟨i, rfl, q _ _ H Wd.rfl' g h (.int _)⟩
theorem c_int {i : Int} (h : P (.int i)) : CbD W (fun xs H Q => (∃ i, xs = [.int i] ∧ Q (.int i) H) ∨ ∃ k, xs = [.bl k] ∧ Q (.int (if k then 1 else 0)) H) [.int i] P := fun H xs g rs Q q => by
  cases rs with
  | cons r1 r2 =>
    cases r2
    cases r1
    exact .inl ⟨i, rfl, q _ _ H Wd.rfl' g h (.int _)⟩
theorem RpA.bools_eq {N : Addr → Prop} {H : Hp} : ∀ {is : List Bool} {vs : List V}, RpA N H vs (is.map PyData.bool) → vs = is.map V.bl
  | [], _, h => by cases h; rfl
  | i :: is, _, h => by
    cases h with
    | cons h1 h2 =>
      cases h1
      rw [RpA.bools_eq h2, List.map_cons]
theorem c_all {bs : List Bool} (h : P (.bool (bs.all id))) : CbD W (rAll K) [.list (bs.map .bool)] P := fun H xs g rs Q q => by
  cases rs with
  | cons r1 r2 =>
    cases r2
    cases r1 with
    | @lst p ys _ hn hp rs =>
      have e := rs.bools_eq
      subst e
      exact ⟨p, bs, rfl, SqL.of hp, q _ _ H Wd.rfl' g h (.bl _)⟩
theorem c_tuple {a : Pd} {ds : List Pd} (hs : a = .tuple ds ∨ a = .list ds) (h : P (.tuple ds)) :
    CbD W (fun xs H Q => ∃ p ys, xs = [.ref p] ∧ ((SqL K H p ys ∧ ∀ l, H l = none → Q (.ref l) (upd H l (.tup ys))) ∨ (SqT K H p ys ∧ Q (.ref p) H))) [a] P := fun H xs g rs Q q => by
  cases rs with
  | cons r1 r2 =>
    cases r2
    rcases hs with rfl | rfl
    · cases r1 with
      | @tup p ys _ hp rs => exact ⟨p, ys, rfl, .inr ⟨SqT.of hp, q _ _ H Wd.rfl' g h (.tup hp rs)⟩⟩
    · cases r1 with
      | @lst p ys _ hn hp rs => exact ⟨p, ys, rfl, .inl ⟨SqL.of hp, fun l hl => q _ _ _ (Wd.rNew hl _) (Wd.gNew g hl _) h (rp_newT hl rs)⟩⟩
theorem c_list {a : Pd} {ds : List Pd} (hs : a = .tuple ds ∨ a = .list ds) (h : P (.list ds)) :
    CbD W (fun xs H Q => ∃ p ys, xs = [.ref p] ∧ (SqL K H p ys ∨ SqT K H p ys) ∧ ∀ l, H l = none → Q (.ref l) (upd H l (.lst ys))) [a] P := fun H xs g rs Q q => by
  cases rs with
  | cons r1 r2 =>
    cases r2
    rcases hs with rfl | rfl
    · cases r1 with
      | @tup p ys _ hp rs => exact ⟨p, ys, rfl, .inr (SqT.of hp), fun l hl => q _ _ _ (Wd.rNew hl _) (Wd.gNew g hl _) h (rp_newL g hl rs)⟩
    · cases r1 with
      | @lst p ys _ hn hp rs => exact ⟨p, ys, rfl, .inl (SqL.of hp), fun l hl => q _ _ _ (Wd.rNew hl _) (Wd.gNew g hl _) h (rp_newL g hl rs)⟩
/-! ### sorted of ints: the one arrangement -/
def srt (is : List Int) : List Int := is.mergeSort fun a b => decide (a ≤ b)
theorem srt_perm (is : List Int) : (srt is).Perm is := List.mergeSort_perm ..
theorem srt_le (is : List Int) : (srt is).Pairwise (· ≤ ·) := by
  have h := List.pairwise_mergeSort (le := fun a b : Int => decide (a ≤ b)) (fun a b c h1 h2 => by simp only [decide_eq_true_eq] at *; omega) (fun a b => by
    simp only [Bool.or_eq_true, decide_eq_true_eq]
    omega) is
  exact h.imp fun h => of_decide_eq_true h
theorem sort_one {xs ys : List Int} (h : xs.Perm ys) (hx : xs.Pairwise (· ≤ ·)) (hy : ys.Pairwise (· ≤ ·)) : xs = ys :=
  h.eq_of_pairwise (fun a b _ _ h1 h2 => Int.le_antisymm h1 h2) hx hy
theorem srt_of {is ns : List Int} (h : ns.Perm is) (hs : ns.Pairwise (· ≤ ·)) : ns = srt is := sort_one (h.trans (srt_perm is).symm) hs (srt_le is)
theorem c_sorted {is : List Int} (hl : is.length < 64) (h : P (.list ((srt is).map .int))) : CbD W (rSorted K) [.list (is.map .int)] P := fun H xs g rs Q q => by
  cases rs with
  | cons r1 r2 =>
    cases r2
    cases r1 with
    | @lst p ys _ hn hp rs =>
      have e := rs.ints_eq
      subst e
      refine ⟨p, is, rfl, SqL.of hp, hl, fun ns l hpm hpw hl => ?_⟩
      have e2 := srt_of hpm hpw
      subst e2
      exact q _ _ _ (Wd.rNew hl _) (Wd.gNew g hl _) h (rp_newL g hl (RpA.ints _))
/-! ### isinstance -/
def tyN : Pd → String
  | .none => "NoneType"
  | .bool _ => "bool"
  | .int _ => "int"
  | .str _ => "str"
  | .list _ => "list"
  | .tuple _ => "tuple"
  | .dict _ => "dict"
theorem Rp.ty {N : Addr → Prop} {H : Hp} {v : V} {d : Pd} (h : Rp N H v d) : TyX K H v (.type (tyN d)) := by
  cases h with
  | non => exact .base .non
  | bl b => exact .base (.bl b)
  | int i => exact .base (.int i)
  | str x => exact .base (.str x)
  | lst hn ha rs => exact .base (.lst ha)
  | tup ha rs => exact .base (.tup ha)
def isT (T : String) (d : Pd) : Bool := tyN d == T || (T == "int" && tyN d == "bool")
theorem kit_isT {T : String} (hT : T = "int" ∨ T = "bool" ∨ T = "str" ∨ T = "list" ∨ T = "tuple") (d : Pd) (hd : tyN d ≠ "dict") : PySem.W.kitOne K (.type (tyN d)) (.type T) = some (isT T d) := by
  rcases hT with rfl | rfl | rfl | rfl | rfl <;> cases d <;> first | exact (hd rfl).elim | exact kit_ty (by simp only [isT, tyN]; decide +kernel)
theorem c_isi {T : String} {d : Pd} (hT : T = "int" ∨ T = "bool" ∨ T = "str" ∨ T = "list" ∨ T = "tuple") (h : P (.bool (isT T d))) {δ : Dn} (ha : EvE W ta δ d) :
    Ev W (tCB (rIsi K) (tCons ta (tCons (tC (.ty T)) tNil))) δ P := fun H σ g en Q q => ha H σ g en _ fun v e H1 r1 g1 p1 s1 => by
  subst p1
  have hd : tyN e ≠ "dict" := by cases s1 <;> simp [tyN]
  exact ⟨v, .ty T, _, _, isT T e, rfl, .ty T, s1.ty, kit_isT hT e hd, q _ _ H1 r1 g1 h (.bl _)⟩
/-! ### slices, sums of lists and tuples -/
def EvO (W : Wd) (to : TO) (δ : Dn) (P : Option Int → Prop) : Prop := ∀ H σ, W.G H → En W.N H σ δ → ∀ Q : Option Int → Hp → Prop, (∀ o H', W.R H H' → W.G H' → P o → Q o H') → to σ H Q
theorem x_none : EvO W tNoPart δ fun o => o = none := fun H σ g en Q q => q none H Wd.rfl' g rfl
theorem x_some {i : Int} (h : EvE W te δ (.int i)) : EvO W (tPart te) δ fun o => o = some i := fun H σ g en Q q => h H σ g en _ fun v d H1 r1 g1 p1 s1 => by
  subst p1
  cases s1
  exact ⟨i, rfl, q _ H1 r1 g1 rfl⟩
def cutD (ds : List Pd) (lo hi : Option Int) : List Pd := (ds.drop (HT.sIx ds.length 0 lo)).take (HT.sIx ds.length ds.length hi - HT.sIx ds.length 0 lo)
theorem RpA.cut {N : Addr → Prop} {H : Hp} {vs : List V} {ds : List Pd} (h : RpA N H vs ds) (lo hi : Option Int) : RpA N H (cutV vs lo hi) (cutD ds lo hi) := by
  unfold cutV cutD
  rw [h.length]
  exact (h.drop _).take _
theorem e_slT {tl th : TO} {ds : List Pd} {lo hi : Option Int} (ha : EvE W ta δ (.tuple ds)) (hl : EvO W tl δ fun o => o = lo) (hh : EvO W th δ fun o => o = hi) (h : P (.tuple (cutD ds lo hi))) : Ev W (tSl (rSlA K) ta tl th) δ P := fun H σ g en Q q =>
  ha H σ g en _ fun v d H1 r1 g1 p1 s1 => hl H1 σ g1 (en.go g r1) _ fun o H2 r2 g2 p2 => hh H2 σ g2 (en.go g (Wd.trans r1 r2)) _ fun o2 H3 r3 g3 p3 => by
    subst p1 p2 p3
    have r13 := Wd.trans (Wd.trans r1 r2) r3
    cases Wd.rp g1 (Wd.trans r2 r3) s1 with
    | @tup p xs _ hp rs =>
      refine ⟨p, xs, rfl, SqT.of hp, fun hw => ?_, fun hw l hl => ?_⟩
      · refine q _ _ H3 r13 g3 h (.tup hp ?_)
        have e : cutD ds o o2 = ds := by
          unfold cutD
          rw [← rs.length, hw.1, hw.2, rs.length]
          simp
        rw [e]
        exact rs
      · exact q _ _ _ (Wd.trans r13 (Wd.rNew hl _)) (Wd.gNew g3 hl _) h (rp_newT hl (rs.cut _ _))
theorem e_slL {tl th : TO} {ds : List Pd} {lo hi : Option Int} (ha : EvE W ta δ (.list ds)) (hl : EvO W tl δ fun o => o = lo) (hh : EvO W th δ fun o => o = hi) (h : P (.list (cutD ds lo hi))) : Ev W (tSl (rSlL K) ta tl th) δ P := fun H σ g en Q q =>
  ha H σ g en _ fun v d H1 r1 g1 p1 s1 => hl H1 σ g1 (en.go g r1) _ fun o H2 r2 g2 p2 => hh H2 σ g2 (en.go g (Wd.trans r1 r2)) _ fun o2 H3 r3 g3 p3 => by
    subst p1 p2 p3
    have r13 := Wd.trans (Wd.trans r1 r2) r3
    cases Wd.rp g1 (Wd.trans r2 r3) s1 with
    | @lst p xs _ hn hp rs =>
      exact ⟨p, xs, rfl, SqL.of hp, fun l hl => q _ _ _ (Wd.trans r13 (Wd.rNew hl _)) (Wd.gNew g3 hl _) h (rp_newL g3 hl (rs.cut _ _))⟩
theorem o_cat {ds es : List Pd} (hz : ds.length + es.length ≤ 100000) (h : P (.list (ds ++ es))) : OpD W rCat (.list ds) (.list es) P := fun H x y g rx ry Q q => by
  cases rx with
  | @lst p xs _ hn hp rs =>
    cases ry with
    | @lst p2 ys _ hn2 hp2 rs2 => exact ⟨p, p2, xs, ys, rfl, rfl, hp, hp2, szL (by rw [rs.length, rs2.length]; exact hz), fun l hl => q _ _ _ (Wd.rNew hl _) (Wd.gNew g hl _) h (rp_newL g hl (rs.append rs2))⟩
theorem o_catT {ds es : List Pd} (hz : ds.length + es.length ≤ 100000) (h : P (.tuple (ds ++ es))) : OpD W (rCatA K) (.tuple ds) (.tuple es) P := fun H x y g rx ry Q q => by
  cases rx with
  | @tup p xs _ hp rs =>
    cases ry with
    | @tup p2 ys _ hp2 rs2 =>
      refine ⟨p, p2, xs, ys, rfl, rfl, SqT.of hp, SqT.of hp2, szL (by rw [rs.length, rs2.length]; exact hz), fun e => ?_, fun e e2 => ?_, fun e e2 l hl => q _ _ _ (Wd.rNew hl _) (Wd.gNew g hl _) h (rp_newT hl (rs.append rs2))⟩
      · subst e
        cases rs
        exact q _ _ H Wd.rfl' g h (.tup hp2 rs2)
      · subst e2
        cases rs2
        rw [List.append_nil] at h
        exact q _ _ H Wd.rfl' g h (.tup hp rs)
/-! ## comprehensions -/
theorem Rp.upd_ne {N : Addr → Prop} {H : Hp} {D : Addr} {o : HO} (hD : ¬ N D) (hm : ∃ xs, H D = some (.lst xs)) {v : V} {d : Pd} (h : Rp (fun a => N a ∨ a = D) H v d) : Rp (fun a => N a ∨ a = D) (upd H D o) v d :=
  Rp.keep (fun a xs e => by
      obtain ⟨ys, q⟩ := hm
      rw [L2.upd_ne]
      · exact e
      · rintro rfl
        rw [e] at q
        cases q) (fun a xs n e => by
      rw [L2.upd_ne]
      · exact e
      · exact fun z => n (.inr z)) (fun _ _ _ z => z) d v h
/-- the elements may be any that the element's word allows -/
theorem v_lc {wi : TI} {j : Nat} {vs : List Nat} {ds : List Pd} {Pt : Pd → Bool → Prop} {Pe : Pd → Pd → Prop} (hi : ItE W wi δ ds) (hw : okW δ vs = true) (hj : j ∈ vs) (ht : ∀ x, x ∈ ds → EvT W tt (δ.set j (.d x)) (Pt x))
    (he : ∀ x, x ∈ ds → Pt x true → Ev W te (δ.set j (.d x)) (Pe x)) (hnl : ∀ x y, x ∈ ds → Pt x true → Pe x y → nl y = true) (hlen : ds.length ≤ 100000)
    {R : List Pd → List Pd → Prop} (h0 : R [] []) (hy : ∀ xs ys x y, x ∈ ds → Pt x true → Pe x y → R xs ys → R (xs ++ [x]) (ys ++ [y])) (hn : ∀ xs ys x, x ∈ ds → Pt x false → R xs ys → R (xs ++ [x]) ys) (hd : ∀ ys, ys.length ≤ ds.length → R ds ys → P (.list ys)) :
    Ev W (tLc wi (gName j) tt te vs) δ P := fun H σ g en Q q => by
  refine hi H σ g en _ fun J H1 xs r1 g1 rs wk => ?_
  intro D hD
  have hDN : ¬ W.N D := Wd.frN g1 hD
  have hDS : ¬ W.S D := Wd.fr g1 hD
  have hDX : ¬ W.X D := fun z => hDN (W.xn D z)
  have en1 : En W.N H1 σ δ := en.go g r1
  have avoid : ∀ {v d}, Rp W.N H1 v d → Rp (fun a => W.N a ∨ a = D) H1 v d := fun {v d} h => Rp.keep (fun _ _ e => e) (fun _ _ _ e => e) (fun a xs e z => by
    rcases z with z | rfl
    · exact z
    · rw [hD] at e
      cases e) d v h
  have weak : ∀ {H2 v d}, Rp (fun a => W.N a ∨ a = D) H2 v d → Rp W.N H2 v d := fun {H2 v d} h => Rp.keep (fun _ _ e => e) (fun _ _ n e => e) (fun a xs e z => .inl z) d v h
  have step : ∀ {H2 H3 v d}, W.G H2 → W.R H2 H3 → Rp (fun a => W.N a ∨ a = D) H2 v d → Rp (fun a => W.N a ∨ a = D) H3 v d := fun {H2 H3 v d} g2 r h => Rp.keep (Wd.tups g2 r) (fun a xs n e => r a _ (fun z => n (.inl (W.xn a z))) e) (fun _ _ _ z => z) d v h
  -- the word of the loop
  refine lc_it wk (fun i H2 => W.G H2 ∧ (∀ a o, ¬ W.X a → H1 a = some o → H2 a = some o) ∧ En (fun a => W.N a ∨ a = D) H2 σ δ ∧ RpA (fun a => W.N a ∨ a = D) H2 xs ds ∧ ∃ acc ys, H2 D = some (.lst acc) ∧ RpA W.N H2 acc ys ∧ nlA ys = true ∧ ys.length ≤ i ∧ R (ds.take i) ys) ?_ ?_ ?_ ?_
  · have s := same_new hD (.lst [])
    refine ⟨Wd.ofSame g1 s, fun a o _ e => s a o e, ((en1.map fun _ _ h => avoid h).same s), ?_, [], [], upd_same, .nil, rfl, Nat.le_refl _, by simpa using h0⟩
    exact (RpA.keep (fun _ _ e => e) (fun _ _ _ e => e) (fun a xs e z => by
      rcases z with z | rfl
      · exact z
      · rw [hD] at e
        cases e) ds xs rs).same s
  · rintro i H2 hle ⟨_, k, _⟩
    exact k
  · rintro i v H2 H2' hlt ⟨g2, k2, en2, rs2, acc, ys, hacc, ra, hnls, hle, hR⟩ ⟨e, hv⟩
    subst e
    obtain ⟨x, hx, rx⟩ := rs2.getV hv
    have hmem : x ∈ ds := List.mem_of_getElem? hx
    have enx : En (fun a => W.N a ∨ a = D) H2' ((wipe σ vs).set j (some v)) (δ.set j (.d x)) := (en2.wipe hw).set rx
    show wipe ((wipe σ vs).set j (some v)) vs = wipe σ vs ∧ _
    refine ⟨?_, ?_⟩
    · rw [wipe_set hj]
      have : ∀ us : List Nat, wipe (wipe σ us) us = wipe σ us := fun us => by
        apply List.ext_getElem?
        intro i
        by_cases m : i ∈ us
        · have key : ∀ (τ : Sl) (ws : List Nat), i ∈ ws → (wipe τ ws)[i]? = if i < τ.length then some none else none := by
            intro τ ws
            induction ws with
            | nil => intro z; cases z
            | cons u ws ih =>
              intro z
              show ((wipe τ ws).set u none)[i]? = _
              by_cases q : u = i
              · subst q
                by_cases lt : u < τ.length
                · rw [List.getElem?_set_self (by rw [wipe_length]; exact lt), if_pos lt]
                · rw [if_neg lt, List.getElem?_eq_none_iff]
                  simp only [List.length_set, wipe_length]
                  omega
              · rw [List.getElem?_set_ne q]
                exact ih (by simpa [Ne.symm q] using z)
          rw [key _ _ m, key _ _ m, wipe_length]
        · rw [wipe_out m]
      exact this vs
    refine ht x hmem H2' _ g2 (enx.map fun _ _ h => weak h) _ fun b H3 r3 g3 pb => ?_
    have hD3 : H3 D = some (.lst acc) := r3 D _ hDX hacc
    have base3 : (∀ a o, ¬ W.X a → H1 a = some o → H3 a = some o) := fun a o n e => r3 a o n (k2 a o n e)
    have tk : ds.take (i + 1) = ds.take i ++ [x] := by
      have hlt' : i < ds.length := (List.getElem?_eq_some_iff.mp hx).1
      rw [List.take_succ, hx]
      rfl
    cases b with
    | false =>
      show W.G H3 ∧ _
      refine ⟨g3, base3, en2.map fun _ _ h => step g2 r3 h, RpA.keep (Wd.tups g2 r3) (fun a xs n e => r3 a _ (fun z => n (.inl (W.xn a z))) e) (fun _ _ _ z => z) ds xs rs2, acc, ys, hD3, Wd.rpA g2 r3 ra, hnls, Nat.le_succ_of_le hle, ?_⟩
      rw [tk]
      exact hn _ _ x hmem pb hR
    | true =>
      show te _ H3 _
      refine he x hmem pb H3 _ g3 (enx.map fun _ _ h => weak (step g2 r3 h)) _ fun y dy H4 r4 g4 py ry => ?_
      have hD4 : H4 D = some (.lst acc) := r4 D _ hDX hD3
      have hny := hnl x dy hmem pb py
      have tup_ne : ∀ a xs, H4 a = some (.tup xs) → a ≠ D := fun a xs e z => by
        rw [z, hD4] at e
        cases e
      have r24 := Wd.trans r3 r4
      have lenacc : acc.length = ys.length := ra.length
      have hlt' : i < ds.length := (List.getElem?_eq_some_iff.mp hx).1
      refine ⟨acc, hD4, Nat.lt_of_lt_of_le (show acc.length < 100000 by omega) (by decide), ?_⟩
      refine ⟨W.chg _ _ g4 fun a s => L2.upd_ne (fun z => hDS (z ▸ s)), fun a o n e => ?_, ?_, ?_, acc ++ [y], ys ++ [dy], upd_same, ?_, ?_, ?_, ?_⟩
      · rw [L2.upd_ne]
        · exact r4 a o n (base3 a o n e)
        · rintro rfl
          rw [hD] at e
          cases e
      · exact (en2.map fun _ _ h => step g2 r24 h).map fun _ _ h => Rp.upd_ne hDN ⟨_, hD4⟩ h
      · have rs4 : RpA (fun a => W.N a ∨ a = D) H4 xs ds := RpA.keep (Wd.tups g2 r24) (fun a xs n e => r24 a _ (fun z => n (.inl (W.xn a z))) e) (fun _ _ _ z => z) ds xs rs2
        exact RpA.keep (fun a xs e => by rw [L2.upd_ne (tup_ne a xs e)]; exact e) (fun a xs n e => by rw [L2.upd_ne (fun z => n (.inr z))]; exact e) (fun _ _ _ z => z) ds xs rs4
      · refine RpA.append (RpA.nl_keep (fun a xs e => by rw [L2.upd_ne (tup_ne a xs e)]; exact e) ys acc hnls (Wd.rpA g2 r24 ra)) (.cons (Rp.nl_keep (fun a xs e => by rw [L2.upd_ne (tup_ne a xs e)]; exact e) dy y hny ry) .nil)
      · have : ∀ l : List Pd, nlA l = true → nlA (l ++ [dy]) = true := by
          intro l
          induction l with
          | nil => intro _; simp [nlA, hny]
          | cons a l ih =>
            intro e
            have e' : nl a = true ∧ nlA l = true := by simpa [nlA] using e
            simp [nlA, e'.1, ih e'.2]
        exact this ys hnls
      · rw [List.length_append, List.length_singleton]
        omega
      · rw [tk]
        exact hy _ _ x dy hmem pb py hR
  · rintro H2 ⟨g2, k2, _, _, acc, ys, hacc, ra, hnls, hle, hR⟩
    have hl := rs.length
    refine q _ (.list ys) H2 (Wd.trans r1 k2) g2 (hd ys (by omega) ?_) (.lst hDN hacc ra)
    rw [hl, List.take_length] at hR
    exact hR
theorem e_lc {wi : TI} {j : Nat} {vs : List Nat} {ds : List Pd} (c : Pd → Bool) (f : Pd → Pd) (hi : ItE W wi δ ds) (hw : okW δ vs = true) (hj : j ∈ vs) (ht : ∀ x, x ∈ ds → TvE W tt (δ.set j (.d x)) (c x))
    (he : ∀ x, x ∈ ds → c x = true → EvE W te (δ.set j (.d x)) (f x)) (hnl : ∀ x, x ∈ ds → c x = true → nl (f x) = true) (hlen : ds.length ≤ 100000) : EvE W (tLc wi (gName j) tt te vs) δ (.list ((ds.filter c).map f)) := by
  refine v_lc (Pt := fun x b => b = c x) (Pe := fun x y => y = f x) hi hw hj ht (fun x m e => he x m e.symm) (fun x y m e1 e2 => by rw [e2]; exact hnl x m e1.symm) hlen (R := fun xs ys => ys = (xs.filter c).map f) rfl ?_ ?_ fun ys _ e => by rw [e]
  · rintro xs ys x y m e1 e2 e3
    rw [e2, e3, List.filter_append, List.map_append, List.filter_cons, if_pos e1.symm, List.filter_nil, List.map_cons, List.map_nil]
  · rintro xs ys x m e1 e3
    rw [e3, List.filter_append, List.map_append, List.filter_cons, if_neg (by rw [← e1]; decide), List.filter_nil, List.map_nil, List.append_nil]
theorem t_yes : TvE W tYes δ true := fun H σ g en Q q => q true H Wd.rfl' g rfl
/-- without an if -/
theorem e_map {wi : TI} {j : Nat} {vs : List Nat} {ds : List Pd} (f : Pd → Pd) (hi : ItE W wi δ ds) (hw : okW δ vs = true) (hj : j ∈ vs)
    (he : ∀ x, x ∈ ds → EvE W te (δ.set j (.d x)) (f x)) (hnl : ∀ x, x ∈ ds → nl (f x) = true) (hlen : ds.length ≤ 100000) : EvE W (tLc wi (gName j) tYes te vs) δ (.list (ds.map f)) := by
  have h := e_lc (fun _ => true) f hi hw hj (fun _ _ => t_yes) (fun x m _ => he x m) (fun x m _ => hnl x m) hlen
  rw [List.filter_eq_self.mpr (fun _ _ => rfl)] at h
  exact h
end
end K19
end
section
set_option Elab.async false
set_option linter.all false
set_option maxRecDepth 100000
namespace K19
open PySem L2
/-- a statement: it goes on in slots that Nx allows, or returns data that P allows -/
def Sm (W : Wd) (ts : TS) (δ : Dn) (Nx : Dn → Prop) (P : Pd → Prop) : Prop := ∀ H σ, W.G H → En W.N H σ δ → ∀ D : Ends, (∀ σ' δ' H', W.R H H' → W.G H' → Nx δ' → En W.N H' σ' δ' → D.nx σ' H') → (∀ v d H', W.R H H' → W.G H' → P d → Rp W.N H' v d → D.rt v H') → ts D σ H
section
variable {W : Wd} {δ : Dn} {ta tb tc te : TE} {c : TT} {t u : TS} {K : PySem.W.Frag} {H H' : Hp} {σ : Sl} {P : Pd → Prop} {Nx : Dn → Prop} {d : Pd}
theorem sm_seq {Mid : Dn → Prop} (h1 : Sm W t δ Mid P) (h2 : ∀ δ', Mid δ' → Sm W u δ' Nx P) : Sm W (tSeq t u) δ Nx P := fun H σ g en D nx rt =>
  h1 H σ g en { D with nx := u D } (fun σ' δ' H' r1 g1 m en1 => h2 δ' m H' σ' g1 en1 D (fun σ2 δ2 H2 r2 g2 m2 en2 => nx σ2 δ2 H2 (Wd.trans r1 r2) g2 m2 en2) fun v d H2 r2 g2 p2 s2 => rt v d H2 (Wd.trans r1 r2) g2 p2 s2) rt
theorem sm_next (h : Nx δ) : Sm W tNext δ Nx P := fun H σ g en D nx rt => nx σ δ H Wd.rfl' g h en
theorem sm_asgP {i : Nat} {A : Pd → Prop} (h : Ev W te δ A) (k : ∀ d, A d → Nx (δ.set i (.d d))) : Sm W (tAsg te (gName i)) δ Nx P := fun H σ g en D nx rt =>
  h H σ g en _ fun v d H1 r1 g1 p1 s1 => nx _ _ H1 r1 g1 (k d p1) ((en.go g r1).set s1)
theorem sm_asg {i : Nat} (h : EvE W te δ d) (k : Nx (δ.set i (.d d))) : Sm W (tAsg te (gName i)) δ Nx P := sm_asgP h fun _ e => by subst e; exact k
/-- x = e, then the rest -/
theorem q_asg {i : Nat} (h : EvE W te δ d) (k : Sm W u (δ.set i (.d d)) Nx P) : Sm W (tSeq (tAsg te (gName i)) u) δ Nx P := sm_seq (sm_asg h rfl) fun _ e => by subst e; exact k
theorem q_asgP {i : Nat} {A : Pd → Prop} (h : Ev W te δ A) (k : ∀ d, A d → Sm W u (δ.set i (.d d)) Nx P) : Sm W (tSeq (tAsg te (gName i)) u) δ Nx P :=
  sm_seq (Mid := fun δ' => ∃ d, A d ∧ δ' = δ.set i (.d d)) (sm_asgP h fun d a => ⟨d, a, rfl⟩) fun _ ⟨d, a, e⟩ => by subst e; exact k d a
theorem sm_ret (h : Ev W te δ P) : Sm W (tRet te) δ Nx P := fun H σ g en D nx rt => h H σ g en D.rt rt
theorem sm_drop {A : Pd → Prop} (h : Ev W te δ A) (k : Nx δ) : Sm W (tDrop te) δ Nx P := fun H σ g en D nx rt => h H σ g en _ fun v d H1 r1 g1 p1 s1 => nx σ δ H1 r1 g1 k (en.go g r1)
theorem sm_ifP {A : Bool → Prop} (h : EvT W c δ A) (h1 : A true → Sm W t δ Nx P) (h2 : A false → Sm W u δ Nx P) : Sm W (tIfS c t u) δ Nx P := fun H σ g en D nx rt =>
  h H σ g en _ fun b H1 r1 g1 p1 => by
    have nx' : ∀ σ' δ' H', W.R H1 H' → W.G H' → Nx δ' → En W.N H' σ' δ' → D.nx σ' H' := fun σ2 δ2 H2 r2 g2 m2 en2 => nx σ2 δ2 H2 (Wd.trans r1 r2) g2 m2 en2
    have rt' : ∀ v d H', W.R H1 H' → W.G H' → P d → Rp W.N H' v d → D.rt v H' := fun v d H2 r2 g2 p2 s2 => rt v d H2 (Wd.trans r1 r2) g2 p2 s2
    cases b with
    | true => exact h1 p1 H1 σ g1 (en.go g r1) D nx' rt'
    | false => exact h2 p1 H1 σ g1 (en.go g r1) D nx' rt'
theorem sm_if {b : Bool} (h : TvE W c δ b) (h1 : b = true → Sm W t δ Nx P) (h2 : b = false → Sm W u δ Nx P) : Sm W (tIfS c t u) δ Nx P := sm_ifP h (fun e => h1 e.symm) fun e => h2 e.symm
/-- if c: return .. -/
theorem q_if {b : Bool} {v : TS} (h : TvE W c δ b) (h1 : b = true → Sm W t δ (fun _ => False) P) (h2 : b = false → Sm W v δ Nx P) : Sm W (tSeq (tIfS c t tNext) v) δ Nx P := by
  refine sm_seq (Mid := fun δ' => δ' = δ ∧ b = false) (sm_if h (fun e => ?_) fun e => sm_next ⟨rfl, e⟩) fun δ' ⟨e1, e2⟩ => by subst e1; exact h2 e2
  exact fun H σ g en D nx rt => h1 e H σ g en D (fun _ _ _ _ _ z _ => z.elim) rt
theorem q_ifP {A : Bool → Prop} {v : TS} (h : EvT W c δ A) (h1 : A true → Sm W t δ (fun _ => False) P) (h2 : A false → Sm W v δ Nx P) : Sm W (tSeq (tIfS c t tNext) v) δ Nx P := by
  refine sm_seq (Mid := fun δ' => δ' = δ ∧ A false) (sm_ifP h (fun e => ?_) fun e => sm_next ⟨rfl, e⟩) fun δ' ⟨e1, e2⟩ => by subst e1; exact h2 e2
  exact fun H σ g en D nx rt => h1 e H σ g en D (fun _ _ _ _ _ z _ => z.elim) rt
theorem sm_false (h : Sm W t δ (fun _ => False) P) : Sm W t δ Nx P := fun H σ g en D nx rt => h H σ g en D (fun _ _ _ _ _ z _ => z.elim) rt
/-- x, y = e -/
theorem q_unp {i j : Nat} {A : Pd → Pd → Prop} {K : PySem.W.Frag} (h : Ev W te δ fun d => ∃ a b, d = .tuple [a, b] ∧ A a b) (k : ∀ a b, A a b → Sm W u ((δ.set i (.d a)).set j (.d b)) Nx P) :
    Sm W (tSeq (tAsg te (gTup K 2 (gCons (gName i) (gCons (gName j) gNil)))) u) δ Nx P := by
  refine sm_seq (Mid := fun δ' => ∃ a b, A a b ∧ δ' = (δ.set i (.d a)).set j (.d b)) (fun H σ g en D nx rt => ?_) fun _ ⟨a, b, ha, e⟩ => by subst e; exact k a b ha
  refine h H σ g en _ fun v d H1 r1 g1 p1 s1 => ?_
  obtain ⟨a, b, rfl, hab⟩ := p1
  cases s1 with
  | @tup p xs _ hp rs =>
    cases rs with
    | @cons v1 _ _ _ r1' rs =>
      cases rs with
      | @cons v2 _ _ _ r2' rs =>
        cases rs
        exact ⟨p, _, rfl, SqT.of hp, rfl, v1, _, rfl, v2, _, rfl, rfl, nx _ _ H1 r1 g1 ⟨a, b, hab, rfl⟩ (((en.go g r1).set r1').set r2')⟩
/-! ### for -/
theorem sm_for {wi : TI} {j : Nat} {ds : List Pd} {tb : TS} (hi : ItE W wi δ ds) (Inv : Nat → Dn → Prop) (h0 : Inv 0 δ) (hs : ∀ i x δ', ds[i]? = some x → Inv i δ' → Sm W tb (δ'.set j (.d x)) (Inv (i + 1)) P) (hd : ∀ δ', Inv ds.length δ' → Nx δ') : Sm W (tFor wi (gName j) tb) δ Nx P := fun H σ g en D nx rt => by
  refine hi H σ g en _ fun J H1 xs r1 g1 rs wk => ?_
  refine for_it wk (fun i σ2 H2 => W.R H1 H2 ∧ W.G H2 ∧ ∃ δ', Inv i δ' ∧ En W.N H2 σ2 δ') ⟨Wd.rfl', g1, δ, h0, en.go g r1⟩ (fun i σ2 H2 _ p => p.1) ?_ ?_
  · rintro i v σ2 H2 H2' hlt ⟨r2, g2, δ', hI, en2⟩ ⟨e, hv⟩
    subst e
    obtain ⟨x, hx, rx⟩ := (Wd.rpA g1 r2 rs).getV hv
    refine hs i x δ' hx hI H2' _ g2 (en2.set rx) _ (fun σ3 δ3 H3 r3 g3 m3 en3 => ⟨Wd.trans r2 r3, g3, δ3, m3, en3⟩) fun v d H3 r3 g3 p3 s3 => rt v d H3 (Wd.trans r1 (Wd.trans r2 r3)) g3 p3 s3
  · rintro σ2 H2 ⟨r2, g2, δ', hI, en2⟩
    rw [rs.length] at hI
    exact nx σ2 δ' H2 (Wd.trans r1 r2) g2 (hd δ' hI) en2
/-- pairs: enumerate -/
def ItP (W : Wd) (wi : TI) (δ : Dn) (n : Nat) (p q : Nat → Option Pd) : Prop := ∀ H σ, W.G H → En W.N H σ δ → ∀ Rr : It → Hp → Prop,
  (∀ J H1 xf yf, W.R H H1 → W.G H1 → (∀ i x, xf i = some x → ∃ d, p i = some d ∧ Rp W.N H1 x d) → (∀ i x, yf i = some x → ∃ d, q i = some d ∧ Rp W.N H1 x d) → Walk J n (fun H2 => W.R H1 H2) (YPair xf yf) → Rr J H1) → wi σ H Rr
theorem sm_for2 {wi : TI} {j k : Nat} {n : Nat} {p q : Nat → Option Pd} {tb : TS} (hi : ItP W wi δ n p q) (Inv : Nat → Dn → Prop) (h0 : Inv 0 δ) (hs : ∀ i x y δ', i < n → p i = some x → q i = some y → Inv i δ' → Sm W tb ((δ'.set j (.d x)).set k (.d y)) (Inv (i + 1)) P) (hd : ∀ δ', Inv n δ' → Nx δ') :
    Sm W (tFor wi (gTup K 2 (gCons (gName j) (gCons (gName k) gNil))) tb) δ Nx P := fun H σ g en D nx rt => by
  refine hi H σ g en _ fun J H1 xf yf r1 g1 hx hy wk => ?_
  refine for_it wk (fun i σ2 H2 => W.R H1 H2 ∧ W.G H2 ∧ ∃ δ', Inv i δ' ∧ En W.N H2 σ2 δ') ⟨Wd.rfl', g1, δ, h0, en.go g r1⟩ (fun i σ2 H2 _ p => p.1) ?_ ?_
  · rintro i v σ2 H2 H2' hlt ⟨r2, g2, δ', hI, en2⟩ ⟨T, x, y, rfl, hT, rfl, ex, ey⟩
    obtain ⟨dx, px, rx⟩ := hx i x ex
    obtain ⟨dy, py, ry⟩ := hy i y ey
    have s := same_new hT (.tup [x, y])
    refine ⟨T, _, rfl, SqT.of upd_same, rfl, x, _, rfl, y, _, rfl, rfl, ?_⟩
    refine hs i dx dy δ' hlt px py hI _ _ (Wd.ofSame g2 s) (((en2.same s).set ((Wd.rp g1 r2 rx).same s)).set ((Wd.rp g1 r2 ry).same s)) _ (fun σ3 δ3 H3 r3 g3 m3 en3 => ⟨Wd.trans r2 (Wd.trans (Wd.rSame s) r3), g3, δ3, m3, en3⟩) fun v d H3 r3 g3 p3 s3 => rt v d H3 (Wd.trans r1 (Wd.trans r2 (Wd.trans (Wd.rSame s) r3))) g3 p3 s3
  · rintro σ2 H2 ⟨r2, g2, δ', hI, en2⟩
    exact nx σ2 δ' H2 (Wd.trans r1 r2) g2 (hd δ' hI) en2
end
/-! ## a def that changes nothing -/
def args (n : Nat) (ds : List Pd) : Dn := ds.map .d ++ List.replicate (n - ds.length) .no
theorem en_start {N : Addr → Prop} {H : Hp} {vs : List V} {ds : List Pd} {Ns : List Str} (h : RpA N H vs ds) : En N H (L2.start Ns vs) (args Ns.length ds) := ⟨by simp [L2.start, args, h.length], fun i k e => by
  unfold args at e
  unfold L2.start
  by_cases lt : i < ds.length
  · rw [List.getElem?_append_left (by simpa using lt), List.getElem?_map] at e
    rw [List.getElem?_append_left (by simpa [h.length] using lt), List.getElem?_map]
    cases q : ds[i]? with
    | none => rw [q] at e; cases e
    | some d =>
      rw [q] at e
      cases e
      obtain ⟨v, hv, r⟩ := h.get q
      exact ⟨some v, by rw [hv]; rfl, v, rfl, r⟩
  · rw [List.getElem?_append_right (by simpa using Nat.le_of_not_lt lt)] at e
    rw [List.getElem?_append_right (by simpa [h.length] using Nat.le_of_not_lt lt)]
    simp only [List.length_map] at e ⊢
    rw [List.getElem?_replicate] at e
    split at e
    · cases e
      exact ⟨none, by rw [List.getElem?_replicate, if_pos (by rw [h.length]; assumption)], True.intro⟩
    · cases e⟩
theorem pure_go {t : TS} {Ns : List Str} {pre : List Pd → Prop} {f : List Pd → Pd → Prop} (h : ∀ (W : Wd) (ds : List Pd), pre ds → Sm W t (args Ns.length ds) (fun _ => False) (f ds)) {vs : List V} {H : Hp} {Q : VK} {E : XK} (hsp : spR pre f vs H Q E) :
    t { nx := fun _ H' => Q .non H', rt := Q } (L2.start Ns vs) H := by
  obtain ⟨N, ds, hl, rs, hp, q⟩ := hsp
  exact h (pureW N H hl) ds hp H _ (fun _ _ e => e) (en_start rs) _ (fun _ _ _ _ _ z _ => z.elim) fun v d H' _ g' p s => q v d H' g' p s
theorem spR_len {pre : List Pd → Prop} {f : List Pd → Pd → Prop} {n : Nat} (hn : ∀ ds, pre ds → ds.length = n) : ∀ vs H Q E, spR pre f vs H Q E → vs.length = n := fun vs H Q E ⟨N, ds, _, rs, hp, _⟩ => by rw [rs.length, hn ds hp]
end K19
end
section
set_option Elab.async false
set_option linter.all false
set_option maxRecDepth 100000
namespace K19
open PySem L2
/-! ## short forms, the answer told -/
abbrev rLn (K : PySem.W.Frag) : List V → Hp → VK → Prop := fun xs H Q => ∃ p ys, xs = [.ref p] ∧ (SqL K H p ys ∨ SqT K H p ys) ∧ Q (.int ys.length) H
abbrev rTp (K : PySem.W.Frag) : List V → Hp → VK → Prop := fun xs H Q => ∃ p ys, xs = [.ref p] ∧ ((SqL K H p ys ∧ ∀ l, H l = none → Q (.ref l) (upd H l (.tup ys))) ∨ (SqT K H p ys ∧ Q (.ref p) H))
abbrev rLs (K : PySem.W.Frag) : List V → Hp → VK → Prop := fun xs H Q => ∃ p ys, xs = [.ref p] ∧ (SqL K H p ys ∨ SqT K H p ys) ∧ ∀ l, H l = none → Q (.ref l) (upd H l (.lst ys))
section
variable {W : Wd} {δ : Dn} {ta tb tc te : TE} {t u : TT} {tr : TA} {K : PySem.W.Frag} {i j : Int} {a b d : Pd} {ds es : List Pd} {is : List Int}
theorem e_isi {T : String} (ha : EvE W ta δ d) (hT : T = "int" ∨ T = "bool" ∨ T = "str" ∨ T = "list" ∨ T = "tuple" := by first | exact .inl rfl | exact .inr (.inl rfl) | exact .inr (.inr (.inl rfl)) | exact .inr (.inr (.inr (.inl rfl))) | exact .inr (.inr (.inr (.inr rfl)))) :
    EvE W (tCB (rIsi K) (tCons ta (tCons (tC (.ty T)) tNil))) δ (.bool (isT T d)) := by
  refine c_isi hT ?_ ha
  rfl
theorem e_neg (ha : EvE W ta δ (.int i)) : EvE W (tUn (rU fun i => .int (-i)) ta) δ (.int (-i)) := e_un ha (u_neg rfl)
theorem e_opI {f : Int → Int → Int} (ha : EvE W ta δ (.int i)) (hb : EvE W tb δ (.int j)) : EvE W (tOp (rI0 fun i j => .int (f i j)) ta tb) δ (.int (f i j)) := e_op ha hb (o_int rfl)
theorem e_opB {f : Int → Int → Bool} (ha : EvE W ta δ (.int i)) (hb : EvE W tb δ (.int j)) : EvE W (tOp (rI0 fun i j => .bl (f i j)) ta tb) δ (.bool (f i j)) := e_op ha hb (o_bl rfl)
theorem e_opC {C : Int → Int → Prop} {f : Int → Int → Int} (ha : EvE W ta δ (.int i)) (hb : EvE W tb δ (.int j)) (hc : C i j) : EvE W (tOp (rI C fun i j => .int (f i j)) ta tb) δ (.int (f i j)) := e_op ha hb (o_intC hc rfl)
theorem e_eqI (ha : EvE W ta δ (.int i)) (hb : EvE W tb δ (.int j)) : EvE W (tOp rEq ta tb) δ (.bool (decide (i = j))) := e_op ha hb (o_eqI rfl)
theorem e_neI (ha : EvE W ta δ (.int i)) (hb : EvE W tb δ (.int j)) : EvE W (tOp rNe ta tb) δ (.bool (!decide (i = j))) := e_op ha hb (o_neI rfl)
theorem e_eqB {x y : Bool} (ha : EvE W ta δ (.bool x)) (hb : EvE W tb δ (.bool y)) : EvE W (tOp rEq ta tb) δ (.bool (x == y)) := e_op ha hb (o_eqB rfl)
theorem e_neB {x y : Bool} (ha : EvE W ta δ (.bool x)) (hb : EvE W tb δ (.bool y)) : EvE W (tOp rNe ta tb) δ (.bool (!(x == y))) := e_op ha hb (o_neB rfl)
theorem e_isN (ha : EvE W ta δ a) : EvE W (tOp (fun x y H Q => y = .non ∧ Q (.bl (decide (x = .non))) H) ta (tC .non)) δ (.bool (isN a)) := e_op ha e_non (o_isN rfl)
theorem e_notN (ha : EvE W ta δ a) : EvE W (tOp (fun x y H Q => y = .non ∧ Q (.bl (!decide (x = .non))) H) ta (tC .non)) δ (.bool (!isN a)) := e_op ha e_non (o_notN rfl)
theorem atI_ok {α : Type} {xs : List α} {i : Int} {x : α} (h0 : 0 ≤ i) (h : xs[i.toNat]? = some x) : L2.atI xs i = some x := by
  have e : i = ((i.toNat : Nat) : Int) := by omega
  rw [e]
  exact atI_nat h
theorem e_ixT (ha : EvE W ta δ (.tuple ds)) (hb : EvE W tb δ (.int i)) (h : ds[i.toNat]? = some d) (h0 : 0 ≤ i := by first | decide | omega) : EvE W (tOp (rIx K) ta tb) δ d := e_op ha hb (o_ix (.inl rfl) (atI_ok h0 h) rfl)
theorem e_ixL (ha : EvE W ta δ (.list ds)) (hb : EvE W tb δ (.int i)) (h : ds[i.toNat]? = some d) (h0 : 0 ≤ i := by first | decide | omega) : EvE W (tOp (rIx K) ta tb) δ d := e_op ha hb (o_ix (.inr rfl) (atI_ok h0 h) rfl)
theorem e_inT (ha : EvE W ta δ (.int i)) (hb : EvE W tb δ (.tuple (is.map .int))) : EvE W (tOp (rIn K false) ta tb) δ (.bool (decide (i ∈ is))) := e_op ha hb (o_in (neg := false) (.inl rfl) rfl)
theorem e_niT (ha : EvE W ta δ (.int i)) (hb : EvE W tb δ (.tuple (is.map .int))) : EvE W (tOp (rIn K true) ta tb) δ (.bool (!decide (i ∈ is))) := e_op ha hb (o_in (neg := true) (.inl rfl) rfl)
theorem e_inL (ha : EvE W ta δ (.int i)) (hb : EvE W tb δ (.list (is.map .int))) : EvE W (tOp (rIn K false) ta tb) δ (.bool (decide (i ∈ is))) := e_op ha hb (o_in (neg := false) (.inr rfl) rfl)
theorem e_niL (ha : EvE W ta δ (.int i)) (hb : EvE W tb δ (.list (is.map .int))) : EvE W (tOp (rIn K true) ta tb) δ (.bool (!decide (i ∈ is))) := e_op ha hb (o_in (neg := true) (.inr rfl) rfl)
theorem e_lenT (ha : EvE W ta δ (.tuple ds)) : EvE W (tCB (rLn K) (tCons ta tNil)) δ (.int ds.length) := e_cb (a_cons ha a_nil) (c_len (.inl rfl) rfl)
theorem e_lenL (ha : EvE W ta δ (.list ds)) : EvE W (tCB (rLn K) (tCons ta tNil)) δ (.int ds.length) := e_cb (a_cons ha a_nil) (c_len (.inr rfl) rfl)
theorem e_abs (ha : EvE W ta δ (.int i)) : EvE W (tCB (fun xs H Q => ∃ i, xs = [.int i] ∧ Q (.int (if i < 0 then -i else i)) H) (tCons ta tNil)) δ (.int (if i < 0 then -i else i)) := e_cb (a_cons ha a_nil) (c_abs rfl)
theorem e_toint (ha : EvE W ta δ (.int i)) : EvE W (tCB (fun xs H Q => (∃ i, xs = [.int i] ∧ Q (.int i) H) ∨ ∃ k, xs = [.bl k] ∧ Q (.int (if k then 1 else 0)) H) (tCons ta tNil)) δ (.int i) := e_cb (a_cons ha a_nil) (c_int rfl)
theorem e_all {bs : List Bool} (ha : EvE W ta δ (.list (bs.map .bool))) : EvE W (tCB (rAll K) (tCons ta tNil)) δ (.bool (bs.all id)) := e_cb (a_cons ha a_nil) (c_all rfl)
theorem e_toT (ha : EvE W ta δ (.list ds)) : EvE W (tCB (rTp K) (tCons ta tNil)) δ (.tuple ds) := e_cb (a_cons ha a_nil) (c_tuple (.inr rfl) rfl)
theorem e_toL (ha : EvE W ta δ (.tuple ds)) : EvE W (tCB (rLs K) (tCons ta tNil)) δ (.list ds) := e_cb (a_cons ha a_nil) (c_list (.inl rfl) rfl)
theorem e_sorted (ha : EvE W ta δ (.list (is.map .int))) (hl : is.length < 64) : EvE W (tCB (rSorted K) (tCons ta tNil)) δ (.list ((srt is).map .int)) := e_cb (a_cons ha a_nil) (c_sorted hl rfl)
theorem e_cat (ha : EvE W ta δ (.list ds)) (hb : EvE W tb δ (.list es)) (hz : ds.length + es.length ≤ 100000) : EvE W (tOp rCat ta tb) δ (.list (ds ++ es)) := e_op ha hb (o_cat hz rfl)
theorem e_catT (ha : EvE W ta δ (.tuple ds)) (hb : EvE W tb δ (.tuple es)) (hz : ds.length + es.length ≤ 100000) : EvE W (tOp (rCatA K) ta tb) δ (.tuple (ds ++ es)) := e_op ha hb (o_catT hz rfl)
theorem e_eqD (ha : EvE W ta δ a) (hb : EvE W tb δ b) (sa : SeqAt.shaped a = true) (sb : SeqAt.shaped b = true) : EvE W (tOp (rEqD K) ta tb) δ (.bool (PyData.eqv a b)) := e_op ha hb (o_eqD sa sb rfl)
theorem e_neD (ha : EvE W ta δ a) (hb : EvE W tb δ b) (sa : SeqAt.shaped a = true) (sb : SeqAt.shaped b = true) : EvE W (tOp (rNeD K) ta tb) δ (.bool (!PyData.eqv a b)) := e_op ha hb (o_neD sa sb rfl)
theorem e_ifE {x : Bool} (h : TvE W t δ x) (h1 : x = true → EvE W ta δ d) (h2 : x = false → EvE W tb δ d) : EvE W (tIf t ta tb) δ d := e_if h h1 h2
end
/-! ## words of the law -/
abbrev C := List Int
def cl (c : C) : Pd := .tuple (c.map .int)
def cls (cs : List C) : List Pd := cs.map cl
def fm (n : Int) (cs : List C) : Pd := .tuple [.int n, .tuple (cls cs)]
def isS (x : Str) : Pd → Bool
  | .str y => y == x
  | _ => false
theorem eqv_str (d : Pd) (x : Str) : PyData.eqv d (.str x) = isS x d := by cases d <;> simp [PyData.eqv, isS]
theorem cls_get {cs : List C} {i : Nat} {c : C} (h : cs[i]? = some c) : (cls cs)[i]? = some (cl c) := by
  unfold cls
  rw [List.getElem?_map, h]
  rfl
theorem cls_len (cs : List C) : (cls cs).length = cs.length := List.length_map _
theorem nl_cl (c : C) : nl (cl c) = true := by
  unfold cl
  show nlA _ = true
  induction c with
  | nil => rfl
  | cons a c ih => simp [nlA, nl, ih]
theorem nlA_cls (cs : List C) : nlA (cls cs) = true := by
  unfold cls
  induction cs with
  | nil => rfl
  | cons a c ih => simp [nlA, nl_cl, ih]
theorem shaped_str (x : Str) (h : SeqAt.shaped (.str x) = true := by decide) : SeqAt.shaped (.str x) = true := h
end K19
end
section
set_option Elab.async false
set_option linter.all false
set_option maxRecDepth 100000
namespace K19
open PySem L2
def iOf : Pd → Int
  | .int i => i
  | _ => 0
def bOf : Pd → Bool
  | .bool i => i
  | _ => false
def intsL : List Pd → C
  | [] => []
  | d :: ds => iOf d :: intsL ds
def cOf : Pd → C
  | .tuple ds => intsL ds
  | _ => []
theorem intsL_map (c : C) : intsL (c.map .int) = c := by
  induction c with
  | nil => rfl
  | cons i c ih => rw [List.map_cons]; show i :: _ = _; rw [ih]
theorem cOf_cl (c : C) : cOf (cl c) = c := intsL_map c
section
variable {W : Wd} {δ : Dn} {ta tb tc te : TE} {t u tt : TT} {tr : TA} {K : PySem.W.Frag} {wi : TI} {j : Nat} {vs : List Nat}
theorem e_mapDB {ds : List Pd} (g : Pd → Bool) (hi : ItE W wi δ ds) (he : ∀ x, x ∈ ds → EvE W te (δ.set j (.d x)) (.bool (g x))) (hlen : ds.length ≤ 100000) (hw : okW δ vs = true := by rfl) (hj : j ∈ vs := by decide) : EvE W (tLc wi (gName j) tYes te vs) δ (.list ((ds.map g).map .bool)) := by
  have h := e_map (fun x => .bool (g x)) hi hw hj he (fun _ _ => rfl) hlen
  rw [List.map_map]
  exact h
theorem e_mapIB {is : List Int} (g : Int → Bool) (hi : ItE W wi δ (is.map .int)) (he : ∀ x, x ∈ is → EvE W te (δ.set j (.d (.int x))) (.bool (g x))) (hlen : is.length ≤ 100000) (hw : okW δ vs = true := by rfl) (hj : j ∈ vs := by decide) : EvE W (tLc wi (gName j) tYes te vs) δ (.list ((is.map g).map .bool)) := by
  have h := e_mapDB (g := fun x => g (iOf x)) hi (fun x m => by
    obtain ⟨i, mi, rfl⟩ := List.mem_map.mp m
    exact he i mi) (by rw [List.length_map]; exact hlen) hw hj
  have e : (is.map PyData.int).map (fun x => g (iOf x)) = is.map g := by
    rw [List.map_map]
    rfl
  rw [e] at h
  exact h
theorem e_mapCB {cs : List C} (g : C → Bool) (hi : ItE W wi δ (cls cs)) (he : ∀ x, x ∈ cs → EvE W te (δ.set j (.d (cl x))) (.bool (g x))) (hlen : cs.length ≤ 100000) (hw : okW δ vs = true := by rfl) (hj : j ∈ vs := by decide) : EvE W (tLc wi (gName j) tYes te vs) δ (.list ((cs.map g).map .bool)) := by
  have h := e_mapDB (g := fun x => g (cOf x)) hi (fun x m => by
    obtain ⟨i, mi, rfl⟩ := List.mem_map.mp m
    rw [cOf_cl]
    exact he i mi) (by rw [cls_len]; exact hlen) hw hj
  have e : (cls cs).map (fun x => g (cOf x)) = cs.map g := by
    unfold cls
    rw [List.map_map]
    exact List.map_congr_left fun c _ => by show g (cOf (cl c)) = g c; rw [cOf_cl]
  rw [e] at h
  exact h
theorem e_lcII {is : List Int} (c : Int → Bool) (f : Int → Int) (hi : ItE W wi δ (is.map .int)) (ht : ∀ x, x ∈ is → TvE W tt (δ.set j (.d (.int x))) (c x)) (he : ∀ x, x ∈ is → c x = true → EvE W te (δ.set j (.d (.int x))) (.int (f x))) (hlen : is.length ≤ 100000)
    (hw : okW δ vs = true := by rfl) (hj : j ∈ vs := by decide) : EvE W (tLc wi (gName j) tt te vs) δ (.list (((is.filter c).map f).map .int)) := by
  have h := e_lc (fun x => c (iOf x)) (fun x => .int (f (iOf x))) hi hw hj (fun x m => by
    obtain ⟨i, mi, rfl⟩ := List.mem_map.mp m
    exact ht i mi) (fun x m e => by
    obtain ⟨i, mi, rfl⟩ := List.mem_map.mp m
    exact he i mi e) (fun _ _ _ => rfl) (by rw [List.length_map]; exact hlen)
  rw [List.filter_map, List.map_map] at h
  rw [List.map_map]
  exact h
theorem e_mapII {is : List Int} (f : Int → Int) (hi : ItE W wi δ (is.map .int)) (he : ∀ x, x ∈ is → EvE W te (δ.set j (.d (.int x))) (.int (f x))) (hlen : is.length ≤ 100000)
    (hw : okW δ vs = true := by rfl) (hj : j ∈ vs := by decide) : EvE W (tLc wi (gName j) tYes te vs) δ (.list ((is.map f).map .int)) := by
  have h := e_lcII (fun _ => true) f hi (fun _ _ => t_yes) (fun x m _ => he x m) hlen hw hj
  rw [List.filter_eq_self.mpr (fun _ _ => rfl)] at h
  exact h
theorem e_lcI {is : List Int} (c : Int → Bool) (hi : ItE W wi δ (is.map .int)) (ht : ∀ x, x ∈ is → TvE W tt (δ.set j (.d (.int x))) (c x)) (he : ∀ x, x ∈ is → c x = true → EvE W te (δ.set j (.d (.int x))) (.int x)) (hlen : is.length ≤ 100000)
    (hw : okW δ vs = true := by rfl) (hj : j ∈ vs := by decide) : EvE W (tLc wi (gName j) tt te vs) δ (.list ((is.filter c).map .int)) := by
  have h := e_lcII c id hi ht he hlen hw hj
  rw [List.map_id] at h
  exact h
theorem e_lcC {cs : List C} (c : C → Bool) (hi : ItE W wi δ (cls cs)) (ht : ∀ x, x ∈ cs → TvE W tt (δ.set j (.d (cl x))) (c x)) (he : ∀ x, x ∈ cs → c x = true → EvE W te (δ.set j (.d (cl x))) (cl x)) (hlen : cs.length ≤ 100000)
    (hw : okW δ vs = true := by rfl) (hj : j ∈ vs := by decide) : EvE W (tLc wi (gName j) tt te vs) δ (.list (cls (cs.filter c))) := by
  have h := e_lc (fun x => c (cOf x)) (fun x => cl (cOf x)) hi hw hj (fun x m => by
    obtain ⟨i, mi, rfl⟩ := List.mem_map.mp m
    rw [cOf_cl]
    exact ht i mi) (fun x m e => by
    obtain ⟨i, mi, rfl⟩ := List.mem_map.mp m
    rw [cOf_cl] at e ⊢
    exact he i mi e) (fun _ _ _ => nl_cl _) (by rw [cls_len]; exact hlen)
  have e : ((cls cs).filter (fun x => c (cOf x))).map (fun x => cl (cOf x)) = cls (cs.filter c) := by
    unfold cls
    rw [List.filter_map, List.map_map]
    have e1 : cs.filter ((fun x => c (cOf x)) ∘ cl) = cs.filter c := List.filter_congr fun x _ => by show c (cOf (cl x)) = c x; rw [cOf_cl]
    rw [e1]
    exact List.map_congr_left fun x _ => by show cl (cOf (cl x)) = cl x; rw [cOf_cl]
  rw [e] at h
  exact h
theorem i_cls {cs : List C} (h : EvE W te δ (.tuple (cls cs))) : ItE W (iTup K te) δ (cls cs) := i_tup h
theorem i_cl {c : C} (h : EvE W te δ (cl c)) : ItE W (iTup K te) δ (c.map .int) := i_tup h
theorem i_ints {c : C} (h : EvE W te δ (.list (c.map .int))) : ItE W (iList K te) δ (c.map .int) := i_lst h
end
/-! ## clauses: the plain words -/
def asc : C → Bool
  | [] => true
  | [_] => true
  | a :: b :: r => decide (a < b) && asc (b :: r)
def inR (n l : Int) : Bool := decide (0 < (if l < 0 then -l else l)) && decide ((if l < 0 then -l else l) ≤ n)
def goodC (n : Int) (c : C) : Bool := c.all (inR n) && asc c && c.all fun l => !decide (-l ∈ c)
def isInt : Pd → Bool
  | .int _ => true
  | _ => false
def isNum : Pd → Bool
  | .int i => decide (0 ≤ i)
  | _ => false
def asI : List Pd → Option C
  | [] => some []
  | .int i :: ds => (asI ds).map (i :: ·)
  | _ :: _ => none
theorem asI_map (c : C) : asI (c.map .int) = some c := by
  induction c with
  | nil => rfl
  | cons i c ih => show (asI (c.map .int)).map _ = _; rw [ih]; rfl
theorem asI_some {ds : List Pd} {c : C} (h : asI ds = some c) : ds = c.map .int := by
  induction ds generalizing c with
  | nil => cases h; rfl
  | cons d ds ih =>
    cases d with
    | int i =>
      cases q : asI ds with
      | none => rw [show asI (.int i :: ds) = (asI ds).map (i :: ·) from rfl, q] at h; cases h
      | some e =>
        rw [show asI (.int i :: ds) = (asI ds).map (i :: ·) from rfl, q] at h
        cases h
        rw [ih q]
        rfl
    | _ => cases h
theorem asI_all (ds : List Pd) : ds.all isInt = (asI ds).isSome := by
  induction ds with
  | nil => rfl
  | cons d ds ih =>
    cases d with
    | int i =>
      rw [show asI (.int i :: ds) = (asI ds).map (i :: ·) from rfl, Option.isSome_map, ← ih]
      rfl
    | _ => rfl
def clOf (n : Int) : Pd → Option C
  | .tuple ds => (asI ds).filter (goodC n)
  | _ => none
def isCl (n : Int) (d : Pd) : Bool := (clOf n d).isSome
theorem clOf_some {n : Int} {d : Pd} {c : C} (h : clOf n d = some c) : d = cl c ∧ goodC n c = true := by
  cases d with
  | tuple ds =>
    rw [show clOf n (.tuple ds) = (asI ds).filter (goodC n) from rfl] at h
    rw [Option.filter_eq_some_iff] at h
    exact ⟨by rw [asI_some h.1]; rfl, h.2⟩
  | _ => cases h
theorem clOf_cl (n : Int) (c : C) : clOf n (cl c) = if goodC n c then some c else none := by
  show (asI (c.map .int)).filter (goodC n) = _
  rw [asI_map]
  rfl
def fals (c e : C) : Bool := e.all fun l => decide (-l ∈ c)
def sat (c e : C) : Bool := e.any fun l => decide (l ∈ c)
def isMod (n : Int) (cs : List C) (c : C) : Bool := decide ((c.length : Int) = n) && cs.all fun e => sat c e
def wLit (c : C) (l : Int) : C := srt (c ++ [l])
def freeV (n : Int) (c : C) : C := (rgV 1 n.toNat).filter fun v => !decide (v ∈ c) && !decide (-v ∈ c)
/-- the sizes that are walked -/
def sm (d : Pd) : Prop := ∀ ds, d = .tuple ds → ds.length ≤ 60
theorem all_id {α : Type} (f : α → Bool) (l : List α) : (l.map f).all id = l.all f := by
  rw [List.all_map]
  rfl
end K19
end
section
set_option Elab.async false
set_option linter.all false
set_option maxRecDepth 100000
set_option maxHeartbeats 2000000
/-! sorted(..) of tuples of ints, any lengths, the empty tuple among them -/
namespace K19
open PySem PySem.W PySem.Calls PyProof.Rows
section
variable {prog : Program} {w : World} {M : Model} {A : Around} {E : Value → Shared → Prop} {s : Shared}
/-- what stands first in each of the tuples, if anything -/
def Firsts (h : Heap) : List Value → List (Option Value) → Prop
  | [], [] => True
  | v :: vs, f :: fs => (∃ a o xs n, v = .ref a ∧ h.get? a = some o ∧ o.cls = .type "tuple" ∧ o.data = .seq xs n ∧ xs[0]? = f) ∧ Firsts h vs fs
  | _, _ => False
theorem firsts_run : ∀ (vs : List Value) (fs : List (Option Value)) {Q : List (Option Value) → Shared → Prop}, Firsts s.heap vs fs → Q fs s → wpAny M A (vs.mapM firstOfTuple') Q E s
  | [], [], _, _, h => by rw [List.mapM_nil]; exact wpAny_pure h
  | [], _ :: _, _, t, _ => t.elim
  | _ :: _, [], _, t, _ => t.elim
  | v :: vs, f :: fs, Q, t, h => by
    obtain ⟨⟨l, ob, its, k, rfl, hl, hcls, hdata, hfirst⟩, rest⟩ := t
    rw [List.mapM_cons, kas_first_eq]
    refine wpAny_bind (wpAny_bind (Looks.here (show Looks M s.heap (typeOf (.ref l)) ob.cls from (Looks.ld hl).andThen .now) ?_))
    rw [hcls, if_neg (by first | decide | simp)]
    refine wpAny_bind (listItems_at hl hdata (wpAny_pure ?_))
    rw [hfirst]
    exact wpAny_bind (firsts_run vs fs (Q := fun bs s' => wpAny M A (pure (f :: bs)) Q E s') rest (wpAny_pure h))
theorem firsts_of : ∀ {vs : List Value} {ds : List PyData}, EachIs (fun v d => ∃ as, Reads s.heap v d as) vs ds → (∀ d, d ∈ ds → ∃ xs : List Int, d = .tuple (xs.map .int)) →
    ∃ fs, Firsts s.heap vs fs ∧ fs.length = vs.length ∧ (PyData.tuple [] ∈ ds → none ∈ fs) ∧ ∀ v, v ∈ vs → Looks M s.heap (typeOf v) (.type "tuple")
  | _, _, .nil, _ => ⟨[], trivial, rfl, fun z => absurd z (by simp), fun _ z => absurd z (by simp)⟩
  | _, _, .cons (b := d) ⟨as, r⟩ t, ht => by
    obtain ⟨fs, h1, h2, h3, h4⟩ := firsts_of t fun d hd => ht d (List.mem_cons_of_mem _ hd)
    obtain ⟨xs, rfl⟩ := ht d (List.mem_cons_self ..)
    have ty := looks_reads (M := M) r
    cases r with
    | @tuple a o vs n _ _ ho hc hd hr =>
      refine ⟨vs[0]? :: fs, ⟨⟨a, o, vs, n, rfl, ho, hc, hd, rfl⟩, h1⟩, by rw [List.length_cons, List.length_cons, h2], fun hm => ?_, fun v hv => ?_⟩
      · rcases List.mem_cons.mp hm with e | hm
        · have lv := SeqAt.ReadsAll.length _ _ _ hr
          have e' : xs.map PyData.int = [] := (PyData.tuple.inj e).symm
          rw [e', List.length_nil, Array.length_toList] at lv
          rw [Array.getElem?_eq_none (by omega)]
          exact List.mem_cons_self ..
        · exact List.mem_cons_of_mem _ (h3 hm)
      · rcases List.mem_cons.mp hv with rfl | hv
        · exact ty
        · exact h4 v hv
/-- the order of tuples of ints, twice -/
theorem lex_same : ∀ ns ms : List Int, HT.lexLt ns ms = PyProof.Rows.lexLt itemOrd (keyToksAll (ns.map .int)) (keyToksAll (ms.map .int))
  | [], [] => rfl
  | [], m :: ms => by
    rw [HT.lexLt_nil_cons, List.map_nil, List.map_cons]
    have e : rowLt [] (PyData.int m :: ms.map .int) = decide (([] : List Int) < m :: ms) := dataLt_ints [] (m :: ms)
    have e2 : decide (([] : List Int) < m :: ms) = true := by simp
    exact (e.trans e2).symm
  | n :: ns, [] => by
    rw [HT.lexLt_cons_nil, List.map_nil, List.map_cons]
    have e : rowLt (PyData.int n :: ns.map .int) [] = decide (n :: ns < ([] : List Int)) := dataLt_ints (n :: ns) []
    have e2 : decide (n :: ns < ([] : List Int)) = false := by simp
    exact (e.trans e2).symm
  | n :: ns, m :: ms => by
    rw [HT.lexLt_cons, List.map_cons, List.map_cons, dataLt_cons (by simp [alike]), lex_same ns ms, dataLt_int]
    simp only [PyData.eqv, beq_iff_eq]
theorem oneLt_tups {l b : Addr} {o o2 : Obj} {its its2 : Array Value} {n n2 : Nat} {ns ms : List Int} {Q : Bool → Shared → Prop} (ho : s.heap.get? l = some o) (hc : o.cls = .type "tuple") (hd : o.data = .seq its n) (ho2 : s.heap.get? b = some o2) (hc2 : o2.cls = .type "tuple") (hd2 : o2.data = .seq its2 n2)
    (hi : IntsAre its.toList ns) (hj : IntsAre its2.toList ms) (hu : A.units < cLine) (h : Q (HT.lexLt ns ms) s) : wpAny (model prog w) A (oneLt' true (.ref l) (.ref b)) Q E s := by
  obtain ⟨cl1, dd, dt, sl⟩ := o
  obtain ⟨cl2, dd2, dt2, sl2⟩ := o2
  simp only at hc hd hc2 hd2
  subst hc hd hc2 hd2
  rw [oneLt'_eq]
  simp only [if_true]
  refine wpAny_bind (wpAny_cRoomFor hu ?_)
  refine wpAny_bind (wpAny_callSpecialIfBound?_slot ⟨_, ho, rfl⟩ PySem.F.slot_tuple_lt (call_meets PySem.F.slot_tuple_lt ⟨_, ho, rfl⟩ PySem.F.entry_tuple_lt (PySem.F.args_tuple_lt_2 _ _) (HT.tuple_lt_ints l b its its2 n n2 dd dd2 sl sl2 ns ms hi hj) ⟨ho, ho2, ?_⟩))
  exact wpAny_truthy_bool h
theorem alike_tups {ds : List PyData} (ht : ∀ d, d ∈ ds → ∃ xs : List Int, d = .tuple (xs.map .int)) : AllAlike ds := fun d hd d' hd' => by
  obtain ⟨xs, rfl⟩ := ht d hd
  obtain ⟨ys, rfl⟩ := ht d' hd'
  rw [alike]
  exact alike_ints xs ys
theorem depth_tup (xs : List Int) : (PyData.tuple (xs.map .int)).depth ≤ 1 := by
  rw [PyData.depth, depth_ints]
  exact Nat.le_refl _
theorem sortsAt_tups {vs : List Value} {ds : List PyData} (e : EachIs (fun v d => ∃ as, Reads s.heap v d as) vs ds) (ht : ∀ d, d ∈ ds → ∃ xs : List Int, d = .tuple (xs.map .int)) (hu : A.units + 3 < cLine) : SortsAt prog w A s (dataKind s.heap ds) vs := by
  have hal := alike_tups ht
  have hd : ∀ d, d ∈ ds → A.units + d.depth < cLine := fun d m => by
    obtain ⟨xs, rfl⟩ := ht d m
    have := depth_tup xs
    omega
  by_cases h0 : PyData.tuple [] ∈ ds
  · obtain ⟨fs, f1, f2, f3, f4⟩ := firsts_of (M := model prog w) e ht
    refine ⟨fun v hv => ?_, ?_⟩
    · obtain ⟨d, hd, as, r⟩ := e.left v hv
      exact ⟨_, dataKind_some hal hd r⟩
    have hall : (fs.toArray.all fun x => x.isSome) = false := by
      rw [List.all_toArray]
      rw [Bool.eq_false_iff]
      intro z
      have := List.all_eq_true.mp z none (f3 h0)
      cases this
    have run : ∀ kd, ((fs.toArray[0]?.bind id).isSome = true ∧ kd = general') ∨ ((fs.toArray[0]?.bind id).isSome = false ∧ kd = oneType') → 2 ≤ vs.length → ∀ (E : Value → Shared → Prop) {Q : SortKind → Shared → Prop}, Q kd s → wpAny (model prog w) A (keyKind' vs.toArray) Q E s := by
      intro kd hk h2 E Q hq
      rw [kat_kind_eq, List.mapM_toArray, map_eq_pure_bind]
      refine wpAny_bind (wpAny_bind (firsts_run vs _ f1 (wpAny_pure ?_)))
      rw [if_neg (by rw [hall]; exact Bool.false_ne_true)]
      rcases hk with ⟨h1, rfl⟩ | ⟨h1, rfl⟩
      · rw [if_pos h1]
        exact wpAny_pure hq
      · rw [if_neg (by rw [h1]; exact Bool.false_ne_true), oneTypeOnly'_eq, List.mapM_toArray, map_eq_pure_bind]
        refine wpAny_bind (wpAny_bind (wpAny_bind (kas_mapM (r := Value.type "tuple") _ (fun v hv Q' hq => (f4 v hv).here hq) (wpAny_pure ?_))))
        have g0 : (List.map (fun _ => Value.type "tuple") vs).toArray[0]? = some (.type "tuple") := by
          cases vs with
          | nil => simp at h2
          | cons v vs => simp
        have g1 : ((List.map (fun _ => Value.type "tuple") vs).toArray.all fun x => x == Value.type "tuple") = true := by
          simp only [List.all_toArray, List.all_map, List.all_eq_true]
          intro _ _
          exact beq_self_eq_true _
        rw [g0]
        simp only [g1, if_true]
        exact wpAny_pure (wpAny_pure hq)
    cases hf : (fs.toArray[0]?.bind id).isSome with
    | true =>
      refine ⟨general', ?_, run _ (.inl ⟨hf, rfl⟩)⟩
      intro E x y a b Q ha hb hq
      obtain ⟨d, as, hd1, ra, rfl⟩ := dataKind_inv ha
      obtain ⟨d', as', hd2, rb, rfl⟩ := dataKind_inv hb
      show wpAny _ _ (oneLt' false x y) _ _ _
      refine oneLt_alike (fun z => nomatch z) ra rb (hal d hd1 d' hd2) (fun z => ?_) ?_ hq
      · obtain ⟨xs, e⟩ := ht d hd1
        rw [e] at z
        cases z
      · have q1 := hd d hd1
        have q2 : min d.depth d'.depth ≤ d.depth := Nat.min_le_left _ _
        omega
    | false =>
      refine ⟨oneType', ?_, run _ (.inr ⟨hf, rfl⟩)⟩
      intro E x y a b Q ha hb hq
      obtain ⟨d, as, hd1, ra, rfl⟩ := dataKind_inv ha
      obtain ⟨d', as', hd2, rb, rfl⟩ := dataKind_inv hb
      obtain ⟨ns, rfl⟩ := ht d hd1
      obtain ⟨ms, rfl⟩ := ht d' hd2
      rw [keyLt'_oneType]
      have hq' : Q (dataLt (.tuple (ns.map .int)) (.tuple (ms.map .int))) s := hq
      rw [dataLt_tuple, ← lex_same] at hq'
      have allI : ∀ {ks : List Int} {us : List Value} {as : List Addr}, ReadsAll s.heap us (ks.map .int) as → IntsAre us ks := by
        intro ks
        induction ks with
        | nil =>
          intro us as r
          cases r
          exact .nil
        | cons k ks ih =>
          intro us as r
          have r' : ReadsAll s.heap us (PyData.int k :: ks.map .int) as := r
          cases r' with
          | cons r1 r2 =>
            cases r1
            exact .cons _ _ (ih r2)
      cases ra with
      | tuple h1 h2 h3 h4 =>
        cases rb with
        | tuple k1 k2 k3 k4 => exact oneLt_tups h1 h2 h3 k1 k2 k3 (allI h4) (allI k4) (by omega) hq'
  · refine SortsAt.data e hal (.inl fun d m => ?_) hd
    obtain ⟨xs, rfl⟩ := ht d m
    cases xs with
    | nil => exact (h0 m).elim
    | cons x xs => exact ⟨_, _, rfl⟩
end
end K19
end
section
set_option Elab.async false
set_option linter.all false
set_option maxRecDepth 100000
set_option maxHeartbeats 4000000
namespace K19
open PySem L2
/-! ### sorted(xs), xs a list of tuples of ints, any lengths -/
abbrev KA := Addr × List Int
def encK (p : KA) : PyData := .tuple (p.2.map .int)
theorem enc_tup (ks : List KA) : ∀ d, d ∈ ks.map encK → ∃ xs : List Int, d = .tuple (xs.map .int) := fun d hd => by
  obtain ⟨p, _, rfl⟩ := List.mem_map.mp hd
  exact ⟨p.2, rfl⟩
theorem each_self : ∀ ks : List KA, PySem.W.EachIs (fun v (p : KA) => v = Value.ref p.1) (ks.map fun p => Value.ref p.1) ks
  | [] => .nil
  | p :: ks => .cons rfl (each_self ks)
theorem each_back : ∀ {vs : List Value} {ks : List KA}, PySem.W.EachIs (fun v (p : KA) => v = Value.ref p.1) vs ks → vs = ks.map fun p => Value.ref p.1
  | _, _, .nil => rfl
  | _, _, .cons h t => by rw [h, each_back t, List.map_cons]
theorem reads_ints {h : Heap} : ∀ {ns : List Int} {us : List Value}, PyProof.Rows.IntsAre us ns → ReadsAll h us (ns.map .int) []
  | _, _, .nil => .nil
  | _, _, .cons n t r => .cons (.int n t) (reads_ints r)
theorem reads_tup {h : Heap} {b : Addr} {ns : List Int} (x : TS.TupInts h (.ref b) ns) : ∃ as, Reads h (.ref b) (.tuple (ns.map .int)) as := by
  obtain ⟨l, its, e, ⟨o, ho, hc, n, hd⟩, hi⟩ := x
  cases e
  exact ⟨_, .tuple ho hc hd (reads_ints hi)⟩
theorem each_reads {h : Heap} : ∀ ks : List KA, (∀ p ∈ ks, TS.TupInts h (.ref p.1) p.2) → PySem.W.EachIs (fun v p => ∃ as, Reads h v (encK p) as) (ks.map fun p => Value.ref p.1) ks
  | [], _ => .nil
  | p :: ks, hk => .cons (reads_tup (hk p (List.mem_cons_self ..))) (each_reads ks fun q hq => hk q (List.mem_cons_of_mem _ hq))
theorem each_enc {h : Heap} : ∀ {vs : List Value} {ks : List KA}, PySem.W.EachIs (fun v p => ∃ as, Reads h v (encK p) as) vs ks → PySem.W.EachIs (fun v d => ∃ as, Reads h v d as) vs (ks.map encK)
  | _, _, .nil => .nil
  | _, _, .cons r t => .cons r (each_enc t)
theorem tup_keep {h h' : Heap} {v : Value} {ns : List Int} (x : TS.TupInts h v ns) (k : ∀ b o, h.get? b = some o → h'.get? b = some o) : TS.TupInts h' v ns := x.keeps fun b o e _ => k b o e
section
variable {X : Cx}
def rSortL (K : PySem.W.Frag) : List V → Hp → VK → Prop := fun vs H Q => ∃ (a : Addr) (ks : List KA), vs = [V.ref a] ∧ SqL K H a (ks.map fun p => V.ref p.1) ∧ (∀ p ∈ ks, SqT K H p.1 (p.2.map V.int)) ∧
  ∀ (ks' : List KA) (p : Addr), ks'.Perm ks → H p = none → Q (.ref p) (upd H p (.lst (ks'.map fun q => V.ref q.1)))
theorem cr_sortL {k : Nat} (hr : Room k X.A) : CallR X (.builtin "sorted") (rSortL X.K) := by
  intro pins s σ H vs us Q I r h
  obtain ⟨a, ks, rfl, hs, hk, q⟩ := h
  obtain ⟨its, rv, hl, hz⟩ := I.list hs
  rw [Vals.ref1 r]
  have e1 : its = ks.map fun p => Value.ref p.1 := refs_of_vals rv
  have tk : ∀ p ∈ ks, TS.TupInts s.heap (.ref p.1) p.2 := fun p hp => tupI_raw I (hk p hp)
  have hL : ks.length ≤ sizeLine := by rw [List.length_map] at hz; exact hz
  have tk2 : ∀ p ∈ ks, TS.TupInts (PySem.W.sortingHeap (PySem.W.copyHeap s.heap its) (s.heap.objs.size + 1) its) (.ref p.1) p.2 := fun p hp => tup_keep (tk p hp) fun _ _ e => PySem.W.sorting_copy_old e
  have er : PySem.W.EachIs (fun v p => ∃ as, Reads (PySem.W.sortingHeap (PySem.W.copyHeap s.heap its) (s.heap.objs.size + 1) its) v (encK p) as) its ks := by
    rw [e1]
    rw [e1] at tk2
    exact each_reads ks tk2
  have room : X.A.in1.in1.units + 3 < cLine := by
    have z := hr.units
    show X.A.units + 1 + 1 + 3 < cLine
    omega
  have S := sortsAt_tups (prog := X.prog) (w := X.w) (A := X.A.in1.in1) (s := { s with heap := PySem.W.sortingHeap (PySem.W.copyHeap s.heap its) (s.heap.objs.size + 1) its }) (each_enc er) (enc_tup ks) room
  refine PySem.W.sorted_vals hl.isList S (by rw [e1, List.length_map]; exact hL) ?_
  have hal := alike_tups (enc_tup ks)
  have out := PySem.W.sortVals_data (h' := PySem.W.sortingHeap (PySem.W.copyHeap s.heap its) (s.heap.objs.size + 1) its) false (by rw [e1]; exact each_self ks) er hal
  have eo := each_back out
  have pm : (ks.mergeSort (PySem.W.dataLe false encK)).Perm ks := List.mergeSort_perm ..
  obtain ⟨c, hat⟩ := PyProof.Rows.sortedAll_at s.heap its (PySem.W.sortVals (PySem.W.dataKind (PySem.W.sortingHeap (PySem.W.copyHeap s.heap its) (s.heap.objs.size + 1) its) (ks.map encK)) false its its).toArray
  have hn : H (s.heap.objs.size + 1) = none := I.hok.fresh (Nat.le_succ _)
  refine ⟨.ref _, upd H (s.heap.objs.size + 1) (.lst ((ks.mergeSort (PySem.W.dataLe false encK)).map fun q => V.ref q.1)), I.laid (t' := s.toks) (fun b o e => PyProof.Rows.sortedAll_old e) (Nat.le_succ _) ⟨?_, _, c, ?_, hat⟩, rfl, q _ _ pm hn⟩
  · rw [List.length_map, pm.length_eq]
    exact hL
  · rw [eo]
    exact vals_of_refs _
/-! ### sorted(set(xs)), the tuples of any lengths -/
def rSortS (K : PySem.W.Frag) (P : Program) (w : World) : List V → Hp → VK → Prop := fun vs H Q => ∃ (a : Addr) (L : List KA), vs = [V.ref a] ∧ H a = some (SetTO P w a L) ∧ (∀ p ∈ L, SqT K H p.1 (p.2.map V.int)) ∧
  ∀ (L' : List KA) (p : Addr), L'.Perm L → (L'.map (·.2)).Nodup → L'.length < 64 → H p = none → Q (.ref p) (upd H p (.lst (L'.map fun q => V.ref q.1)))
end
theorem perm_map {α β : Type} {f : α → β} {vs : List β} {l : List α} (h : vs.Perm (l.map f)) : ∃ l1 : List α, vs = l1.map f ∧ l1.Perm l := by
  obtain ⟨m, hm⟩ : ∃ m, m = l.map f := ⟨_, rfl⟩
  rw [← hm] at h
  induction h generalizing l with
  | nil => exact ⟨[], rfl, by cases l with
    | nil => exact .refl _
    | cons a l => cases hm⟩
  | cons x h ih =>
    cases l with
    | nil => cases hm
    | cons a l =>
      rw [List.map_cons] at hm
      obtain ⟨e1, e2⟩ := List.cons.inj hm
      obtain ⟨l1, e, p⟩ := ih e2
      exact ⟨a :: l1, by rw [e, e1, List.map_cons], p.cons a⟩
  | swap x y r =>
    cases l with
    | nil => cases hm
    | cons a l =>
      cases l with
      | nil => cases hm
      | cons b l =>
        rw [List.map_cons, List.map_cons] at hm
        obtain ⟨e1, e2⟩ := List.cons.inj hm
        obtain ⟨e3, e4⟩ := List.cons.inj e2
        exact ⟨b :: a :: l, by rw [e1, e3, e4]; rfl, .swap ..⟩
  | trans h1 h2 ih1 ih2 =>
    obtain ⟨l1, e1, p1⟩ := ih2 hm
    obtain ⟨l2, e2, p2⟩ := ih1 e1
    exact ⟨l2, e2, p2.trans p1⟩
section
open PyProof.Rows PySem.W
variable {P : Program} {w : World} {A : Around} {E : Value → Shared → Prop} {s : Shared}
/-- list.sort of a new list of such tuples -/
theorem sort_call {a : Addr} {ks : List KA} {n : Nat} {Q : Value → Shared → Prop} (ho : s.heap.get? a = some (seqObj "list" (ks.map fun p => Value.ref p.1).toArray n)) (hL : ks.length ≤ sizeLine) (tk : ∀ p ∈ ks, TS.TupInts s.heap (.ref p.1) p.2) (hu : A.units + 4 < cLine)
    (h : ∀ ks' : List KA, ks'.Perm ks → Q .none { s with heap := sortedHeap s.heap a (ks.map fun p => Value.ref p.1) (ks'.map fun p => Value.ref p.1).toArray }) :
    wpAny (model P w) A (call (.builtin "list.sort") [.ref a]) Q E s := by
  have keep : ∀ p ∈ ks, TS.TupInts (sortingHeap s.heap a (ks.map fun p => Value.ref p.1)) (.ref p.1) p.2 := fun p hp => (tk p hp).keeps fun b o e hc => by
    refine sortingHeap_old ?_ e
    rintro rfl
    rw [ho] at e
    cases e
    have z : Value.type "list" = Value.type "tuple" := hc
    injection z with z
    exact absurd z (by decide)
  have er := each_reads ks keep
  have room : A.in1.units + 3 < cLine := by
    show A.units + 1 + 3 < cLine
    omega
  have S := sortsAt_tups (prog := P) (w := w) (A := A.in1) (s := { s with heap := sortingHeap s.heap a (ks.map fun p => Value.ref p.1) }) (each_enc er) (enc_tup ks) room
  refine wpAny_call_entry slot_list_sort ⟨_, ho, rfl⟩ entry_list_sort (list_sort_vals ho S (by rw [List.length_map]; exact hL) ⟨.none, rfl, ?_⟩) (args_list_sort _)
  have out := sortVals_data (h' := sortingHeap s.heap a (ks.map fun p => Value.ref p.1)) false (each_self ks) er (alike_tups (enc_tup ks))
  have z := h (ks.mergeSort (dataLe false encK)) (List.mergeSort_perm ..)
  rw [← each_back out] at z
  exact z
theorem sorted_setA {a : Addr} {L : List KA} {es : Array (Int × Value)} {ep : Nat} {t : SetTable} {Q : Value → Shared → Prop} (R : SetTR P w s.heap a L es ep t) (hh : A.handled = none) (hu : A.units + 6 < cLine)
    (hQ : ∀ s' p (c : Nat) (L' : List KA), (∀ b o, s.heap.get? b = some o → s'.heap.get? b = some o) → s'.gens = s.gens → s'.os = s.os → s.heap.objs.size ≤ p →
      s'.heap.get? p = some (seqObj "list" (L'.map fun q => Value.ref q.1).toArray c) → L'.Perm L → Q (.ref p) s') :
    wpAny (model P w) A (call (.builtin "sorted") [.ref a]) Q E s := by
  obtain ⟨o, ho, hex, hd⟩ := R.ob
  have hfew := R.few
  refine Calls.call_function_entry kind_sorted plain_sorted entry_sorted (args_sorted1 _) ?_
  unfold Builtin.«sorted»
  refine wpAny_bind (m := checkCount "sorted" 1 1 _) (wpAny_pure ?_)
  refine wpAny_bind (collect_set (A := A.in1) hh ⟨o, ho, hex.1, hd⟩ R.fits (by rw [R.size]; unfold scanBound; omega) R.tab.ris R.led fun s1 vs k1 hz g1 o1 pm => ?_)
  have hes : es.toList.map (·.2) = L.map fun q => Value.ref q.1 := by
    rw [R.rows]
    unfold L2.rowsOf
    rw [List.map_map]
    rfl
  rw [hes] at pm
  -- what was gathered is the members in some order
  obtain ⟨L1, e1, p1⟩ : ∃ L1 : List KA, vs = L1.map (fun q => Value.ref q.1) ∧ L1.Perm L := perm_map pm
  subst e1
  have hl1 : L1.length < 64 := by rw [p1.length_eq]; exact hfew
  have hsl : L1.length ≤ sizeLine := by rw [sizeLine_eq]; omega
  refine wpAny_bind (wpAny_newList ?_ (by rw [List.length_map]; exact hsl))
  have tk : ∀ q ∈ L1, TS.TupInts (s1.heap.push (seqObj "list" (L1.map fun q => Value.ref q.1).toArray 0)) (.ref q.1) q.2 := fun q hq =>
    tup_keep (tupInts_of (P := P) (w := w) (R.tup q (p1.mem_iff.mp hq))) fun b u e => Heap.get?_push_of_some _ (k1 b u e)
  have hoL : (s1.heap.push (seqObj "list" (L1.map fun q => Value.ref q.1).toArray 0)).get? s1.heap.objs.size = some (seqObj "list" (L1.map fun q => Value.ref q.1).toArray 0) := Heap.get?_push_size _ rfl
  refine wpAny_bind (wpAny_holding (sort_call (s := { s1 with heap := s1.heap.push (seqObj "list" (L1.map fun q => Value.ref q.1).toArray 0) }) hoL hsl tk (by show A.units + 1 + 4 < cLine; omega) fun L2' p2 => ?_))
  obtain ⟨c, hc⟩ := sortedHeap_at (vs := L1.map fun q => Value.ref q.1) (out := (L2'.map fun q => Value.ref q.1).toArray) hoL
  refine wpAny_pure ⟨_, rfl, hQ _ s1.heap.objs.size c L2' (fun b u e => ?_) g1 o1 hz hc (p2.trans p1)⟩
  have q := k1 b u e
  have hlt := Heap.lt_size q
  show (sortedHeap (s1.heap.push (seqObj "list" (L1.map fun q => Value.ref q.1).toArray 0)) s1.heap.objs.size (L1.map fun q => Value.ref q.1) (L2'.map fun q => Value.ref q.1).toArray).get? b = some u
  rw [sortedHeap_old (Nat.ne_of_lt hlt) (by rw [size_push']; exact Nat.lt_succ_of_lt hlt)]
  exact Heap.get?_push_of_some _ q
end
section
variable {X : Cx}
theorem cr_sortS {k : Nat} (hc : X.calm = true) (hr : Room k X.A) : CallR X (.builtin "sorted") (rSortS X.K X.prog X.w) := by
  intro pins s σ H vs us Q I r h
  obtain ⟨a, L, rfl, ha, hk, q⟩ := h
  have R0 : SetT0 X.prog X.w s.heap a L := (I.hok a _ ha).1
  obtain ⟨es, ep, t, R⟩ := R0.full fun p hp => I.isT (hk p hp)
  rw [Vals.ref1 r]
  refine sorted_setA R (I.ok.hd hc) (by have := hr.units; omega) fun s' p c L' kp g o hp hg pm => ?_
  have hfew : L'.length < 64 := by rw [pm.length_eq]; exact R.few
  have hn : H p = none := I.hok.fresh hp
  have J : Inv X pins σ (upd H p (.lst (L'.map fun q => V.ref q.1))) { s with heap := s'.heap, gens := s'.gens, drawn := s'.drawn, toks := s'.toks } :=
    I.call (ch := []) (Un.laid kp hp hn) (I.hok.laid kp hp ⟨by rw [List.length_map, sizeLine_eq]; omega, _, c, vals_of_refs L', hg⟩) (by rw [g]; exact I.bare) (fun _ z => nomatch z)
  have e : s' = { s with heap := s'.heap, gens := s'.gens, drawn := s'.drawn, toks := s'.toks } := by
    cases s'
    cases s
    cases o
    rfl
  rw [e]
  exact ⟨.ref p, _, J, rfl, q L' p pm ((pm.map (·.2)).nodup_iff.mpr R.nd) hfew hn⟩
end
end K19
end
section
set_option Elab.async false
set_option linter.all false
set_option maxRecDepth 100000
set_option maxHeartbeats 6000000
/-! set(xs), xs a list of ints -/
namespace K19
open PySem L2
section
open PyProof.Rows
variable {P : Program} {w : World} {A : Around} {E : Value → Shared → Prop} {s : Shared}
abbrev newSet (w : World) : Obj := { cls := .type "set", dict := none, data := .set #[] 0 (.fresh 0 0 (!w.params.followText "set-order")) }
theorem call_set_lstI {l : Addr} {items : Array Value} (ns : List Int) {Q : Value → Shared → Prop} (hh : A.handled = none) (hl : s.heap.IsList l items) (hit : IntsAre items.toList ns) (hb : ns.length + 1 < scanBound)
    (h : ∀ (h' : Heap) (tk c : Nat), SetR w h' s.heap.objs.size (fun j => decide (j ∈ ns)) c → c ≤ ns.length → (∀ b o, s.heap.get? b = some o → h'.get? b = some o) → Q (.ref s.heap.objs.size) { s with heap := h', toks := tk }) :
    wpAny (model P w) A (call (.type "set") [.ref l]) Q E s := by
  have lenI : items.size = ns.length := by
    have q := IntsAre.length hit
    rwa [Array.length_toList] at q
  obtain ⟨c0, mr, hmro⟩ := F.called_set.mro
  have x1 := F.called_set.made
  have x2 := F.called_set.sub
  have x3 := F.called_set.notType
  have x4 := F.called_set.canCreate
  have x5 := F.typeCall_set_1 (.ref l)
  refine wpAny_call (codeAny_of_tree ?_)
  show wpAny _ _ (callAny (.type "set") _) _ _ _
  refine wpAny_pure ⟨Code.quiet_builtin _ (by decide +kernel), codeAny_builtin F.entry_type_call ?_⟩
  rw [Around.under_plain (weight_type_call_type "set" [.ref l] []) rfl]
  repeat (any_goals (first | assumption | wp_step))
  -- the new set
  refine codeAny_mono (code_set_led1 (.ref l) (E := E) (Q₁ := fun obj s₁ => obj = .ref s.heap.objs.size ∧ s₁ = { s with heap := s.heap.push (newSet w) }) ⟨rfl, rfl⟩) fun r s₁ hr => ?_
  cases r with
  | error e => exact hr
  | ok fl =>
    cases fl with
    | ret obj =>
      obtain ⟨rfl, rfl⟩ := hr
      have atS : (s.heap.push (newSet w)).get? s.heap.objs.size = some (newSet w) := Heap.get?_push_size _ rfl
      have tyS : Shared.TypeIs { s with heap := s.heap.push (newSet w) } (.ref s.heap.objs.size) "set" := ⟨_, atS, rfl⟩
      have y1 := F.called_set.init.lookup
      have y2 := F.called_set.init.bind (.ref s.heap.objs.size)
      repeat (any_goals (first | assumption | wp_step))
      -- its __init__
      refine codeAny_mono (codeAny_call_builtin (R := wants (fun r s₂ => r = .none ∧ ∃ h' tk c, s₂ = { s with heap := h', toks := tk } ∧ SetR w h' s.heap.objs.size (fun j => decide (j ∈ ns)) c ∧ c ≤ ns.length ∧
          (∀ b o, s.heap.get? b = some o → h'.get? b = some o)) E) F.called_set.init.plain F.entry_set_init (check_set_init_1 tyS ?_)) fun r₂ s₂ hr₂ => ?_
      · obtain ⟨⟨oc, od, dt, sl⟩, hol, hcl, nl, hdl⟩ := hl
        simp only at hcl hdl
        subst hcl hdl
        have hol' : (s.heap.push (newSet w)).get? l = some { cls := .type "list", dict := od, data := .seq items nl, slots := sl } := Heap.get?_push_of_some _ hol
        have z1 := F.sub_list_set
        have z2 := F.sub_list_frozenset
        have z3 : (Value.type "list" == Value.type "dict") = false := by decide
        have isL : (s.heap.push (newSet w)).IsList l items := ⟨_, hol', rfl, nl, rfl⟩
        have ltl : l < s.heap.objs.size := Heap.lt_size hol
        have noH : A.in1.in1.in1.handled = none := by simp [hh]
        unfold Builtin.«set.__init__» noKeywords Builtin.Frozenset.updateFrom
        generalize hPI : pyIter = PI
        wp_walk
        subst hPI
        refine wpAny_pyIter_list isL ?_
        refine wpAny_bind (wpAny_runValue ?_)
        have neI : l ≠ (s.heap.push (newSet w)).objs.size := by
          rw [Heap.size_push]
          exact Nat.ne_of_lt (Nat.lt_succ_of_lt ltl)
        have outS : s.heap.objs.size ∉ [(s.heap.push (newSet w)).objs.size, l] := by
          rw [Heap.size_push]
          simp only [List.mem_cons, List.mem_singleton, List.not_mem_nil, or_false, not_or]
          exact ⟨Nat.ne_of_lt (Nat.lt_succ_self _), Nat.ne_of_gt ltl⟩
        have each : ∀ (i : Nat) (v : Value), items[i]? = some v → ∃ k t, ns[i]? = some k ∧ v = .int k t := fun i v hv => by
          have hi : i < ns.length := by rw [← lenI]; exact (Array.getElem?_eq_some_iff.mp hv).1
          obtain ⟨t, e⟩ := PyProof.Rows.IntsAre.int_at hit i v (by rw [Array.getElem?_toList]; exact hv)
          refine ⟨ns[i], t, List.getElem?_eq_getElem hi, ?_⟩
          rw [e, List.getD_eq_getElem?_getD, List.getElem?_eq_getElem hi]
          rfl
        have set0 : ((s.heap.push (newSet w)).push { cls := .type "list_iterator", data := .fields #[.ref l, .int 0 0] }).get? s.heap.objs.size = some (newSet w) := Heap.get?_push_of_some _ atS
        refine set_update_ints ((Walks.list noH _ l neI items).toS) s.heap.objs.size outS ns lenI hb each (items.size - 0) 0 _ (by omega) (Nat.zero_le _)
          ⟨⟨_, Heap.get?_push_size _ rfl, rfl, rfl⟩, (isL.push _)⟩ ⟨0, Nat.le_refl 0, setR_new_at set0⟩ fun s' c' mv hc' hS' => ?_
        obtain ⟨h', g2, d', tk', os'⟩ := s'
        have eg : g2 = s.gens := mv.gens
        have ed : d' = s.drawn := mv.drawn
        have eo : os' = s.os := mv.os
        subst eg ed eo
        show wpAny _ _ _ _ _ _
        refine wpAny_pure ?_
        show wpAny _ _ (ret Value.none) _ _ _
        rw [lenI] at hc'
        refine wpAny_pure ⟨rfl, h', tk', c', rfl, hS', hc', fun b o e => ?_⟩
        have b0 : b < s.heap.objs.size := Heap.lt_size e
        have b2 : b ≠ (s.heap.push (newSet w)).objs.size := by
          rw [Heap.size_push]
          exact Nat.ne_of_lt (Nat.lt_succ_of_lt b0)
        exact mv.heap b o (by simp only [List.mem_cons, List.mem_singleton, List.not_mem_nil, or_false, not_or]; exact ⟨Nat.ne_of_lt b0, b2⟩) (Heap.get?_push_of_some _ (Heap.get?_push_of_some _ e))
      · cases r₂ with
        | error e => exact hr₂
        | ok fl₂ =>
          cases fl₂ with
          | ret r =>
            obtain ⟨rfl, h', tk, c', rfl, hS', hc', hk'⟩ := hr₂
            repeat (any_goals (first | assumption | wp_step))
            exact h _ _ _ hS' hc' hk'
          | _ => exact hr₂.elim
    | _ => exact hr.elim
end
section
variable {X : Cx}
def rSetI (K : PySem.W.Frag) (w : World) : List V → Hp → VK → Prop := fun xs H Q => ∃ (l : Addr) (ns : List Int), xs = [V.ref l] ∧ SqL K H l (ns.map V.int) ∧ ns.length < 60 ∧
  ∀ a c, H a = none → c ≤ ns.length → Q (.ref a) (upd H a (SetO w a (fun j => decide (j ∈ ns)) c))
theorem cr_setI (hc : X.calm = true) : CallR X (.type "set") (rSetI X.K X.w) := by
  intro pins s σ H xs us Q I r h
  obtain ⟨l, ns, rfl, hl, hz, q⟩ := h
  rw [Vals.ref1 r]
  obtain ⟨its, rv, pl, hz2⟩ := I.list hl
  have hn : H s.heap.objs.size = none := I.hok.fresh (Nat.le_refl _)
  refine call_set_lstI (P := X.prog) (w := X.w) ns (I.ok.hd hc) pl.isList (by simpa using intsAre_of rv) (by unfold scanBound; omega) fun h' tk c R hc' k => ?_
  exact ⟨.ref s.heap.objs.size, upd H s.heap.objs.size (SetO X.w s.heap.objs.size _ c), I.laid (t' := tk) k (Nat.le_refl _) (setO_new R), rfl, q _ c hn hc'⟩
end
end K19
end
section
set_option Elab.async false
set_option linter.all false
set_option maxRecDepth 100000
set_option maxHeartbeats 4000000
/-! for k, x in enumerate(t), t a tuple -/
namespace K19
open PySem
open AutoSeq1 (wpAny_loadPart')
theorem meets_enum_tup (l : Addr) (items : Array Value) (n : Nat) (dct : Option Addr) (sl : Array (Option Value)) :
    Meets (Builtin.«enumerate.__new__» ⟨[.type "enumerate", .ref l], []⟩) (fun _ R s => s.heap.get? l = some { cls := .type "tuple", dict := dct, data := .seq items n, slots := sl } ∧
      R (.ok (.ret (.ref (s.heap.push { cls := .type "tuple_iterator", data := .fields #[.ref l, .int 0 0] }).objs.size)))
        { s with heap := (s.heap.push { cls := .type "tuple_iterator", data := .fields #[.ref l, .int 0 0] }).push { cls := .type "enumerate", data := .fields #[.none, .bool false, .ref s.heap.objs.size, rawInt 0, .none, .none] } }) :=
  .of_wp fun prog w A R s h => by
    obtain ⟨hp, g, d, tk, os⟩ := s
    obtain ⟨hl, h⟩ := h
    have hsub := sub_enumerate
    have isT : Heap.IsTuple (Shared.heap ⟨hp, g, d, tk, os⟩) l items := ⟨_, hl, rfl, n, rfl⟩
    wp_walk using wpAny_loadPart' hl
    refine wpAny_stack_any fun st => wpAny_pure ?_
    split
    · rename_i c _ _ _ _ _
      cases (c == Value.type "enumerate")
      · wp_walk using wpAny_loadPart' hl, wpAny_pyIter_tuple isT
        exact ⟨_, rfl, h⟩
      · wp_walk using wpAny_loadPart' hl, wpAny_pyIter_tuple isT
        exact ⟨_, rfl, h⟩
    · wp_walk using wpAny_loadPart' hl, wpAny_pyIter_tuple isT
      exact ⟨_, rfl, h⟩
section
variable {prog : Program} {w : World} {A : Around} {E : Value → Shared → Prop} {s : Shared}
theorem call_enum_tup {l : Addr} {items : Array Value} {Q : Value → Shared → Prop} (hL : s.heap.IsTuple l items)
    (h : ∀ h', IsEnum h' (s.heap.objs.size + 1) s.heap.objs.size 0 .none → h'.IsTupleIter s.heap.objs.size l 0 → h'.objs.size = s.heap.objs.size + 2 →
      (∀ b o, s.heap.get? b = some o → h'.get? b = some o) → Q (.ref (s.heap.objs.size + 1)) { s with heap := h' }) :
    wpAny (model prog w) A (call (.type "enumerate") [.ref l]) Q E s := by
  obtain ⟨⟨c, dct, dt, sl⟩, hl, hc, n, hd⟩ := hL
  simp only at hc hd
  subst hc hd
  refine callType_new F.called_enumerate (by decide) (F.typeCall_enumerate_1 _) (F.newCall_enumerate_1 _) (fun obj => F.args_object_init_2 obj _) F.entry_enumerate_new (meets_enum_tup l items n dct sl) ⟨hl, ?_⟩
  have hz : (s.heap.push { cls := .type "tuple_iterator", data := .fields #[.ref l, .int 0 0] }).objs.size = s.heap.objs.size + 1 := Heap.size_push ..
  show _ ∧ _
  rw [hz]
  have he : IsEnum ((s.heap.push { cls := .type "tuple_iterator", data := .fields #[.ref l, .int 0 0] }).push
      { cls := .type "enumerate", data := .fields #[.none, .bool false, .ref s.heap.objs.size, rawInt 0, .none, .none] }) (s.heap.objs.size + 1) s.heap.objs.size 0 .none := by
    have q := Heap.get?_push_size (s.heap.push { cls := .type "tuple_iterator", data := .fields #[.ref l, .int 0 0] })
      (o := { cls := .type "enumerate", data := .fields #[.none, .bool false, .ref s.heap.objs.size, rawInt 0, .none, .none] }) rfl
    rw [hz] at q
    exact q
  exact ⟨⟨_, he, rfl⟩, h _ he ⟨_, Heap.get?_push_of_some _ (Heap.get?_push_size _ rfl), rfl, rfl⟩ (by rw [Heap.size_push, hz]) fun b o x => Heap.get?_push_of_some _ (Heap.get?_push_of_some _ x)⟩
end
open L2
/-- the tuple at a as it stands at each turn, each item in a new pair -/
def IteT (K : PySem.W.Frag) (a : Addr) : It :=
  ⟨fun i H => ∃ (xs : List V) (x : V), SqT K H a xs ∧ xs[i]? = some x, fun i H v H' => ∃ T x, v = .ref T ∧ H T = none ∧ H' = upd H T (.tup [.int (i : Nat), x]) ∧ ∀ xs, SqT K H a xs → xs[i]? = some x, fun i H => ∃ xs : List V, SqT K H a xs ∧ xs.length = i⟩
theorem iter_ne {h : Heap} {a it : Addr} {i : Nat} {xs : Array Value} (h1 : h.IsTupleIter it a i) (h2 : h.IsTuple a xs) : a ≠ it := by
  obtain ⟨o, e, c, _⟩ := h1
  obtain ⟨o2, e2, c2, _⟩ := h2
  rintro rfl
  rw [e] at e2
  cases e2
  rw [c] at c2
  injection c2 with c2
  exact absurd c2 (by decide)
theorem turn_enumT {P : Program} {w : World} {K : PySem.W.Frag} {elts : List Expr} {kk : Nat} {tpos : Pos} (a e it : Addr) :
    Turn P w K (.Tuple elts kk tpos) (IteT K a) [e, it] e (fun i h => (∃ old, IsEnum h e it ((i : Nat) : Int) old) ∧ h.IsTupleIter it a i ∧ e ≠ it) where
  mem := by simp
  obj := fun i h st b hb => by
    obtain ⟨⟨old, he⟩, ⟨o, ho, hc, hd⟩, _⟩ := st
    have q : b = e ∨ b = it := by simpa using hb
    rcases q with z | z
    · rw [z]; exact ⟨_, he, fun v q => nomatch q⟩
    · rw [z]; exact ⟨o, ho, fun v q => by rw [hd] at q; cases q⟩
  keep := fun i h h' st k => by
    obtain ⟨⟨old, he⟩, hi, hne⟩ := st
    exact ⟨⟨old, k e (by simp) _ he⟩, hi.at fun o q => k it (by simp) o q, hne⟩
  item := by
    intro X hP hw hK hc i pins s σ H E I hf st hg
    subst hP hw hK
    obtain ⟨⟨old, he⟩, hit, hne⟩ := st
    obtain ⟨xs, x, hq, hx⟩ := hg
    obtain ⟨its, rv, p, hz⟩ := I.tuple hq
    have p' : s.heap.IsTuple a its.toArray := p
    obtain ⟨u, hu, ru⟩ := rv.get hx
    have hel : e < s.heap.objs.size := Heap.lt_size he
    have hil : it < s.heap.objs.size := by
      obtain ⟨_, q, _⟩ := hit
      exact Heap.lt_size q
    have hae := iter_ne hit p'
    have ea : e ≠ a := by
      rintro rfl
      obtain ⟨o2, e2, c2, _⟩ := p'
      have he' : s.heap.get? e = some _ := he
      rw [he'] at e2
      cases e2
      have z : Value.type "enumerate" = Value.type "tuple" := c2
      injection z with z
      exact absurd z (by decide)
    have hlt : i < its.toArray.size := by
      rw [List.size_toArray]
      exact (List.getElem?_eq_some_iff.mp hu).1
    refine wpAny_pyNext_enum_itemD (Draws.tuple (by simp [I.ok.hd hc]) it a hae its.toArray) he ⟨hit, p'⟩ hlt hne (by simp [hne, ea]) fun y h' tk hP ho hst hT hsz hk => ?_
    have ey : y = u := by
      have q : its.toArray[i]? = some y := hP
      rw [List.getElem?_toArray, hu] at q
      exact (Option.some.inj q).symm
    subst ey
    refine ⟨_, rfl, wpAny_letOwnedTupleGo_enum (s := { s with heap := h', toks := tk + 1 }) ho fun h'' he' sb => ?_⟩
    have hT2 : h''.get? s.heap.objs.size = some { cls := .type "tuple", data := .seq #[.int i tk, y] } := (sb.2 _ (Nat.ne_of_gt hel)).trans hT
    have new : ObjOk X.prog X.w (upd H s.heap.objs.size (.tup [.int (i : Nat), x])) h'' s.heap.objs.size (.tup [.int (i : Nat), x]) :=
      ⟨by show 2 ≤ sizeLine; decide, [.int i tk, y], .cons ⟨_, rfl⟩ (.cons ru .nil), ⟨_, hT2, rfl, _, rfl⟩⟩
    have I1 : Inv X pins σ (upd H s.heap.objs.size (.tup [.int (i : Nat), x])) { s with heap := h'', toks := tk + 1 } :=
      I.turnedNew (ch := [e, it]) (fun b ob hb q => (sb.2 b (fun z => hb (by simp [z]))).trans (hk b ob (fun z => hb (by simp [z])) (fun z => hb (by simp [z])) q)) hf (Nat.le_refl _) new
    refine ⟨.ref s.heap.objs.size, _, I1, rfl, ⟨_, x, rfl, I.hok.fresh (Nat.le_refl _), rfl, fun ys hy => by rw [I.tuple_inj hy hq]; exact hx⟩, ⟨⟨y, ?_⟩, hst.1.at fun o q => (sb.2 it (Ne.symm hne)).trans q, hne⟩, fun b hb => ?_⟩
    · have e1 : ((i + 1 : Nat) : Int) = (i : Int) + 1 := by omega
      rw [e1]
      exact he'
    · have hb' : b < s.heap.objs.size := by
        have q : b = e ∨ b = it := by simpa using hb
        rcases q with z | z
        · rw [z]; exact hel
        · rw [z]; exact hil
      rw [upd_ne (Nat.ne_of_lt hb')]
      exact (hf b hb).1
  done := by
    intro X hP hw hK hc i pins s σ H E I hf st hg
    subst hP hw hK
    obtain ⟨⟨old, he⟩, hit, hne⟩ := st
    obtain ⟨xs, hq, hx⟩ := hg
    obtain ⟨its, rv, p, hz⟩ := I.tuple hq
    have p' : s.heap.IsTuple a its.toArray := p
    obtain ⟨f0, f1, f2, f3, f4, f5⟩ := hf it (by simp)
    have e2 : i = its.toArray.size := by
      rw [List.size_toArray, ← rv.length]
      exact hx.symm
    subst e2
    exact wpAny_pyNext_enum_endD (Draws.tuple (by simp [I.ok.hd hc]) it a (iter_ne hit p') its.toArray) he ⟨hit, p'⟩ fun h' eb => ⟨rfl, I.turned (t' := s.toks) (fun b o hb q => eb b o hb q) f0 f1 f3 f4 f5⟩
  self := fun A i s Q E st h => by
    obtain ⟨⟨_, he⟩, _⟩ := st
    exact wpAny_pyIter_enum he h
def iEnumT (K : PySem.W.Frag) (ta : TA) : TI := fun σ H R => ta σ H fun vs H1 => ∃ a xs, vs = [.ref a] ∧ SqT K H1 a xs ∧ R (IteT K a) H1
theorem pi_enumT {X : Cx} {e : Expr} {ta : TA} {p pos tpos : Pos} {elts : List Expr} {kk : Nat} (hg : Gl X "enumerate") (hm : X.mg "enumerate" = none) (ha : PA X [e] ta) (hs : starEach [e] X.env = [(false, eval e X.env)] := by rfl) :
    PI X (.Tuple elts kk tpos) (.Call (.Name "enumerate" p) [e] [] pos) (iEnumT X.K ta) := by
  refine ⟨fun pins s σ H R I h => ?_⟩
  refine PyProof.Rows.Call_ (ld_blt I hg hm (show bootBuiltins "enumerate" = some (.type "enumerate") by decide +kernel) (PyProof.Rows.callWith_type1 (thn (ha.run pos pins s σ H _ I h) fun us s1 ⟨vs, H1, I1, r1, q1⟩ => ?_) hs rfl))
  obtain ⟨a, xs, ex, hq, q⟩ := q1
  subst ex
  rw [Vals.ref1 r1]
  obtain ⟨its, rv, p', hz⟩ := I1.tuple hq
  refine call_enum_tup (show s1.heap.IsTuple a its.toArray from p') fun h' he hit hsz hk => wpAny_pyIter_enum he ?_
  have I2 : Inv X pins σ H1 { s1 with heap := h' } := I1.kept (t' := s1.toks) hk
  refine ⟨s1.heap.objs.size + 1, [s1.heap.objs.size + 1, s1.heap.objs.size], _, _, H1, rfl, I2, turn_enumT a (s1.heap.objs.size + 1) s1.heap.objs.size, ⟨⟨.none, he⟩, hit, Nat.succ_ne_self _⟩, fun b hb => ?_, q⟩
  have hle : s1.heap.objs.size ≤ b := by
    have z : b = s1.heap.objs.size + 1 ∨ b = s1.heap.objs.size := by simpa using hb
    rcases z with z | z
    · rw [z]; exact Nat.le_add_right _ _
    · rw [z]; exact Nat.le_refl _
  exact I1.fpOk hle (I1.hok.fresh hle)
theorem walk_enumT {K : PySem.W.Frag} {a : Addr} {xs : List V} : Walk (IteT K a) xs.length (fun H => SqT K H a xs) (YPair (fun i => some (.int (i : Nat))) (fun i => xs[i]?)) := by
  refine ⟨fun i _ hi q => ⟨xs, xs[i], q, by simp [hi]⟩, fun _ q => ⟨xs, q, rfl⟩, fun i H v H' _ q y => ?_⟩
  obtain ⟨T, x, h1, h2, h3, h4⟩ := y
  exact ⟨T, .int (i : Nat), x, h1, h2, h3, rfl, h4 xs q⟩
theorem i_enumT {W : Wd} {δ : Dn} {te : TE} {K : PySem.W.Frag} {ds : List Pd} (h : EvE W te δ (.tuple ds)) : ItP W (iEnumT K (tCons te tNil)) δ ds.length (fun i => some (.int (i : Nat))) (fun i => ds[i]?) := fun H σ g en Rr q => h H σ g en _ fun v d H1 r1 g1 p1 s1 => by
  subst p1
  cases s1 with
  | @tup p xs _ hp rs =>
    refine ⟨p, xs, rfl, SqT.of hp, ?_⟩
    have w := walk_enumT (K := K) (a := p) (xs := xs)
    rw [rs.length] at w
    refine q _ H1 (fun i => some (.int (i : Nat))) (fun i => xs[i]?) r1 g1 (fun i x e => ⟨_, rfl, ?_⟩) (fun i x e => ?_) (w.mono (fun H2 r2 => SqT.of (Wd.tups g1 r2 p xs hp)) fun _ _ _ _ _ _ y => y)
    · cases e
      exact .int _
    · exact rs.getV e
end K19
end
section
set_option Elab.async false
set_option linter.all false
set_option maxRecDepth 100000
namespace K19
open PySem L2
/-! ## sorted(set(..)) of ints -/
def dsrt (is : List Int) : List Int := srt is.eraseDups
theorem mem_srt {is : List Int} {i : Int} : i ∈ srt is ↔ i ∈ is := (srt_perm is).mem_iff
theorem mem_dsrt {is : List Int} {i : Int} : i ∈ dsrt is ↔ i ∈ is := by
  unfold dsrt
  rw [mem_srt, List.mem_eraseDups]
theorem lt_of_le_nd {xs : List Int} (h : xs.Pairwise (· ≤ ·)) (n : xs.Nodup) : xs.Pairwise (· < ·) := by
  have n' : xs.Pairwise (· ≠ ·) := n
  exact (h.and n').imp fun ⟨a, b⟩ => by omega
theorem nd_of_lt {xs : List Int} (h : xs.Pairwise (· < ·)) : xs.Nodup := h.imp fun h => by omega
theorem le_of_lt' {xs : List Int} (h : xs.Pairwise (· < ·)) : xs.Pairwise (· ≤ ·) := h.imp fun h => by omega
theorem strict_one {xs ys : List Int} (hx : xs.Pairwise (· < ·)) (hy : ys.Pairwise (· < ·)) (h : ∀ i, i ∈ xs ↔ i ∈ ys) : xs = ys :=
  sort_one ((List.perm_ext_iff_of_nodup (nd_of_lt hx) (nd_of_lt hy)).mpr h) (le_of_lt' hx) (le_of_lt' hy)
theorem nd_eraseDups : ∀ (n : Nat) (is : List Int), is.length ≤ n → is.eraseDups.Nodup
  | 0, is, h => by
    have e : is = [] := List.length_eq_zero_iff.mp (by omega)
    subst e
    exact List.nodup_nil
  | n + 1, [], _ => List.nodup_nil
  | n + 1, a :: is, h => by
    rw [List.eraseDups_cons]
    refine List.nodup_cons.mpr ⟨fun z => ?_, nd_eraseDups n _ ?_⟩
    · rw [List.mem_eraseDups, List.mem_filter] at z
      simp at z
    · have := List.length_filter_le (fun b => !b == a) is
      rw [List.length_cons] at h
      omega
theorem dsrt_lt (is : List Int) : (dsrt is).Pairwise (· < ·) := lt_of_le_nd (srt_le _) ((srt_perm _).nodup_iff.mpr (nd_eraseDups _ is (Nat.le_refl _)))
theorem dsrt_of {is ns : List Int} (h : ns.Pairwise (· < ·)) (hm : ∀ i, i ∈ ns ↔ i ∈ is) : ns = dsrt is := strict_one h (dsrt_lt is) fun i => (hm i).trans mem_dsrt.symm
/-- a list of clauses, by the places of its tuples -/
theorem RpA.clauses {N : Addr → Prop} {H : Hp} : ∀ {cs : List C} {vs : List V}, RpA N H vs (cls cs) → ∃ ks : List KA, vs = ks.map (fun p => V.ref p.1) ∧ ks.map (·.2) = cs ∧ ∀ p ∈ ks, H p.1 = some (.tup (p.2.map V.int))
  | [], _, h => by
    cases h
    exact ⟨[], rfl, rfl, fun p hp => by cases hp⟩
  | c :: cs, _, h => by
    have h' : RpA N H _ (cl c :: cls cs) := h
    cases h' with
    | cons h1 h2 =>
      obtain ⟨ks, e1, e2, e3⟩ := RpA.clauses h2
      cases h1 with
      | @tup a xs _ ha hs =>
        refine ⟨(a, c) :: ks, by rw [e1]; rfl, by rw [List.map_cons, e2], fun p hp => ?_⟩
        rcases List.mem_cons.mp hp with rfl | hp
        · rw [ha, hs.ints_eq]
        · exact e3 p hp
theorem RpA.ofKA {N : Addr → Prop} {H : Hp} : ∀ {ks : List KA}, (∀ p ∈ ks, H p.1 = some (.tup (p.2.map V.int))) → RpA N H (ks.map fun p => V.ref p.1) (cls (ks.map (·.2)))
  | [], _ => .nil
  | p :: ks, h => .cons (.tup (h p (List.mem_cons_self ..)) (RpA.ints _)) (RpA.ofKA fun q hq => h q (List.mem_cons_of_mem _ hq))
section
variable {W : Wd} {δ : Dn} {ta tb tc te : TE} {tr : TA} {K : PySem.W.Frag} {w : World} {P : Program}
theorem e_sortI {is : List Int} (h : EvE W ta δ (.list (is.map .int))) (hl : is.length < 60) : EvE W (tCB (rSortedSet w) (tCons (tCB (rSetI K w) (tCons ta tNil)) tNil)) δ (.list ((dsrt is).map .int)) := fun H σ g en Q q => h H σ g en _ fun v d H1 r1 g1 p1 s1 => by
  subst p1
  cases s1 with
  | @lst p xs _ hn hp rs =>
    have e := rs.ints_eq
    subst e
    refine ⟨p, is, rfl, SqL.of hp, hl, fun a c ha hc => ?_⟩
    refine ⟨a, _, c, rfl, upd_same, by omega, fun ns l hlt hm hlen hln => ?_⟩
    have e2 := dsrt_of (is := is) hlt fun i => by rw [hm]; exact decide_eq_true_iff
    subst e2
    have g2 := Wd.gNew g1 ha (SetO w a (fun j => decide (j ∈ is)) c)
    exact q _ _ _ (Wd.trans (Wd.trans r1 (Wd.rNew ha _)) (Wd.rNew hln _)) (Wd.gNew g2 hln _) rfl (rp_newL g2 hln (RpA.ints _))
theorem v_sortS {cs : List C} (h : EvE W ta δ (.list (cls cs))) (hl : cs.length < 64) : Ev W (tCB (rSortS K P w) (tCons (tCB (rSetOfT K P w) (tCons ta tNil)) tNil)) δ fun d => ∃ cs' : List C, d = .list (cls cs') ∧ cs'.Nodup ∧ cs'.length < 64 ∧ ∀ c, c ∈ cs' ↔ c ∈ cs := fun H σ g en Q q => h H σ g en _ fun v d H1 r1 g1 p1 s1 => by
  subst p1
  cases s1 with
  | @lst p xs _ hn hp rs =>
    obtain ⟨ks, e1, e2, e3⟩ := rs.clauses
    subst e1 e2
    refine ⟨p, ks, rfl, SqL.of hp, fun q hq => SqT.of (e3 q hq), by rw [List.length_map] at hl; exact hl, fun a L ha hL1 hL2 => ?_⟩
    have g2 := Wd.gNew g1 ha (SetTO P w a L)
    have s2 := same_new ha (SetTO P w a L)
    refine ⟨a, L, rfl, upd_same, fun q hq => SqT.of (s2 _ _ (e3 q (hL1 q hq))), fun L' l pm nd hlen hln => ?_⟩
    have s3 := same_new hln (.lst (L'.map fun q => V.ref q.1))
    refine q _ (.list (cls (L'.map (·.2)))) _ (Wd.trans (Wd.trans r1 (Wd.rSame s2)) (Wd.rSame s3)) (Wd.gNew g2 hln _) ⟨_, rfl, nd, by rw [List.length_map]; exact hlen, fun c => ?_⟩ (rp_newL g2 hln (RpA.ofKA fun q hq => s2 _ _ (e3 q (hL1 q (pm.mem_iff.mp hq)))))
    rw [(pm.map (·.2)).mem_iff]
    constructor
    · intro hc
      obtain ⟨q, hq, e⟩ := List.mem_map.mp hc
      exact List.mem_map.mpr ⟨q, hL1 q hq, e⟩
    · intro hc
      obtain ⟨q, hq, e⟩ := List.mem_map.mp hc
      rw [← e]
      exact hL2 q hq
theorem v_sortL {cs : List C} (h : EvE W ta δ (.list (cls cs))) : Ev W (tCB (rSortL K) (tCons ta tNil)) δ fun d => ∃ cs' : List C, d = .list (cls cs') ∧ cs'.Perm cs := fun H σ g en Q q => h H σ g en _ fun v d H1 r1 g1 p1 s1 => by
  subst p1
  cases s1 with
  | @lst p xs _ hn hp rs =>
    obtain ⟨ks, e1, e2, e3⟩ := rs.clauses
    subst e1 e2
    refine ⟨p, ks, rfl, SqL.of hp, fun q hq => SqT.of (e3 q hq), fun L' l pm hln => ?_⟩
    have s3 := same_new hln (.lst (L'.map fun q => V.ref q.1))
    exact q _ (.list (cls (L'.map (·.2)))) _ (Wd.trans r1 (Wd.rSame s3)) (Wd.gNew g1 hln _) ⟨_, rfl, pm.map _⟩ (rp_newL g1 hln (RpA.ofKA fun q hq => e3 q (pm.mem_iff.mp hq)))
end
end K19
end
section
set_option Elab.async false
set_option linter.all false
set_option maxRecDepth 100000
namespace K19
open PySem L2
theorem walk_zipT {K : PySem.W.Frag} {a b : Addr} {xs ys : List V} {n : Nat} (hn : n = min xs.length ys.length) : Walk (RZ.ItzT K a b) n (fun H => SqT K H a xs ∧ SqT K H b ys) (YPair (fun i => xs[i]?) (fun i => ys[i]?)) := by
  subst hn
  refine ⟨fun i _ hi q => ?_, fun _ q => ⟨xs, ys, q.1, q.2, by omega⟩, fun i H v H' _ q y => ?_⟩
  · have h1 : i < xs.length := by omega
    have h2 : i < ys.length := by omega
    exact ⟨xs, ys, xs[i], ys[i], q.1, q.2, by simp [h1], by simp [h2]⟩
  · obtain ⟨T, x, z, h1, h2, h3, h4, h5⟩ := y
    exact ⟨T, x, z, h1, h2, h3, h4 xs q.1, h5 ys q.2⟩
section
variable {W : Wd} {δ : Dn} {ta tb tc te : TE} {tr : TA} {K : PySem.W.Frag}
theorem i_zipT {ds es : List Pd} (ha : AvE W tr δ [.tuple ds, .tuple es]) : ItP W (RZ.iZipA K tr) δ (min ds.length es.length) (fun i => ds[i]?) (fun i => es[i]?) := fun H σ g en Rr q => ha H σ g en _ fun vs dd H1 r1 g1 p1 s1 => by
  subst p1
  cases s1 with
  | cons s1 s2 =>
    cases s2 with
    | cons s2 s3 =>
      cases s3
      cases s1 with
      | @tup p xs _ hp rs =>
        cases s2 with
        | @tup p2 ys _ hp2 rs2 =>
          refine ⟨p, p2, xs, ys, rfl, .inr ⟨SqT.of hp, SqT.of hp2, ?_⟩⟩
          refine q _ H1 (fun i => xs[i]?) (fun i => ys[i]?) r1 g1 (fun i x e => rs.getV e) (fun i x e => rs2.getV e) ((walk_zipT (K := K) (by rw [rs.length, rs2.length])).mono (fun H2 r2 => ⟨SqT.of (Wd.tups g1 r2 p xs hp), SqT.of (Wd.tups g1 r2 p2 ys hp2)⟩) fun _ _ _ _ _ _ y => y)
theorem wipe2 {σ : Sl} {vs : List Nat} : wipe (wipe σ vs) vs = wipe σ vs := by
  apply List.ext_getElem?
  intro i
  by_cases m : i ∈ vs
  · have key : ∀ (τ : Sl) (us : List Nat), i ∈ us → (wipe τ us)[i]? = if i < τ.length then some none else none := by
      intro τ us
      induction us with
      | nil => intro z; cases z
      | cons u us ih =>
        intro z
        show ((wipe τ us).set u none)[i]? = _
        by_cases q : u = i
        · subst q
          by_cases lt : u < τ.length
          · rw [List.getElem?_set_self (by rw [wipe_length]; exact lt), if_pos lt]
          · rw [if_neg lt, List.getElem?_eq_none_iff]
            simp only [List.length_set, wipe_length]
            omega
        · rw [List.getElem?_set_ne q]
          exact ih (by simpa [Ne.symm q] using z)
    rw [key _ _ m, key _ _ m, wipe_length]
  · rw [wipe_out m]
/-- [test for a, b in ..] -/
theorem e_lc2B {wi : TI} {j k n : Nat} {vs : List Nat} {p q : Nat → Option Pd} (f : Nat → Bool) (hi : ItP W wi δ n p q) (he : ∀ i x y, i < n → p i = some x → q i = some y → EvE W te ((δ.set j (.d x)).set k (.d y)) (.bool (f i))) (hn : n ≤ 50000)
    (hw : okW δ vs = true := by rfl) (hj : j ∈ vs := by decide) (hk : k ∈ vs := by decide) : EvE W (tLc wi (gTup K 2 (gCons (gName j) (gCons (gName k) gNil))) tYes te vs) δ (.list (((List.range n).map f).map .bool)) := fun H σ g en Q kq => by
  refine hi H σ g en _ fun J H1 xf yf r1 g1 hx hy wk => ?_
  intro D hD
  have hDN : ¬ W.N D := Wd.frN g1 hD
  have hDS : ¬ W.S D := Wd.fr g1 hD
  have hDX : ¬ W.X D := fun z => hDN (W.xn D z)
  have en1 : En W.N H1 σ δ := en.go g r1
  have weak : ∀ {H2 v d}, Rp (fun a => W.N a ∨ a = D) H2 v d → Rp W.N H2 v d := fun {H2 v d} h => Rp.keep (fun _ _ e => e) (fun _ _ n e => e) (fun a xs e z => .inl z) d v h
  have avoid : ∀ {v d}, Rp W.N H1 v d → Rp (fun a => W.N a ∨ a = D) H1 v d := fun {v d} h => Rp.keep (fun _ _ e => e) (fun _ _ _ e => e) (fun a xs e z => by
    rcases z with z | rfl
    · exact z
    · rw [hD] at e
      cases e) d v h
  have step : ∀ {H2 H3 v d}, W.G H2 → W.R H2 H3 → Rp (fun a => W.N a ∨ a = D) H2 v d → Rp (fun a => W.N a ∨ a = D) H3 v d := fun {H2 H3 v d} g2 r h => Rp.keep (Wd.tups g2 r) (fun a xs n e => r a _ (fun z => n (.inl (W.xn a z))) e) (fun _ _ _ z => z) d v h
  refine lc_it wk (fun i H2 => W.G H2 ∧ W.R H1 H2 ∧ En (fun a => W.N a ∨ a = D) H2 σ δ ∧ H2 D = some (.lst (((List.range i).map f).map V.bl))) ?_ ?_ ?_ ?_
  · have s := same_new hD (.lst [])
    exact ⟨Wd.ofSame g1 s, Wd.rSame s, (en1.map fun _ _ h => avoid h).same s, upd_same⟩
  · rintro i H2 hle ⟨_, r2, _⟩
    exact r2
  · rintro i v H2 H2' hlt ⟨g2, r2, en2, hacc⟩ ⟨T, x, y, rfl, hT, rfl, ex, ey⟩
    obtain ⟨dx, px, rx⟩ := hx i x ex
    obtain ⟨dy, py, ry⟩ := hy i y ey
    have s := same_new hT (.tup [x, y])
    have TD : T ≠ D := fun z => by
      rw [z, hacc] at hT
      cases hT
    have g3 := Wd.ofSame g2 s
    have r3 := Wd.rSame (W := W) s
    refine ⟨T, _, rfl, SqT.of upd_same, rfl, x, _, rfl, y, _, rfl, rfl, ?_⟩
    refine ⟨by rw [wipe_set hk, wipe_set hj, wipe2], ?_⟩
    show te _ _ _
    refine he i dx dy hlt px py _ _ g3 ((((((en2.wipe hw).same s).map fun _ _ h => weak h).set ((Wd.rp g1 r2 rx).same s))).set ((Wd.rp g1 r2 ry).same s)) _ fun z dz H4 r4 g4 p4 s4 => ?_
    subst p4
    cases s4
    have hD4 : H4 D = some (.lst (((List.range i).map f).map V.bl)) := r4 D _ hDX (s D _ hacc)
    have tup_ne : ∀ a xs, H4 a = some (.tup xs) → a ≠ D := fun a xs e z => by
      rw [z, hD4] at e
      cases e
    have r24 : W.R H2 H4 := Wd.trans r3 r4
    refine ⟨_, hD4, Nat.lt_of_lt_of_le (show _ < 100000 by simp; omega) (by decide), W.chg _ _ g4 fun a s => L2.upd_ne (fun z => hDS (z ▸ s)), fun a o n e => ?_, ?_, ?_⟩
    · rw [L2.upd_ne]
      · exact r4 a o n (s a o (r2 a o n e))
      · rintro rfl
        rw [hD] at e
        cases e
    · exact (en2.map fun _ _ h => step g2 r24 h).map fun _ _ h => Rp.upd_ne hDN ⟨_, hD4⟩ h
    · rw [upd_same, List.range_succ, List.map_append, List.map_append]
      rfl
  · rintro H2 ⟨g2, r2, _, hacc⟩
    refine kq _ _ H2 (Wd.trans r1 r2) g2 rfl (.lst hDN hacc ?_)
    have : ∀ l : List Bool, RpA W.N H2 (l.map V.bl) (l.map PyData.bool) := fun l => by
      induction l with
      | nil => exact .nil
      | cons b l ih => exact .cons (.bl b) ih
    exact this _
end
/-! ## more of the plain words -/
theorem asc_pairs : ∀ c : C, asc c = (List.range (c.length - 1)).all fun i => decide (c.getD i 0 < c.getD (i + 1) 0)
  | [] => rfl
  | [_] => rfl
  | a :: b :: r => by
    have ih := asc_pairs (b :: r)
    show (decide (a < b) && asc (b :: r)) = _
    rw [ih]
    have e : (a :: b :: r).length - 1 = (b :: r).length - 1 + 1 := by simp
    rw [e, List.range_succ_eq_map, List.all_cons, List.all_map]
    rfl
theorem sm_mono {W : Wd} {t : TS} {δ : Dn} {Nx : Dn → Prop} {P P' : Pd → Prop} (h : Sm W t δ Nx P) (k : ∀ d, P d → P' d) : Sm W t δ Nx P' := fun H σ g en D nx rt => h H σ g en D nx fun v d H' r g' p s => rt v d H' r g' (k d p) s
/-! ## data of bounded depth and size -/
def okD : Nat → Pd → Bool
  | _, .none => true
  | _, .bool _ => true
  | _, .int _ => true
  | _, .str x => PyData.canLay0 (.str x)
  | 0, _ => false
  | m + 1, .tuple ds => decide (ds.length ≤ 50) && ds.all (okD m)
  | m + 1, .list ds => decide (ds.length ≤ 50) && ds.all (okD m)
  | _ + 1, .dict _ => false
theorem okD_tuple {m : Nat} {ds : List Pd} (h : okD m (.tuple ds) = true) : ds.length ≤ 50 ∧ ∃ k, m = k + 1 ∧ ∀ d ∈ ds, okD k d = true := by
  cases m with
  | zero => cases h
  | succ m =>
    simp only [okD, Bool.and_eq_true, decide_eq_true_eq, List.all_eq_true] at h
    exact ⟨h.1, m, rfl, h.2⟩
theorem okD_list {m : Nat} {ds : List Pd} (h : okD m (.list ds) = true) : ds.length ≤ 50 ∧ ∃ k, m = k + 1 ∧ ∀ d ∈ ds, okD k d = true := by
  cases m with
  | zero => cases h
  | succ m =>
    simp only [okD, Bool.and_eq_true, decide_eq_true_eq, List.all_eq_true] at h
    exact ⟨h.1, m, rfl, h.2⟩
theorem okD_mono : ∀ {m k : Nat} {d : Pd}, okD m d = true → m ≤ k → okD k d = true := by
  intro m
  induction m with
  | zero =>
    intro k d h _
    cases d <;> first | (cases k <;> rfl) | (cases k <;> exact h) | cases h
  | succ m ih =>
    intro k d h hk
    obtain ⟨k, rfl⟩ : ∃ j, k = j + 1 := ⟨k - 1, by omega⟩
    cases d with
    | tuple ds =>
      simp only [okD, Bool.and_eq_true, decide_eq_true_eq, List.all_eq_true] at h ⊢
      exact ⟨h.1, fun d hd => ih (h.2 d hd) (by omega)⟩
    | list ds =>
      simp only [okD, Bool.and_eq_true, decide_eq_true_eq, List.all_eq_true] at h ⊢
      exact ⟨h.1, fun d hd => ih (h.2 d hd) (by omega)⟩
    | dict _ => cases h
    | str x => exact h
    | _ => rfl
theorem okD_lay : ∀ {m : Nat} {d : Pd}, okD m d = true → PyData.canLay0 d = true ∧ d.depth ≤ m := by
  intro m
  induction m with
  | zero =>
    intro d h
    cases d with
    | str x => exact ⟨h, by simp [PyData.depth]⟩
    | none => exact ⟨by simp [PyData.canLay0], by simp [PyData.depth]⟩
    | bool _ => exact ⟨by simp [PyData.canLay0], by simp [PyData.depth]⟩
    | int _ => exact ⟨by simp [PyData.canLay0], by simp [PyData.depth]⟩
    | _ => cases h
  | succ m ih =>
    have all : ∀ ds : List Pd, (∀ d ∈ ds, okD m d = true) → PyData.canLayAll0 ds = true ∧ PyData.depthAll ds ≤ m := by
      intro ds
      induction ds with
      | nil => intro _; exact ⟨by simp [PyData.canLayAll0], by simp [PyData.depthAll]⟩
      | cons d ds ih2 =>
        intro hd
        obtain ⟨h1, h2⟩ := ih (hd d (List.mem_cons_self ..))
        obtain ⟨h3, h4⟩ := ih2 fun e he => hd e (List.mem_cons_of_mem _ he)
        refine ⟨by simp [PyData.canLayAll0, h1, h3], ?_⟩
        simp only [PyData.depthAll]
        omega
    intro d h
    cases d with
    | str x => exact ⟨h, by simp [PyData.depth]⟩
    | none => exact ⟨by simp [PyData.canLay0], by simp [PyData.depth]⟩
    | bool _ => exact ⟨by simp [PyData.canLay0], by simp [PyData.depth]⟩
    | int _ => exact ⟨by simp [PyData.canLay0], by simp [PyData.depth]⟩
    | dict _ => cases h
    | tuple ds =>
      simp only [okD, Bool.and_eq_true, decide_eq_true_eq, List.all_eq_true] at h
      obtain ⟨h1, h2⟩ := all ds h.2
      refine ⟨by simpa [PyData.canLay0] using h1, ?_⟩
      simp only [PyData.depth]
      omega
    | list ds =>
      simp only [okD, Bool.and_eq_true, decide_eq_true_eq, List.all_eq_true] at h
      obtain ⟨h1, h2⟩ := all ds h.2
      refine ⟨by simpa [PyData.canLay0] using h1, ?_⟩
      simp only [PyData.depth]
      omega
theorem okD_shaped {m : Nat} {d : Pd} (h : okD m d = true) (hm : m ≤ 60 := by decide) : SeqAt.shaped d = true := by
  obtain ⟨h1, h2⟩ := okD_lay h
  unfold SeqAt.shaped
  rw [h1]
  simp only [Bool.true_and, decide_eq_true_eq]
  omega
theorem okD_sm {m : Nat} {d : Pd} (h : okD m d = true) : sm d := fun ds e => by
  subst e
  have := (okD_tuple h).1
  omega
/-! ## steps -/
def mkC (xs : C) : Option C := if xs.any (fun l => decide (-l ∈ xs)) then none else some (dsrt xs)
def oC : Option C → Pd
  | none => .none
  | some c => cl c
theorem oC_inj {a b : Option C} (h : oC a = oC b) : a = b := by
  cases a with
  | none => cases b with
    | none => rfl
    | some c => cases h
  | some c => cases b with
    | none => cases h
    | some e => 
      have h' : cl c = cl e := h
      rw [← cOf_cl c, ← cOf_cl e, h']
def resC (a b : C) (v : Int) : Option C := if v ∈ a ∧ -v ∈ b then mkC (a.filter (fun l => !decide (l = v)) ++ b.filter fun l => !decide (l = -v)) else none
def getI (cs : List C) (i : Int) : Option C := if 0 ≤ i then cs[i.toNat]? else none
def axC (cs : List C) : List Pd → Option C
  | [_, .int i] => getI cs i
  | _ => none
def resP (n : Int) (ks : List C) : List Pd → Option C
  | [_, .int a, .int b, .int v] => if 0 < v ∧ v ≤ n then (getI ks a).bind fun c => (getI ks b).bind fun e => resC c e v else none
  | _ => none
def weakP (n : Int) (ks : List C) : List Pd → Option C
  | [_, .int a, d] => (getI ks a).bind fun c => (clOf n d).bind fun e => if c.all (fun l => decide (l ∈ e)) then some e else none
  | _ => none
def nextP (n : Int) (cs ks : List C) : Pd → Option C
  | .tuple (t :: r) => if isS "axiom" t then axC cs (t :: r) else if isS "resolve" t then resP n ks (t :: r) else if isS "weaken" t then weakP n ks (t :: r) else none
  | _ => none
def fstF (cs : List C) (c : C) : Int := match cs.findIdx? (fun e => fals c e) with
  | some k => (k : Int)
  | none => -1
theorem getI_lt {cs : List C} {i : Int} {c : C} (h : getI cs i = some c) : 0 ≤ i ∧ i < cs.length ∧ cs[i.toNat]? = some c := by
  unfold getI at h
  split at h
  · rename_i h0
    have := (List.getElem?_eq_some_iff.mp h).1
    exact ⟨h0, by omega, h⟩
  · cases h
theorem getI_none {cs : List C} {i : Int} (h : ¬ (0 ≤ i ∧ i < cs.length)) : getI cs i = none := by
  unfold getI
  split
  · rename_i h0
    exact List.getElem?_eq_none (by omega)
  · rfl
theorem getI_some {cs : List C} {i : Int} (h : 0 ≤ i ∧ i < cs.length) : ∃ c, getI cs i = some c ∧ cs[i.toNat]? = some c ∧ c ∈ cs := by
  have lt : i.toNat < cs.length := by omega
  refine ⟨cs[i.toNat], ?_, List.getElem?_eq_getElem lt, List.getElem_mem lt⟩
  unfold getI
  rw [if_pos h.1, List.getElem?_eq_getElem lt]
end K19
end
section
set_option Elab.async false
set_option linter.all false
set_option maxRecDepth 100000
namespace K19
open PySem L2
def top (i : Nat) : Stmt := PySem.Challenge.pw_rebut_k19_whole_every_formula_is_solved.main.body.getD i (.Pass ⟨0, 0, 0, 0⟩)
abbrev s_WrongStep_init : Stmt := (inClass (top 2) 0)
abbrev s_is_integer : Stmt := top 4
abbrev s_is_number : Stmt := top 5
abbrev s_is_ascending : Stmt := top 6
abbrev s_is_clause : Stmt := top 7
abbrev s_made_clause : Stmt := top 8
abbrev s_falsifies : Stmt := top 9
abbrev s_satisfies : Stmt := top 10
abbrev s_falsified : Stmt := top 11
abbrev s_is_model : Stmt := top 12
abbrev s_with_literal : Stmt := top 13
abbrev s_free_variables : Stmt := top 14
abbrev s_is_earlier : Stmt := top 16
abbrev s_resolvent : Stmt := top 17
abbrev s_axiom_clause : Stmt := top 18
abbrev s_resolved_clause : Stmt := top 19
abbrev s_weakened_clause : Stmt := top 20
abbrev s_next_clause : Stmt := top 21
abbrev s_clauses_of : Stmt := top 22
abbrev s_are_tuples : Stmt := top 23
abbrev s_is_refutation : Stmt := top 24
abbrev s_sources : Stmt := top 25
abbrev s_moved : Stmt := top 26
abbrev s_pruned_to : Stmt := top 27
abbrev s_Shortener_init : Stmt := (inClass (top 28) 0)
abbrev s_Shortener_add : Stmt := (inClass (top 28) 1)
abbrev s_Shortener_resolve : Stmt := (inClass (top 28) 2)
abbrev s_write_tree : Stmt := top 30
abbrev s_steps_of_tree : Stmt := top 31
abbrev s_search : Stmt := top 33
abbrev s_solve : Stmt := top 34
abbrev s_is_solved : Stmt := top 35
abbrev s__law_same : Stmt := top 37
abbrev s__law_is_integer : Stmt := top 38
abbrev s__law_pool : Stmt := top 39
abbrev s__law_spread : Stmt := top 40
abbrev s__law_draw : Stmt := top 41
abbrev s__law_rising : Stmt := top 42
abbrev s__law_is_clause : Stmt := top 43
abbrev s__law_with : Stmt := top 44
abbrev s__law_negated : Stmt := top 45
abbrev s__law_within : Stmt := top 46
abbrev s__law_fails : Stmt := top 47
abbrev s__law_leaf : Stmt := top 48
abbrev s__law_free : Stmt := top 49
abbrev s__law_cubes : Stmt := top 50
abbrev s__law_model : Stmt := top 51
abbrev s__law_some_clause : Stmt := top 52
abbrev s__law_drawn_formula : Stmt := top 53
abbrev s__law_false_formula : Stmt := top 54
abbrev s__law_bent : Stmt := top 55
abbrev s__law_some_tree : Stmt := top 57
abbrev s__law_write : Stmt := top 62
abbrev s__law_some_steps : Stmt := top 63
abbrev s__law_next : Stmt := top 64
abbrev s__law_clauses : Stmt := top 65
abbrev s__law_is_refutation : Stmt := top 66
abbrev s__law_right : Stmt := top 69
abbrev s_law : Stmt := top 70

/-! ## a def of the text -/
structure DefH (K : PySem.W.Frag) (mg : Str → Option Value) (x : Str) (st : Stmt) : Prop where
  ex : ∃ f fd, FunD K x x (defArgs st) (defBody st) (defScope st) [] [] f fd ∧ mg x = some (.ref f)
/-- the built-ins that the module does not hide -/
structure Bl (mg : Str → Option Value) : Prop where
  isinstance_ : mg "isinstance" = none
  int_ : mg "int" = none
  bool_ : mg "bool" = none
  tuple_ : mg "tuple" = none
  list_ : mg "list" = none
  str_ : mg "str" = none
  all_ : mg "all" = none
  zip_ : mg "zip" = none
  abs_ : mg "abs" = none
  sorted_ : mg "sorted" = none
  set_ : mg "set" = none
  len_ : mg "len" = none
  enumerate_ : mg "enumerate" = none
  range_ : mg "range" = none
abbrev BindS (x : Str) (st : Stmt) (ps : List Str) : Prop := ∀ (kV doc pm : Value) (an : Option Addr) (cdv ct : Value) (us : List Value), us.length = ps.length → bindArgs (PySem.W.fnOf x x (defArgs st) (defBody st) (defScope st) .none kV doc pm an cdv ct) ⟨us, []⟩ = pure (ps.zip us)
section
variable {P : Program} {w : World} {K : PySem.W.Frag} {mg : Str → Option Value} {base : Heap}
theorem cal_any {x : Str} {st : Stmt} {N ps : List Str} {k : Nat} {sp : Sp} (D : DefH K mg x st) (S : FnScope N ps (defScope st)) (hb : BindS x st ps) (len : ∀ vs H Q E, sp vs H Q E → vs.length = ps.length)
    (hbody : ∀ (f : Addr) (cdv : Value) (A : Around) (outer : List Env) (s : Shared) (H : Hp) (E : XK), Room k (A.deeper (PyProof.Rows.envOfC x (defScope st) s.heap.objs.size f cdv)) →
      ∃ t, PSs (cxOf CX0 P w K mg base N x (defScope st) f cdv A outer s H E).nox (defBody st) t ∧ ∀ vs Q, sp vs H Q E → t { nx := fun _ H' => Q .non H', rt := Q } (L2.start N vs) H) : C8.Cal P w K mg base (k + 1) x sp [] := by
  obtain ⟨f, fd, F, m⟩ := D.ex
  refine ⟨f, fd, ps, [], F.ok S len fun cdv A outer s H vs Q E hr h => ?_, m, F.kp, F.bindsN hb, .nil⟩
  obtain ⟨t, h1, h2⟩ := hbody f cdv A outer s H E hr
  exact ⟨t, PSs.nox h1, h2 vs Q h⟩
theorem cal_of {x : Str} {st : Stmt} {N ps : List Str} {k : Nat} {pre : List Pd → Prop} {f : List Pd → Pd → Prop} (D : DefH K mg x st) (S : FnScope N ps (defScope st)) (hb : BindS x st ps) (hn : ∀ ds, pre ds → ds.length = ps.length)
    (hbody : ∀ (fa : Addr) (cdv : Value) (A : Around) (outer : List Env) (s : Shared) (H : Hp) (E : XK), Room k (A.deeper (PyProof.Rows.envOfC x (defScope st) s.heap.objs.size fa cdv)) →
      ∃ t, PSs (cxOf CX0 P w K mg base N x (defScope st) fa cdv A outer s H E).nox (defBody st) t ∧ ∀ (W : Wd) (ds : List Pd), pre ds → Sm W t (args N.length ds) (fun _ => False) (f ds)) : C8.Cal P w K mg base (k + 1) x (spR pre f) [] := by
  refine cal_any D S hb (spR_len hn) fun fa cdv A outer s H E hr => ?_
  obtain ⟨t, h1, h2⟩ := hbody fa cdv A outer s H E hr
  exact ⟨t, h1, fun vs Q h => pure_go h2 h⟩
end
end K19
end
section
set_option Elab.async false
set_option linter.all false
set_option maxRecDepth 100000
set_option maxHeartbeats 4000000
namespace K19
open PySem L2
local macro_rules | `(tactic| walk_at "ev1") => `(tactic| first
  | exact e_var rfl | exact e_int | exact e_bl | exact e_non | exact e_str | exact a_nil | exact t_yes
  | refine a_cons ?_ ?_
  | (refine e_un ?_ (u_neg rfl))
  | (refine e_op ?_ ?_ (o_bl rfl)) | (refine e_op ?_ ?_ (o_int rfl))
  | (refine e_op ?_ ?_ (o_eqI rfl)) | (refine e_op ?_ ?_ (o_neI rfl))
  | (refine t_test ?_) | (refine t_B ?_) | (refine t_not ?_) | (refine e_notV ?_)
  | (refine e_cb ?_ (c_abs rfl)) | (refine e_cb ?_ (c_int rfl)))
local macro_rules | `(tactic| walk_at "ev") => `(tactic| repeat' walk_at "ev1")
theorem isInt_eq (d : Pd) : (isT "int" d && !isT "bool" d) = isInt d := by cases d <;> simp [isT, tyN, isInt]
theorem args2 {a b c d : Pd} (h : [a, b] = [c, d]) : a = c ∧ b = d := by
  cases h
  exact ⟨rfl, rfl⟩
theorem args3 {a b c d e f : Pd} (h : [a, b, c] = [d, e, f]) : a = d ∧ b = e ∧ c = f := by
  cases h
  exact ⟨rfl, rfl, rfl⟩
theorem cl_inj {c e : C} (h : cl c = cl e) : c = e := by
  rw [← cOf_cl c, ← cOf_cl e, h]
theorem cls_inj {cs es : List C} (h : cls cs = cls es) : cs = es := by
  have key : ∀ cs : List C, (cls cs).map cOf = cs := fun cs => by
    unfold cls
    rw [List.map_map]
    exact (List.map_congr_left fun c _ => cOf_cl c).trans (List.map_id _)
  rw [← key cs, ← key es, h]
theorem fm_inj {n m : Int} {cs es : List C} (h : fm n cs = fm m es) : n = m ∧ cs = es := by
  injection h with h
  injection h with h1 h2
  injection h1 with h1
  injection h2 with h2
  injection h2 with h2
  exact ⟨h1, cls_inj h2⟩
theorem int_inj {i j : Int} (h : (PyData.int i) = .int j) : i = j := by
  injection h
/-! ### is_integer -/
def pre_is_integer : List Pd → Prop := fun ds => ∃ d, ds = [d]
def f_is_integer : List Pd → Pd → Prop := fun ds r => ∀ d, ds = [d] → r = .bool (isInt d)
abbrev sp_is_integer : Sp := spR pre_is_integer f_is_integer
abbrev N_is_integer : List Str := ["value"]
theorem sc_is_integer : FnScope N_is_integer ["value"] (defScope s_is_integer) := ⟨rfl, rfl, rfl, by decide +kernel, rfl, by decide +kernel, by decide +kernel⟩
theorem ok_is_integer {P : Program} {w : World} {K : PySem.W.Frag} {mg : Str → Option Value} {base : Heap} (B : Bl mg) (D : DefH K mg "is_integer" s_is_integer)  : C8.Cal P w K mg base 1 "is_integer" sp_is_integer [] := by
  refine cal_of D sc_is_integer (fun _ _ _ _ _ _ us hl => match us, hl with | [_], _ => rfl) (fun ds h => ?_) fun fa cdv A outer s H E hr => ⟨_, (pss_one (ps_ret (pe_and (pe_callB (r := rIsi K) call_isi rfl B.isinstance_ (by decide +kernel) (pa_cons (pv 0 rfl (Or.inl rfl)) (pa_cons (pe_bltn (v := .ty "int") rfl B.int_ (by decide +kernel) rfl) pa_nil))) (pe_one (pe_not (pe_callB (r := rIsi K) call_isi rfl B.isinstance_ (by decide +kernel) (pa_cons (pv 0 rfl (Or.inl rfl)) (pa_cons (pe_bltn (v := .ty "bool") rfl B.bool_ (by decide +kernel) rfl) pa_nil)))))))), fun W ds h => ?_⟩
  · simp only [pre_is_integer] at h
    obtain ⟨_, rfl⟩ := h
    rfl
  · obtain ⟨d, rfl⟩ := h
    refine sm_ret ?_
    refine (e_andV (e_isi (e_var rfl)) fun _ => e_notV (e_isi (e_var rfl))).mono ?_
    rintro _ rfl _ q
    cases q
    exact congrArg PyData.bool (isInt_eq d)
theorem u_is_integer {W : Wd} {δ : Dn} {tr : TA} {E : XK} {x : Pd} (h : AvE W tr δ [x]) : EvE W (tCall sp_is_integer [] E tr) δ (.bool (isInt x)) := (e_callR h ⟨x, rfl⟩).mono fun d k => k x rfl
/-! ### is_number -/
def pre_is_number : List Pd → Prop := fun ds => ∃ d, ds = [d]
def f_is_number : List Pd → Pd → Prop := fun ds r => ∀ d, ds = [d] → r = .bool (isNum d)
abbrev sp_is_number : Sp := spR pre_is_number f_is_number
abbrev N_is_number : List Str := ["value"]
theorem sc_is_number : FnScope N_is_number ["value"] (defScope s_is_number) := ⟨rfl, rfl, rfl, by decide +kernel, rfl, by decide +kernel, by decide +kernel⟩
theorem ok_is_number {P : Program} {w : World} {K : PySem.W.Frag} {mg : Str → Option Value} {base : Heap} (B : Bl mg) (D : DefH K mg "is_number" s_is_number) (c_is_integer : C8.Cal P w K mg base 1 "is_integer" sp_is_integer []) : C8.Cal P w K mg base 2 "is_number" sp_is_number [] := by
  refine cal_of D sc_is_number (fun _ _ _ _ _ _ us hl => match us, hl with | [_], _ => rfl) (fun ds h => ?_) fun fa cdv A outer s H E hr => ⟨_, (pss_one (ps_ret (pe_and (C8.pe_c c_is_integer hr (by first | decide | omega) rfl (pa_cons (pv 0 rfl (Or.inl rfl)) pa_nil)) (pe_one (pe_cmpR op_ge (pv 0 rfl (Or.inl rfl)) pe_int (nomark _)))))), fun W ds h => ?_⟩
  · simp only [pre_is_number] at h
    obtain ⟨_, rfl⟩ := h
    rfl
  · obtain ⟨d, rfl⟩ := h
    refine sm_ret ?_
    refine (e_andV (y := isNum d) (u_is_integer (a_cons (e_var rfl) a_nil)) fun hi => ?_).mono ?_
    · cases d with
      | int i => exact e_opB (e_var rfl) e_int
      | _ => cases hi
    rintro _ rfl _ q
    cases q
    cases d <;> rfl
theorem u_is_number {W : Wd} {δ : Dn} {tr : TA} {E : XK} {x : Pd} (h : AvE W tr δ [x]) : EvE W (tCall sp_is_number [] E tr) δ (.bool (isNum x)) := (e_callR h ⟨x, rfl⟩).mono fun d k => k x rfl
/-! ### falsifies -/
def pre_falsifies : List Pd → Prop := fun ds => ∃ c e : C, ds = [cl c, cl e] ∧ e.length ≤ 100000
def f_falsifies : List Pd → Pd → Prop := fun ds r => ∀ c e : C, ds = [cl c, cl e] → r = .bool (fals c e)
abbrev sp_falsifies : Sp := spR pre_falsifies f_falsifies
abbrev N_falsifies : List Str := ["cube", "clause", "literal"]
theorem sc_falsifies : FnScope N_falsifies ["cube", "clause"] (defScope s_falsifies) := ⟨rfl, rfl, rfl, by decide +kernel, rfl, by decide +kernel, by decide +kernel⟩
theorem ok_falsifies {P : Program} {w : World} {K : PySem.W.Frag} {mg : Str → Option Value} {base : Heap} (B : Bl mg) (D : DefH K mg "falsifies" s_falsifies)  : C8.Cal P w K mg base 1 "falsifies" sp_falsifies [] := by
  refine cal_of D sc_falsifies (fun _ _ _ _ _ _ us hl => match us, hl with | [_, _], _ => rfl) (fun ds h => ?_) fun fa cdv A outer s H E hr => ⟨_, (pss_one (ps_ret (pe_callB (r := rAll K) (cr_all rfl) rfl B.all_ (by decide +kernel) (pa_cons (pe_lc (own := [("literal", 2)]) (g := gName 2) (tt := tYes) rfl sc_falsifies.nd (pi_tup (pv 1 rfl (Or.inl rfl))) (blkOk_by (N := N_falsifies) (sc := defScope s_falsifies) (by decide +kernel)) (fun _ _ _ _ _ => pg_name (i := 2) sc_falsifies.nd rfl (Or.inl rfl)) (fun _ _ _ _ _ => pts_nil) (fun _ _ _ _ _ => (pe_cmpR (r := rIn K false) op_in_seq (pe_un un_neg (pv 2 rfl (Or.inl rfl))) (pv 0 rfl (Or.inr (Or.inl rfl))) rfl))) pa_nil)))), fun W ds h => ?_⟩
  · obtain ⟨_, _, rfl, _⟩ := h
    rfl
  · obtain ⟨c, e, rfl, he⟩ := h
    refine sm_ret ?_
    refine (e_all (e_mapIB (fun l => decide (-l ∈ c)) (i_cl (e_var rfl)) (fun l _ => e_inT (e_neg (e_var rfl)) (e_var rfl)) he)).mono ?_
    rintro _ rfl c' e' q
    obtain ⟨q1, q2⟩ := args2 q
    rw [all_id, cl_inj q1, cl_inj q2]
    rfl
theorem u_falsifies {W : Wd} {δ : Dn} {tr : TA} {E : XK} {c e : C} (h : AvE W tr δ [cl c, cl e]) (he : e.length ≤ 100000) : EvE W (tCall sp_falsifies [] E tr) δ (.bool (fals c e)) := (e_callR h ⟨c, e, rfl, he⟩).mono fun d k => k c e rfl
/-! ### satisfies -/
def pre_satisfies : List Pd → Prop := fun ds => ∃ c e : C, ds = [cl c, cl e] ∧ e.length ≤ 100000
def f_satisfies : List Pd → Pd → Prop := fun ds r => ∀ c e : C, ds = [cl c, cl e] → r = .bool (sat c e)
abbrev sp_satisfies : Sp := spR pre_satisfies f_satisfies
abbrev N_satisfies : List Str := ["cube", "clause", "literal"]
theorem sc_satisfies : FnScope N_satisfies ["cube", "clause"] (defScope s_satisfies) := ⟨rfl, rfl, rfl, by decide +kernel, rfl, by decide +kernel, by decide +kernel⟩
theorem ok_satisfies {P : Program} {w : World} {K : PySem.W.Frag} {mg : Str → Option Value} {base : Heap} (B : Bl mg) (D : DefH K mg "satisfies" s_satisfies)  : C8.Cal P w K mg base 1 "satisfies" sp_satisfies [] := by
  refine cal_of D sc_satisfies (fun _ _ _ _ _ _ us hl => match us, hl with | [_, _], _ => rfl) (fun ds h => ?_) fun fa cdv A outer s H E hr => ⟨_, (pss_one (ps_ret (pe_cmpR op_gt (pe_callB (r := rLn K) call_len_seq rfl B.len_ (by decide +kernel) (pa_cons (pe_lc (own := [("literal", 2)]) (g := gName 2)  rfl sc_satisfies.nd (pi_tup (pv 1 rfl (Or.inl rfl))) (blkOk_by (N := N_satisfies) (sc := defScope s_satisfies) (by decide +kernel)) (fun _ _ _ _ _ => pg_name (i := 2) sc_satisfies.nd rfl (Or.inl rfl)) (fun _ _ _ _ _ => pts_one (pt_cmpR (r := rIn K false) op_in_seq (pv 2 rfl (Or.inl rfl)) (pv 0 rfl (Or.inr (Or.inl rfl))) rfl)) (fun _ _ _ _ _ => (pv 2 rfl (Or.inl rfl)))) pa_nil)) pe_int (nomark _)))), fun W ds h => ?_⟩
  · obtain ⟨_, _, rfl, _⟩ := h
    rfl
  · obtain ⟨c, e, rfl, he⟩ := h
    refine sm_ret ?_
    refine (e_opB (e_lenL (e_lcI (fun l => decide (l ∈ c)) (i_cl (e_var rfl)) (fun l _ => t_test (e_inT (e_var rfl) (e_var rfl))) (fun l _ _ => e_var rfl) he)) e_int).mono ?_
    rintro _ rfl c' e' q
    obtain ⟨q1, q2⟩ := args2 q
    rw [← cl_inj q1, ← cl_inj q2]
    refine congrArg PyData.bool ?_
    rw [List.length_map]
    unfold sat
    rw [Bool.eq_iff_iff, decide_eq_true_iff, List.any_eq_true]
    constructor
    · intro h
      obtain ⟨x, hx⟩ := List.exists_mem_of_length_pos (l := e.filter fun l => decide (l ∈ c)) (by omega)
      exact ⟨x, (List.mem_filter.mp hx).1, (List.mem_filter.mp hx).2⟩
    · rintro ⟨x, h1, h2⟩
      have := List.length_pos_of_mem (a := x) (l := e.filter fun l => decide (l ∈ c)) (List.mem_filter.mpr ⟨h1, h2⟩)
      omega
theorem u_satisfies {W : Wd} {δ : Dn} {tr : TA} {E : XK} {c e : C} (h : AvE W tr δ [cl c, cl e]) (he : e.length ≤ 100000) : EvE W (tCall sp_satisfies [] E tr) δ (.bool (sat c e)) := (e_callR h ⟨c, e, rfl, he⟩).mono fun d k => k c e rfl
/-! ### is_model -/
def pre_is_model : List Pd → Prop := fun ds => ∃ (n : Int) (cs : List C) (c : C), ds = [fm n cs, cl c] ∧ cs.length ≤ 100000 ∧ ∀ e ∈ cs, e.length ≤ 100000
def f_is_model : List Pd → Pd → Prop := fun ds r => ∀ (n : Int) (cs : List C) (c : C), ds = [fm n cs, cl c] → r = .bool (isMod n cs c)
abbrev sp_is_model : Sp := spR pre_is_model f_is_model
abbrev N_is_model : List Str := ["formula", "cube", "clause"]
theorem sc_is_model : FnScope N_is_model ["formula", "cube"] (defScope s_is_model) := ⟨rfl, rfl, rfl, by decide +kernel, rfl, by decide +kernel, by decide +kernel⟩
theorem ok_is_model {P : Program} {w : World} {K : PySem.W.Frag} {mg : Str → Option Value} {base : Heap} (B : Bl mg) (D : DefH K mg "is_model" s_is_model) (c_satisfies : C8.Cal P w K mg base 1 "satisfies" sp_satisfies []) : C8.Cal P w K mg base 2 "is_model" sp_is_model [] := by
  refine cal_of D sc_is_model (fun _ _ _ _ _ _ us hl => match us, hl with | [_, _], _ => rfl) (fun ds h => ?_) fun fa cdv A outer s H E hr => ⟨_, (pss_one (ps_ret (pe_and (pe_cmpR op_eq (pe_callB (r := rLn K) call_len_seq rfl B.len_ (by decide +kernel) (pa_cons (pv 1 rfl (Or.inr (Or.inl rfl))) pa_nil)) (pe_ix (r := rIx K) ix_seq (pv 0 rfl (Or.inl rfl)) pe_int (fun _ _ => rfl)) (nomark _)) (pe_one (pe_callB (r := rAll K) (cr_all rfl) rfl B.all_ (by decide +kernel) (pa_cons (pe_lc (own := [("clause", 2)]) (g := gName 2) (tt := tYes) rfl sc_is_model.nd (pi_tup (pe_ix (r := rIx K) ix_seq (pv 0 rfl (Or.inl rfl)) pe_int (fun _ _ => rfl))) (blkOk_by (N := N_is_model) (sc := defScope s_is_model) (by decide +kernel)) (fun _ _ _ _ _ => pg_name (i := 2) sc_is_model.nd rfl (Or.inl rfl)) (fun _ _ _ _ _ => pts_nil) (fun _ _ _ _ _ => (C8.pe_c c_satisfies hr (by first | decide | omega) rfl (pa_cons (pv 1 rfl (Or.inr (Or.inl rfl))) (pa_cons (pv 2 rfl (Or.inl rfl)) pa_nil))))) pa_nil)))))), fun W ds h => ?_⟩
  · obtain ⟨_, _, _, rfl, _⟩ := h
    rfl
  · obtain ⟨n, cs, c, rfl, hl, he⟩ := h
    refine sm_ret ?_
    refine (e_andV (e_eqI (e_lenT (e_var rfl)) (e_ixT (e_var rfl) e_int rfl)) fun _ => e_all (e_mapCB (fun e => sat c e) (i_cls (e_ixT (e_var rfl) e_int rfl)) (fun e m => u_satisfies (a_cons (e_var rfl) (a_cons (e_var rfl) a_nil)) (he e m)) hl)).mono ?_
    rintro _ rfl n' cs' c' q
    obtain ⟨q1, q2⟩ := args2 q
    obtain ⟨q3, q4⟩ := fm_inj q1
    rw [all_id, ← q3, ← q4, ← cl_inj q2, List.length_map]
    rfl
theorem u_is_model {W : Wd} {δ : Dn} {tr : TA} {E : XK} {n : Int} {cs : List C} {c : C} (h : AvE W tr δ [fm n cs, cl c]) (hl : cs.length ≤ 100000) (he : ∀ e ∈ cs, e.length ≤ 100000) : EvE W (tCall sp_is_model [] E tr) δ (.bool (isMod n cs c)) := (e_callR h ⟨n, cs, c, rfl, hl, he⟩).mono fun d k => k n cs c rfl
/-! ### with_literal -/
def pre_with_literal : List Pd → Prop := fun ds => ∃ (c : C) (l : Int), ds = [cl c, .int l] ∧ c.length < 60
def f_with_literal : List Pd → Pd → Prop := fun ds r => ∀ (c : C) (l : Int), ds = [cl c, .int l] → r = cl (wLit c l)
abbrev sp_with_literal : Sp := spR pre_with_literal f_with_literal
abbrev N_with_literal : List Str := ["cube", "literal"]
theorem sc_with_literal : FnScope N_with_literal ["cube", "literal"] (defScope s_with_literal) := ⟨rfl, rfl, rfl, by decide +kernel, rfl, by decide +kernel, by decide +kernel⟩
theorem ok_with_literal {P : Program} {w : World} {K : PySem.W.Frag} {mg : Str → Option Value} {base : Heap} (B : Bl mg) (D : DefH K mg "with_literal" s_with_literal)  : C8.Cal P w K mg base 1 "with_literal" sp_with_literal [] := by
  refine cal_of D sc_with_literal (fun _ _ _ _ _ _ us hl => match us, hl with | [_, _], _ => rfl) (fun ds h => ?_) fun fa cdv A outer s H E hr => ⟨_, (pss_one (ps_ret (pe_callTy (r := rTp K) call_tuple_of rfl B.tuple_ (by decide +kernel) (pa_cons (pe_callB (r := rSorted K) cr_sorted rfl B.sorted_ (by decide +kernel) (pa_cons (pe_lst (StX.pa_star (pv 0 rfl (Or.inl rfl)) (pa_cons (pv 1 rfl (Or.inl rfl)) pa_nil))) pa_nil)) pa_nil)))), fun W ds h => ?_⟩
  · obtain ⟨_, _, rfl, _⟩ := h
    rfl
  · obtain ⟨c, l, rfl, hl⟩ := h
    refine sm_ret ?_
    have e1 : (c.map PyData.int ++ [.int l]) = (c ++ [l]).map PyData.int := by simp
    refine (e_toT (e_sorted (is := c ++ [l]) ((e_lst (a_star (.inl rfl) (e_var rfl) (a_cons (e_var rfl) a_nil)) (by simp; omega)).is (congrArg PyData.list e1)) (by simp; omega))).mono ?_
    rintro _ rfl c' l' q
    obtain ⟨q1, q2⟩ := args2 q
    rw [← cl_inj q1, ← int_inj q2]
    rfl
theorem u_with_literal {W : Wd} {δ : Dn} {tr : TA} {E : XK} {c : C} {l : Int} (h : AvE W tr δ [cl c, .int l]) (he : c.length < 60) : EvE W (tCall sp_with_literal [] E tr) δ (cl (wLit c l)) := (e_callR h ⟨c, l, rfl, he⟩).mono fun d k => k c l rfl
/-! ### free_variables -/
def pre_free_variables : List Pd → Prop := fun ds => ∃ (n : Int) (cs : List C) (c : C), ds = [fm n cs, cl c] ∧ 0 ≤ n ∧ n ≤ 1000
def f_free_variables : List Pd → Pd → Prop := fun ds r => ∀ (n : Int) (cs : List C) (c : C), ds = [fm n cs, cl c] → r = .list ((freeV n c).map .int)
abbrev sp_free_variables : Sp := spR pre_free_variables f_free_variables
abbrev N_free_variables : List Str := ["formula", "cube", "v"]
theorem sc_free_variables : FnScope N_free_variables ["formula", "cube"] (defScope s_free_variables) := ⟨rfl, rfl, rfl, by decide +kernel, rfl, by decide +kernel, by decide +kernel⟩
theorem ok_free_variables {P : Program} {w : World} {K : PySem.W.Frag} {mg : Str → Option Value} {base : Heap} (B : Bl mg) (D : DefH K mg "free_variables" s_free_variables)  : C8.Cal P w K mg base 1 "free_variables" sp_free_variables [] := by
  refine cal_of D sc_free_variables (fun _ _ _ _ _ _ us hl => match us, hl with | [_, _], _ => rfl) (fun ds h => ?_) fun fa cdv A outer s H E hr => ⟨_, (pss_one (ps_ret (pe_lc (own := [("v", 2)]) (g := gName 2)  rfl sc_free_variables.nd (pi_range2 rfl B.range_ (pa_cons pe_int (pa_cons (pe_op op_add (pe_ix (r := rIx K) ix_seq (pv 0 rfl (Or.inl rfl)) pe_int (fun _ _ => rfl)) pe_int) pa_nil))) (blkOk_by (N := N_free_variables) (sc := defScope s_free_variables) (by decide +kernel)) (fun _ _ _ _ _ => pg_name (i := 2) sc_free_variables.nd rfl (Or.inl rfl)) (fun _ _ _ _ _ => pts_one (PW.pt (pw_and (pt_cmpR (r := rIn K true) op_notIn_seq (pv 2 rfl (Or.inl rfl)) (pv 1 rfl (Or.inr (Or.inl rfl))) rfl) (pw_and1 (pt_cmpR (r := rIn K true) op_notIn_seq (pe_un un_neg (pv 2 rfl (Or.inl rfl))) (pv 1 rfl (Or.inr (Or.inl rfl))) rfl))))) (fun _ _ _ _ _ => (pv 2 rfl (Or.inl rfl)))))), fun W ds h => ?_⟩
  · obtain ⟨_, _, _, rfl, _⟩ := h
    rfl
  · obtain ⟨n, cs, c, rfl, h0, h1⟩ := h
    refine sm_ret ?_
    refine (e_lcI (is := rgV 1 (n + 1 - 1).toNat) (fun v => !decide (v ∈ c) && !decide (-v ∈ c)) (i_rg2 (a_cons e_int (a_cons (e_opI (e_ixT (e_var rfl) e_int rfl) e_int) a_nil)) (by omega) (by omega) (by omega) (by omega)) (fun v _ => t_and (t_test (e_niT (e_var rfl) (e_var rfl))) fun _ => t_test (e_niT (e_neg (e_var rfl)) (e_var rfl))) (fun v _ _ => e_var rfl) (by simp [rgV]; omega)).mono ?_
    rintro _ rfl n' cs' c' q
    obtain ⟨q1, q2⟩ := args2 q
    obtain ⟨q3, q4⟩ := fm_inj q1
    rw [← q3, ← cl_inj q2, show n + 1 - 1 = n by omega]
    rfl
theorem u_free_variables {W : Wd} {δ : Dn} {tr : TA} {E : XK} {n : Int} {cs : List C} {c : C} (h : AvE W tr δ [fm n cs, cl c]) (h0 : 0 ≤ n) (h1 : n ≤ 1000) : EvE W (tCall sp_free_variables [] E tr) δ (.list ((freeV n c).map .int)) := (e_callR h ⟨n, cs, c, rfl, h0, h1⟩).mono fun d k => k n cs c rfl
/-! ### is_earlier -/
def pre_is_earlier : List Pd → Prop := fun ds => ∃ (d : Pd) (k : Int), ds = [d, .int k]
def f_is_earlier : List Pd → Pd → Prop := fun ds r => ∀ (d : Pd) (k : Int), ds = [d, .int k] → r = .bool (isNum d && decide (iOf d < k))
abbrev sp_is_earlier : Sp := spR pre_is_earlier f_is_earlier
abbrev N_is_earlier : List Str := ["value", "k"]
theorem sc_is_earlier : FnScope N_is_earlier ["value", "k"] (defScope s_is_earlier) := ⟨rfl, rfl, rfl, by decide +kernel, rfl, by decide +kernel, by decide +kernel⟩
theorem ok_is_earlier {P : Program} {w : World} {K : PySem.W.Frag} {mg : Str → Option Value} {base : Heap} (B : Bl mg) (D : DefH K mg "is_earlier" s_is_earlier) (c_is_number : C8.Cal P w K mg base 2 "is_number" sp_is_number []) : C8.Cal P w K mg base 3 "is_earlier" sp_is_earlier [] := by
  refine cal_of D sc_is_earlier (fun _ _ _ _ _ _ us hl => match us, hl with | [_, _], _ => rfl) (fun ds h => ?_) fun fa cdv A outer s H E hr => ⟨_, (pss_one (ps_ret (pe_and (C8.pe_c c_is_number hr (by first | decide | omega) rfl (pa_cons (pv 0 rfl (Or.inl rfl)) pa_nil)) (pe_one (pe_cmpR op_lt (pv 0 rfl (Or.inl rfl)) (pv 1 rfl (Or.inl rfl)) (nomark _)))))), fun W ds h => ?_⟩
  · obtain ⟨_, _, rfl⟩ := h
    rfl
  · obtain ⟨d, k, rfl⟩ := h
    refine sm_ret ?_
    refine (e_andV (y := decide (iOf d < k)) (u_is_number (a_cons (e_var rfl) a_nil)) fun hi => ?_).mono ?_
    · cases d with
      | int i => exact e_opB (e_var rfl) (e_var rfl)
      | _ => cases hi
    rintro _ rfl _ _ q
    obtain ⟨q1, q2⟩ := args2 q
    rw [q1, int_inj q2]
theorem u_is_earlier {W : Wd} {δ : Dn} {tr : TA} {E : XK} {x : Pd} {k : Int} (h : AvE W tr δ [x, .int k]) : EvE W (tCall sp_is_earlier [] E tr) δ (.bool (isNum x && decide (iOf x < k))) := (e_callR h ⟨x, k, rfl⟩).mono fun d k => k x _ rfl
end K19
end
section
set_option Elab.async false
set_option linter.all false
set_option maxRecDepth 100000
set_option maxHeartbeats 4000000
namespace K19
open PySem L2
local macro_rules | `(tactic| walk_at "ev1") => `(tactic| first
  | exact e_var rfl | exact e_int | exact e_bl | exact e_non | exact e_str | exact a_nil | exact t_yes
  | refine a_cons ?_ ?_
  | (refine e_un ?_ (u_neg rfl))
  | (refine e_op ?_ ?_ (o_bl rfl)) | (refine e_op ?_ ?_ (o_int rfl))
  | (refine e_op ?_ ?_ (o_eqI rfl)) | (refine e_op ?_ ?_ (o_neI rfl))
  | (refine t_test ?_) | (refine t_B ?_) | (refine t_not ?_) | (refine e_notV ?_)
  | (refine e_cb ?_ (c_abs rfl)) | (refine e_cb ?_ (c_int rfl)))
local macro_rules | `(tactic| walk_at "ev") => `(tactic| repeat' walk_at "ev1")
theorem cutD_1 (c : C) : (PyData.tuple (cutD (c.map .int) (some 1) none)) = cl (c.drop 1) := by
  unfold cutD cl
  have e1 : HT.sIx (c.map PyData.int).length (c.map PyData.int).length none = (c.map PyData.int).length := rfl
  have e2 : HT.sIx (c.map PyData.int).length 0 (some 1) = min 1 (c.map PyData.int).length := by
    unfold HT.sIx
    simp
  rw [e1, e2]
  refine congrArg PyData.tuple ?_
  cases c with
  | nil => rfl
  | cons a c =>
    have e3 : c.length = (c.map PyData.int).length := by simp
    simp
    rw [e3, List.take_length]
/-! ### is_ascending -/
def pre_is_ascending : List Pd → Prop := fun ds => ∃ c : C, ds = [cl c] ∧ c.length ≤ 1000
def f_is_ascending : List Pd → Pd → Prop := fun ds r => ∀ c : C, ds = [cl c] → r = .bool (asc c)
abbrev sp_is_ascending : Sp := spR pre_is_ascending f_is_ascending
abbrev N_is_ascending : List Str := ["items", "first", "second"]
theorem sc_is_ascending : FnScope N_is_ascending ["items"] (defScope s_is_ascending) := ⟨rfl, rfl, rfl, by decide +kernel, rfl, by decide +kernel, by decide +kernel⟩
theorem ok_is_ascending {P : Program} {w : World} {K : PySem.W.Frag} {mg : Str → Option Value} {base : Heap} (B : Bl mg) (D : DefH K mg "is_ascending" s_is_ascending)  : C8.Cal P w K mg base 1 "is_ascending" sp_is_ascending [] := by
  refine cal_of D sc_is_ascending (fun _ _ _ _ _ _ us hl => match us, hl with | [_], _ => rfl) (fun ds h => ?_) fun fa cdv A outer s H E hr => ⟨_, (pss_one (ps_ret (pe_callB (r := rAll K) (cr_all rfl) rfl B.all_ (by decide +kernel) (pa_cons (pe_lc (own := [("first", 1), ("second", 2)]) (g := gTup K 2 (gCons (gName 1) (gCons (gName 2) gNil))) (tt := tYes) rfl sc_is_ascending.nd (RZ.pi_zipA rfl B.zip_ (pa_cons (pv 0 rfl (Or.inl rfl)) (pa_cons (pe_slice (r := rSlA K) sl_tupA (pv 0 rfl (Or.inl rfl)) (po_some pe_int) po_none) pa_nil))) (blkOk_by (N := N_is_ascending) (sc := defScope s_is_ascending) (by decide +kernel)) (fun _ _ _ _ _ => pg_tup rfl (pgs_cons (pg_name (i := 1) sc_is_ascending.nd rfl (Or.inl rfl)) (pgs_cons (pg_name (i := 2) sc_is_ascending.nd rfl (Or.inl rfl)) pgs_nil))) (fun _ _ _ _ _ => pts_nil) (fun _ _ _ _ _ => (pe_cmpR op_lt (pv 1 rfl (Or.inl rfl)) (pv 2 rfl (Or.inl rfl)) (nomark _)))) pa_nil)))), fun W ds h => ?_⟩
  · obtain ⟨_, rfl, _⟩ := h
    rfl
  · obtain ⟨c, rfl, hc⟩ := h
    refine sm_ret ?_
    have ez : AvE W (tCons (tVar 0) (tCons (tSl (rSlA K) (tVar 0) (tPart (tC (.int 1))) tNoPart) tNil)) (args N_is_ascending.length [cl c]) [cl c, cl (c.drop 1)] := a_cons (e_var rfl) (a_cons (e_slT (e_var rfl) (x_some e_int) x_none (cutD_1 c)) a_nil)
    refine (e_all (e_lc2B (fun i => decide (c.getD i 0 < c.getD (i + 1) 0)) (i_zipT ez) (fun i x y hi hx hy => ?_) (by simp; omega))).mono ?_
    · have lt : i + 1 < c.length := by simp at hi; omega
      have e1 : x = .int (c.getD i 0) := by
        rw [List.getElem?_map] at hx
        rw [List.getD_eq_getElem?_getD]
        cases q : c[i]? with
        | none => rw [q] at hx; cases hx
        | some z => rw [q] at hx; cases hx; rfl
      have e2 : y = .int (c.getD (i + 1) 0) := by
        rw [List.getElem?_map, List.getElem?_drop, Nat.add_comm 1 i] at hy
        rw [List.getD_eq_getElem?_getD]
        cases q : c[i + 1]? with
        | none => rw [q] at hy; cases hy
        | some z => rw [q] at hy; cases hy; rfl
      subst e1 e2
      exact e_opB (e_var rfl) (e_var rfl)
    rintro _ rfl c' q
    have q1 : cl c = cl c' := by injection q
    rw [← cl_inj q1, all_id, asc_pairs]
    congr 2
    simp
theorem u_is_ascending {W : Wd} {δ : Dn} {tr : TA} {E : XK} {c : C} (h : AvE W tr δ [cl c]) (he : c.length ≤ 1000) : EvE W (tCall sp_is_ascending [] E tr) δ (.bool (asc c)) := (e_callR h ⟨c, rfl, he⟩).mono fun r_ k => k c rfl
/-! ### is_clause -/
def pre_is_clause : List Pd → Prop := fun ds => ∃ (n : Int) (d : Pd), ds = [.int n, d] ∧ sm d
def f_is_clause : List Pd → Pd → Prop := fun ds r => ∀ (n : Int) (d : Pd), ds = [.int n, d] → r = .bool (isCl n d)
abbrev sp_is_clause : Sp := spR pre_is_clause f_is_clause
abbrev N_is_clause : List Str := ["n", "value", "literal"]
theorem sc_is_clause : FnScope N_is_clause ["n", "value"] (defScope s_is_clause) := ⟨rfl, rfl, rfl, by decide +kernel, rfl, by decide +kernel, by decide +kernel⟩
theorem ok_is_clause {P : Program} {w : World} {K : PySem.W.Frag} {mg : Str → Option Value} {base : Heap} (B : Bl mg) (D : DefH K mg "is_clause" s_is_clause) (c_is_ascending : C8.Cal P w K mg base 1 "is_ascending" sp_is_ascending []) (c_is_integer : C8.Cal P w K mg base 1 "is_integer" sp_is_integer []) : C8.Cal P w K mg base 2 "is_clause" sp_is_clause [] := by
  refine cal_of D sc_is_clause (fun _ _ _ _ _ _ us hl => match us, hl with | [_, _], _ => rfl) (fun ds h => ?_) fun fa cdv A outer s H E hr => ⟨_, (pss_cons (ps_if (PW.pt (pw_or (pt_not (pt_val (pe_callB (r := rIsi K) call_isi rfl B.isinstance_ (by decide +kernel) (pa_cons (pv 1 rfl (Or.inr (Or.inl rfl))) (pa_cons (pe_bltn (v := .ty "tuple") rfl B.tuple_ (by decide +kernel) rfl) pa_nil))))) (pw_or1 (pt_not (pt_val (pe_callB (r := rAll K) (cr_all rfl) rfl B.all_ (by decide +kernel) (pa_cons (pe_lc (own := [("literal", 2)]) (g := gName 2) (tt := tYes) rfl sc_is_clause.nd (pi_tup (pv 1 rfl (Or.inr (Or.inl rfl)))) (blkOk_by (N := N_is_clause) (sc := defScope s_is_clause) (by decide +kernel)) (fun _ _ _ _ _ => pg_name (i := 2) sc_is_clause.nd rfl (Or.inl rfl)) (fun _ _ _ _ _ => pts_nil) (fun _ _ _ _ _ => (C8.pe_c c_is_integer hr (by first | decide | omega) rfl (pa_cons (pv 2 rfl (Or.inl rfl)) pa_nil)))) pa_nil))))))) (pss_one (ps_ret pe_bl)) pss_nil)
    (pss_cons (ps_if (PW.pt (pw_or (pt_not (pt_val (pe_callB (r := rAll K) (cr_all rfl) rfl B.all_ (by decide +kernel) (pa_cons (pe_lc (own := [("literal", 2)]) (g := gName 2) (tt := tYes) rfl sc_is_clause.nd (pi_tup (pv 1 rfl (Or.inr (Or.inl rfl)))) (blkOk_by (N := N_is_clause) (sc := defScope s_is_clause) (by decide +kernel)) (fun _ _ _ _ _ => pg_name (i := 2) sc_is_clause.nd rfl (Or.inl rfl)) (fun _ _ _ _ _ => pts_nil) (fun _ _ _ _ _ => (pe_chain op_lt op_le pe_int (pe_callB call_abs rfl B.abs_ (by decide +kernel) (pa_cons (pv 2 rfl (Or.inl rfl)) pa_nil)) (pv 0 rfl (Or.inr (Or.inl rfl)))))) pa_nil)))) (pw_or1 (pt_not (pt_val (C8.pe_c c_is_ascending hr (by first | decide | omega) rfl (pa_cons (pv 1 rfl (Or.inr (Or.inl rfl))) pa_nil))))))) (pss_one (ps_ret pe_bl)) pss_nil)
    (pss_one (ps_ret (pe_callB (r := rAll K) (cr_all rfl) rfl B.all_ (by decide +kernel) (pa_cons (pe_lc (own := [("literal", 2)]) (g := gName 2) (tt := tYes) rfl sc_is_clause.nd (pi_tup (pv 1 rfl (Or.inr (Or.inl rfl)))) (blkOk_by (N := N_is_clause) (sc := defScope s_is_clause) (by decide +kernel)) (fun _ _ _ _ _ => pg_name (i := 2) sc_is_clause.nd rfl (Or.inl rfl)) (fun _ _ _ _ _ => pts_nil) (fun _ _ _ _ _ => (pe_cmpR (r := rIn K true) op_notIn_seq (pe_un un_neg (pv 2 rfl (Or.inl rfl))) (pv 1 rfl (Or.inr (Or.inl rfl))) rfl))) pa_nil)))))), fun W ds h => ?_⟩
  · obtain ⟨_, _, rfl, _⟩ := h
    rfl
  · obtain ⟨n, d, rfl, hd⟩ := h
    suffices hh : Sm W _ (args N_is_clause.length [.int n, d]) (fun _ => False) (fun r => r = .bool (isCl n d)) from sm_mono hh (by
      rintro _ rfl n' d' q
      obtain ⟨q1, q2⟩ := args2 q
      rw [← int_inj q1, ← q2])
    cases ht : isT "tuple" d with
    | false =>
      have e0 : isCl n d = false := by cases d <;> first | rfl | simp [isT, tyN] at ht
      rw [e0]
      exact q_if (b := true) (t_or (x := true) (y := false) (t_not ((t_test (e_isi (e_var rfl))).is ht)) (fun e => nomatch e)) (fun _ => sm_ret e_bl) (fun e => nomatch e)
    | true =>
      obtain ⟨ds, rfl⟩ : ∃ ds, d = .tuple ds := by cases d <;> first | exact ⟨_, rfl⟩ | simp [isT, tyN] at ht
      have hl : ds.length ≤ 60 := hd ds rfl
      refine q_if (b := false || !(asI ds).isSome) (t_or (t_not ((t_test (e_isi (e_var rfl))).is ht)) fun _ => (t_not (t_test (e_all (e_mapDB isInt (i_tup (e_var rfl)) (fun x m => u_is_integer (a_cons (e_var rfl) a_nil)) (by omega))))).is (by rw [all_id, asI_all])) (fun e => ?_) fun e => ?_
      · cases q : asI ds with
        | some c => rw [q] at e; cases e
        | none =>
          have e0 : isCl n (.tuple ds) = false := by
            show ((asI ds).filter (goodC n)).isSome = false
            rw [q]
            rfl
          rw [e0]
          exact sm_ret e_bl
      · cases q : asI ds with
        | none => rw [q] at e; cases e
        | some c =>
          have e1 := asI_some q
          subst e1
          have hl' : c.length ≤ 60 := by rw [List.length_map] at hl; exact hl
          have e2 : isCl n (.tuple (c.map .int)) = goodC n c := by
            show (clOf n (cl c)).isSome = _
            rw [clOf_cl]
            cases goodC n c <;> rfl
          rw [e2]
          refine q_if (t_or (t_not (t_test (e_all (e_mapIB (inR n) (i_cl (e_var rfl)) (fun l _ => e_chain e_int (e_abs (e_var rfl)) (o_bl rfl) fun _ => (e_var rfl).mono fun z ez => by subst ez; exact o_bl rfl) (by omega))))) fun _ => t_not (t_test (u_is_ascending (a_cons (e_var rfl) a_nil) (by omega)))) (fun e => ?_) fun e => ?_
          · have e3 : goodC n c = false := by
              rw [all_id] at e
              unfold goodC
              cases h1 : c.all (inR n) <;> cases h2 : asc c <;> first | rfl | (rw [h1, h2] at e; cases e)
            rw [e3]
            exact sm_ret e_bl
          · refine sm_ret ((e_all (e_mapIB (fun l => !decide (-l ∈ c)) (i_cl (e_var rfl)) (fun l _ => e_niT (e_neg (e_var rfl)) (e_var rfl)) (by omega))).mono ?_)
            rintro _ rfl
            rw [all_id]
            rw [all_id] at e
            unfold goodC
            cases h1 : c.all (inR n) <;> cases h2 : asc c <;> first | rfl | (rw [h1, h2] at e; cases e)
theorem u_is_clause {W : Wd} {δ : Dn} {tr : TA} {E : XK} {n : Int} {d : Pd} (h : AvE W tr δ [.int n, d]) (hd : sm d) : EvE W (tCall sp_is_clause [] E tr) δ (.bool (isCl n d)) := (e_callR h ⟨n, d, rfl, hd⟩).mono fun r_ k => k n d rfl
theorem fstF_at {cs : List C} {c e : C} {i : Nat} (h : cs[i]? = some e) (hf : fals c e = true) (hb : ∀ j e', j < i → cs[j]? = some e' → fals c e' = false) : fstF cs c = (i : Int) := by
  have q : cs.findIdx? (fun e => fals c e) = some i := by
    rw [List.findIdx?_eq_some_iff_getElem]
    obtain ⟨lt, rfl⟩ := List.getElem?_eq_some_iff.mp h
    exact ⟨lt, hf, fun j hj => by rw [hb j _ hj (List.getElem?_eq_getElem (by omega))]; decide⟩
  unfold fstF
  rw [q]
theorem fstF_none {cs : List C} {c : C} (hb : ∀ j e', j < cs.length → cs[j]? = some e' → fals c e' = false) : fstF cs c = -1 := by
  have q : cs.findIdx? (fun e => fals c e) = none := by
    rw [List.findIdx?_eq_none_iff]
    intro e he
    obtain ⟨j, lt, rfl⟩ := List.mem_iff_getElem.mp he
    exact hb j _ lt (List.getElem?_eq_getElem lt)
  unfold fstF
  rw [q]
/-! ### falsified -/
def pre_falsified : List Pd → Prop := fun ds => ∃ (n : Int) (cs : List C) (c : C), ds = [fm n cs, cl c] ∧ ∀ e ∈ cs, e.length ≤ 100000
def f_falsified : List Pd → Pd → Prop := fun ds r => ∀ (n : Int) (cs : List C) (c : C), ds = [fm n cs, cl c] → r = .int (fstF cs c)
abbrev sp_falsified : Sp := spR pre_falsified f_falsified
abbrev N_falsified : List Str := ["formula", "cube", "k", "clause"]
theorem sc_falsified : FnScope N_falsified ["formula", "cube"] (defScope s_falsified) := ⟨rfl, rfl, rfl, by decide +kernel, rfl, by decide +kernel, by decide +kernel⟩
theorem ok_falsified {P : Program} {w : World} {K : PySem.W.Frag} {mg : Str → Option Value} {base : Heap} (B : Bl mg) (D : DefH K mg "falsified" s_falsified) (c_falsifies : C8.Cal P w K mg base 1 "falsifies" sp_falsifies []) : C8.Cal P w K mg base 2 "falsified" sp_falsified [] := by
  refine cal_of D sc_falsified (fun _ _ _ _ _ _ us hl => match us, hl with | [_, _], _ => rfl) (fun ds h => ?_) fun fa cdv A outer s H E hr => ⟨_, (pss_cons (ps_for PassesOwn.never rfl (pi_enumT rfl B.enumerate_ (pa_cons (pe_ix (r := rIx K) ix_seq (pv 0 rfl (Or.inl rfl)) pe_int (fun _ _ => rfl)) pa_nil)) (pg_tup rfl (pgs_cons (pg_name (i := 2) sc_falsified.nd rfl (Or.inl rfl)) (pgs_cons (pg_name (i := 3) sc_falsified.nd rfl (Or.inl rfl)) pgs_nil))) (pss_one (ps_if (pt_val (C8.pe_c c_falsifies hr (by first | decide | omega) rfl (pa_cons (pv 1 rfl (Or.inl rfl)) (pa_cons (pv 3 rfl (Or.inl rfl)) pa_nil)))) (pss_one (ps_ret (pv 2 rfl (Or.inl rfl)))) pss_nil)))
    (pss_one (ps_ret (pe_un un_neg pe_int)))), fun W ds h => ?_⟩
  · obtain ⟨_, _, _, rfl, _⟩ := h
    rfl
  · obtain ⟨n, cs, c, rfl, he⟩ := h
    suffices hh : Sm W _ (args N_falsified.length [fm n cs, cl c]) (fun _ => False) (fun r => r = .int (fstF cs c)) from sm_mono hh (by
      rintro _ rfl n' cs' c' q
      obtain ⟨q1, q2⟩ := args2 q
      obtain ⟨q3, q4⟩ := fm_inj q1
      rw [q4, cl_inj q2])
    refine sm_seq (Mid := fun δ' => (∃ a b : Kn, δ' = [.d (fm n cs), .d (cl c), a, b]) ∧ ∀ j e', j < cs.length → cs[j]? = some e' → fals c e' = false) (sm_for2 (i_enumT (ds := cls cs) (e_ixT (e_var rfl) e_int rfl)) (fun i δ' => (∃ a b : Kn, δ' = [.d (fm n cs), .d (cl c), a, b]) ∧ ∀ j e', j < i → cs[j]? = some e' → fals c e' = false) ⟨⟨_, _, rfl⟩, fun j e' hj => by omega⟩ ?_ ?_) ?_
    · rintro i x y δ' hi hx hy ⟨⟨a, b, rfl⟩, hb⟩
      cases hx
      rw [cls_len] at hi
      have hy' : (cls cs)[i]? = some y := hy
      rw [cls_get (List.getElem?_eq_getElem hi)] at hy'
      cases hy'
      refine sm_if (t_test (u_falsifies (a_cons (e_var rfl) (a_cons (e_var rfl) a_nil)) (he _ (List.getElem_mem hi)))) (fun hf => ?_) fun hf => ?_
      · refine sm_ret ((e_var rfl).mono ?_)
        rintro _ rfl
        rw [fstF_at (List.getElem?_eq_getElem hi) hf hb]
      · refine sm_next ⟨⟨_, _, rfl⟩, fun j e' hj q => ?_⟩
        by_cases hji : j = i
        · subst hji
          rw [List.getElem?_eq_getElem hi] at q
          cases q
          exact hf
        · exact hb j e' (by omega) q
    · rintro δ' ⟨h1, h2⟩
      rw [cls_len] at h2
      exact ⟨h1, h2⟩
    · rintro δ' ⟨⟨a, b, rfl⟩, hb⟩
      refine sm_ret ((e_neg e_int).mono ?_)
      rintro _ rfl
      rw [fstF_none hb]
theorem u_falsified {W : Wd} {δ : Dn} {tr : TA} {E : XK} {n : Int} {cs : List C} {c : C} (h : AvE W tr δ [fm n cs, cl c]) (he : ∀ e ∈ cs, e.length ≤ 100000) : EvE W (tCall sp_falsified [] E tr) δ (.int (fstF cs c)) := (e_callR h ⟨n, cs, c, rfl, he⟩).mono fun r_ k => k n cs c rfl
/-! ### made_clause -/
def pre_made_clause : List Pd → Prop := fun ds => ∃ xs : C, ds = [.list (xs.map .int)] ∧ xs.length < 60
def f_made_clause : List Pd → Pd → Prop := fun ds r => ∀ xs : C, ds = [.list (xs.map .int)] → r = oC (mkC xs)
abbrev sp_made_clause : Sp := spR pre_made_clause f_made_clause
abbrev N_made_clause : List Str := ["literals", "literal"]
theorem sc_made_clause : FnScope N_made_clause ["literals"] (defScope s_made_clause) := ⟨rfl, rfl, rfl, by decide +kernel, rfl, by decide +kernel, by decide +kernel⟩
theorem ok_made_clause {P : Program} {w : World} {K : PySem.W.Frag} {mg : Str → Option Value} {base : Heap} (B : Bl mg) (D : DefH K mg "made_clause" s_made_clause)  : C8.Cal P w K mg base 1 "made_clause" sp_made_clause [] := by
  refine cal_of D sc_made_clause (fun _ _ _ _ _ _ us hl => match us, hl with | [_], _ => rfl) (fun ds h => ?_) fun fa cdv A outer s H E hr => ⟨_, (pss_cons (ps_if (pt_truth (pe_lc (own := [("literal", 1)]) (g := gName 1)  rfl sc_made_clause.nd (pi_list (pv 0 rfl (Or.inr (Or.inl rfl)))) (blkOk_by (N := N_made_clause) (sc := defScope s_made_clause) (by decide +kernel)) (fun _ _ _ _ _ => pg_name (i := 1) sc_made_clause.nd rfl (Or.inl rfl)) (fun _ _ _ _ _ => pts_one (pt_cmpR (r := rIn K false) op_in_seq (pe_un un_neg (pv 1 rfl (Or.inl rfl))) (pv 0 rfl (Or.inr (Or.inl rfl))) rfl)) (fun _ _ _ _ _ => (pv 1 rfl (Or.inl rfl)))) (by intro _; rfl)) (pss_one (ps_ret pe_non)) pss_nil)
    (pss_one (ps_ret (pe_callTy (r := rTp K) call_tuple_of rfl B.tuple_ (by decide +kernel) (pa_cons (pe_callB (r := rSortedSet w) (cr_sortedSet rfl) rfl B.sorted_ (by decide +kernel) (pa_cons (pe_callTy (r := rSetI K w) (cr_setI rfl) rfl B.set_ (by decide +kernel) (pa_cons (pv 0 rfl (Or.inr (Or.inl rfl))) pa_nil)) pa_nil)) pa_nil))))), fun W ds h => ?_⟩
  · obtain ⟨_, rfl, _⟩ := h
    rfl
  · obtain ⟨c, rfl, hc⟩ := h
    suffices hh : Sm W _ (args N_made_clause.length [.list (c.map .int)]) (fun _ => False) (fun r => r = oC (mkC c)) from sm_mono hh (by
      rintro _ rfl c' q
      have q1 : cl c = cl c' := by
        injection q with q
        injection q with q
        exact congrArg PyData.tuple q
      rw [cl_inj q1])
    refine q_if (t_tru (.inl ⟨_, rfl⟩) (e_lcI (fun l => decide (-l ∈ c)) (i_ints (e_var rfl)) (fun l _ => t_test (e_inL (e_neg (e_var rfl)) (e_var rfl))) (fun l _ _ => e_var rfl) (by omega))) (fun e => ?_) fun e => ?_
    · have e1 : c.any (fun l => decide (-l ∈ c)) = true := by
        cases q : c.filter (fun l => decide (-l ∈ c)) with
        | nil => rw [q] at e; cases e
        | cons x r =>
          have m : x ∈ c.filter (fun l => decide (-l ∈ c)) := by rw [q]; exact List.mem_cons_self ..
          exact List.any_eq_true.mpr ⟨x, (List.mem_filter.mp m).1, (List.mem_filter.mp m).2⟩
      refine sm_ret (e_non.mono ?_)
      rintro _ rfl
      unfold mkC
      rw [if_pos e1]
      rfl
    · have e1 : ¬ c.any (fun l => decide (-l ∈ c)) = true := fun z => by
        obtain ⟨x, m1, m2⟩ := List.any_eq_true.mp z
        have m : x ∈ c.filter (fun l => decide (-l ∈ c)) := List.mem_filter.mpr ⟨m1, m2⟩
        cases q : c.filter (fun l => decide (-l ∈ c)) with
        | nil => rw [q] at m; cases m
        | cons x r => rw [q] at e; cases e
      refine sm_ret ((e_toT (e_sortI (e_var rfl) hc)).mono ?_)
      rintro _ rfl
      unfold mkC
      rw [if_neg e1]
      rfl
theorem u_made_clause {W : Wd} {δ : Dn} {tr : TA} {E : XK} {xs : C} (h : AvE W tr δ [.list (xs.map .int)]) (he : xs.length < 60) : EvE W (tCall sp_made_clause [] E tr) δ (oC (mkC xs)) := (e_callR h ⟨xs, rfl, he⟩).mono fun r_ k => k xs rfl
/-! ### resolvent -/
def pre_resolvent : List Pd → Prop := fun ds => ∃ (a b : C) (v : Int), ds = [cl a, cl b, .int v] ∧ a.length < 30 ∧ b.length < 30
def f_resolvent : List Pd → Pd → Prop := fun ds r => ∀ (a b : C) (v : Int), ds = [cl a, cl b, .int v] → r = oC (resC a b v)
abbrev sp_resolvent : Sp := spR pre_resolvent f_resolvent
abbrev N_resolvent : List Str := ["first", "second", "v", "a", "b"]
theorem sc_resolvent : FnScope N_resolvent ["first", "second", "v"] (defScope s_resolvent) := ⟨rfl, rfl, rfl, by decide +kernel, rfl, by decide +kernel, by decide +kernel⟩
theorem ok_resolvent {P : Program} {w : World} {K : PySem.W.Frag} {mg : Str → Option Value} {base : Heap} (B : Bl mg) (D : DefH K mg "resolvent" s_resolvent) (c_made_clause : C8.Cal P w K mg base 1 "made_clause" sp_made_clause []) : C8.Cal P w K mg base 2 "resolvent" sp_resolvent [] := by
  refine cal_of D sc_resolvent (fun _ _ _ _ _ _ us hl => match us, hl with | [_, _, _], _ => rfl) (fun ds h => ?_) fun fa cdv A outer s H E hr => ⟨_, (pss_cons (ps_if (PW.pt (pw_or (pt_cmpR (r := rIn K true) op_notIn_seq (pv 2 rfl (Or.inr (Or.inl rfl))) (pv 0 rfl (Or.inl rfl)) rfl) (pw_or1 (pt_cmpR (r := rIn K true) op_notIn_seq (pe_un un_neg (pv 2 rfl (Or.inr (Or.inl rfl)))) (pv 1 rfl (Or.inl rfl)) rfl)))) (pss_one (ps_ret pe_non)) pss_nil)
    (pss_one (ps_ret (C8.pe_c c_made_clause hr (by first | decide | omega) rfl (pa_cons (pe_op op_cat (pe_lc (own := [("a", 3)]) (g := gName 3)  rfl sc_resolvent.nd (pi_tup (pv 0 rfl (Or.inl rfl))) (blkOk_by (N := N_resolvent) (sc := defScope s_resolvent) (by decide +kernel)) (fun _ _ _ _ _ => pg_name (i := 3) sc_resolvent.nd rfl (Or.inl rfl)) (fun _ _ _ _ _ => pts_one (pt_cmpR op_ne (pv 3 rfl (Or.inl rfl)) (pv 2 rfl (Or.inr (Or.inl rfl))) (nomark _))) (fun _ _ _ _ _ => (pv 3 rfl (Or.inl rfl)))) (pe_lc (own := [("b", 4)]) (g := gName 4)  rfl sc_resolvent.nd (pi_tup (pv 1 rfl (Or.inl rfl))) (blkOk_by (N := N_resolvent) (sc := defScope s_resolvent) (by decide +kernel)) (fun _ _ _ _ _ => pg_name (i := 4) sc_resolvent.nd rfl (Or.inl rfl)) (fun _ _ _ _ _ => pts_one (pt_cmpR op_ne (pv 4 rfl (Or.inl rfl)) (pe_un un_neg (pv 2 rfl (Or.inr (Or.inl rfl)))) (nomark _))) (fun _ _ _ _ _ => (pv 4 rfl (Or.inl rfl))))) pa_nil))))), fun W ds h => ?_⟩
  · obtain ⟨_, _, _, rfl, _⟩ := h
    rfl
  · obtain ⟨a, b, v, rfl, ha, hb⟩ := h
    suffices hh : Sm W _ (args N_resolvent.length [cl a, cl b, .int v]) (fun _ => False) (fun r => r = oC (resC a b v)) from sm_mono hh (by
      rintro _ rfl a' b' v' q
      obtain ⟨q1, q2, q3⟩ := args3 q
      rw [cl_inj q1, cl_inj q2, int_inj q3])
    refine q_if (t_or (t_test (e_niT (e_var rfl) (e_var rfl))) fun _ => t_test (e_niT (e_neg (e_var rfl)) (e_var rfl))) (fun e => ?_) fun e => ?_
    · refine sm_ret (e_non.mono ?_)
      rintro _ rfl
      unfold resC
      rw [if_neg]
      · rfl
      · rintro ⟨h1, h2⟩
        rw [decide_eq_true h1, decide_eq_true h2] at e
        cases e
    · have f1 := List.length_filter_le (fun l => !decide (l = v)) a
      have f2 := List.length_filter_le (fun l => !decide (l = -v)) b
      have e1 : v ∈ a ∧ -v ∈ b := by
        simp at e
        exact e
      refine sm_ret ((u_made_clause (xs := a.filter (fun l => !decide (l = v)) ++ b.filter fun l => !decide (l = -v)) (a_cons ((e_cat (e_lcI (fun l => !decide (l = v)) (i_cl (e_var rfl)) (fun l _ => t_test (e_neI (e_var rfl) (e_var rfl))) (fun l _ _ => e_var rfl) (by omega)) (e_lcI (fun l => !decide (l = -v)) (i_cl (e_var rfl)) (fun l _ => t_test (e_neI (e_var rfl) (e_neg (e_var rfl)))) (fun l _ _ => e_var rfl) (by omega)) (by simp only [List.length_map]; omega)).is (by rw [List.map_append])) a_nil) (by rw [List.length_append]; omega)).mono ?_)
      rintro _ rfl
      unfold resC
      rw [if_pos e1]
theorem u_resolvent {W : Wd} {δ : Dn} {tr : TA} {E : XK} {a b : C} {v : Int} (h : AvE W tr δ [cl a, cl b, .int v]) (ha : a.length < 30) (hb : b.length < 30) : EvE W (tCall sp_resolvent [] E tr) δ (oC (resC a b v)) := (e_callR h ⟨a, b, v, rfl, ha, hb⟩).mono fun r_ k => k a b v rfl
end K19
end
section
set_option Elab.async false
set_option linter.all false
set_option maxRecDepth 100000
set_option maxHeartbeats 4000000
namespace K19
open PySem L2
local macro_rules | `(tactic| walk_at "ev1") => `(tactic| first
  | exact e_var rfl | exact e_int | exact e_bl | exact e_non | exact e_str | exact a_nil | exact t_yes
  | refine a_cons ?_ ?_
  | (refine e_un ?_ (u_neg rfl))
  | (refine e_op ?_ ?_ (o_bl rfl)) | (refine e_op ?_ ?_ (o_int rfl))
  | (refine e_op ?_ ?_ (o_eqI rfl)) | (refine e_op ?_ ?_ (o_neI rfl))
  | (refine t_test ?_) | (refine t_B ?_) | (refine t_not ?_) | (refine e_notV ?_)
  | (refine e_cb ?_ (c_abs rfl)) | (refine e_cb ?_ (c_int rfl)))
local macro_rules | `(tactic| walk_at "ev") => `(tactic| repeat' walk_at "ev1")
theorem num_of {x : Pd} (h : isNum x = true) : ∃ i, x = .int i ∧ 0 ≤ i := by
  cases x with
  | int i => exact ⟨i, rfl, of_decide_eq_true h⟩
  | _ => cases h
def earl (x : Pd) (k : Int) : Bool := isNum x && decide (iOf x < k)
theorem earl_of {x : Pd} {k : Int} (h : earl x k = true) : ∃ i, x = .int i ∧ 0 ≤ i ∧ i < k := by
  unfold earl at h
  rw [Bool.and_eq_true] at h
  obtain ⟨i, rfl, h0⟩ := num_of h.1
  exact ⟨i, rfl, h0, of_decide_eq_true h.2⟩
theorem earl_no {i k : Int} (h : earl (.int i) k = false) : ¬ (0 ≤ i ∧ i < k) := fun z => by
  have : earl (.int i) k = true := by
    show (decide (0 ≤ i) && decide (i < k)) = true
    rw [decide_eq_true z.1, decide_eq_true z.2]
    rfl
  rw [this] at h
  cases h
theorem axC_ne {cs : List C} {ds : List Pd} (h : ds.length ≠ 2) : axC cs ds = none := by
  unfold axC
  split
  · simp at h
  · rfl
theorem axC_no {cs : List C} {t x : Pd} (h : ∀ i, x = .int i → getI cs i = none) : axC cs [t, x] = none := by
  cases x with
  | int i => exact h i rfl
  | _ => rfl
theorem resP_ne {n : Int} {ks : List C} {ds : List Pd} (h : ds.length ≠ 4) : resP n ks ds = none := by
  unfold resP
  split
  · simp at h
  · rfl
theorem resP_no {n : Int} {ks : List C} {t x y z : Pd} (h : ∀ a b v, x = .int a → y = .int b → z = .int v → getI ks a = none ∨ getI ks b = none ∨ ¬ (0 < v ∧ v ≤ n)) : resP n ks [t, x, y, z] = none := by
  cases x with
  | int a => cases y with
    | int b => cases z with
      | int v =>
        show (if 0 < v ∧ v ≤ n then (getI ks a).bind fun c => (getI ks b).bind fun e => resC c e v else none) = none
        rcases h a b v rfl rfl rfl with h | h | h
        · rw [h]
          split <;> rfl
        · rw [h]
          cases getI ks a <;> (split <;> rfl)
        · rw [if_neg h]
      | _ => rfl
    | _ => rfl
  | _ => rfl
theorem weakP_ne {n : Int} {ks : List C} {ds : List Pd} (h : ds.length ≠ 3) : weakP n ks ds = none := by
  unfold weakP
  split
  · simp at h
  · rfl
theorem weakP_no {n : Int} {ks : List C} {t x d : Pd} (h : ∀ a, x = .int a → getI ks a = none ∨ clOf n d = none) : weakP n ks [t, x, d] = none := by
  cases x with
  | int a =>
    show ((getI ks a).bind fun c => (clOf n d).bind fun e => if c.all (fun l => decide (l ∈ e)) then some e else none) = none
    rcases h a rfl with h | h
    · rw [h]
      rfl
    · rw [h]
      cases getI ks a <;> rfl
  | _ => rfl
theorem len2 {ds : List Pd} (h : ds.length = 2) : ∃ a b, ds = [a, b] := match ds, h with
  | [a, b], _ => ⟨a, b, rfl⟩
theorem len3 {ds : List Pd} (h : ds.length = 3) : ∃ a b c, ds = [a, b, c] := match ds, h with
  | [a, b, c], _ => ⟨a, b, c, rfl⟩
theorem len4 {ds : List Pd} (h : ds.length = 4) : ∃ a b c d, ds = [a, b, c, d] := match ds, h with
  | [a, b, c, d], _ => ⟨a, b, c, d, rfl⟩
theorem u_earl {W : Wd} {δ : Dn} {tr : TA} {E : XK} {x : Pd} {k : Int} (h : AvE W tr δ [x, .int k]) : EvE W (tCall sp_is_earlier [] E tr) δ (.bool (earl x k)) := u_is_earlier h
theorem tup_inj {a b : List Pd} (h : (PyData.tuple a) = .tuple b) : a = b := by injection h
theorem list_inj {a b : List Pd} (h : (PyData.list a) = .list b) : a = b := by injection h
/-- the first of an or tells -/
theorem q_or1 {W : Wd} {δ : Dn} {t u : TT} {s v : TS} {Nx : Dn → Prop} {P : Pd → Prop} (h : TvE W t δ true) (k : Sm W s δ (fun _ => False) P) : Sm W (tSeq (tIfS (tOr t u) s tNext) v) δ Nx P :=
  q_if (b := true) (t_or (x := true) (y := false) h (fun e => nomatch e)) (fun _ => k) (fun e => nomatch e)
theorem s_none {W : Wd} {δ : Dn} {Nx : Dn → Prop} {d : Pd} (h : d = .none) : Sm W (tRet (tC .non)) δ Nx (fun r => r = d) := by
  subst h
  exact sm_ret e_non
/-! ### axiom_clause -/
def pre_axiom_clause : List Pd → Prop := fun ds => ∃ (n : Int) (cs : List C) (es : List Pd), ds = [fm n cs, .tuple es]
def f_axiom_clause : List Pd → Pd → Prop := fun ds r => ∀ (n : Int) (cs : List C) (es : List Pd), ds = [fm n cs, .tuple es] → r = oC (axC cs es)
abbrev sp_axiom_clause : Sp := spR pre_axiom_clause f_axiom_clause
abbrev N_axiom_clause : List Str := ["formula", "step"]
theorem sc_axiom_clause : FnScope N_axiom_clause ["formula", "step"] (defScope s_axiom_clause) := ⟨rfl, rfl, rfl, by decide +kernel, rfl, by decide +kernel, by decide +kernel⟩
theorem ok_axiom_clause {P : Program} {w : World} {K : PySem.W.Frag} {mg : Str → Option Value} {base : Heap} (B : Bl mg) (D : DefH K mg "axiom_clause" s_axiom_clause) (c_is_number : C8.Cal P w K mg base 2 "is_number" sp_is_number []) : C8.Cal P w K mg base 3 "axiom_clause" sp_axiom_clause [] := by
  refine cal_of D sc_axiom_clause (fun _ _ _ _ _ _ us hl => match us, hl with | [_, _], _ => rfl) (fun ds h => ?_) fun fa cdv A outer s H E hr => ⟨_, (pss_cons (ps_if (PW.pt (pw_or (pt_cmpR op_ne (pe_callB (r := rLn K) call_len_seq rfl B.len_ (by decide +kernel) (pa_cons (pv 1 rfl (Or.inl rfl)) pa_nil)) pe_int (nomark _)) (pw_or (pt_not (pt_val (C8.pe_c c_is_number hr (by first | decide | omega) rfl (pa_cons (pe_ix (r := rIx K) ix_seq (pv 1 rfl (Or.inl rfl)) pe_int (fun _ _ => rfl)) pa_nil)))) (pw_or1 (pt_cmpR op_ge (pe_ix (r := rIx K) ix_seq (pv 1 rfl (Or.inl rfl)) pe_int (fun _ _ => rfl)) (pe_callB (r := rLn K) call_len_seq rfl B.len_ (by decide +kernel) (pa_cons (pe_ix (r := rIx K) ix_seq (pv 0 rfl (Or.inl rfl)) pe_int (fun _ _ => rfl)) pa_nil)) (nomark _)))))) (pss_one (ps_ret pe_non)) pss_nil)
    (pss_one (ps_ret (pe_ix (r := rIx K) ix_seq (pe_ix (r := rIx K) ix_seq (pv 0 rfl (Or.inl rfl)) pe_int (fun _ _ => rfl)) (pe_ix (r := rIx K) ix_seq (pv 1 rfl (Or.inl rfl)) pe_int (fun _ _ => rfl)) (fun _ _ => rfl))))), fun W ds h => ?_⟩
  · obtain ⟨_, _, _, rfl⟩ := h
    rfl
  · obtain ⟨n, cs, ds, rfl⟩ := h
    suffices hh : Sm W _ (args N_axiom_clause.length [fm n cs, .tuple ds]) (fun _ => False) (fun r => r = oC (axC cs ds)) from sm_mono hh (by
      rintro _ rfl n' cs' ds' q
      obtain ⟨q1, q2⟩ := args2 q
      obtain ⟨q3, q4⟩ := fm_inj q1
      rw [q4, tup_inj q2])
    by_cases hl : ds.length = 2
    · obtain ⟨t, x, rfl⟩ := len2 hl
      refine q_if (b := false || (!isNum x || decide (iOf x ≥ (cs.length : Int)))) (t_or ((t_test (e_neI (e_lenT (e_var rfl)) e_int)).is rfl) fun _ => t_or (t_not (t_test (u_is_number (a_cons (e_ixT (e_var rfl) e_int rfl) a_nil)))) fun e => ?_) (fun e => ?_) fun e => ?_
      · obtain ⟨i, rfl, h0⟩ := num_of (x := x) (by simpa using e)
        refine (t_test (e_opB (e_ixT (e_var rfl) e_int rfl) (e_lenT (e_ixT (e_var rfl) e_int rfl)))).is ?_
        rw [cls_len]
        rfl
      · refine s_none ?_
        rw [axC_no]
        · rfl
        · rintro i rfl
          refine getI_none fun z => ?_
          have e1 : isNum (.int i) = true := decide_eq_true z.1
          have e2 : decide (iOf (.int i) ≥ (cs.length : Int)) = false := decide_eq_false (by show ¬ (i ≥ _); omega)
          rw [e1, e2] at e
          cases e
      · obtain ⟨i, rfl, h0⟩ := num_of (x := x) (by cases q : isNum x with
          | true => rfl
          | false => rw [q] at e; cases e)
        have h1 : i < (cs.length : Int) := by
          cases q : decide (iOf (.int i) ≥ (cs.length : Int)) with
          | true => rw [q] at e; simp at e
          | false =>
            have := of_decide_eq_false q
            have h2 : ¬ (i ≥ (cs.length : Int)) := this
            omega
        obtain ⟨c, g1, g2, g3⟩ := getI_some (cs := cs) ⟨h0, h1⟩
        refine sm_ret ((e_ixT (e_ixT (e_var rfl) e_int rfl) (e_ixT (e_var rfl) e_int rfl) (cls_get g2)).mono ?_)
        rintro _ rfl
        show cl c = oC (getI cs i)
        rw [g1]
        rfl
    · refine q_or1 ((t_test (e_neI (e_lenT (e_var rfl)) e_int)).is (by simp; omega)) (s_none ?_)
      rw [axC_ne hl]
      rfl
theorem u_axiom_clause {W : Wd} {δ : Dn} {tr : TA} {E : XK} {n : Int} {cs : List C} {es : List Pd} (h : AvE W tr δ [fm n cs, .tuple es]) : EvE W (tCall sp_axiom_clause [] E tr) δ (oC (axC cs es)) := (e_callR h ⟨n, cs, es, rfl⟩).mono fun r_ k => k n cs es rfl
/-! ### resolved_clause -/
def pre_resolved_clause : List Pd → Prop := fun ds => ∃ (n : Int) (cs ks : List C) (es : List Pd), ds = [fm n cs, .list (cls ks), .tuple es] ∧ ∀ c ∈ ks, c.length < 30
def f_resolved_clause : List Pd → Pd → Prop := fun ds r => ∀ (n : Int) (cs ks : List C) (es : List Pd), ds = [fm n cs, .list (cls ks), .tuple es] → r = oC (resP n ks es)
abbrev sp_resolved_clause : Sp := spR pre_resolved_clause f_resolved_clause
abbrev N_resolved_clause : List Str := ["formula", "clauses", "step"]
theorem sc_resolved_clause : FnScope N_resolved_clause ["formula", "clauses", "step"] (defScope s_resolved_clause) := ⟨rfl, rfl, rfl, by decide +kernel, rfl, by decide +kernel, by decide +kernel⟩
theorem ok_resolved_clause {P : Program} {w : World} {K : PySem.W.Frag} {mg : Str → Option Value} {base : Heap} (B : Bl mg) (D : DefH K mg "resolved_clause" s_resolved_clause) (c_is_earlier : C8.Cal P w K mg base 3 "is_earlier" sp_is_earlier []) (c_is_number : C8.Cal P w K mg base 2 "is_number" sp_is_number []) (c_resolvent : C8.Cal P w K mg base 2 "resolvent" sp_resolvent []) : C8.Cal P w K mg base 4 "resolved_clause" sp_resolved_clause [] := by
  refine cal_of D sc_resolved_clause (fun _ _ _ _ _ _ us hl => match us, hl with | [_, _, _], _ => rfl) (fun ds h => ?_) fun fa cdv A outer s H E hr => ⟨_, (pss_cons (ps_if (PW.pt (pw_or (pt_cmpR op_ne (pe_callB (r := rLn K) call_len_seq rfl B.len_ (by decide +kernel) (pa_cons (pv 2 rfl (Or.inl rfl)) pa_nil)) pe_int (nomark _)) (pw_or (pt_not (pt_val (C8.pe_c c_is_earlier hr (by first | decide | omega) rfl (pa_cons (pe_ix (r := rIx K) ix_seq (pv 2 rfl (Or.inl rfl)) pe_int (fun _ _ => rfl)) (pa_cons (pe_callB (r := rLn K) call_len_seq rfl B.len_ (by decide +kernel) (pa_cons (pv 1 rfl (Or.inl rfl)) pa_nil)) pa_nil))))) (pw_or1 (pt_not (pt_val (C8.pe_c c_is_earlier hr (by first | decide | omega) rfl (pa_cons (pe_ix (r := rIx K) ix_seq (pv 2 rfl (Or.inl rfl)) pe_int (fun _ _ => rfl)) (pa_cons (pe_callB (r := rLn K) call_len_seq rfl B.len_ (by decide +kernel) (pa_cons (pv 1 rfl (Or.inl rfl)) pa_nil)) pa_nil))))))))) (pss_one (ps_ret pe_non)) pss_nil)
    (pss_cons (ps_if (PW.pt (pw_or (pt_not (pt_val (C8.pe_c c_is_number hr (by first | decide | omega) rfl (pa_cons (pe_ix (r := rIx K) ix_seq (pv 2 rfl (Or.inl rfl)) pe_int (fun _ _ => rfl)) pa_nil)))) (pw_or1 (pt_not (pt_chain op_lt op_le pe_int (pe_ix (r := rIx K) ix_seq (pv 2 rfl (Or.inl rfl)) pe_int (fun _ _ => rfl)) (pe_ix (r := rIx K) ix_seq (pv 0 rfl (Or.inl rfl)) pe_int (fun _ _ => rfl))))))) (pss_one (ps_ret pe_non)) pss_nil)
    (pss_one (ps_ret (C8.pe_c c_resolvent hr (by first | decide | omega) rfl (pa_cons (pe_ix (r := rIx K) ix_seq (pv 1 rfl (Or.inl rfl)) (pe_ix (r := rIx K) ix_seq (pv 2 rfl (Or.inl rfl)) pe_int (fun _ _ => rfl)) (fun _ _ => rfl)) (pa_cons (pe_ix (r := rIx K) ix_seq (pv 1 rfl (Or.inl rfl)) (pe_ix (r := rIx K) ix_seq (pv 2 rfl (Or.inl rfl)) pe_int (fun _ _ => rfl)) (fun _ _ => rfl)) (pa_cons (pe_ix (r := rIx K) ix_seq (pv 2 rfl (Or.inl rfl)) pe_int (fun _ _ => rfl)) pa_nil)))))))), fun W ds h => ?_⟩
  · obtain ⟨_, _, _, _, rfl, _⟩ := h
    rfl
  · obtain ⟨n, cs, ks, ds, rfl, hk⟩ := h
    suffices hh : Sm W _ (args N_resolved_clause.length [fm n cs, .list (cls ks), .tuple ds]) (fun _ => False) (fun r => r = oC (resP n ks ds)) from sm_mono hh (by
      rintro _ rfl n' cs' ks' ds' q
      obtain ⟨q1, q2, q3⟩ := args3 q
      obtain ⟨q4, q5⟩ := fm_inj q1
      rw [q4, cls_inj (list_inj q2), tup_inj q3])
    by_cases hl : ds.length = 4
    · obtain ⟨t, x, y, z, rfl⟩ := len4 hl
      have lk : (ks.length : Int) = ((cls ks).length : Nat) := by rw [cls_len]
      refine q_if (b := false || (!earl x ks.length || !earl y ks.length)) (t_or ((t_test (e_neI (e_lenT (e_var rfl)) e_int)).is rfl) fun _ => t_or (t_not (t_test (u_earl (a_cons (e_ixT (e_var rfl) e_int rfl) (a_cons ((e_lenL (e_var rfl)).is (by rw [cls_len])) a_nil))))) fun _ => t_not (t_test (u_earl (a_cons (e_ixT (e_var rfl) e_int rfl) (a_cons ((e_lenL (e_var rfl)).is (by rw [cls_len])) a_nil))))) (fun e => ?_) fun e => ?_
      · refine s_none ?_
        rw [resP_no]
        · rfl
        · rintro a b v rfl rfl rfl
          cases q : earl (.int a) ks.length with
          | false => exact .inl (getI_none (earl_no q))
          | true => cases q2 : earl (.int b) ks.length with
            | false => exact .inr (.inl (getI_none (earl_no q2)))
            | true => rw [q, q2] at e; cases e
      · have ex : earl x ks.length = true := by cases q : earl x ks.length <;> first | rfl | (rw [q] at e; cases e)
        have ey : earl y ks.length = true := by cases q : earl y ks.length <;> first | rfl | (rw [q, ex] at e; cases e)
        obtain ⟨a, rfl, ha⟩ := earl_of ex
        obtain ⟨b, rfl, hb⟩ := earl_of ey
        refine q_if (b := !isNum z || !(decide (0 < iOf z) && decide (iOf z ≤ n))) (t_or (t_not (t_test (u_is_number (a_cons (e_ixT (e_var rfl) e_int rfl) a_nil)))) fun e1 => ?_) (fun e1 => ?_) fun e1 => ?_
        · obtain ⟨v, rfl, h0⟩ := num_of (x := z) (by simpa using e1)
          exact t_not (t_test (e_chain e_int (e_ixT (e_var rfl) e_int rfl) (o_bl rfl) fun _ => (e_ixT (e_var rfl) e_int rfl).mono fun q eq => by subst eq; exact o_bl rfl))
        · refine s_none ?_
          rw [resP_no]
          · rfl
          · rintro _ _ v _ _ rfl
            refine .inr (.inr fun hv => ?_)
            have e2 : isNum (.int v) = true := decide_eq_true (by omega)
            have e3 : (decide (0 < iOf (.int v)) && decide (iOf (.int v) ≤ n)) = true := by
              rw [decide_eq_true (show 0 < iOf (.int v) from hv.1), decide_eq_true (show iOf (.int v) ≤ n from hv.2)]
              rfl
            rw [e2, e3] at e1
            cases e1
        · obtain ⟨v, rfl, h0⟩ := num_of (x := z) (by cases q : isNum z <;> first | rfl | (rw [q] at e1; cases e1))
          have hv : 0 < v ∧ v ≤ n := by
            cases q : (decide (0 < iOf (.int v)) && decide (iOf (.int v) ≤ n)) with
            | true =>
              rw [Bool.and_eq_true] at q
              exact ⟨of_decide_eq_true q.1, of_decide_eq_true q.2⟩
            | false => rw [q] at e1; simp at e1
          obtain ⟨c, g1, g2, g3⟩ := getI_some (cs := ks) ha
          obtain ⟨d, k1, k2, k3⟩ := getI_some (cs := ks) hb
          refine sm_ret ((u_resolvent (a_cons (e_ixL (e_var rfl) (e_ixT (e_var rfl) e_int rfl) (cls_get g2) ha.1) (a_cons (e_ixL (e_var rfl) (e_ixT (e_var rfl) e_int rfl) (cls_get k2) hb.1) (a_cons (e_ixT (e_var rfl) e_int rfl) a_nil))) (hk _ g3) (hk _ k3)).mono ?_)
          rintro _ rfl
          show _ = oC (if 0 < v ∧ v ≤ n then (getI ks a).bind fun c => (getI ks b).bind fun e => resC c e v else none)
          rw [if_pos hv, g1, k1]
          rfl
    · refine q_or1 ((t_test (e_neI (e_lenT (e_var rfl)) e_int)).is (by simp; omega)) (s_none ?_)
      rw [resP_ne hl]
      rfl
theorem u_resolved_clause {W : Wd} {δ : Dn} {tr : TA} {E : XK} {n : Int} {cs ks : List C} {es : List Pd} (h : AvE W tr δ [fm n cs, .list (cls ks), .tuple es]) (hk : ∀ c ∈ ks, c.length < 30) : EvE W (tCall sp_resolved_clause [] E tr) δ (oC (resP n ks es)) := (e_callR h ⟨n, cs, ks, es, rfl, hk⟩).mono fun r_ k => k n cs ks es rfl
/-! ### weakened_clause -/
def pre_weakened_clause : List Pd → Prop := fun ds => ∃ (n : Int) (cs ks : List C) (es : List Pd), ds = [fm n cs, .list (cls ks), .tuple es] ∧ (∀ c ∈ ks, c.length < 30) ∧ ∀ e ∈ es, sm e
def f_weakened_clause : List Pd → Pd → Prop := fun ds r => ∀ (n : Int) (cs ks : List C) (es : List Pd), ds = [fm n cs, .list (cls ks), .tuple es] → r = oC (weakP n ks es)
abbrev sp_weakened_clause : Sp := spR pre_weakened_clause f_weakened_clause
abbrev N_weakened_clause : List Str := ["formula", "clauses", "step", "literal"]
theorem sc_weakened_clause : FnScope N_weakened_clause ["formula", "clauses", "step"] (defScope s_weakened_clause) := ⟨rfl, rfl, rfl, by decide +kernel, rfl, by decide +kernel, by decide +kernel⟩
theorem ok_weakened_clause {P : Program} {w : World} {K : PySem.W.Frag} {mg : Str → Option Value} {base : Heap} (B : Bl mg) (D : DefH K mg "weakened_clause" s_weakened_clause) (c_is_clause : C8.Cal P w K mg base 2 "is_clause" sp_is_clause []) (c_is_earlier : C8.Cal P w K mg base 3 "is_earlier" sp_is_earlier []) : C8.Cal P w K mg base 4 "weakened_clause" sp_weakened_clause [] := by
  refine cal_of D sc_weakened_clause (fun _ _ _ _ _ _ us hl => match us, hl with | [_, _, _], _ => rfl) (fun ds h => ?_) fun fa cdv A outer s H E hr => ⟨_, (pss_cons (ps_if (PW.pt (pw_or (pt_cmpR op_ne (pe_callB (r := rLn K) call_len_seq rfl B.len_ (by decide +kernel) (pa_cons (pv 2 rfl (Or.inr (Or.inl rfl))) pa_nil)) pe_int (nomark _)) (pw_or (pt_not (pt_val (C8.pe_c c_is_earlier hr (by first | decide | omega) rfl (pa_cons (pe_ix (r := rIx K) ix_seq (pv 2 rfl (Or.inr (Or.inl rfl))) pe_int (fun _ _ => rfl)) (pa_cons (pe_callB (r := rLn K) call_len_seq rfl B.len_ (by decide +kernel) (pa_cons (pv 1 rfl (Or.inl rfl)) pa_nil)) pa_nil))))) (pw_or1 (pt_not (pt_val (C8.pe_c c_is_clause hr (by first | decide | omega) rfl (pa_cons (pe_ix (r := rIx K) ix_seq (pv 0 rfl (Or.inl rfl)) pe_int (fun _ _ => rfl)) (pa_cons (pe_ix (r := rIx K) ix_seq (pv 2 rfl (Or.inr (Or.inl rfl))) pe_int (fun _ _ => rfl)) pa_nil))))))))) (pss_one (ps_ret pe_non)) pss_nil)
    (pss_one (ps_ret (pe_ifExp (pt_val (pe_callB (r := rAll K) (cr_all rfl) rfl B.all_ (by decide +kernel) (pa_cons (pe_lc (own := [("literal", 3)]) (g := gName 3) (tt := tYes) rfl sc_weakened_clause.nd (pi_tup (pe_ix (r := rIx K) ix_seq (pv 1 rfl (Or.inl rfl)) (pe_ix (r := rIx K) ix_seq (pv 2 rfl (Or.inr (Or.inl rfl))) pe_int (fun _ _ => rfl)) (fun _ _ => rfl))) (blkOk_by (N := N_weakened_clause) (sc := defScope s_weakened_clause) (by decide +kernel)) (fun _ _ _ _ _ => pg_name (i := 3) sc_weakened_clause.nd rfl (Or.inl rfl)) (fun _ _ _ _ _ => pts_nil) (fun _ _ _ _ _ => (pe_cmpR (r := rIn K false) op_in_seq (pv 3 rfl (Or.inl rfl)) (pe_ix (r := rIx K) ix_seq (pv 2 rfl (Or.inr (Or.inl rfl))) pe_int (fun _ _ => rfl)) rfl))) pa_nil))) (pe_ix (r := rIx K) ix_seq (pv 2 rfl (Or.inr (Or.inl rfl))) pe_int (fun _ _ => rfl)) pe_non)))), fun W ds h => ?_⟩
  · obtain ⟨_, _, _, _, rfl, _⟩ := h
    rfl
  · obtain ⟨n, cs, ks, ds, rfl, hk, hsm⟩ := h
    suffices hh : Sm W _ (args N_weakened_clause.length [fm n cs, .list (cls ks), .tuple ds]) (fun _ => False) (fun r => r = oC (weakP n ks ds)) from sm_mono hh (by
      rintro _ rfl n' cs' ks' ds' q
      obtain ⟨q1, q2, q3⟩ := args3 q
      obtain ⟨q4, q5⟩ := fm_inj q1
      rw [q4, cls_inj (list_inj q2), tup_inj q3])
    by_cases hl : ds.length = 3
    · obtain ⟨t, x, d, rfl⟩ := len3 hl
      have hd : sm d := hsm d (by simp)
      refine q_if (b := false || (!earl x ks.length || !isCl n d)) (t_or ((t_test (e_neI (e_lenT (e_var rfl)) e_int)).is rfl) fun _ => t_or (t_not (t_test (u_earl (a_cons (e_ixT (e_var rfl) e_int rfl) (a_cons ((e_lenL (e_var rfl)).is (by rw [cls_len])) a_nil))))) fun _ => t_not (t_test (u_is_clause (a_cons (e_ixT (e_var rfl) e_int rfl) (a_cons (e_ixT (e_var rfl) e_int rfl) a_nil)) hd))) (fun e => ?_) fun e => ?_
      · refine s_none ?_
        rw [weakP_no]
        · rfl
        · rintro a rfl
          cases q : earl (.int a) ks.length with
          | false => exact .inl (getI_none (earl_no q))
          | true =>
            refine .inr ?_
            cases q2 : clOf n d with
            | none => rfl
            | some c =>
              have : isCl n d = true := by unfold isCl; rw [q2]; rfl
              rw [q, this] at e
              cases e
      · have ex : earl x ks.length = true := by cases q : earl x ks.length <;> first | rfl | (rw [q] at e; cases e)
        have ey : isCl n d = true := by cases q : isCl n d <;> first | rfl | (rw [q, ex] at e; cases e)
        obtain ⟨a, rfl, ha⟩ := earl_of ex
        unfold isCl at ey
        cases q2 : clOf n d with
        | none => rw [q2] at ey; cases ey
        | some c =>
          obtain ⟨e1, _⟩ := clOf_some q2
          subst e1
          obtain ⟨k, g1, g2, g3⟩ := getI_some (cs := ks) ha
          have hlen : k.length ≤ 100000 := by have := hk _ g3; omega
          refine sm_ret (e_if (t_test (e_all (e_mapIB (fun l => decide (l ∈ c)) (i_cl (e_ixL (e_var rfl) (e_ixT (e_var rfl) e_int rfl) (cls_get g2) ha.1)) (fun l _ => e_inT (e_var rfl) (e_ixT (e_var rfl) e_int rfl)) hlen))) (fun e2 => ?_) fun e2 => ?_)
          · rw [all_id] at e2
            refine (e_ixT (e_var rfl) e_int rfl).mono ?_
            rintro _ rfl
            show _ = oC ((getI ks a).bind fun k => (clOf n (cl c)).bind fun e => if k.all (fun l => decide (l ∈ e)) then some e else none)
            rw [g1, q2, Option.bind_some, Option.bind_some, if_pos e2]
            rfl
          · rw [all_id] at e2
            refine e_non.mono ?_
            rintro _ rfl
            show _ = oC ((getI ks a).bind fun k => (clOf n (cl c)).bind fun e => if k.all (fun l => decide (l ∈ e)) then some e else none)
            rw [g1, q2, Option.bind_some, Option.bind_some, if_neg (by rw [e2]; decide)]
            rfl
    · refine q_or1 ((t_test (e_neI (e_lenT (e_var rfl)) e_int)).is (by simp; omega)) (s_none ?_)
      rw [weakP_ne hl]
      rfl
theorem u_weakened_clause {W : Wd} {δ : Dn} {tr : TA} {E : XK} {n : Int} {cs ks : List C} {es : List Pd} (h : AvE W tr δ [fm n cs, .list (cls ks), .tuple es]) (hk : ∀ c ∈ ks, c.length < 30) (he : ∀ e ∈ es, sm e) : EvE W (tCall sp_weakened_clause [] E tr) δ (oC (weakP n ks es)) := (e_callR h ⟨n, cs, ks, es, rfl, hk, he⟩).mono fun r_ k => k n cs ks es rfl
/-- the word at the head of a step -/
theorem t_head {W : Wd} {δ : Dn} {K : PySem.W.Frag} {i : Nat} {x : Str} {es : List Pd} (h : δ[i]? = some (.d (.tuple es))) (ho : ∀ e ∈ es, okD 19 e = true) (hx : SeqAt.shaped (.str x) = true) :
    TvE W (tAnd (tTest (tOp (rI0 fun i j => .bl (decide (i > j))) (tCB (rLn K) (tCons (tVar i) tNil)) (tC (.int 0)))) (tTest (tOp (rEqD K) (tOp (rIx K) (tVar i) (tC (.int 0))) (tC (.str x))))) δ (match es with
      | [] => false
      | t :: _ => isS x t) := by
  cases es with
  | nil => exact (t_and (x := false) (y := false) (t_test (e_opB (e_lenT (e_var h)) e_int)) (fun e => nomatch e)).is rfl
  | cons t r =>
    refine (t_and (x := true) (t_test ((e_opB (e_lenT (e_var h)) e_int).is (congrArg PyData.bool (decide_eq_true (by show (((t :: r).length : Nat) : Int) > 0; rw [List.length_cons]; omega))))) fun _ => t_test (e_eqD (e_ixT (e_var h) e_int rfl) e_str (okD_shaped (ho t (List.mem_cons_self ..))) hx)).is ?_
    rw [eqv_str]
    rfl
/-! ### next_clause -/
def pre_next_clause : List Pd → Prop := fun ds => ∃ (n : Int) (cs ks : List C) (es : List Pd), ds = [fm n cs, .list (cls ks), .tuple es] ∧ (∀ c ∈ ks, c.length < 30) ∧ ∀ e ∈ es, okD 19 e = true
def f_next_clause : List Pd → Pd → Prop := fun ds r => ∀ (n : Int) (cs ks : List C) (es : List Pd), ds = [fm n cs, .list (cls ks), .tuple es] → r = oC (nextP n cs ks (.tuple es))
abbrev sp_next_clause : Sp := spR pre_next_clause f_next_clause
abbrev N_next_clause : List Str := ["formula", "clauses", "step"]
theorem sc_next_clause : FnScope N_next_clause ["formula", "clauses", "step"] (defScope s_next_clause) := ⟨rfl, rfl, rfl, by decide +kernel, rfl, by decide +kernel, by decide +kernel⟩
theorem ok_next_clause {P : Program} {w : World} {K : PySem.W.Frag} {mg : Str → Option Value} {base : Heap} (B : Bl mg) (D : DefH K mg "next_clause" s_next_clause) (c_axiom_clause : C8.Cal P w K mg base 3 "axiom_clause" sp_axiom_clause []) (c_resolved_clause : C8.Cal P w K mg base 4 "resolved_clause" sp_resolved_clause []) (c_weakened_clause : C8.Cal P w K mg base 4 "weakened_clause" sp_weakened_clause []) : C8.Cal P w K mg base 5 "next_clause" sp_next_clause [] := by
  refine cal_of D sc_next_clause (fun _ _ _ _ _ _ us hl => match us, hl with | [_, _, _], _ => rfl) (fun ds h => ?_) fun fa cdv A outer s H E hr => ⟨_, (pss_cons (ps_if (PW.pt (pw_and (pt_cmpR op_gt (pe_callB (r := rLn K) call_len_seq rfl B.len_ (by decide +kernel) (pa_cons (pv 2 rfl (Or.inl rfl)) pa_nil)) pe_int (nomark _)) (pw_and1 (pt_cmpR (r := rEqD K) (op_eqD hr.units) (pe_ix (r := rIx K) ix_seq (pv 2 rfl (Or.inl rfl)) pe_int (fun _ _ => rfl)) pe_str (nomark _))))) (pss_one (ps_ret (C8.pe_c c_axiom_clause hr (by first | decide | omega) rfl (pa_cons (pv 0 rfl (Or.inl rfl)) (pa_cons (pv 2 rfl (Or.inl rfl)) pa_nil))))) pss_nil)
    (pss_cons (ps_if (PW.pt (pw_and (pt_cmpR op_gt (pe_callB (r := rLn K) call_len_seq rfl B.len_ (by decide +kernel) (pa_cons (pv 2 rfl (Or.inl rfl)) pa_nil)) pe_int (nomark _)) (pw_and1 (pt_cmpR (r := rEqD K) (op_eqD hr.units) (pe_ix (r := rIx K) ix_seq (pv 2 rfl (Or.inl rfl)) pe_int (fun _ _ => rfl)) pe_str (nomark _))))) (pss_one (ps_ret (C8.pe_c c_resolved_clause hr (by first | decide | omega) rfl (pa_cons (pv 0 rfl (Or.inl rfl)) (pa_cons (pv 1 rfl (Or.inl rfl)) (pa_cons (pv 2 rfl (Or.inl rfl)) pa_nil)))))) pss_nil)
    (pss_cons (ps_if (PW.pt (pw_and (pt_cmpR op_gt (pe_callB (r := rLn K) call_len_seq rfl B.len_ (by decide +kernel) (pa_cons (pv 2 rfl (Or.inl rfl)) pa_nil)) pe_int (nomark _)) (pw_and1 (pt_cmpR (r := rEqD K) (op_eqD hr.units) (pe_ix (r := rIx K) ix_seq (pv 2 rfl (Or.inl rfl)) pe_int (fun _ _ => rfl)) pe_str (nomark _))))) (pss_one (ps_ret (C8.pe_c c_weakened_clause hr (by first | decide | omega) rfl (pa_cons (pv 0 rfl (Or.inl rfl)) (pa_cons (pv 1 rfl (Or.inl rfl)) (pa_cons (pv 2 rfl (Or.inl rfl)) pa_nil)))))) pss_nil)
    (pss_one (ps_ret pe_non))))), fun W ds h => ?_⟩
  · obtain ⟨_, _, _, _, rfl, _⟩ := h
    rfl
  · obtain ⟨n, cs, ks, ds, rfl, hk, ho⟩ := h
    suffices hh : Sm W _ (args N_next_clause.length [fm n cs, .list (cls ks), .tuple ds]) (fun _ => False) (fun r => r = oC (nextP n cs ks (.tuple ds))) from sm_mono hh (by
      rintro _ rfl n' cs' ks' ds' q
      obtain ⟨q1, q2, q3⟩ := args3 q
      obtain ⟨q4, q5⟩ := fm_inj q1
      rw [q4, q5, cls_inj (list_inj q2), tup_inj q3])
    refine q_if (t_head rfl ho (by decide +kernel)) (fun e => ?_) fun e1 => q_if (t_head rfl ho (by decide +kernel)) (fun e => ?_) fun e2 => q_if (t_head rfl ho (by decide +kernel)) (fun e => ?_) fun e3 => ?_
    · cases ds with
      | nil => cases e
      | cons t r =>
        refine sm_ret ((u_axiom_clause (a_cons (e_var rfl) (a_cons (e_var rfl) a_nil))).mono ?_)
        rintro _ rfl
        show _ = oC (if isS "axiom" t then _ else _)
        rw [if_pos e]
    · cases ds with
      | nil => cases e
      | cons t r =>
        refine sm_ret ((u_resolved_clause (a_cons (e_var rfl) (a_cons (e_var rfl) (a_cons (e_var rfl) a_nil))) hk).mono ?_)
        rintro _ rfl
        have e1' : isS "axiom" t = false := e1
        show _ = oC (if isS "axiom" t then _ else if isS "resolve" t then _ else _)
        rw [if_neg (by rw [e1']; decide), if_pos e]
    · cases ds with
      | nil => cases e
      | cons t r =>
        refine sm_ret ((u_weakened_clause (a_cons (e_var rfl) (a_cons (e_var rfl) (a_cons (e_var rfl) a_nil))) hk (fun e he => okD_sm (ho e he))).mono ?_)
        rintro _ rfl
        have e1' : isS "axiom" t = false := e1
        have e2' : isS "resolve" t = false := e2
        show _ = oC (if isS "axiom" t then _ else if isS "resolve" t then _ else if isS "weaken" t then _ else _)
        rw [if_neg (by rw [e1']; decide), if_neg (by rw [e2']; decide), if_pos e]
    · cases ds with
      | nil => exact s_none rfl
      | cons t r =>
        have e1' : isS "axiom" t = false := e1
        have e2' : isS "resolve" t = false := e2
        have e3' : isS "weaken" t = false := e3
        refine s_none ?_
        show oC (if isS "axiom" t then _ else if isS "resolve" t then _ else if isS "weaken" t then _ else _) = _
        rw [if_neg (by rw [e1']; decide), if_neg (by rw [e2']; decide), if_neg (by rw [e3']; decide)]
        rfl
theorem u_next_clause {W : Wd} {δ : Dn} {tr : TA} {E : XK} {n : Int} {cs ks : List C} {es : List Pd} (h : AvE W tr δ [fm n cs, .list (cls ks), .tuple es]) (hk : ∀ c ∈ ks, c.length < 30) (he : ∀ e ∈ es, okD 19 e = true) : EvE W (tCall sp_next_clause [] E tr) δ (oC (nextP n cs ks (.tuple es))) := (e_callR h ⟨n, cs, ks, es, rfl, hk, he⟩).mono fun r_ k => k n cs ks es rfl
end K19
end
section
set_option Elab.async false
set_option linter.all false
set_option maxRecDepth 100000
namespace K19
open PySem L2
/-! ## a world from a heap on -/
def Wd.at (W : Wd) (H0 : Hp) (N1 : Addr → Prop) (hN : ∀ a, W.N a → N1 a) (hl : ∀ a, N1 a → H0 a ≠ none) : Wd where
  N := N1
  X := W.X
  S := fun a => W.S a ∨ H0 a ≠ none
  G := fun H => W.G H ∧ W.R H0 H
  ns := fun a h => .inr (hl a h)
  xn := fun a x => hN a (W.xn a x)
  live := fun H a g s => by
    rcases s with s | s
    · exact W.live H a g.1 s
    · by_cases x : W.X a
      · exact W.live H a g.1 (W.ns a (W.xn a x))
      · cases q : H0 a with
        | none => exact absurd q s
        | some o =>
          rw [g.2 a o x q]
          exact fun z => nomatch z
  chg := fun H H' g k => ⟨W.chg H H' g.1 fun a s => k a (.inl s), fun a o x e => by
    rw [k a (.inr (by rw [e]; exact fun z => nomatch z))]
    exact g.2 a o x e⟩
  mts := fun H a xs g x => W.mts H a xs g.1 x
/-- the pool: [script, place, rest, turns, salt] -/
def Pool (q r : Addr) (is : List Int) (H : Hp) : Prop := ∃ (i1 i2 i3 i4 : Int), H q = some (.lst [.ref r, .int i1, .int i2, .int i3, .int i4]) ∧ H r = some (.lst (is.map V.int)) ∧ 0 ≤ i1
theorem Pool.ne {q : Addr} {H : Hp} {r : Addr} {is : List Int} {vs : List V} (h1 : H q = some (.lst (.ref r :: vs))) (h2 : H r = some (.lst (is.map V.int))) : r ≠ q := fun e => by
  rw [e, h1] at h2
  cases is with
  | nil => cases h2
  | cons i is => cases h2
structure HasPool (W : Wd) (q r : Addr) (is : List Int) : Prop where
  x : W.X q
  pool : ∀ H, W.G H → Pool q r is H
  stay : ∀ H H', W.G H → (∀ a o, a ≠ q → H a = some o → H' a = some o) → Pool q r is H' → W.G H'
/-- W' knows what W knows, and the same may change -/
structure Sub (W W' : Wd) : Prop where
  n : W'.N = W.N
  x : W'.X = W.X
  g : ∀ H, W'.G H → W.G H
  p : ∀ q r is, HasPool W q r is → HasPool W' q r is
theorem Sub.rfl' {W : Wd} : Sub W W := ⟨rfl, rfl, fun _ h => h, fun _ _ _ h => h⟩
theorem Wd.at_sub {W : Wd} {H0 : Hp} {hl : ∀ a, W.N a → H0 a ≠ none} : Sub W (W.at H0 W.N (fun _ h => h) hl) := ⟨rfl, rfl, fun _ h => h.1, fun q r is h => ⟨h.x, fun H g => h.pool H g.1, fun H H' g k z => ⟨h.stay H H' g.1 k z, fun a o x e => k a o (fun e2 => x (e2 ▸ h.x)) (g.2 a o x e)⟩⟩⟩
theorem Wd.at_pool {W : Wd} {H0 : Hp} {N1 : Addr → Prop} {hN : ∀ a, W.N a → N1 a} {hl : ∀ a, N1 a → H0 a ≠ none} {q r : Addr} {is : List Int} (h : HasPool W q r is) : HasPool (W.at H0 N1 hN hl) q r is :=
  ⟨h.x, fun H g => h.pool H g.1, fun H H' g k z => ⟨h.stay H H' g.1 k z, fun a o x e => k a o (fun e2 => x (e2 ▸ h.x)) (g.2 a o x e)⟩⟩
/-- p may change too; it has not yet -/
def Wd.loc (W : Wd) (p : Addr) (H0 : Hp) (hp : ¬ W.S p) (hl : ∃ vs, H0 p = some (.lst vs)) : Wd where
  N := fun a => W.N a ∨ a = p
  X := fun a => W.X a ∨ a = p
  S := fun a => W.S a ∨ H0 a ≠ none
  G := fun H => W.G H ∧ W.R H0 H
  ns := fun a h => h.imp (W.ns a) fun e => by
    obtain ⟨vs, q⟩ := hl
    rw [e, q]
    exact fun z => nomatch z
  xn := fun a h => h.imp (W.xn a) id
  live := fun H a g s => by
    rcases s with s | s
    · exact W.live H a g.1 s
    · by_cases x : W.X a
      · exact W.live H a g.1 (W.ns a (W.xn a x))
      · cases q : H0 a with
        | none => exact absurd q s
        | some o =>
          rw [g.2 a o x q]
          exact fun z => nomatch z
  chg := fun H H' g k => ⟨W.chg H H' g.1 fun a s => k a (.inl s), fun a o x e => by
    rw [k a (.inr (by rw [e]; exact fun z => nomatch z))]
    exact g.2 a o x e⟩
  mts := fun H a xs g x => by
    rcases x with x | rfl
    · exact W.mts H a xs g.1 x
    · obtain ⟨vs, q⟩ := hl
      rw [g.2 a _ (fun z => hp (W.ns a (W.xn a z))) q]
      exact fun z => nomatch z
structure Loc (W : Wd) (p : Addr) (W' : Wd) : Prop where
  n : W'.N = fun a => W.N a ∨ a = p
  p : ∀ q r is, HasPool W q r is → HasPool W' q r is
theorem Wd.loc_loc {W : Wd} {p : Addr} {H0 : Hp} {hp : ¬ W.S p} {hl : ∃ vs, H0 p = some (.lst vs)} : Loc W p (W.loc p H0 hp hl) := ⟨rfl, fun q r is h => ⟨.inl h.x, fun H g => h.pool H g.1, fun H H' g k z => ⟨h.stay H H' g.1 k z, fun a o x e => k a o (fun e2 => x (e2 ▸ h.x)) (g.2 a o x e)⟩⟩⟩
/-! ## a local list -/
abbrev Nn (W : Wd) (p : Addr) : Addr → Prop := fun a => W.N a ∨ a = p
def Ll (W : Wd) (p : Addr) (ds : List Pd) (H : Hp) : Prop := ∃ vs, H p = some (.lst vs) ∧ RpA (Nn W p) H vs ds
def RL (W : Wd) (p : Addr) (H H' : Hp) : Prop := ∀ a o, ¬ W.X a → a ≠ p → H a = some o → H' a = some o
section
variable {W : Wd} {p : Addr} {H H' H1 : Hp} {δ : Dn} {ds : List Pd} {σ : Sl}
theorem RL.trans (a : RL W p H H1) (b : RL W p H1 H') : RL W p H H' := fun x o n m e => b x o n m (a x o n m e)
theorem RL.rfl' : RL W p H H := fun _ _ _ _ e => e
theorem RL.of (r : W.R H H') : RL W p H H' := fun a o n _ e => r a o n e
theorem RL.tups (g : W.G H) (L : Ll W p ds H) (r : RL W p H H') : ∀ a xs, H a = some (.tup xs) → H' a = some (.tup xs) := fun a xs e => by
  refine r a _ (fun z => ?_) (fun z => ?_) e
  · exact W.mts H a xs g z e
  · obtain ⟨ys, q, _⟩ := L
    rw [← z, e] at q
    cases q
theorem RL.rp (g : W.G H) (L : Ll W p ds H) (r : RL W p H H') {v : V} {d : Pd} (h : Rp (Nn W p) H v d) : Rp (Nn W p) H' v d :=
  Rp.keep (RL.tups g L r) (fun a xs n e => r a _ (fun z => n (.inl (W.xn a z))) (fun z => n (.inr z)) e) (fun _ _ _ z => z) d v h
theorem RL.rpA (g : W.G H) (L : Ll W p ds H) (r : RL W p H H') {v : List V} {d : List Pd} (h : RpA (Nn W p) H v d) : RpA (Nn W p) H' v d :=
  RpA.keep (RL.tups g L r) (fun a xs n e => r a _ (fun z => n (.inl (W.xn a z))) (fun z => n (.inr z)) e) (fun _ _ _ z => z) d v h
theorem RL.en (g : W.G H) (L : Ll W p ds H) (r : RL W p H H') (h : En (Nn W p) H σ δ) : En (Nn W p) H' σ δ := h.map fun _ _ h => RL.rp g L r h
theorem Ll.go (g : W.G H) (hp : ¬ W.S p) (r : W.R H H') (L : Ll W p ds H) : Ll W p ds H' := by
  have L' := L
  obtain ⟨vs, e, h⟩ := L
  exact ⟨vs, r p _ (fun z => hp (W.ns p (W.xn p z))) e, RL.rpA g L' (RL.of r) h⟩
theorem Rp.weak {N N' : Addr → Prop} {H : Hp} (h : ∀ a, N' a → N a) {d : Pd} {v : V} (r : Rp N H v d) : Rp N' H v d := Rp.keep (fun _ _ e => e) (fun _ _ _ e => e) (fun a _ _ z => h a z) d v r
theorem RpA.weak {N N' : Addr → Prop} {H : Hp} (h : ∀ a, N' a → N a) {d : List Pd} {v : List V} (r : RpA N H v d) : RpA N' H v d := RpA.keep (fun _ _ e => e) (fun _ _ _ e => e) (fun a _ _ z => h a z) d v r
theorem Rp.nlw {N N' : Addr → Prop} {H : Hp} {d : Pd} {v : V} (e : nl d = true) (r : Rp N H v d) : Rp N' H v d := Rp.nl_keep (fun _ _ e => e) d v e r
theorem Rp.fresh {N : Addr → Prop} {H : Hp} {p : Addr} (hp : H p = none) {d : Pd} {v : V} (r : Rp N H v d) : Rp (fun a => N a ∨ a = p) H v d := Rp.keep (fun _ _ e => e) (fun _ _ _ e => e) (fun a xs e z => by
  rcases z with z | rfl
  · exact z
  · rw [hp] at e
    cases e) d v r
/-- the local list, seen as data -/
theorem En.see (h : En (Nn W p) H σ δ) (hp : ¬ W.S p) (L : Ll W p ds H) {i : Nat} (e : δ[i]? = some (.v (.ref p))) : En W.N H σ (δ.set i (.d (.list ds))) := by
  obtain ⟨vs, e1, h1⟩ := L
  have h0 : En W.N H σ δ := h.map fun _ _ r => r.weak fun a z => .inl z
  refine ⟨by rw [h0.len, List.length_set], fun j k q => ?_⟩
  by_cases ij : i = j
  · subst ij
    have lt : i < δ.length := (List.getElem?_eq_some_iff.mp e).1
    rw [List.getElem?_set_self lt] at q
    cases q
    exact ⟨_, h.getV e, .ref p, rfl, .lst (fun z => hp (W.ns p z)) e1 (h1.weak fun a z => .inl z)⟩
  · rw [List.getElem?_set_ne ij] at q
    exact h0.at_ j k q
def SmL (W : Wd) (p : Addr) (ts : TS) (δ : Dn) (ds : List Pd) (Nx : Dn → List Pd → Prop) (P : Pd → Prop) : Prop := ¬ W.S p → ∀ H σ, W.G H → Ll W p ds H → En (Nn W p) H σ δ → ∀ D : Ends,
  (∀ σ' δ' ds' H', RL W p H H' → W.G H' → Ll W p ds' H' → Nx δ' ds' → En (Nn W p) H' σ' δ' → D.nx σ' H') → (∀ v d H', RL W p H H' → W.G H' → P d → Rp W.N H' v d → D.rt v H') → ts D σ H
end
section
variable {W : Wd} {p : Addr} {δ : Dn} {ds : List Pd} {ta tb tc te : TE} {c : TT} {t u : TS} {tr : TA} {K : PySem.W.Frag} {P : Pd → Prop} {Nx : Dn → List Pd → Prop} {d : Pd} {i j : Nat}
/-- what an expression may rely on while the local list stands -/
abbrev EvL (W : Wd) (te : TE) (δ : Dn) (P : Pd → Prop) : Prop := ∀ W', Sub W W' → Ev W' te δ P
abbrev EtL (W : Wd) (tt : TT) (δ : Dn) (P : Bool → Prop) : Prop := ∀ W', Sub W W' → EvT W' tt δ P
theorem evL (h : EvL W te (δ.set i (.d (.list ds))) P) (hi : δ[i]? = some (.v (.ref p))) (hp : ¬ W.S p) {H : Hp} {σ : Sl} (g : W.G H) (L : Ll W p ds H) (en : En (Nn W p) H σ δ) {Q : VK}
    (q : ∀ v d H', W.R H H' → W.G H' → P d → Rp W.N H' v d → Ll W p ds H' → En (Nn W p) H' σ δ → Q v H') : te σ H Q := by
  have hl : ∀ a, W.N a → H a ≠ none := fun a n => W.live H a g (W.ns a n)
  refine h (W.at H W.N (fun _ h => h) hl) Wd.at_sub H σ ⟨g, Wd.rfl'⟩ (en.see hp L hi) Q fun v d H' r g' pd rd => ?_
  exact q v d H' r g'.1 pd rd (L.go g hp r) (RL.en g L (RL.of r) en)
theorem etL {Pb : Bool → Prop} (h : EtL W c (δ.set i (.d (.list ds))) Pb) (hi : δ[i]? = some (.v (.ref p))) (hp : ¬ W.S p) {H : Hp} {σ : Sl} (g : W.G H) (L : Ll W p ds H) (en : En (Nn W p) H σ δ) {Q : Bool → Hp → Prop}
    (q : ∀ b H', W.R H H' → W.G H' → Pb b → Ll W p ds H' → En (Nn W p) H' σ δ → Q b H') : c σ H Q := by
  have hl : ∀ a, W.N a → H a ≠ none := fun a n => W.live H a g (W.ns a n)
  refine h (W.at H W.N (fun _ h => h) hl) Wd.at_sub H σ ⟨g, Wd.rfl'⟩ (en.see hp L hi) Q fun b H' r g' pd => ?_
  exact q b H' r g'.1 pd (L.go g hp r) (RL.en g L (RL.of r) en)
theorem l_seq {Mid : Dn → List Pd → Prop} (h1 : SmL W p t δ ds Mid P) (h2 : ∀ δ' ds', Mid δ' ds' → SmL W p u δ' ds' Nx P) : SmL W p (tSeq t u) δ ds Nx P := fun hp H σ g L en D nx rt =>
  h1 hp H σ g L en { D with nx := u D } (fun σ' δ' ds' H' r1 g1 L1 m en1 => h2 δ' ds' m hp H' σ' g1 L1 en1 D (fun σ2 δ2 ds2 H2 r2 g2 L2 m2 en2 => nx σ2 δ2 ds2 H2 (r1.trans r2) g2 L2 m2 en2) fun v d H2 r2 g2 p2 s2 => rt v d H2 (r1.trans r2) g2 p2 s2) rt
theorem l_next (h : Nx δ ds) : SmL W p tNext δ ds Nx P := fun hp H σ g L en D nx rt => nx σ δ ds H RL.rfl' g L h en
theorem l_asg {A : Pd → Prop} (hi : δ[i]? = some (.v (.ref p))) (h : EvL W te (δ.set i (.d (.list ds))) A) (hn : ∀ d, A d → nl d = true) (k : ∀ d, A d → Nx (δ.set j (.d d)) ds) : SmL W p (tAsg te (gName j)) δ ds Nx P := fun hp H σ g L en D nx rt =>
  evL h hi hp g L en fun v d H' r g' a rd L' en' => nx _ _ ds H' (RL.of r) g' L' (k d a) (en'.set (Rp.nlw (hn d a) rd))
theorem lq_asg {A : Pd → Prop} (hi : δ[i]? = some (.v (.ref p))) (h : EvL W te (δ.set i (.d (.list ds))) A) (hn : ∀ d, A d → nl d = true) (k : ∀ d, A d → SmL W p u (δ.set j (.d d)) ds Nx P) : SmL W p (tSeq (tAsg te (gName j)) u) δ ds Nx P :=
  l_seq (Mid := fun δ' ds' => ∃ d, A d ∧ δ' = δ.set j (.d d) ∧ ds' = ds) (l_asg hi h hn fun d a => ⟨d, a, rfl, rfl⟩) fun _ _ ⟨d, a, e1, e2⟩ => by subst e1 e2; exact k d a
theorem l_ret (hi : δ[i]? = some (.v (.ref p))) (h : EvL W te (δ.set i (.d (.list ds))) P) : SmL W p (tRet te) δ ds Nx P := fun hp H σ g L en D nx rt =>
  evL h hi hp g L en fun v d H' r g' a rd L' en' => rt v d H' (RL.of r) g' a rd
theorem l_if {A : Bool → Prop} (hi : δ[i]? = some (.v (.ref p))) (h : EtL W c (δ.set i (.d (.list ds))) A) (h1 : A true → SmL W p t δ ds Nx P) (h2 : A false → SmL W p u δ ds Nx P) : SmL W p (tIfS c t u) δ ds Nx P := fun hp H σ g L en D nx rt =>
  etL h hi hp g L en fun b H1 r g1 a L1 en1 => by
    have nx' : ∀ σ' δ' ds' H', RL W p H1 H' → W.G H' → Ll W p ds' H' → Nx δ' ds' → En (Nn W p) H' σ' δ' → D.nx σ' H' := fun σ2 δ2 ds2 H2 r2 g2 L2 m2 en2 => nx σ2 δ2 ds2 H2 ((RL.of r).trans r2) g2 L2 m2 en2
    have rt' : ∀ v d H', RL W p H1 H' → W.G H' → P d → Rp W.N H' v d → D.rt v H' := fun v d H2 r2 g2 p2 s2 => rt v d H2 ((RL.of r).trans r2) g2 p2 s2
    cases b with
    | true => exact h1 a hp H1 σ g1 L1 en1 D nx' rt'
    | false => exact h2 a hp H1 σ g1 L1 en1 D nx' rt'
theorem l_false (h : SmL W p t δ ds (fun _ _ => False) P) : SmL W p t δ ds Nx P := fun hp H σ g L en D nx rt => h hp H σ g L en D (fun _ _ _ _ _ _ _ z _ => z.elim) rt
theorem lq_if {A : Bool → Prop} {v : TS} (hi : δ[i]? = some (.v (.ref p))) (h : EtL W c (δ.set i (.d (.list ds))) A) (h1 : A true → SmL W p t δ ds (fun _ _ => False) P) (h2 : A false → SmL W p v δ ds Nx P) : SmL W p (tSeq (tIfS c t tNext) v) δ ds Nx P := by
  refine l_seq (Mid := fun δ' ds' => δ' = δ ∧ ds' = ds ∧ A false) (l_if hi h (fun e => l_false (h1 e)) fun e => l_next ⟨rfl, rfl, e⟩) fun δ' ds' ⟨e1, e2, e3⟩ => by subst e1 e2; exact h2 e3
/-- p.append(e) -/
theorem l_app {A : Pd → Prop} (hi : δ[i]? = some (.v (.ref p))) (h : EvL W te (δ.set i (.d (.list ds))) A) (hn : ∀ d, A d → nl d = true) (hl : ds.length < 100000) (k : ∀ d, A d → Nx δ (ds ++ [d])) :
    SmL W p (tDrop (tBM K "list" rAppend (tVar i) (tCons te tNil))) δ ds Nx P := fun hp H σ g L en D nx rt => by
  obtain ⟨vs, e0, h0⟩ := id L
  refine ⟨.ref p, en.getV hi, .inl ⟨rfl, vs, SqL.of e0⟩, ?_⟩
  refine evL h hi hp g L en fun v d H' r g' a rd L' en' => ?_
  obtain ⟨vs', e1, h1⟩ := id L'
  have rd' : Rp (Nn W p) H' v d := Rp.nlw (hn d a) rd
  have g2 : W.G (upd H' p (.lst (vs' ++ [v]))) := W.chg _ _ g' fun a s => L2.upd_ne (fun z => hp (z ▸ s))
  have r2 : RL W p H' (upd H' p (.lst (vs' ++ [v]))) := fun a o _ n e => by rw [L2.upd_ne n]; exact e
  refine ⟨p, vs', v, rfl, rfl, e1, ?_, ?_⟩
  · have := h1.length
    exact Nat.lt_of_lt_of_le (show vs'.length < 100000 by omega) (by decide)
  · exact nx σ δ (ds ++ [d]) _ ((RL.of r).trans r2) g2 ⟨_, upd_same, (RL.rpA g' L' r2 h1).append (.cons (RL.rp g' L' r2 rd') .nil)⟩ (k d a) (RL.en g' L' r2 en')
/-- p = [], then the rest -/
theorem l_open {Nx : Dn → Prop} (h : ∀ p, SmL W p u (δ.set i (.v (.ref p))) [] (fun _ _ => False) P) : Sm W (tSeq (tAsg (tLst tNil) (gName i)) u) δ Nx P := fun H σ g en D nx rt => by
  refine ⟨Nat.zero_le _, fun p hp => ?_⟩
  have s := same_new hp (.lst [])
  have g1 : W.G (upd H p (.lst [])) := Wd.ofSame g s
  have back : ∀ {H'}, RL W p (upd H p (.lst [])) H' → W.R H H' := fun {H'} r a o n e => r a o n (fun z => by rw [z, hp] at e; cases e) (s a o e)
  refine h p (Wd.fr g hp) _ _ g1 ⟨[], upd_same, .nil⟩ (((en.map fun _ _ r => r.fresh hp).same s).setV) D (fun _ _ _ _ _ _ _ z _ => z.elim) fun v d H' r g' pd rd => rt v d H' (back r) g' pd rd
theorem Ll.any {W : Wd} {p : Addr} {ds : List Pd} {H : Hp} (L : Ll W p ds H) : ∃ vs, H p = some (.lst vs) := by
  obtain ⟨vs, e, _⟩ := L
  exact ⟨vs, e⟩
/-- for i, x in enumerate(a tuple) -/
theorem l_for2 {wi : TI} {j k n : Nat} {x y : Nat → Option Pd} {tb : TS} (hw : ∀ W', Loc W p W' → ItP W' wi δ n x y) (Inv : Nat → Dn → List Pd → Prop) (h0 : Inv 0 δ ds)
    (hs : ∀ m a b δ' ds', m < n → x m = some a → y m = some b → Inv m δ' ds' → SmL W p tb ((δ'.set j (.d a)).set k (.d b)) ds' (Inv (m + 1)) P) (hd : ∀ δ' ds', Inv n δ' ds' → Nx δ' ds') :
    SmL W p (tFor wi (gTup K 2 (gCons (gName j) (gCons (gName k) gNil))) tb) δ ds Nx P := fun hp H σ g L en D nx rt => by
  refine hw _ (Wd.loc_loc (H0 := H) (hp := hp) (hl := L.any)) H σ ⟨g, Wd.rfl'⟩ en _ fun J H1 xf yf _ g1 hx hy wk => ?_
  have r1 : W.R H H1 := g1.2
  have L1 := L.go g hp r1
  have en1 := RL.en g L (RL.of r1) en
  have rr : ∀ {H2 H3}, RL W p H1 H2 → RL W p H2 H3 → RL W p H1 H3 := fun a b => a.trans b
  have wr : ∀ {H2}, RL W p H1 H2 → (W.loc p H hp L.any).R H1 H2 := fun {H2} r a o n e => r a o (fun z => n (.inl z)) (fun z => n (.inr z)) e
  refine for_it wk (fun i σ2 H2 => RL W p H1 H2 ∧ W.G H2 ∧ ∃ δ' ds', Ll W p ds' H2 ∧ Inv i δ' ds' ∧ En (Nn W p) H2 σ2 δ') ⟨RL.rfl', g1.1, δ, ds, L1, h0, en1⟩ (fun i σ2 H2 _ q => wr q.1) ?_ ?_
  · rintro i v σ2 H2 H2' hlt ⟨r2, g2, δ', ds', L2, hI, en2⟩ ⟨T, a, b, rfl, hT, rfl, ea, eb⟩
    obtain ⟨da, pa, ra⟩ := hx i a ea
    obtain ⟨db, pb, rb⟩ := hy i b eb
    have s := same_new hT (.tup [a, b])
    have g3 : W.G (upd H2 T (.tup [a, b])) := Wd.ofSame g2 s
    have r3 : W.R H2 (upd H2 T (.tup [a, b])) := Wd.rSame s
    have L3 := L2.go g2 hp r3
    have ra3 : Rp (Nn W p) (upd H2 T (.tup [a, b])) a da := (RL.rp g1.1 L1 r2 ra).same s
    have rb3 : Rp (Nn W p) (upd H2 T (.tup [a, b])) b db := (RL.rp g1.1 L1 r2 rb).same s
    refine ⟨T, _, rfl, SqT.of upd_same, rfl, a, _, rfl, b, _, rfl, rfl, ?_⟩
    refine hs i da db δ' ds' hlt pa pb hI hp _ _ g3 L3 (((en2.same s).set ra3).set rb3) _ (fun σ4 δ4 ds4 H4 r4 g4 L4 m4 en4 => ⟨r2.trans ((RL.of r3).trans r4), g4, δ4, ds4, L4, m4, en4⟩) fun v d H4 r4 g4 p4 s4 => rt v d H4 ((RL.of r1).trans (r2.trans ((RL.of r3).trans r4))) g4 p4 s4
  · rintro σ2 H2 ⟨r2, g2, δ', ds', L2, hI, en2⟩
    exact nx σ2 δ' ds' H2 ((RL.of r1).trans r2) g2 L2 (hd δ' ds' hI) en2
theorem l_for {wi : TI} {j : Nat} {xs : List Pd} {tb : TS} (hw : ∀ W', Loc W p W' → ItE W' wi δ xs) (Inv : Nat → Dn → List Pd → Prop) (h0 : Inv 0 δ ds)
    (hs : ∀ m a δ' ds', xs[m]? = some a → Inv m δ' ds' → SmL W p tb (δ'.set j (.d a)) ds' (Inv (m + 1)) P) (hd : ∀ δ' ds', Inv xs.length δ' ds' → Nx δ' ds') :
    SmL W p (tFor wi (gName j) tb) δ ds Nx P := fun hp H σ g L en D nx rt => by
  refine hw _ (Wd.loc_loc (H0 := H) (hp := hp) (hl := L.any)) H σ ⟨g, Wd.rfl'⟩ en _ fun J H1 vs _ g1 rs wk => ?_
  have r1 : W.R H H1 := g1.2
  have L1 := L.go g hp r1
  have en1 := RL.en g L (RL.of r1) en
  have wr : ∀ {H2}, RL W p H1 H2 → (W.loc p H hp L.any).R H1 H2 := fun {H2} r a o n e => r a o (fun z => n (.inl z)) (fun z => n (.inr z)) e
  refine for_it wk (fun i σ2 H2 => RL W p H1 H2 ∧ W.G H2 ∧ ∃ δ' ds', Ll W p ds' H2 ∧ Inv i δ' ds' ∧ En (Nn W p) H2 σ2 δ') ⟨RL.rfl', g1.1, δ, ds, L1, h0, en1⟩ (fun i σ2 H2 _ q => wr q.1) ?_ ?_
  · rintro i v σ2 H2 H2' hlt ⟨r2, g2, δ', ds', L2, hI, en2⟩ ⟨e, hv⟩
    subst e
    obtain ⟨x, hx, rx⟩ := rs.getV hv
    exact hs i x δ' ds' hx hI hp _ _ g2 L2 (en2.set (RL.rp g1.1 L1 r2 rx)) _ (fun σ4 δ4 ds4 H4 r4 g4 L4 m4 en4 => ⟨r2.trans r4, g4, δ4, ds4, L4, m4, en4⟩) fun v d H4 r4 g4 p4 s4 => rt v d H4 ((RL.of r1).trans (r2.trans r4)) g4 p4 s4
  · rintro σ2 H2 ⟨r2, g2, δ', ds', L2, hI, en2⟩
    rw [rs.length] at hI
    exact nx σ2 δ' ds' H2 ((RL.of r1).trans r2) g2 L2 (hd δ' ds' hI) en2
end
/-! ## the pool passed on -/
/-- a def that takes the pool first: it changes the pool, nothing else -/
def spP (pre : List Pd → Prop) (f : List Pd → Pd → Prop) : Sp := fun vs H Q _ => ∃ (N : Addr → Prop) (q r : Addr) (is : List Int) (ws : List V) (ds : List Pd), vs = .ref q :: ws ∧ (∀ a, N a → H a ≠ none) ∧ N q ∧ Pool q r is H ∧ RpA N H ws ds ∧ pre ds ∧
  ∀ v d H', (∀ a o, a ≠ q → H a = some o → H' a = some o) → Pool q r is H' → f ds d → Rp N H' v d → Q v H'
section
variable {W : Wd} {δ : Dn} {tr : TA} {P : Pd → Prop} {pre : List Pd → Prop} {f : List Pd → Pd → Prop} {E : XK} {q r : Addr} {is : List Int} {i : Nat}
theorem v_callP {A : List Pd → Prop} (hq : HasPool W q r is) (hi : δ[i]? = some (.v (.ref q))) (h : EvA W tr δ A) (k : ∀ ds, A ds → pre ds ∧ ∀ d, f ds d → P d) : Ev W (tCall (spP pre f) [] E (tCons (tVar i) tr)) δ P := fun H σ g en Q qq =>
  ⟨.ref q, en.getV hi, h H σ g en _ fun vs ds H1 r1 g1 p1 s1 => ⟨W.N, q, r, is, vs, ds, by rw [List.append_nil], fun a n => W.live H1 a g1 (W.ns a n), W.xn q hq.x, hq.pool H1 g1, s1, (k ds p1).1, fun v d H2 e2 p2 f2 s2 =>
    qq v d H2 (Wd.trans r1 fun a o x e => e2 a o (fun z => x (z ▸ hq.x)) e) (hq.stay H1 H2 g1 e2 p2) ((k ds p1).2 d f2) s2⟩⟩
theorem e_callP {ds : List Pd} (hq : HasPool W q r is) (hi : δ[i]? = some (.v (.ref q))) (h : AvE W tr δ ds) (hp : pre ds) : Ev W (tCall (spP pre f) [] E (tCons (tVar i) tr)) δ (f ds) := v_callP hq hi h fun _ e => by
  subst e
  exact ⟨hp, fun _ z => z⟩
end
/-- all but the pool stands -/
def poolW (N : Addr → Prop) (H0 : Hp) (q r : Addr) (is : List Int) (hl : ∀ a, N a → H0 a ≠ none) (hq : N q) (h0 : Pool q r is H0) : Wd where
  N := N
  X := fun a => a = q
  S := fun a => H0 a ≠ none
  G := fun H => (∀ a o, a ≠ q → H0 a = some o → H a = some o) ∧ Pool q r is H
  ns := hl
  xn := fun a e => e ▸ hq
  live := fun H a g s e => by
    by_cases z : a = q
    · obtain ⟨_, _, _, _, h1, _⟩ := g.2
      rw [z, h1] at e
      cases e
    · cases k : H0 a with
      | none => exact s k
      | some o =>
        rw [g.1 a o z k] at e
        cases e
  chg := fun H H' g k => by
    refine ⟨fun a o n e => ?_, ?_⟩
    · rw [k a (by rw [e]; exact fun z => nomatch z)]
      exact g.1 a o n e
    · obtain ⟨i1, i2, i3, i4, h1, h2, h3⟩ := g.2
      obtain ⟨_, _, _, _, _, e2, _⟩ := h0
      refine ⟨i1, i2, i3, i4, ?_, ?_, h3⟩
      · rw [k q (hl q hq)]
        exact h1
      · rw [k r (by rw [e2]; exact fun z => nomatch z)]
        exact h2
  mts := fun H a xs g x => by
    obtain ⟨_, _, _, _, h1, _⟩ := g.2
    rw [x, h1]
    exact fun z => nomatch z
theorem poolW_pool {N : Addr → Prop} {H0 : Hp} {q r : Addr} {is : List Int} {hl : ∀ a, N a → H0 a ≠ none} {hq : N q} {h0 : Pool q r is H0} : HasPool (poolW N H0 q r is hl hq h0) q r is :=
  ⟨rfl, fun H g => g.2, fun H H' g k z => ⟨fun a o n e => k a o n (g.1 a o n e), z⟩⟩
/-- the body of a def that takes the pool first -/
theorem pool_go {t : TS} {Ns : List Str} {pre : List Pd → Prop} {f : List Pd → Pd → Prop} (h : ∀ (W : Wd) (q r : Addr) (is : List Int) (ds : List Pd), HasPool W q r is → pre ds → Sm W t (.v (.ref q) :: args (Ns.length - 1) ds) (fun _ => False) (f ds)) {vs : List V} {H : Hp} {Q : VK} {E : XK} (hN : Ns ≠ []) (hsp : spP pre f vs H Q E) :
    t { nx := fun _ H' => Q .non H', rt := Q } (L2.start Ns vs) H := by
  obtain ⟨N, q, r, is, ws, ds, rfl, hl, hq, hp, rs, hpre, k⟩ := hsp
  cases Ns with
  | nil => exact absurd rfl hN
  | cons n Ns =>
    have en := en_start (Ns := Ns) rs
    have e1 : L2.start (n :: Ns) (.ref q :: ws) = some (.ref q) :: L2.start Ns ws := by
      unfold L2.start
      simp
    rw [e1]
    refine h (poolW N H q r is hl hq hp) q r is ds poolW_pool hpre H _ ⟨fun _ _ _ e => e, hp⟩ ?_ _ (fun _ _ _ _ _ z _ => z.elim) fun v d H' r' g' p s => k v d H' g'.1 g'.2 p s
    refine ⟨by simp [en.len], fun i c e => ?_⟩
    cases i with
    | zero =>
      cases e
      exact ⟨_, rfl, rfl⟩
    | succ i => exact en.at_ i c e
theorem spP_len {pre : List Pd → Prop} {f : List Pd → Pd → Prop} {n : Nat} (hn : ∀ ds, pre ds → ds.length + 1 = n) : ∀ vs H Q E, spP pre f vs H Q E → vs.length = n := fun vs H Q E ⟨N, q, r, is, ws, ds, e, _, _, _, rs, hp, _⟩ => by
  rw [e, List.length_cons, rs.length]
  exact hn ds hp
end K19
end
section
set_option Elab.async false
set_option linter.all false
set_option maxRecDepth 100000
set_option maxHeartbeats 2000000
set_option pp.maxSteps 1500
namespace PySem
namespace WsX
open PySem.W PySem.Calls PyProof.Rows PySem.HandSPX
abbrev wA : Arguments := L2.defArgs K19.s_WrongStep_init
abbrev wB : List Stmt := L2.defBody K19.s_WrongStep_init
abbrev wS : Scope := L2.defScope K19.s_WrongStep_init
abbrev veTail : List Value := [.type "ValueError", .type "Exception", .type "BaseException", .type "object"]
structure WsTxt (P : Program) (K : Frag) (mg : Str → Option Value) (C fI : Addr) : Prop where
  gC : mg "WrongStep" = some (.ref C)
  cls : ∃ nm q N bs bm sn sub ab col dd k0 k1 k2 k3 k5, K.lookup C = some (excClassObj nm q C N bs bm true sn sub ab col dd k0 k1 k2 k3 k5 "ValueError.__new__") ∧ refsVE bm = true
  sa : findIn K (.ref C) "__setattr__" = some (some (.builtin "object.__setattr__"))
  noN : findIn K (.ref C) "index" = some none
  iC : findIn K (.ref C) "__init__" = some (some (.ref fI))
  tC : typeIn K (.ref fI) = some (.type "function")
  kC : keepIn K (.ref C) = true
  exC : subIn K (.ref C) (.type "BaseException") = some true
  tyC : typeIn K (.ref C) = some (.type "type")
  te : exmOne K (.ref C) (.ref C) = some true
  mS : mroIn K C (.ref C) = some true
  sup : ks_superIn K C C "__init__" = some (some (.builtin "ValueError.__init__"))
  sB : subIn K (.ref C) (.type "ValueError") = some true
  thp : nsIn K cStatics "thirdparty.any" = some none
  exI : excInitIn K C veTail "ValueError.__new__" = true
  nosup : mg "super" = none
  fn : ∃ (oc : Value) (od : Option Addr) (kV doc pm : Value) (an : Option Addr) (cda : Addr) (ct : Value) (osl : Array (Option Value)) (cc : Addr),
    K.lookup fI = some ⟨oc, od, .func (ksFn "__init__" "WrongStep.__init__" wA wB wS .none kV doc pm an (.ref cda) ct cc), osl⟩ ∧ codeIn K (.ref cda) "WrongStep.__init__" = true ∧
    (∃ (ccl : Value) (cdd : Option Addr) (vs : Array Value) (ccs : Array (Option Value)) (file : Str) (tf : Tok), K.lookup cda = some ⟨ccl, cdd, .fields vs, ccs⟩ ∧ vs[2]? = some (.str file tf) ∧ ((P.main.file : Str) == file) = true) ∧
    ∃ (cl : Value) (cld : Option Addr) (csl : Array (Option Value)), K.lookup cc = some ⟨cl, cld, .cell (some (.ref C)), csl⟩
structure InitEnd (h0 h' : Heap) (x C dx t1 : Addr) (v : Value) : Prop where
  keep : ∀ b o, h0.get? b = some o → h'.get? b = some o
  obj : h'.get? x = some { cls := .ref C, dict := some dx, data := .fields #[.ref t1, .none, .none, .none, .bool false, .none] }
  dbig : h0.objs.size ≤ dx
  dne : dx ≠ x
  ns : h'.Ns1 dx (fun y => if y = "index" then some v else none)
structure OwnMade (h h' : Heap) (e C d : Addr) (v : Value) : Prop where
  keep : ∀ b o, h.get? b = some o → h'.get? b = some o
  new : h.objs.size ≤ e
  obj : ∃ oe vs, h'.get? e = some oe ∧ oe.cls = .ref C ∧ oe.dict = some d ∧ oe.data = .fields vs ∧ vs[1]? = some .none
  dbig : h.objs.size ≤ d
  dne : d ≠ e
  ns : h'.Ns1 d (fun y => if y = "index" then some v else none)
theorem one_size (v : Value) : [v].length ≤ sizeLine := by
  rw [sizeLine_eq]
  exact (by decide : 1 ≤ 16777216)
theorem text_small {i : Int} (h : 0 ≤ i ∧ i < 100) : ((toString i : String) : Str).length ≤ 20 := by
  have key : ∀ n : _root_.Fin 100, ((toString (((n : Nat)) : Int) : String) : Str).length ≤ 20 := by decide +kernel
  have e : i = ((⟨i.toNat, by omega⟩ : _root_.Fin 100) : Nat) := by show i = ((i.toNat : Nat) : Int); omega
  rw [e]
  exact key _
section
variable {prog : Program} {w : World} {A : Around} {E : Value → Shared → Prop} {R : Result → Shared → Prop} {s : Shared} {K : Frag} {mg : Str → Option Value} {C fI : Addr}
theorem ws_init (T : WsTxt prog K mg C fI) {x t0 : Addr} {i : Int} {ti : Tok} {h0 : Heap} (kp : ∀ b o, h0.get? b = some o → s.heap.get? b = some o) (hx0 : h0.get? x = none) (sz : h0.objs.size ≤ s.heap.objs.size) (X0 : K.In h0)
    (G : h0.Ns mainGlobals mg) (Bt : ∃ mb, h0.Ns builtinsNs mb ∧ ∀ x : Str, x ≠ "__name__" → mb x = bootBuiltins x) (htop : (prog.main.scope.names.lookup ("super" : Str)).isSome = false)
    (hlim : s.heap.NoLimit) (hx : s.heap.get? x = some (excO C t0)) (hroom : A.depth < recursionLimit) (hlt : 0 ≤ i ∧ i < 100)
    (hq : ∀ h' tk dx t1, InitEnd h0 h' x C dx t1 (.int i ti) → R (.ok (.ret .none)) { s with heap := h', toks := tk }) :
    codeAny (model prog w) A (.call (.ref fI) ⟨[.ref x, .int i ti], []⟩) R s := by
  obtain ⟨hs, gs, ds, ts, os⟩ := s
  have hi : i.natAbs.log2 < 1920 := by
    have h1 : i.natAbs < 2 ^ 7 := by omega
    by_cases h0 : i.natAbs = 0
    · rw [h0]; decide
    · have := (Nat.log2_lt h0).mpr h1
      omega
  obtain ⟨oc, od, kV, doc, pm, an, cda, ct, osl, cc, ho, hcd, ⟨ccl, cdd, vs, ccs, file, tf, hcode, hvs, hfile⟩, cl, cld, csl, hcell⟩ := T.fn
  obtain ⟨nm, q, N, bs, bm, sn, sub, ab, col, dd, k0, k1, k2, k3, k5, hC, hbm⟩ := T.cls
  have hcl : clsIn K C = some { name := nm, bases := bs, mro := .ref C :: bm, ns := N, qualname := q, hasDict := true, slotNames := sn, subclasses := sub, abstract := ab, collection := col, hasDel := false } := by unfold clsIn; rw [hC] <;> rfl
  have X := X0.keeps kp
  refine ks_codeAny_call_defAt (fd := ksFn "__init__" "WrongStep.__init__" wA wB wS .none kV doc pm an (.ref cda) ct cc) (body := wB) (binds := [("self", .ref x), ("index", .int i ti)]) hroom (X _ _ ho) rfl hlim (codeRec_of X hcd) rfl (BindsTo.of_eq (by rfl)) (by show ∀ z ∈ wS.names, z.2 ≠ .cell; decide +kernel) (fun y hy => ?_) (fun h1 hn kh => ?_) rfl rfl rfl
  · rcases List.mem_cons.mp hy with rfl | hy
    · rfl
    · rcases List.mem_cons.mp hy with rfl | hy
      · rfl
      · cases hy
  have F1 : Fr h0 hs.objs.size h1 (fun y => ([("self", Value.ref x), ("index", Value.int i ti)] : List (Str × Value)).reverse.lookup y) := ⟨hn, fun b o e => kh b o (kp b o e), sz⟩
  have N1 : News h0 hs.objs.size h1 [(x, excObj C t0 none .none)] := fun p hp => by
    rcases List.mem_cons.mp hp with rfl | hp
    · exact ⟨kh _ _ hx, Nat.ne_of_lt (Heap.lt_size hx), hx0⟩
    · cases hp
  have I1 : InstAt h1 x (excObj C t0 none .none) C none := InstAt.of_exc0 N1 (List.mem_cons_self ..)
  show wpAt _ _ (.func wB (ksEnv "WrongStep.__init__" wS hs.objs.size fI (.ref cda) cc)) (execs wB (ksEnv "WrongStep.__init__" wS hs.objs.size fI (.ref cda) cc)) _ _ _
  refine ks_wpAt_execs_cons (ks_wpAt_Expr_any (ks_wpAt_MethodCall ?_) rfl rfl)
  -- super()
  have X1 : K.In h1 := X0.keeps F1.keep
  refine ks_wpAt_super_base (env := ksEnv "WrongStep.__init__" wS hs.objs.size fI (.ref cda) cc) rfl rfl (by decide) rfl (X1 _ _ ho) rfl rfl rfl (X1 _ _ hcode) rfl hvs hfile htop ?_
  obtain ⟨mb, hb1, hb2⟩ := Bt
  refine ks_loadName_global rfl rfl (loadGlobal_builtin (env := ksEnv "WrongStep.__init__" wS hs.objs.size fI (.ref cda) cc) (G.keeps F1.keep) T.nosup (hb1.keeps F1.keep) ((hb2 _ (by decide)).trans (by decide +kernel)) ⟨rfl, ?_⟩)
  refine wpAny_loadName_free rfl rfl rfl ⟨_, X1 _ _ hcell, rfl⟩ ?_
  refine wpAny_loadName_local (v := .ref x) rfl rfl hn rfl ?_
  refine ks_wpAny_isType_cls (X1 _ _ hC) rfl ⟨rfl, ?_⟩
  refine ks_wpAny_call_super (X1 _ _ hC) rfl I1.at_ I1.cls (fun c e => ?_) (looks_mroIn X1 T.mS) (fun h2 e2 kk2 => ?_)
  · cases e
  obtain ⟨F2, N2, l2⟩ := ks_newsPush (s := ⟨h1, gs, ds, ts + 2, os⟩) F1 N1 rfl e2 kk2
  -- its __init__
  have I2 : InstAt h2 x (excObj C t0 none .none) C none := InstAt.of_exc0 N2 (List.mem_cons_of_mem _ (List.mem_cons_self ..))
  refine kxs_method (s := ⟨h2, gs, ds, ts + 2, os⟩) kxs_ValueError F2 X0 N2 (List.mem_cons_self ..) I2 T.thp T.sup T.sB (by decide) (fun qa h3 F3 N3 l3 => ?_)
  refine kxs_callWith1 N3 (List.mem_cons_self ..) ?_ rfl rfl
  refine spliced_more ?_ rfl
  refine wpAny_JoinedStr ?_
  refine Calls.Constant_str ⟨_, _, rfl, by decide +kernel, ?_⟩
  refine wpAny_FormattedValue_plain ?_
  refine wpAny_Name (wpAny_loadName_local (v := .int i ti) rfl rfl F3.ns rfl ?_) (by decide)
  refine wpAny_formatField_int hi ⟨_, _, rfl, ?_, ?_⟩
  · rw [strLen_append]
    have := text_small hlt
    have e : (Str.empty ++ ("step " : Str)).length = 5 := by decide +kernel
    rw [e, sizeLine_eq]
    omega
  refine Calls.Constant_str ⟨_, _, rfl, ?_, ?_⟩
  · rw [strLen_append, strLen_append]
    have := text_small hlt
    have e : (Str.empty ++ ("step " : Str)).length = 5 := by decide +kernel
    have e2 : (" is not right" : Str).length = 13 := by decide +kernel
    rw [e, e2, sizeLine_eq]
    omega
  refine ⟨?_, ?_⟩
  · rw [strLen_append, strLen_append]
    have := text_small hlt
    have e : (Str.empty ++ ("step " : Str)).length = 5 := by decide +kernel
    have e2 : (" is not right" : Str).length = 13 := by decide +kernel
    rw [e, e2, sizeLine_eq]
    omega
  refine spliced_none ?_
  refine ⟨kxs_at N3 (List.mem_cons_self ..), ?_⟩
  have lx : x < h1.objs.size := l2 (x, _) (List.mem_cons_self ..)
  have lx3 : x < qa := l3 (x, excObj C t0 none .none) (List.mem_cons_of_mem _ (List.mem_cons_self ..))
  refine kxs_call (K := K) F3 X0 N3 F.excBase_ValueError T.exI (List.mem_cons_self ..) (.tail (Nat.ne_of_gt lx3) (.tail (Nat.ne_of_gt lx) (.head fun p hp => nomatch hp))) (one_size _) (fun t1 h4 F4 N4 l4 => ?_)
  -- self.index = index
  have X4 : K.In h4 := X0.keeps F4.keep
  have hx4 : h4.get? x = some (excO C t1) := (N4 (x, excObj C t1 none .none) (by simp)).1
  refine ks_wpAt_execs_cons (ks_wpAt_Assign_Attr ?_ rfl)
  refine wpAt_of_wpAny (wpAny_Name (wpAny_loadName_local (v := .int i ti) rfl rfl F4.ns rfl ?_) (by decide))
  refine wpAny_Name (wpAny_loadName_local (v := .ref x) rfl rfl F4.ns rfl ?_) (by decide)
  refine set_plain X4 (ox := excO C t1) (od := none) ⟨hx4, rfl, rfl, trivial⟩ T.sa ?_
  refine exc_osa X4 hx4 hcl (show refsVE (.ref C :: bm) = true from hbm) rfl T.noN (fun h5 tk5 dx k5 dn dne hx5 hn5 => ?_)
  have nx : ∀ {b : Addr} {o : Obj}, h0.get? b = some o → b ≠ x := fun {b o} e z => by
    rw [z, hx0] at e
    cases e
  have z4 : hs.objs.size < h4.objs.size := F4.ns.lt
  exact wpAt_of_wpAny (wpAny_execs_nil (hq h5 tk5 dx t1 ⟨fun b o e => k5 b o (nx e) (F4.keep b o e), hx5, Nat.le_trans (Nat.le_trans sz (Nat.le_of_lt z4)) dn, dne, hn5⟩))
theorem ws_made (T : WsTxt prog K mg C fI) {i : Int} {ti : Tok} (X : K.In s.heap) (G : s.heap.Ns mainGlobals mg) (Bt : ∃ mb, s.heap.Ns builtinsNs mb ∧ ∀ x : Str, x ≠ "__name__" → mb x = bootBuiltins x) (htop : (prog.main.scope.names.lookup ("super" : Str)).isSome = false)
    (hlim : s.heap.NoLimit) (hroom : A.depth + 1 < recursionLimit) (hlt : 0 ≤ i ∧ i < 100)
    (hq : ∀ h' tk e d, OwnMade s.heap h' e C d (.int i ti) → R (.ok (.ret (.ref e))) { s with heap := h', toks := tk }) :
    codeAny (model prog w) A (.call (.ref C) ⟨[.int i ti], []⟩) R s := by
  obtain ⟨nm, q, N, bs, bm, sn, sub, ab, col, dd, k0, k1, k2, k3, k5, hC, hbm⟩ := T.cls
  obtain ⟨hp, g, dr, tk, os⟩ := s
  have k : ∀ b o, hp.get? b = some o → ((hp.push (kdv_tup [.int i ti])).push (excO C hp.objs.size)).get? b = some o := fun b o e => Heap.get?_push_of_some _ (Heap.get?_push_of_some _ e)
  have hget : ((hp.push (kdv_tup [.int i ti])).push (excO C hp.objs.size)).get? (hp.objs.size + 1) = some (excO C hp.objs.size) := by heap_get
  have hnone : hp.get? (hp.objs.size + 1) = none := by
    cases e : hp.get? (hp.objs.size + 1) with
    | none => rfl
    | some o => exact absurd (Nat.lt_of_succ_lt (Heap.lt_size e)) (Nat.lt_irrefl _)
  refine call_own F.excBase_ValueError (fun X => refsVE_contains X bm hbm) (X _ _ hC) (looks_findIn X T.iC) (fun self => bind_fn X self T.tC) (one_size _) ?_
  refine ws_init (h0 := hp) (s := ⟨(hp.push (kdv_tup [.int i ti])).push (excO C hp.objs.size), g, dr, tk, os⟩) T k hnone ?_ X G Bt htop (hlim.keeps k) hget ?_ hlt fun h' tk' dx t1 M => ?_
  · show hp.objs.size ≤ ((hp.push (kdv_tup [.int i ti])).push (excO C hp.objs.size)).objs.size
    rw [Heap.size_push, Heap.size_push]
    omega
  · show A.depth + 1 < recursionLimit
    exact hroom
  · exact ⟨rfl, hq h' tk' (hp.objs.size + 1) dx ⟨M.keep, Nat.le_succ _, ⟨_, _, M.obj, rfl, rfl, rfl, rfl⟩, M.dbig, M.dne, M.ns⟩⟩
end
end WsX
end PySem

namespace L2
open PySem PySem.Spec PyProof.Rows
theorem relO_ws {v : V} {v' : Value} (r : RelV v v') (f : Str) : RelO (List.lookup f [(("index" : Str), v)]) (if f = "index" then some v' else none) := by
  by_cases hw : f = "index"
  · subst hw
    rw [if_pos rfl]
    have q : List.lookup ("index" : Str) [(("index" : Str), v)] = some v := by simp [List.lookup]
    rw [q]
    exact r
  · rw [if_neg hw]
    have qw : (f == ("index" : Str)) = false := by simpa using hw
    have q2 : List.lookup f [(("index" : Str), v)] = none := by simp [List.lookup, qw]
    rw [q2]
    trivial
section
variable {X : Cx} {C fI : Addr}
/-- WrongStep(e) -/
def tMkWs (C : Addr) (ta : TA) : St → Hp → XK → Prop := fun σ H Q => ta σ H fun vs H1 => ∃ i : Int, vs = [.int i] ∧ (0 ≤ i ∧ i < 100) ∧ ∀ d, H1 d = none → Q (.ref C) (some d) (upd H1 d (.xd [(("index" : Str), .int i)]))
theorem pmk_ws {a : Expr} {ta : TA} {p pos : Pos} {k : Nat} (T : PySem.WsX.WsTxt X.prog X.K X.mg C fI) (htop : (X.prog.main.scope.names.lookup ("super" : Str)).isSome = false) (hr : Room k X.A) (ha : PA X [a] ta) (hg : Gl X "WrongStep" := by rfl)
    (he : starEach (a :: []) X.env = (false, eval a X.env) :: starEach [] X.env := by rfl) (hpl : (backTo pos (starEach [] X.env)).any (·.1) = false := by rfl) :
    PMk X (.Call (.Name "WrongStep" p) [a] [] pos) (tMkWs C ta) := by
  intro pins s σ H Q I h
  refine wpAny_Call_Name_kw (ld_glob I hg T.gC ?_)
  refine PySem.W.callWith_K (h₀ := X.base) I.ok.mod.kin T.kC (thn (ha.run pos pins s σ H _ I h) fun us s1 hh => ?_) he hpl
  obtain ⟨vs, H1, I1, r1, i, ev, hlt, q1⟩ := hh
  subst ev
  refine ⟨I1.kIn, ?_⟩
  cases r1 with
  | cons rv rn =>
    rename_i v' us'
    cases rn
    obtain ⟨ti, rfl⟩ := rv
    show wpAny _ _ (call (.ref C) [_]) _ _ _
    have hlim := I1.nolimit
    have G := I1.mod.glob.keeps I1.bk
    obtain ⟨mb, b1, b2⟩ := I1.mod.blt
    have Bt : ∃ mb, s1.heap.Ns builtinsNs mb ∧ ∀ x : Str, x ≠ "__name__" → mb x = bootBuiltins x := ⟨mb, b1.keeps I1.bk, b2⟩
    obtain ⟨hp, g, dr, tk, os⟩ := s1
    refine wpAny_call (PySem.WsX.ws_made T I1.kIn G Bt htop hlim (by have := hr.dp; omega) hlt fun h' tk' e d M => ?_)
    show MkP X pins σ Q (.ref e) ⟨h', g, dr, tk', os⟩
    obtain ⟨oe, fv, hoe, hc, hd, hdat, h1⟩ := M.obj
    have hns := M.ns
    obtain ⟨G', g1, g2⟩ := restrict h' fun b => decide (b ≠ e)
    have gk : ∀ b, b ≠ e → G'.get? b = h'.get? b := fun b hb => g1 b (decide_eq_true hb)
    have ge : G'.get? e = none := g2 e (by simp)
    have old : ∀ b o, hp.get? b = some o → G'.get? b = some o := fun b o q => (gk b (Nat.ne_of_lt (Nat.lt_of_lt_of_le (Heap.lt_size q) M.new))).trans (M.keep b o q)
    have ob : ObjOk X.prog X.w (upd H1 d (.xd [(("index" : Str), .int i)])) G' d (.xd [(("index" : Str), .int i)]) :=
      ⟨_, hns.at (fun o q => (gk d M.dne).trans q), fun f => relO_ws (v := .int i) ⟨ti, rfl⟩ f⟩
    have J : Inv X pins σ (upd H1 d (.xd [(("index" : Str), .int i)])) ⟨G', g, dr, tk', os⟩ := I1.laid (t' := tk') old M.dbig ob
    refine ⟨e, oe, fv, ⟨G', g, dr, tk', os⟩, _, .ref C, some d, rfl, J, fun b o q => ?_, ge, hoe, ⟨hc, hd⟩, hdat, h1, ?_, rfl, I1.bare, raises_own T.exC T.tyC, q1 d (I1.hok.fresh M.dbig)⟩
    · by_cases hb : b = e
      · have q' : G'.get? b = some o := q
        rw [hb, ge] at q'; cases q'
      · exact (gk b hb).symm.trans q
    · rw [upd_ne (Ne.symm M.dne)]
      exact I1.hok.fresh M.new
/-- raise WrongStep(e) -/
def tRaiseWs (C : Addr) (W : WX) (ta : TA) : TS := fun _ σ H => tMkWs C ta σ H fun cls d H' => W cls d σ H'
theorem ps_raiseWs {a : Expr} {ta : TA} {W : WX} {p pos pos2 : Pos} {k : Nat} (hc : X.calm = true) (T : PySem.WsX.WsTxt X.prog X.K X.mg C fI) (htop : (X.prog.main.scope.names.lookup ("super" : Str)).isSome = false) (hr : Room k X.A) (tk : Takes X W) (ha : PA X [a] ta) (hg : Gl X "WrongStep" := by rfl)
    (he : starEach (a :: []) X.env = (false, eval a X.env) :: starEach [] X.env := by rfl) (hpl : (backTo pos (starEach [] X.env)).any (·.1) = false := by rfl) :
    PS X (.Raise (some (.Call (.Name "WrongStep" p) [a] [] pos)) none pos2) (tRaiseWs C W ta) := ps_raise hc tk (pmk_ws T htop hr ha hg he hpl)
end
end L2
end
section
set_option Elab.async false
set_option linter.all false
set_option maxRecDepth 100000
set_option maxHeartbeats 4000000
namespace K19
open PySem L2
local macro_rules | `(tactic| walk_at "ev1") => `(tactic| first
  | exact e_var rfl | exact e_int | exact e_bl | exact e_non | exact e_str | exact a_nil | exact t_yes
  | refine a_cons ?_ ?_
  | (refine e_un ?_ (u_neg rfl))
  | (refine e_op ?_ ?_ (o_bl rfl)) | (refine e_op ?_ ?_ (o_int rfl))
  | (refine e_op ?_ ?_ (o_eqI rfl)) | (refine e_op ?_ ?_ (o_neI rfl))
  | (refine t_test ?_) | (refine t_B ?_) | (refine t_not ?_) | (refine e_notV ?_)
  | (refine e_cb ?_ (c_abs rfl)) | (refine e_cb ?_ (c_int rfl)))
local macro_rules | `(tactic| walk_at "ev") => `(tactic| repeat' walk_at "ev1")
/-! ## the run of the steps -/
def cB (c : C) : Prop := c.Pairwise (· < ·) ∧ ∀ l ∈ c, -4 ≤ l ∧ l ≤ 4
theorem pw_len : ∀ (c : C) (lo hi : Int), c.Pairwise (· < ·) → (∀ l ∈ c, lo ≤ l ∧ l ≤ hi) → lo ≤ hi + 1 → (c.length : Int) ≤ hi - lo + 1
  | [], lo, hi, _, _, h => by simp; omega
  | a :: c, lo, hi, hp, hb, h => by
    have h1 := List.pairwise_cons.mp hp
    have ha := hb a (List.mem_cons_self ..)
    have ih := pw_len c (a + 1) hi h1.2 (fun l hl => ⟨by have := h1.1 l hl; omega, (hb l (List.mem_cons_of_mem _ hl)).2⟩) (by omega)
    rw [List.length_cons]
    omega
theorem cB_len {c : C} (h : cB c) : c.length ≤ 9 := by
  have := pw_len c (-4) 4 h.1 h.2 (by omega)
  omega
theorem cB_len30 {c : C} (h : cB c) : c.length < 30 := by have := cB_len h; omega
theorem asc_pw : ∀ c : C, asc c = true → c.Pairwise (· < ·)
  | [], _ => .nil
  | [a], _ => List.pairwise_singleton ..
  | a :: b :: r, h => by
    have h' : (decide (a < b) && asc (b :: r)) = true := h
    rw [Bool.and_eq_true] at h'
    have ih := asc_pw (b :: r) h'.2
    have hab := of_decide_eq_true h'.1
    refine List.pairwise_cons.mpr ⟨fun x hx => ?_, ih⟩
    rcases List.mem_cons.mp hx with rfl | hx
    · exact hab
    · have := (List.pairwise_cons.mp ih).1 x hx
      omega
theorem pw_asc : ∀ c : C, c.Pairwise (· < ·) → asc c = true
  | [], _ => rfl
  | [a], _ => rfl
  | a :: b :: r, h => by
    have h1 := List.pairwise_cons.mp h
    show (decide (a < b) && asc (b :: r)) = true
    rw [decide_eq_true (h1.1 b (List.mem_cons_self ..)), pw_asc (b :: r) h1.2]
    rfl
theorem inR_iff {n l : Int} : inR n l = true ↔ l ≠ 0 ∧ -n ≤ l ∧ l ≤ n := by
  unfold inR
  simp only [Bool.and_eq_true, decide_eq_true_eq]
  split <;> omega
theorem good_iff {n : Int} {c : C} : goodC n c = true ↔ c.Pairwise (· < ·) ∧ (∀ l ∈ c, l ≠ 0 ∧ -n ≤ l ∧ l ≤ n) ∧ ∀ l ∈ c, -l ∉ c := by
  unfold goodC
  rw [Bool.and_eq_true, Bool.and_eq_true, List.all_eq_true, List.all_eq_true]
  constructor
  · rintro ⟨⟨h1, h2⟩, h3⟩
    exact ⟨asc_pw c h2, fun l hl => inR_iff.mp (h1 l hl), fun l hl => by simpa using h3 l hl⟩
  · rintro ⟨h1, h2, h3⟩
    exact ⟨⟨fun l hl => inR_iff.mpr (h2 l hl), pw_asc c h1⟩, fun l hl => by simpa using h3 l hl⟩
theorem good_cB {n : Int} {c : C} (hn : n ≤ 4) (h : goodC n c = true) : cB c := by
  have h' := good_iff.mp h
  exact ⟨h'.1, fun l hl => by have := h'.2.1 l hl; omega⟩
theorem resC_some {a b c : C} {v : Int} (h : resC a b v = some c) : v ∈ a ∧ -v ∈ b ∧ c = dsrt (a.filter (fun l => !decide (l = v)) ++ b.filter fun l => !decide (l = -v)) ∧ ∀ l ∈ c, -l ∉ c := by
  unfold resC at h
  split at h
  · rename_i h0
    unfold mkC at h
    split at h
    · cases h
    · rename_i h1
      have e := Option.some.inj h
      refine ⟨h0.1, h0.2, e.symm, fun l hl z => h1 ?_⟩
      rw [← e] at hl z
      exact List.any_eq_true.mpr ⟨l, mem_dsrt.mp hl, by simpa using mem_dsrt.mp z⟩
  · cases h
theorem getI_mem {cs : List C} {i : Int} {c : C} (h : getI cs i = some c) : c ∈ cs := List.mem_of_getElem? (getI_lt h).2.2
theorem resP_some {n : Int} {ks : List C} {es : List Pd} {c : C} (h : resP n ks es = some c) : ∃ t a b v x y, es = [t, .int a, .int b, .int v] ∧ 0 < v ∧ v ≤ n ∧ getI ks a = some x ∧ getI ks b = some y ∧ resC x y v = some c := by
  unfold resP at h
  split at h
  · rename_i t a b v
    split at h
    · rename_i hv
      cases q1 : getI ks a with
      | none => rw [q1] at h; cases h
      | some x => cases q2 : getI ks b with
        | none => rw [q1, q2] at h; cases h
        | some y =>
          rw [q1, q2] at h
          exact ⟨t, a, b, v, x, y, rfl, hv.1, hv.2, q1, q2, h⟩
    · cases h
  · cases h
theorem weakP_some {n : Int} {ks : List C} {es : List Pd} {c : C} (h : weakP n ks es = some c) : ∃ t a x d, es = [t, .int a, d] ∧ getI ks a = some x ∧ clOf n d = some c ∧ ∀ l ∈ x, l ∈ c := by
  unfold weakP at h
  split at h
  · rename_i t a d
    cases q1 : getI ks a with
    | none => rw [q1] at h; cases h
    | some x => cases q2 : clOf n d with
      | none => rw [q1, q2] at h; cases h
      | some y =>
        rw [q1, q2, Option.bind_some, Option.bind_some] at h
        split at h
        · rename_i h0
          cases h
          exact ⟨t, a, x, d, rfl, q1, q2, fun l hl => by simpa using List.all_eq_true.mp h0 l hl⟩
        · cases h
  · cases h
theorem axC_some {cs : List C} {es : List Pd} {c : C} (h : axC cs es = some c) : ∃ t i, es = [t, .int i] ∧ getI cs i = some c := by
  unfold axC at h
  split at h
  · exact ⟨_, _, rfl, h⟩
  · cases h
theorem nextP_cases {n : Int} {cs ks : List C} {e : Pd} {c : C} (h : nextP n cs ks e = some c) : ∃ es, e = .tuple es ∧ (axC cs es = some c ∨ resP n ks es = some c ∨ weakP n ks es = some c) := by
  unfold nextP at h
  split at h
  · rename_i t r
    refine ⟨_, rfl, ?_⟩
    split at h
    · exact .inl h
    · split at h
      · exact .inr (.inl h)
      · split at h
        · exact .inr (.inr h)
        · cases h
  · cases h
theorem nextP_cB {n : Int} {cs ks : List C} {e : Pd} {c : C} (hn : n ≤ 4) (hc : ∀ c ∈ cs, cB c) (hk : ∀ c ∈ ks, cB c) (h : nextP n cs ks e = some c) : cB c := by
  obtain ⟨es, rfl, h | h | h⟩ := nextP_cases h
  · obtain ⟨t, i, _, h⟩ := axC_some h
    exact hc _ (getI_mem h)
  · obtain ⟨t, a, b, v, x, y, _, _, _, hx, hy, h⟩ := resP_some h
    obtain ⟨_, _, rfl, _⟩ := resC_some h
    refine ⟨dsrt_lt _, fun l hl => ?_⟩
    rcases List.mem_append.mp (mem_dsrt.mp hl) with hl | hl
    · exact (hk _ (getI_mem hx)).2 l (List.mem_filter.mp hl).1
    · exact (hk _ (getI_mem hy)).2 l (List.mem_filter.mp hl).1
  · obtain ⟨t, a, x, d, _, _, hd, _⟩ := weakP_some h
    exact good_cB hn (clOf_some hd).2
def runP (n : Int) (cs : List C) : List C → List Pd → Option (List C)
  | ks, [] => some ks
  | ks, e :: es => (nextP n cs ks e).bind fun c => runP n cs (ks ++ [c]) es
theorem runP_app {n : Int} {cs : List C} : ∀ (es : List Pd) {ks : List C} {fs : List Pd}, runP n cs ks (es ++ fs) = (runP n cs ks es).bind fun ks' => runP n cs ks' fs
  | [], ks, fs => rfl
  | e :: es, ks, fs => by
    show (nextP n cs ks e).bind (fun c => runP n cs (ks ++ [c]) (es ++ fs)) = ((nextP n cs ks e).bind fun c => runP n cs (ks ++ [c]) es).bind _
    cases nextP n cs ks e with
    | none => rfl
    | some c => exact runP_app es
theorem runP_step {n : Int} {cs ks : List C} {es : List Pd} {m : Nat} {e : Pd} (he : es[m]? = some e) (h : runP n cs [] (es.take m) = some ks) : runP n cs [] (es.take (m + 1)) = (nextP n cs ks e).map fun c => ks ++ [c] := by
  have lt : m < es.length := (List.getElem?_eq_some_iff.mp he).1
  rw [List.take_succ, he]
  show runP n cs [] (es.take m ++ [e]) = _
  rw [runP_app, h, Option.bind_some]
  show (nextP n cs ks e).bind _ = _
  cases nextP n cs ks e <;> rfl
theorem runP_bad {n : Int} {cs ks : List C} {es : List Pd} {m : Nat} {e : Pd} (he : es[m]? = some e) (h : runP n cs [] (es.take m) = some ks) (hn : nextP n cs ks e = none) : runP n cs [] es = none := by
  have h1 : runP n cs [] (es.take (m + 1)) = none := by rw [runP_step he h, hn]; rfl
  rw [← List.take_append_drop (m + 1) es, runP_app, h1]
  rfl
theorem isN_oC (o : Option C) : isN (oC o) = o.isNone := by cases o <;> rfl
theorem nl_oC (o : Option C) : nl (oC o) = true := by
  cases o with
  | none => rfl
  | some c => exact nl_cl c
/-- raise WrongStep(k) with a local list -/
theorem l_raise {W : Wd} {p : Addr} {δ : Dn} {ds : List Pd} {C : Addr} {WX : L2.WX} {ta : TA} {Nx : Dn → List Pd → Prop} {P : Pd → Prop} {i : Nat} {k : Int} (hi : δ[i]? = some (.v (.ref p))) (h : ∀ W', Sub W W' → AvE W' ta (δ.set i (.d (.list ds))) [.int k]) (hk : 0 ≤ k ∧ k < 100)
    (hE : ∀ d σ H', W.G H' → WX (.ref C) (some d) σ H') : SmL W p (tRaiseWs C WX ta) δ ds Nx P := fun hp H σ g L en D nx rt => by
  have hl : ∀ a, W.N a → H a ≠ none := fun a n => W.live H a g (W.ns a n)
  refine h (W.at H W.N (fun _ h => h) hl) Wd.at_sub H σ ⟨g, Wd.rfl'⟩ (en.see hp L hi) _ fun vs dd H' r g' pd rd => ?_
  subst pd
  cases rd with
  | cons r1 r2 =>
    cases r2
    cases r1
    exact ⟨k, rfl, hk, fun d hd => hE _ _ _ (Wd.ofSame g'.1 (same_new hd _))⟩
theorem sm_go {W : Wd} {t : TS} {δ : Dn} {P : Pd → Prop} {H : Hp} {σ : Sl} {Q : VK} (g : W.G H) (en : En W.N H σ δ) (h : Sm W t δ (fun _ => False) P) (rt : ∀ v d H', W.R H H' → W.G H' → P d → Rp W.N H' v d → Q v H') : t { nx := fun _ H' => Q .non H', rt := Q } σ H :=
  h H σ g en _ (fun _ _ _ _ _ z _ => z.elim) rt
def okSteps (es : List Pd) : Prop := es.length ≤ 60 ∧ ∀ e ∈ es, ∃ ts, e = .tuple ts ∧ ∀ t ∈ ts, okD 19 t = true
def okF (n : Int) (cs : List K19.C) : Prop := n ≤ 4 ∧ ∀ c ∈ cs, cB c
def sp_clauses_of (Cw : Addr) : Sp := fun vs H Q E => ∃ (N : Addr → Prop) (n : Int) (cs : List K19.C) (es : List Pd), (∀ a, N a → H a ≠ none) ∧ RpA N H vs [fm n cs, .tuple es] ∧ okF n cs ∧ okSteps es ∧
  (∀ ks, runP n cs [] es = some ks → ∀ v H', Same H H' → Rp N H' v (.list (cls ks)) → Q v H') ∧ (runP n cs [] es = none → ∀ d H', Same H H' → E (.ref Cw) (some d) H')
abbrev N_clauses_of : List Str := ["formula", "steps", "clauses", "k", "step", "clause"]
theorem sc_clauses_of : FnScope N_clauses_of ["formula", "steps"] (defScope s_clauses_of) := ⟨rfl, rfl, rfl, by decide +kernel, rfl, by decide +kernel, by decide +kernel⟩
structure CalX (P : Program) (w : World) (K : PySem.W.Frag) (mg : Str → Option Value) (base : Heap) (k : Nat) (x : Str) (sp : Sp) : Prop where
  ex : ∃ (f : Addr) (fd : FuncData) (ps : List Str), FnOk P w K mg base (L2.CX P w) k f fd ps sp ∧ mg x = some (.ref f) ∧ PySem.W.keepIn K (.ref f) = true ∧ Binds K fd ps []
theorem ok_clauses_of {P : Program} {w : World} {K : PySem.W.Frag} {mg : Str → Option Value} {base : Heap} (B : Bl mg) (D : DefH K mg "clauses_of" s_clauses_of) {Cw fI : Addr} (T : PySem.WsX.WsTxt P K mg Cw fI) (htop : (P.main.scope.names.lookup ("super" : Str)).isSome = false)
    (c_next_clause : C8.Cal P w K mg base 5 "next_clause" sp_next_clause []) : CalX P w K mg base 6 "clauses_of" (sp_clauses_of Cw) := by
  obtain ⟨f, fd, F, m⟩ := D.ex
  refine ⟨f, fd, ["formula", "steps"], F.ok sc_clauses_of (fun vs H Q E h => ?_) (fun cdv A outer s H vs Q E hr h => ⟨_, (pss_cons (ps_set (i := 2) sc_clauses_of.nd rfl (Or.inl rfl) (pe_lst pa_nil))
      (pss_cons (ps_for (passes_of rfl) rfl (pi_enumT rfl B.enumerate_ (pa_cons (pv 1 rfl (Or.inl rfl)) pa_nil)) (pg_tup rfl (pgs_cons (pg_name (i := 3) sc_clauses_of.nd rfl (Or.inl rfl)) (pgs_cons (pg_name (i := 4) sc_clauses_of.nd rfl (Or.inl rfl)) pgs_nil)))
        (pss_cons (ps_set (i := 5) sc_clauses_of.nd rfl (Or.inl rfl) (C8.pe_c c_next_clause hr (by omega) rfl (pa_cons (pv 0 rfl (Or.inl rfl)) (pa_cons (pv 2 rfl (Or.inl rfl)) (pa_cons (pv 4 rfl (Or.inl rfl)) pa_nil)))))
        (pss_cons (ps_if (pt_cmpR op_isN (pv 5 rfl (Or.inl rfl)) pe_non (nomark _)) (pss_one (ps_raiseWs rfl T htop hr (takes_of rfl rfl rfl rfl) (pa_cons (pv 3 rfl (Or.inl rfl)) pa_nil))) pss_nil)
        (pss_one (ps_expr (pe_bm PySem.F.plainAttrs_list PySem.F.slot_list_append PySem.F.type_list_append mt_append (pv 2 rfl (Or.inl rfl)) (pa_cons (pv 5 rfl (Or.inl rfl)) pa_nil)))))))
      (pss_one (ps_ret (pv 2 rfl (Or.inl rfl)))))), ?_⟩), m, F.kp, F.bindsN (fun _ _ _ _ _ _ us hl => match us, hl with | [_, _], _ => rfl)⟩
  · obtain ⟨N, n, cs, es, _, rs, _⟩ := h
    exact rs.length
  obtain ⟨N, n, cs, es, hl, rs, hF, hS, hs, hn⟩ := h
  refine sm_go (W := pureW N H hl) (P := fun r => ∃ ks, runP n cs [] es = some ks ∧ r = .list (cls ks)) (fun _ _ e => e) (en_start rs) ?_ fun v d H' _ g' pd s => ?_
  rotate_left
  · obtain ⟨ks, e1, rfl⟩ := pd
    exact hs ks e1 v H' g' s
  refine l_open fun p => ?_
  refine l_seq (Mid := fun δ' ds' => ∃ ks a b c, runP n cs [] es = some ks ∧ ds' = cls ks ∧ δ' = [.d (fm n cs), .d (.tuple es), .v (.ref p), a, b, c]) (l_for2 (n := es.length) (fun W' hW => i_enumT (e_var rfl)) (fun m δ' ds' => ∃ ks a b c, runP n cs [] (es.take m) = some ks ∧ ds' = cls ks ∧ δ' = [.d (fm n cs), .d (.tuple es), .v (.ref p), a, b, c] ∧ (∀ k ∈ ks, cB k) ∧ ks.length = m) ?_ ?_ ?_) ?_
  · exact ⟨[], _, _, _, rfl, rfl, rfl, fun k (hk : k ∈ []) => (List.not_mem_nil hk).elim, rfl⟩
  · rintro m x y δ' ds' hm hx hy ⟨ks, a, b, c, hrun, rfl, rfl, hkB, hkl⟩
    cases hx
    obtain ⟨ts, rfl, hts⟩ := hS.2 y (List.mem_of_getElem? hy)
    refine lq_asg (i := 2) rfl (A := fun d => d = oC (nextP n cs ks (.tuple ts))) (fun W' hW => u_next_clause (a_cons (e_var rfl) (a_cons (e_var rfl) (a_cons (e_var rfl) a_nil))) (fun c hc => cB_len30 (hkB c hc)) hts) (fun d e => by subst e; exact nl_oC _) ?_
    rintro _ rfl
    refine lq_if (i := 2) rfl (fun W' hW => t_test (e_isN (e_var rfl))) (fun e => ?_) fun e => ?_
    · rw [isN_oC] at e
      refine l_raise (i := 2) rfl (fun W' hW => a_cons (e_var rfl) a_nil) (by have := hS.1; omega) fun d σ H' g' => hn (runP_bad hy hrun ?_) d H' g'
      cases q : nextP n cs ks (.tuple ts) with
      | none => rfl
      | some c => rw [q] at e; cases e
    · rw [isN_oC] at e
      cases q : nextP n cs ks (.tuple ts) with
      | none => rw [q] at e; cases e
      | some c =>
        have hk : (cls ks).length < 100000 := by rw [cls_len]; have := hS.1; omega
        refine l_app (i := 2) rfl (A := fun d => d = oC (some c)) (fun W' hW => (e_var rfl).mono fun d e => e) (fun d e => by subst e; exact nl_oC _) hk ?_
        rintro _ rfl
        refine ⟨ks ++ [c], _, _, _, by rw [runP_step hy hrun, q]; rfl, by unfold cls; rw [List.map_append]; rfl, rfl, fun k hk => ?_, by rw [List.length_append, hkl]; rfl⟩
        rcases List.mem_append.mp hk with hk | hk
        · exact hkB k hk
        · rw [List.mem_singleton.mp hk]
          exact nextP_cB hF.1 hF.2 hkB q
  · rintro δ' ds' ⟨ks, a, b, c, h1, h2, h3, _⟩
    rw [List.take_length] at h1
    exact ⟨ks, a, b, c, h1, h2, h3⟩
  · rintro δ' ds' ⟨ks, a, b, c, h1, rfl, rfl⟩
    exact l_ret (i := 2) rfl fun W' hW => (e_var rfl).mono fun d e => ⟨ks, h1, e⟩
end K19
end
section
set_option Elab.async false
set_option linter.all false
set_option maxRecDepth 100000
set_option maxHeartbeats 4000000
namespace K19
open PySem L2
local macro_rules | `(tactic| walk_at "ev1") => `(tactic| first
  | exact e_var rfl | exact e_int | exact e_bl | exact e_non | exact e_str | exact a_nil | exact t_yes
  | refine a_cons ?_ ?_
  | (refine e_un ?_ (u_neg rfl))
  | (refine e_op ?_ ?_ (o_bl rfl)) | (refine e_op ?_ ?_ (o_int rfl))
  | (refine e_op ?_ ?_ (o_eqI rfl)) | (refine e_op ?_ ?_ (o_neI rfl))
  | (refine t_test ?_) | (refine t_B ?_) | (refine t_not ?_) | (refine e_notV ?_)
  | (refine e_cb ?_ (c_abs rfl)) | (refine e_cb ?_ (c_int rfl)))
local macro_rules | `(tactic| walk_at "ev") => `(tactic| repeat' walk_at "ev1")
def isTup : Pd → Bool
  | .tuple _ => true
  | _ => false
theorem isT_tup (d : Pd) : isT "tuple" d = isTup d := by cases d <;> simp [isT, tyN, isTup]
theorem isT_lst (d : Pd) : isT "list" d = (match d with | .list _ => true | _ => false) := by cases d <;> simp [isT, tyN]
def areT : Pd → Bool
  | .tuple (e :: es) => (e :: es).all isTup
  | _ => false
theorem lay_ints : ∀ c : C, PyData.canLayAll0 (c.map .int) = true ∧ PyData.depthAll (c.map .int) ≤ 1
  | [] => ⟨by simp [PyData.canLayAll0], by simp [PyData.depthAll]⟩
  | a :: c => by
    obtain ⟨h1, h2⟩ := lay_ints c
    refine ⟨by simp [PyData.canLayAll0, PyData.canLay0, h1], ?_⟩
    simp only [List.map_cons, PyData.depthAll, PyData.depth]
    omega
theorem shaped_cl (c : C) : SeqAt.shaped (cl c) = true := by
  obtain ⟨h1, h2⟩ := lay_ints c
  have e1 : PyData.canLay0 (cl c) = true := by simpa [cl, PyData.canLay0] using h1
  have e2 : (cl c).depth ≤ 2 := by
    unfold cl
    simp only [PyData.depth]
    omega
  unfold SeqAt.shaped
  rw [e1]
  simp only [Bool.true_and, decide_eq_true_eq]
  omega
/-! ### are_tuples -/
def pre_are_tuples : List Pd → Prop := fun ds => ∃ d, ds = [d] ∧ sm d
def f_are_tuples : List Pd → Pd → Prop := fun ds r => ∀ d, ds = [d] → r = .bool (areT d)
abbrev sp_are_tuples : Sp := spR pre_are_tuples f_are_tuples
abbrev N_are_tuples : List Str := ["value", "item"]
theorem sc_are_tuples : FnScope N_are_tuples ["value"] (defScope s_are_tuples) := ⟨rfl, rfl, rfl, by decide +kernel, rfl, by decide +kernel, by decide +kernel⟩
theorem ok_are_tuples {P : Program} {w : World} {K : PySem.W.Frag} {mg : Str → Option Value} {base : Heap} (B : Bl mg) (D : DefH K mg "are_tuples" s_are_tuples)  : C8.Cal P w K mg base 1 "are_tuples" sp_are_tuples [] := by
  refine cal_of D sc_are_tuples (fun _ _ _ _ _ _ us hl => match us, hl with | [_], _ => rfl) (fun ds h => ?_) fun fa cdv A outer s H E hr => ⟨_, (pss_one (ps_ret (pe_and (pe_callB (r := rIsi K) call_isi rfl B.isinstance_ (by decide +kernel) (pa_cons (pv 0 rfl (Or.inl rfl)) (pa_cons (pe_bltn (v := .ty "tuple") rfl B.tuple_ (by decide +kernel) rfl) pa_nil))) (pe_and (pe_cmpR op_gt (pe_callB (r := rLn K) call_len_seq rfl B.len_ (by decide +kernel) (pa_cons (pv 0 rfl (Or.inl rfl)) pa_nil)) pe_int (nomark _)) (pe_one (pe_callB (r := rAll K) (cr_all rfl) rfl B.all_ (by decide +kernel) (pa_cons (pe_lc (own := [("item", 1)]) (g := gName 1) (tt := tYes) rfl sc_are_tuples.nd (pi_tup (pv 0 rfl (Or.inl rfl))) (blkOk_by (N := N_are_tuples) (sc := defScope s_are_tuples) (by decide +kernel)) (fun _ _ _ _ _ => pg_name (i := 1) sc_are_tuples.nd rfl (Or.inl rfl)) (fun _ _ _ _ _ => pts_nil) (fun _ _ _ _ _ => (pe_callB (r := rIsi K) call_isi rfl B.isinstance_ (by decide +kernel) (pa_cons (pv 1 rfl (Or.inl rfl)) (pa_cons (pe_bltn (v := .ty "tuple") rfl B.tuple_ (by decide +kernel) rfl) pa_nil))))) pa_nil))))))), fun W ds h => ?_⟩
  · obtain ⟨_, rfl, _⟩ := h
    rfl
  · obtain ⟨d, rfl, hd⟩ := h
    refine sm_ret ?_
    cases ht : isT "tuple" d with
    | false =>
      refine (e_andV (x := false) (y := false) ((e_isi (e_var rfl)).is (by rw [ht])) (fun e => nomatch e)).mono ?_
      rintro _ rfl d' q
      have q1 : d = d' := by injection q
      subst q1
      cases d <;> first | rfl | simp [isT, tyN] at ht
    | true =>
      obtain ⟨es, rfl⟩ : ∃ es, d = .tuple es := by cases d <;> first | exact ⟨_, rfl⟩ | simp [isT, tyN] at ht
      have hl := hd es rfl
      refine (e_andV (x := true) ((e_isi (e_var rfl)).is (by rw [ht])) (fun _ => e_andV (e_opB (e_lenT (e_var rfl)) e_int) fun _ => e_all (e_mapDB isTup (i_tup (e_var rfl)) (fun x m => (e_isi (e_var rfl)).is (by rw [isT_tup])) (by omega)))).mono ?_
      rintro _ rfl d' q
      have q1 : PyData.tuple es = d' := by injection q
      subst q1
      rw [all_id]
      cases es with
      | nil => rfl
      | cons e es =>
        rw [decide_eq_true (show (0 : Int) < ((e :: es).length : Nat) by rw [List.length_cons]; omega)]
        rfl
theorem u_are_tuples {W : Wd} {δ : Dn} {tr : TA} {E : XK} {d : Pd} (h : AvE W tr δ [d]) (hd : sm d) : EvE W (tCall sp_are_tuples [] E tr) δ (.bool (areT d)) := (e_callR h ⟨d, rfl, hd⟩).mono fun r_ k => k d rfl
def refP (n : Int) (cs : List C) (d : Pd) : Bool := areT d && match d with
  | .tuple es => (match runP n cs [] es with
    | some ks => decide (ks.getLast? = some [])
    | none => false)
  | _ => false
theorem areT_of {d : Pd} (h : areT d = true) : ∃ es, d = .tuple es ∧ es ≠ [] ∧ ∀ e ∈ es, ∃ ts, e = .tuple ts := by
  cases d with
  | tuple es => cases es with
    | nil => cases h
    | cons e es =>
      refine ⟨_, rfl, List.cons_ne_nil _ _, fun x hx => ?_⟩
      have := List.all_eq_true.mp h x hx
      cases x with
      | tuple ts => exact ⟨ts, rfl⟩
      | _ => cases this
  | _ => cases h
theorem ok_steps {es : List Pd} (h : okD 21 (.tuple es) = true) (ht : ∀ e ∈ es, ∃ ts, e = .tuple ts) : okSteps es := by
  obtain ⟨h1, k, hk, h2⟩ := okD_tuple h
  refine ⟨by omega, fun e he => ?_⟩
  obtain ⟨ts, rfl⟩ := ht e he
  obtain ⟨h3, k2, hk2, h4⟩ := okD_tuple (h2 _ he)
  exact ⟨ts, rfl, fun t ht => okD_mono (h4 t ht) (by omega)⟩
theorem atI_last {α : Type} {xs : List α} {x : α} (h : xs.getLast? = some x) : L2.atI xs (-1) = some x := by
  rw [List.getLast?_eq_getElem?] at h
  have lt := (List.getElem?_eq_some_iff.mp h).1
  have e : L2.ixN xs.length (-1) = some (xs.length - 1) := by
    unfold L2.ixN
    rw [if_neg (by omega), if_pos (by omega)]
    congr 1
    omega
  unfold L2.atI
  rw [e]
  exact h
theorem eqv_nil (c : C) : PyData.eqv (cl c) (.tuple []) = decide (c = []) := by
  cases c with
  | nil => rfl
  | cons a c => rfl
/-- a value that stands -/
theorem ev_val {W : Wd} {H : Hp} {hl : ∀ a, W.N a → H a ≠ none} {v : V} {d : Pd} {δ : Dn} {P : Pd → Prop} (g : W.G H) (h : Rp W.N H v d) (hp : P d) : Ev (W.at H W.N (fun _ h => h) hl) (fun _ H Q => Q v H) δ P := fun H' σ g' en Q q => q v d H' Wd.rfl' g' hp (Wd.rp g g'.2 h)
abbrev tNeg1 : TE := tUn (rU fun i => .int (-i)) (tC (.int 1))
abbrev tb_ref (K : PySem.W.Frag) (Cw : Addr) : WX → TS := fun W => tRet (tOp (rEqD K) (tOp (rIx K) (tCallS (sp_clauses_of Cw) (WE W) (tCons (tVar 0) (tCons (tVar 1) tNil))) tNeg1) (tTup tNil))
theorem sm_tryRef {W : Wd} {K : PySem.W.Frag} {Cw : Addr} {δ : Dn} {Nx : Dn → Prop} {n : Int} {cs : List C} {es : List Pd} (te : PySem.W.exmOne K (.ref Cw) (.ref Cw) = some true) (h0 : δ[0]? = some (.d (fm n cs))) (h1 : δ[1]? = some (.d (.tuple es))) (hF : okF n cs) (hS : okSteps es) (hne : es ≠ []) :
    Sm W (fun D σ H => tb_ref K Cw (wOnly K (.ref Cw) (fun _ _ _ => tRet (tC (.bl false))) (fun _ _ _ _ => False) D) D σ H) δ Nx (fun r => r = .bool (match runP n cs [] es with
    | some ks => decide (ks.getLast? = some [])
    | none => false)) := fun H σ g en D nx rt => by
  have ea : AvE W (tCons (tVar 0) (tCons (tVar 1) tNil)) δ [fm n cs, .tuple es] := a_cons (e_var h0) (a_cons (e_var h1) a_nil)
  show (tCons (tVar 0) (tCons (tVar 1) tNil)) σ H (fun vs H1 => sp_clauses_of Cw vs H1 (fun v H2 => tNeg1 σ H2 fun y H3 => rIx K v y H3 (fun x H4 => tTup tNil σ H4 fun y2 H5 => rEqD K x y2 H5 D.rt)) (WE (wOnly K (.ref Cw) (fun _ _ _ => tRet (tC (.bl false))) (fun _ _ _ _ => False) D) σ))
  refine ea H σ g en _ fun vs ds H1 r1 g1 p1 s1 => ?_
  subst p1
  have hl : ∀ a, W.N a → H1 a ≠ none := fun a n => W.live H1 a g1 (W.ns a n)
  refine ⟨W.N, n, cs, es, hl, s1, hF, hS, fun ks hr v H2 e2 rv => ?_, fun hr d H2 e2 => ?_⟩
  · have g2 := Wd.ofSame g1 e2
    have hl2 : ∀ a, W.N a → H2 a ≠ none := fun a n => W.live H2 a g2 (W.ns a n)
    have lks : ks.length = es.length := by
      have key : ∀ (es : List Pd) (k0 ks : List C), runP n cs k0 es = some ks → ks.length = k0.length + es.length := by
        intro es
        induction es with
        | nil =>
          intro k0 ks h
          cases h
          rfl
        | cons e es ih =>
          intro k0 ks h
          cases q : nextP n cs k0 e with
          | none =>
            rw [show runP n cs k0 (e :: es) = (nextP n cs k0 e).bind _ from rfl, q] at h
            cases h
          | some c =>
            rw [show runP n cs k0 (e :: es) = (nextP n cs k0 e).bind _ from rfl, q] at h
            have := ih _ _ h
            simp at this ⊢
            omega
      have := key es [] ks hr
      simpa using this
    obtain ⟨c, hc⟩ : ∃ c, ks.getLast? = some c := by
      cases q : ks.getLast? with
      | some c => exact ⟨c, rfl⟩
      | none =>
        rw [List.getLast?_eq_none_iff] at q
        rw [q] at lks
        exact absurd (List.length_eq_zero_iff.mp lks.symm) hne
    have hc' : (cls ks).getLast? = some (cl c) := by
      unfold cls
      rw [List.getLast?_map, hc]
      rfl
    rw [hr] at rt
    have ev : Ev (W.at H2 W.N (fun _ h => h) hl2) (tOp (rEqD K) (tOp (rIx K) (fun _ H Q => Q v H) tNeg1) (tTup tNil)) δ (fun r => r = .bool (decide (ks.getLast? = some []))) := by
      refine (e_eqD (a := cl c) (b := .tuple []) (e_op (ev_val g2 rv rfl) (e_neg e_int) (o_ix (.inr rfl) (atI_last hc') rfl)) (e_tup a_nil) (by have := nl_cl c; exact shaped_cl c) (by decide +kernel)).mono ?_
      rintro _ rfl
      rw [eqv_nil, hc]
      simp
    exact ev H2 σ ⟨g2, Wd.rfl'⟩ (en.go g (Wd.trans r1 (Wd.rSame e2))) _ fun v' d' H3 r3 g3 p3 s3 => rt v' d' H3 (Wd.trans r1 (Wd.trans (Wd.rSame e2) r3)) g3.1 p3 s3
  · rw [hr] at rt
    refine ⟨true, te, fun _ a _ => ?_, fun z => nomatch z⟩
    exact rt (.bl false) (.bool false) H2 (Wd.trans r1 (Wd.rSame e2)) (Wd.ofSame g1 e2) rfl (.bl false)
def pre_is_refutation : List Pd → Prop := fun ds => ∃ (n : Int) (cs : List C) (d : Pd), ds = [fm n cs, d] ∧ okF n cs ∧ okD 21 d = true
def f_is_refutation : List Pd → Pd → Prop := fun ds r => ∀ (n : Int) (cs : List C) (d : Pd), ds = [fm n cs, d] → r = .bool (refP n cs d)
abbrev sp_is_refutation : Sp := spR pre_is_refutation f_is_refutation
abbrev N_is_refutation : List Str := ["formula", "value"]
theorem sc_is_refutation : FnScope N_is_refutation ["formula", "value"] (defScope s_is_refutation) := ⟨rfl, rfl, rfl, by decide +kernel, rfl, by decide +kernel, by decide +kernel⟩
theorem ok_is_refutation {P : Program} {w : World} {K : PySem.W.Frag} {mg : Str → Option Value} {base : Heap} (B : Bl mg) (D : DefH K mg "is_refutation" s_is_refutation) {Cw fI : Addr} (T : PySem.WsX.WsTxt P K mg Cw fI)
    (c_are_tuples : C8.Cal P w K mg base 1 "are_tuples" sp_are_tuples []) (c_clauses_of : CalX P w K mg base 6 "clauses_of" (sp_clauses_of Cw)) : C8.Cal P w K mg base 7 "is_refutation" sp_is_refutation [] := by
  obtain ⟨fx, fdx, psx, FX, mx, kx, bx⟩ := c_clauses_of.ex
  refine cal_of D sc_is_refutation (fun _ _ _ _ _ _ us hl => match us, hl with | [_, _], _ => rfl) (fun ds h => ?_) fun fa cdv A outer s H E hr => ⟨_, (pss_cons (ps_if (pt_not (pt_val (C8.pe_c c_are_tuples hr (by omega) rfl (pa_cons (pv 1 rfl (Or.inl rfl)) pa_nil)))) (pss_one (ps_ret pe_bl)) pss_nil)
    (pss_one (ps_try_only (tb := tb_ref K Cw) (ts := fun _ _ _ => tRet (tC (.bl false))) (Wout := fun _ _ _ _ => False) rfl rfl ⟨rfl, by decide, Or.inl T.gC⟩ takes0
      (fun W pn xe tk _ => pss_one (ps_ret (by exact (pe_cmpR (r := rEqD K) (op_eqD hr.units) (pe_ix (r := rIx K) ix_seq (pe_callS FX (hr.mono (by omega)) rfl mx kx bx (fun σ => passAt tk σ) (pa_cons (pv 0 rfl (Or.inl rfl)) (pa_cons (pv 1 rfl (Or.inl rfl)) pa_nil))) (pe_un un_neg pe_int) (fun _ _ => rfl)) (pe_tup pa_nil) (nomark _)))))
      (fun a oe cls d pn hz hf => pss_one (ps_ret pe_bl))))), fun W ds h => ?_⟩
  · obtain ⟨_, _, _, rfl, _⟩ := h
    rfl
  · obtain ⟨n, cs, d, rfl, hF, ho⟩ := h
    suffices hh : Sm W _ (args N_is_refutation.length [fm n cs, d]) (fun _ => False) (fun r => r = .bool (refP n cs d)) from sm_mono hh (by
      rintro _ rfl n' cs' d' q
      obtain ⟨q1, q2⟩ := args2 q
      obtain ⟨q3, q4⟩ := fm_inj q1
      rw [q3, q4, q2])
    refine q_if (t_not (t_test (u_are_tuples (a_cons (e_var rfl) a_nil) (okD_sm ho)))) (fun e => ?_) fun e => ?_
    · have e1 : areT d = false := by simpa using e
      have e2 : refP n cs d = false := by unfold refP; rw [e1]; rfl
      rw [e2]
      exact sm_ret e_bl
    · have e1 : areT d = true := by simpa using e
      obtain ⟨es, rfl, hne, ht⟩ := areT_of e1
      refine sm_mono (sm_tryRef (n := n) (cs := cs) (es := es) T.te rfl rfl hF (ok_steps ho ht) hne) ?_
      rintro _ rfl
      unfold refP
      rw [e1]
      rfl
end K19
end
section
set_option Elab.async false
set_option linter.all false
set_option maxRecDepth 100000
set_option maxHeartbeats 4000000
namespace K19
open PySem L2
local macro_rules | `(tactic| walk_at "ev1") => `(tactic| first
  | exact e_var rfl | exact e_int | exact e_bl | exact e_non | exact e_str | exact a_nil | exact t_yes
  | refine a_cons ?_ ?_
  | (refine e_un ?_ (u_neg rfl))
  | (refine e_op ?_ ?_ (o_bl rfl)) | (refine e_op ?_ ?_ (o_int rfl))
  | (refine e_op ?_ ?_ (o_eqI rfl)) | (refine e_op ?_ ?_ (o_neI rfl))
  | (refine t_test ?_) | (refine t_B ?_) | (refine t_not ?_) | (refine e_notV ?_)
  | (refine e_cb ?_ (c_abs rfl)) | (refine e_cb ?_ (c_int rfl)))
local macro_rules | `(tactic| walk_at "ev") => `(tactic| repeat' walk_at "ev1")
def solP (n : Int) (cs : List C) : Pd → Bool
  | .tuple [t, x] => if isS "model" t then (match clOf n x with
    | some c => isMod n cs c
    | none => false) else isS "refutation" t && refP n cs x
  | _ => false
theorem solP_ne {n : Int} {cs : List C} {es : List Pd} (h : es.length ≠ 2) : solP n cs (.tuple es) = false := by
  unfold solP
  split
  · rename_i h2
    injection h2 with h2
    rw [h2] at h
    simp at h
  · rfl
theorem solP_nt {n : Int} {cs : List C} {d : Pd} (h : isT "tuple" d = false) : solP n cs d = false := by
  cases d <;> first | rfl | simp [isT, tyN] at h
theorem isT_of {d : Pd} (h : isT "tuple" d = true) : ∃ es, d = .tuple es := by cases d <;> first | exact ⟨_, rfl⟩ | simp [isT, tyN] at h
theorem s_bool {W : Wd} {δ : Dn} {Nx : Dn → Prop} {b : Bool} {d : Pd} (h : PyData.bool b = d) : Sm W (tRet (tC (.bl b))) δ Nx (fun r => r = d) := by
  subst h
  exact sm_ret e_bl
theorem t_isS {W : Wd} {δ : Dn} {te : TE} {K : PySem.W.Frag} {d : Pd} {x : Str} (h : EvE W te δ d) (hd : okD 40 d = true) (hx : SeqAt.shaped (.str x) = true := by decide +kernel) : EvE W (tOp (rEqD K) te (tC (.str x))) δ (.bool (isS x d)) :=
  (e_eqD h e_str (okD_shaped hd) hx).is (by rw [eqv_str])
theorem t_neS {W : Wd} {δ : Dn} {te : TE} {K : PySem.W.Frag} {d : Pd} {x : Str} (h : EvE W te δ d) (hd : okD 40 d = true) (hx : SeqAt.shaped (.str x) = true := by decide +kernel) : EvE W (tOp (rNeD K) te (tC (.str x))) δ (.bool (!isS x d)) :=
  (e_neD h e_str (okD_shaped hd) hx).is (by rw [eqv_str])
def okV (d : Pd) : Prop := okD 22 d = true
/-! ### is_solved -/
def pre_is_solved : List Pd → Prop := fun ds => ∃ (n : Int) (cs : List C) (d : Pd), ds = [fm n cs, d] ∧ okF n cs ∧ cs.length ≤ 1000 ∧ okV d
def f_is_solved : List Pd → Pd → Prop := fun ds r => ∀ (n : Int) (cs : List C) (d : Pd), ds = [fm n cs, d] → r = .bool (solP n cs d)
abbrev sp_is_solved : Sp := spR pre_is_solved f_is_solved
abbrev N_is_solved : List Str := ["formula", "value"]
theorem sc_is_solved : FnScope N_is_solved ["formula", "value"] (defScope s_is_solved) := ⟨rfl, rfl, rfl, by decide +kernel, rfl, by decide +kernel, by decide +kernel⟩
theorem ok_is_solved {P : Program} {w : World} {K : PySem.W.Frag} {mg : Str → Option Value} {base : Heap} (B : Bl mg) (D : DefH K mg "is_solved" s_is_solved) (c_is_clause : C8.Cal P w K mg base 2 "is_clause" sp_is_clause []) (c_is_model : C8.Cal P w K mg base 2 "is_model" sp_is_model []) (c_is_refutation : C8.Cal P w K mg base 7 "is_refutation" sp_is_refutation []) : C8.Cal P w K mg base 8 "is_solved" sp_is_solved [] := by
  refine cal_of D sc_is_solved (fun _ _ _ _ _ _ us hl => match us, hl with | [_, _], _ => rfl) (fun ds h => ?_) fun fa cdv A outer s H E hr => ⟨_, (pss_cons (ps_if (PW.pt (pw_or (pt_not (pt_val (pe_callB (r := rIsi K) call_isi rfl B.isinstance_ (by decide +kernel) (pa_cons (pv 1 rfl (Or.inl rfl)) (pa_cons (pe_bltn (v := .ty "tuple") rfl B.tuple_ (by decide +kernel) rfl) pa_nil))))) (pw_or1 (pt_cmpR op_ne (pe_callB (r := rLn K) call_len_seq rfl B.len_ (by decide +kernel) (pa_cons (pv 1 rfl (Or.inl rfl)) pa_nil)) pe_int (nomark _))))) (pss_one (ps_ret pe_bl)) pss_nil)
    (pss_cons (ps_if (pt_cmpR (r := rEqD K) (op_eqD hr.units) (pe_ix (r := rIx K) ix_seq (pv 1 rfl (Or.inl rfl)) pe_int (fun _ _ => rfl)) pe_str (nomark _)) (pss_one (ps_ret (pe_and (C8.pe_c c_is_clause hr (by first | decide | omega) rfl (pa_cons (pe_ix (r := rIx K) ix_seq (pv 0 rfl (Or.inl rfl)) pe_int (fun _ _ => rfl)) (pa_cons (pe_ix (r := rIx K) ix_seq (pv 1 rfl (Or.inl rfl)) pe_int (fun _ _ => rfl)) pa_nil))) (pe_one (C8.pe_c c_is_model hr (by first | decide | omega) rfl (pa_cons (pv 0 rfl (Or.inl rfl)) (pa_cons (pe_ix (r := rIx K) ix_seq (pv 1 rfl (Or.inl rfl)) pe_int (fun _ _ => rfl)) pa_nil))))))) pss_nil)
    (pss_one (ps_ret (pe_and (pe_cmpR (r := rEqD K) (op_eqD hr.units) (pe_ix (r := rIx K) ix_seq (pv 1 rfl (Or.inl rfl)) pe_int (fun _ _ => rfl)) pe_str (nomark _)) (pe_one (C8.pe_c c_is_refutation hr (by first | decide | omega) rfl (pa_cons (pv 0 rfl (Or.inl rfl)) (pa_cons (pe_ix (r := rIx K) ix_seq (pv 1 rfl (Or.inl rfl)) pe_int (fun _ _ => rfl)) pa_nil))))))))), fun W ds h => ?_⟩
  · obtain ⟨_, _, _, rfl, _⟩ := h
    rfl
  · obtain ⟨n, cs, d, rfl, hF, hcl, ho⟩ := h
    suffices hh : Sm W _ (args N_is_solved.length [fm n cs, d]) (fun _ => False) (fun r => r = .bool (solP n cs d)) from sm_mono hh (by
      rintro _ rfl n' cs' d' q
      obtain ⟨q1, q2⟩ := args2 q
      obtain ⟨q3, q4⟩ := fm_inj q1
      rw [q3, q4, q2])
    cases ht : isT "tuple" d with
    | false =>
      rw [solP_nt ht]
      exact q_or1 (t_not ((t_test (e_isi (e_var rfl))).is ht)) (s_bool rfl)
    | true =>
      obtain ⟨es, rfl⟩ := isT_of ht
      by_cases hl : es.length = 2
      · obtain ⟨t, x, rfl⟩ := len2 hl
        have hk : okD 21 t = true ∧ okD 21 x = true := by
          obtain ⟨_, k, e, h⟩ := okD_tuple ho
          have e' : k = 21 := by omega
          subst e'
          exact ⟨h t (by simp), h x (by simp)⟩
        refine q_if (b := false || false) (t_or (t_not ((t_test (e_isi (e_var rfl))).is ht)) fun _ => (t_test (e_neI (e_lenT (e_var rfl)) e_int)).is rfl) (fun e => nomatch e) fun _ => ?_
        refine q_if (t_test (t_isS (e_ixT (e_var rfl) e_int rfl) (okD_mono hk.1 (by omega)))) (fun e => ?_) fun e => ?_
        · have e0 : solP n cs (.tuple [t, x]) = (isCl n x && match clOf n x with
              | some c => isMod n cs c
              | none => false) := by
            show (if isS "model" t = true then _ else _) = _
            rw [if_pos e]
            unfold isCl
            cases clOf n x <;> rfl
          rw [e0]
          refine sm_ret (e_andV (u_is_clause (a_cons (e_ixT (e_var rfl) e_int rfl) (a_cons (e_ixT (e_var rfl) e_int rfl) a_nil)) (okD_sm hk.2)) fun hc => ?_)
          unfold isCl at hc
          cases q : clOf n x with
          | none => rw [q] at hc; cases hc
          | some c =>
            obtain ⟨rfl, hg⟩ := clOf_some q
            exact u_is_model (a_cons (e_var rfl) (a_cons (e_ixT (e_var rfl) e_int rfl) a_nil)) (by omega) fun e he => by have := cB_len (hF.2 e he); omega
        · have e0 : solP n cs (.tuple [t, x]) = (isS "refutation" t && refP n cs x) := by
            show (if isS "model" t = true then _ else _) = _
            rw [if_neg (by rw [e]; decide)]
          rw [e0]
          exact sm_ret (e_andV (t_isS (e_ixT (e_var rfl) e_int rfl) (okD_mono hk.1 (by omega))) fun _ => (e_callR (a_cons (e_var rfl) (a_cons (e_ixT (e_var rfl) e_int rfl) a_nil)) ⟨n, cs, x, rfl, hF, hk.2⟩).mono fun r k => k n cs x rfl)
      · rw [solP_ne hl]
        exact q_if (b := true) (t_or (x := false) (y := true) (t_not ((t_test (e_isi (e_var rfl))).is ht)) fun _ => (t_test (e_neI (e_lenT (e_var rfl)) e_int)).is (by simp; omega)) (fun _ => s_bool rfl) (fun e => nomatch e)
theorem u_is_solved {W : Wd} {δ : Dn} {tr : TA} {E : XK} {n : Int} {cs : List C} {x : Pd} (h : AvE W tr δ [fm n cs, x]) (hF : okF n cs) (hl : cs.length ≤ 1000) (hx : okV x) : EvE W (tCall sp_is_solved [] E tr) δ (.bool (solP n cs x)) := (e_callR h ⟨n, cs, x, rfl, hF, hl, hx⟩).mono fun r_ k => k n cs x rfl
/-! ## the law's own defs -/
theorem filt0 {α : Type} (l : List α) (c : α → Bool) : decide ((((l.filter c).length : Nat) : Int) = 0) = l.all fun x => !c x := by
  rw [Bool.eq_iff_iff, decide_eq_true_iff, List.all_eq_true]
  constructor
  · intro h x hx
    have : (l.filter c).length = 0 := by omega
    have e := List.length_eq_zero_iff.mp this
    cases q : c x with
    | false => rfl
    | true =>
      have m : x ∈ l.filter c := List.mem_filter.mpr ⟨hx, q⟩
      rw [e] at m
      cases m
  · intro h
    have e : l.filter c = [] := List.filter_eq_nil_iff.mpr fun x hx z => by
      have := h x hx
      rw [z] at this
      cases this
    rw [e]
    rfl
theorem filtP {α : Type} (l : List α) (c : α → Bool) : decide ((((l.filter c).length : Nat) : Int) > 0) = !l.all fun x => !c x := by
  rw [← filt0]
  by_cases h : (l.filter c).length = 0
  · rw [h]
    rfl
  · rw [decide_eq_true (show (((l.filter c).length : Nat) : Int) > 0 by omega), decide_eq_false (show ¬ (((l.filter c).length : Nat) : Int) = 0 by omega)]
    rfl
/-- len([..]) where the items may bear lists -/
theorem e_lcLen {W : Wd} {δ : Dn} {te : TE} {tt : TT} {K : PySem.W.Frag} {wi : TI} {j : Nat} {vs : List Nat} {ds : List Pd} (c : Pd → Bool) (hi : ItE W wi δ ds) (ht : ∀ x, x ∈ ds → TvE W tt (δ.set j (.d x)) (c x)) (he : ∀ x, x ∈ ds → c x = true → EvE W te (δ.set j (.d x)) x) (hlen : ds.length ≤ 100000)
    (hw : okW δ vs = true := by rfl) (hj : j ∈ vs := by decide) : EvE W (tCB (rLn K) (tCons (tLc wi (gName j) tt te vs) tNil)) δ (.int (ds.filter c).length) := fun H σ g en Q q => by
  refine hi H σ g en _ fun J H1 xs r1 g1 rs wk => ?_
  intro D hD
  have hDN : ¬ W.N D := Wd.frN g1 hD
  have hDS : ¬ W.S D := Wd.fr g1 hD
  have hDX : ¬ W.X D := fun z => hDN (W.xn D z)
  have en1 : En W.N H1 σ δ := en.go g r1
  have avoid : ∀ {v d}, Rp W.N H1 v d → Rp (fun a => W.N a ∨ a = D) H1 v d := fun {v d} h => h.fresh hD
  have weak : ∀ {H2 v d}, Rp (fun a => W.N a ∨ a = D) H2 v d → Rp W.N H2 v d := fun {H2 v d} h => h.weak fun a z => .inl z
  have step : ∀ {H2 H3 v d}, W.G H2 → W.R H2 H3 → Rp (fun a => W.N a ∨ a = D) H2 v d → Rp (fun a => W.N a ∨ a = D) H3 v d := fun {H2 H3 v d} g2 r h => Rp.keep (Wd.tups g2 r) (fun a xs n e => r a _ (fun z => n (.inl (W.xn a z))) e) (fun _ _ _ z => z) d v h
  refine lc_it wk (fun i H2 => W.G H2 ∧ (∀ a o, ¬ W.X a → H1 a = some o → H2 a = some o) ∧ En (fun a => W.N a ∨ a = D) H2 σ δ ∧ RpA (fun a => W.N a ∨ a = D) H2 xs ds ∧ ∃ acc, H2 D = some (.lst acc) ∧ acc.length = ((ds.take i).filter c).length) ?_ ?_ ?_ ?_
  · have s := same_new hD (.lst [])
    refine ⟨Wd.ofSame g1 s, fun a o _ e => s a o e, ((en1.map fun _ _ h => avoid h).same s), ?_, [], upd_same, rfl⟩
    exact (RpA.keep (fun _ _ e => e) (fun _ _ _ e => e) (fun a xs e z => by
      rcases z with z | rfl
      · exact z
      · rw [hD] at e
        cases e) ds xs rs).same s
  · rintro i H2 hle ⟨_, k, _⟩
    exact k
  · rintro i v H2 H2' hlt ⟨g2, k2, en2, rs2, acc, hacc, hlc⟩ ⟨e, hv⟩
    subst e
    obtain ⟨x, hx, rx⟩ := rs2.getV hv
    have hmem : x ∈ ds := List.mem_of_getElem? hx
    have enx : En (fun a => W.N a ∨ a = D) H2' ((L2.wipe σ vs).set j (some v)) (δ.set j (.d x)) := (en2.wipe hw).set rx
    have tk : ds.take (i + 1) = ds.take i ++ [x] := by
      rw [List.take_succ, hx]
      rfl
    refine ⟨by rw [wipe_set hj, wipe2], ?_⟩
    refine ht x hmem H2' _ g2 (enx.map fun _ _ h => weak h) _ fun b H3 r3 g3 pb => ?_
    have hD3 : H3 D = some (.lst acc) := r3 D _ hDX hacc
    have base3 : (∀ a o, ¬ W.X a → H1 a = some o → H3 a = some o) := fun a o n e => r3 a o n (k2 a o n e)
    have rs3 : RpA (fun a => W.N a ∨ a = D) H3 xs ds := RpA.keep (Wd.tups g2 r3) (fun a xs n e => r3 a _ (fun z => n (.inl (W.xn a z))) e) (fun _ _ _ z => z) ds xs rs2
    have en3 : En (fun a => W.N a ∨ a = D) H3 σ δ := en2.map fun _ _ h => step g2 r3 h
    cases b with
    | false =>
      refine ⟨g3, base3, en3, rs3, acc, hD3, ?_⟩
      rw [tk, List.filter_append, List.filter_cons, if_neg (by rw [← pb]; decide), List.filter_nil, List.append_nil]
      exact hlc
    | true =>
      refine he x hmem pb.symm H3 _ g3 (enx.map fun _ _ h => weak (step g2 r3 h)) _ fun y dy H4 r4 g4 py ry => ?_
      have hD4 : H4 D = some (.lst acc) := r4 D _ hDX hD3
      have tup_ne : ∀ a xs, H4 a = some (.tup xs) → a ≠ D := fun a xs e z => by
        rw [z, hD4] at e
        cases e
      have hlt' : i < ds.length := (List.getElem?_eq_some_iff.mp hx).1
      have hal : acc.length < 100000 := by
        have h1 := List.length_filter_le c (ds.take i)
        rw [List.length_take] at h1
        omega
      have rs4 : RpA (fun a => W.N a ∨ a = D) H4 xs ds := RpA.keep (Wd.tups g3 r4) (fun a xs n e => r4 a _ (fun z => n (.inl (W.xn a z))) e) (fun _ _ _ z => z) ds xs rs3
      refine ⟨acc, hD4, Nat.lt_of_lt_of_le hal (by decide), W.chg _ _ g4 fun a s => L2.upd_ne (fun z => hDS (z ▸ s)), fun a o n e => ?_, ?_, ?_, acc ++ [y], upd_same, ?_⟩
      · rw [L2.upd_ne]
        · exact r4 a o n (base3 a o n e)
        · rintro rfl
          rw [hD] at e
          cases e
      · exact (en3.map fun _ _ h => step g3 r4 h).map fun _ _ h => Rp.upd_ne hDN ⟨_, hD4⟩ h
      · exact RpA.keep (fun a xs e => by rw [L2.upd_ne (tup_ne a xs e)]; exact e) (fun a xs n e => by rw [L2.upd_ne (fun z => n (.inr z))]; exact e) (fun _ _ _ z => z) ds xs rs4
      · rw [tk, List.filter_append, List.length_append, List.length_append, hlc, List.filter_cons, if_pos pb.symm]
        rfl
  · rintro H2 ⟨g2, k2, _, _, acc, hacc, hlc⟩
    have hl := rs.length
    refine ⟨D, acc, rfl, .inl (SqL.of hacc), ?_⟩
    rw [hl, List.take_length] at hlc
    rw [hlc]
    exact q _ _ H2 (Wd.trans r1 k2) g2 rfl (.int _)
/-! ### _law_is_integer -/
def pre__law_is_integer : List Pd → Prop := fun ds => ∃ d, ds = [d]
def f__law_is_integer : List Pd → Pd → Prop := fun ds r => ∀ d, ds = [d] → r = .bool (isInt d)
abbrev sp__law_is_integer : Sp := spR pre__law_is_integer f__law_is_integer
abbrev N__law_is_integer : List Str := ["_law_actual"]
theorem sc__law_is_integer : FnScope N__law_is_integer ["_law_actual"] (defScope s__law_is_integer) := ⟨rfl, rfl, rfl, by decide +kernel, rfl, by decide +kernel, by decide +kernel⟩
theorem ok__law_is_integer {P : Program} {w : World} {K : PySem.W.Frag} {mg : Str → Option Value} {base : Heap} (B : Bl mg) (D : DefH K mg "_law_is_integer" s__law_is_integer)  : C8.Cal P w K mg base 1 "_law_is_integer" sp__law_is_integer [] := by
  refine cal_of D sc__law_is_integer (fun _ _ _ _ _ _ us hl => match us, hl with | [_], _ => rfl) (fun ds h => ?_) fun fa cdv A outer s H E hr => ⟨_, (pss_one (ps_ret (pe_and (pe_callB (r := rIsi K) call_isi rfl B.isinstance_ (by decide +kernel) (pa_cons (pv 0 rfl (Or.inl rfl)) (pa_cons (pe_bltn (v := .ty "int") rfl B.int_ (by decide +kernel) rfl) pa_nil))) (pe_one (pe_not (pe_callB (r := rIsi K) call_isi rfl B.isinstance_ (by decide +kernel) (pa_cons (pv 0 rfl (Or.inl rfl)) (pa_cons (pe_bltn (v := .ty "bool") rfl B.bool_ (by decide +kernel) rfl) pa_nil)))))))), fun W ds h => ?_⟩
  · simp only [pre__law_is_integer] at h
    obtain ⟨_, rfl⟩ := h
    rfl
  · obtain ⟨d, rfl⟩ := h
    refine sm_ret ?_
    refine (e_andV (e_isi (e_var rfl)) fun _ => e_notV (e_isi (e_var rfl))).mono ?_
    rintro _ rfl _ q
    cases q
    exact congrArg PyData.bool (isInt_eq d)
theorem u__law_is_integer {W : Wd} {δ : Dn} {tr : TA} {E : XK} {x : Pd} (h : AvE W tr δ [x]) : EvE W (tCall sp__law_is_integer [] E tr) δ (.bool (isInt x)) := (e_callR h ⟨x, rfl⟩).mono fun r_ k => k x rfl
theorem getD_get {c : C} {i : Nat} (h : i < c.length) : (c.map PyData.int)[i]? = some (.int (c.getD i 0)) := by
  rw [List.getElem?_map, List.getD_eq_getElem?_getD, List.getElem?_eq_getElem h]
  rfl
theorem mem_rgV {lo : Int} {n : Nat} {x : Int} : x ∈ rgV lo n ↔ ∃ i : Nat, i < n ∧ x = lo + (i : Int) := by
  unfold rgV
  rw [List.mem_map]
  constructor
  · rintro ⟨i, hi, rfl⟩
    exact ⟨i, List.mem_range.mp hi, rfl⟩
  · rintro ⟨i, hi, rfl⟩
    exact ⟨i, List.mem_range.mpr hi, rfl⟩
/-! ### _law_rising -/
def pre__law_rising : List Pd → Prop := fun ds => ∃ c : C, ds = [cl c] ∧ c.length ≤ 1000
def f__law_rising : List Pd → Pd → Prop := fun ds r => ∀ c : C, ds = [cl c] → r = .bool (asc c)
abbrev sp__law_rising : Sp := spR pre__law_rising f__law_rising
abbrev N__law_rising : List Str := ["_law_items", "_law_k"]
theorem sc__law_rising : FnScope N__law_rising ["_law_items"] (defScope s__law_rising) := ⟨rfl, rfl, rfl, by decide +kernel, rfl, by decide +kernel, by decide +kernel⟩
theorem ok__law_rising {P : Program} {w : World} {K : PySem.W.Frag} {mg : Str → Option Value} {base : Heap} (B : Bl mg) (D : DefH K mg "_law_rising" s__law_rising)  : C8.Cal P w K mg base 1 "_law_rising" sp__law_rising [] := by
  refine cal_of D sc__law_rising (fun _ _ _ _ _ _ us hl => match us, hl with | [_], _ => rfl) (fun ds h => ?_) fun fa cdv A outer s H E hr => ⟨_, (pss_one (ps_ret (pe_cmpR op_eq (pe_callB (r := rLn K) call_len_seq rfl B.len_ (by decide +kernel) (pa_cons (pe_lc (own := [("_law_k", 1)]) (g := gName 1)  rfl sc__law_rising.nd (pi_range2 rfl B.range_ (pa_cons pe_int (pa_cons (pe_callB (r := rLn K) call_len_seq rfl B.len_ (by decide +kernel) (pa_cons (pv 0 rfl (Or.inr (Or.inl rfl))) pa_nil)) pa_nil))) (blkOk_by (N := N__law_rising) (sc := defScope s__law_rising) (by decide +kernel)) (fun _ _ _ _ _ => pg_name (i := 1) sc__law_rising.nd rfl (Or.inl rfl)) (fun _ _ _ _ _ => pts_one (pt_not (pt_cmpR op_lt (pe_ix (r := rIx K) ix_seq (pv 0 rfl (Or.inr (Or.inl rfl))) (pe_op op_sub (pv 1 rfl (Or.inl rfl)) pe_int) (fun _ _ => rfl)) (pe_ix (r := rIx K) ix_seq (pv 0 rfl (Or.inr (Or.inl rfl))) (pv 1 rfl (Or.inl rfl)) (fun _ _ => rfl)) (nomark _)))) (fun _ _ _ _ _ => (pv 1 rfl (Or.inl rfl)))) pa_nil)) pe_int (nomark _)))), fun W ds h => ?_⟩
  · obtain ⟨_, rfl, _⟩ := h
    rfl
  · obtain ⟨c, rfl, hc⟩ := h
    refine sm_ret ?_
    refine (e_eqI (e_lenL (e_lcI (is := rgV 1 ((c.length : Int) - 1).toNat) (fun k => !decide (c.getD (k - 1).toNat 0 < c.getD k.toNat 0)) (i_rg2 (a_cons e_int (a_cons ((e_lenT (e_var rfl)).is (by rw [List.length_map])) a_nil)) (by omega) (by omega) (by omega) (by omega)) (fun k hk => ?_) (fun k _ _ => e_var rfl) (by simp [rgV]; omega))) e_int).mono ?_
    · obtain ⟨i, hi, rfl⟩ := mem_rgV.mp hk
      exact t_not (t_test (e_opB (e_ixT (e_var rfl) (e_opI (e_var rfl) e_int) (getD_get (by omega)) (by omega)) (e_ixT (e_var rfl) (e_var rfl) (getD_get (by omega)) (by omega))))
    rintro _ rfl c' q
    have q1 : cl c = cl c' := by injection q
    rw [← cl_inj q1, List.length_map, filt0, asc_pairs]
    have e1 : ((c.length : Int) - 1).toNat = c.length - 1 := by omega
    rw [e1]
    unfold rgV
    rw [List.all_map]
    refine congrArg PyData.bool ?_
    refine congrArg (fun f => (List.range (c.length - 1)).all f) (funext fun i => ?_)
    show (!(!decide (c.getD (1 + (i : Int) - 1).toNat 0 < c.getD (1 + (i : Int)).toNat 0))) = _
    have e2 : (1 + (i : Int) - 1).toNat = i := by omega
    have e3 : (1 + (i : Int)).toNat = i + 1 := by omega
    rw [e2, e3, Bool.not_not]
theorem u__law_rising {W : Wd} {δ : Dn} {tr : TA} {E : XK} {c : C} (h : AvE W tr δ [cl c]) (he : c.length ≤ 1000) : EvE W (tCall sp__law_rising [] E tr) δ (.bool (asc c)) := (e_callR h ⟨c, rfl, he⟩).mono fun r_ k => k c rfl
/-! ### _law_is_clause -/
def pre__law_is_clause : List Pd → Prop := fun ds => ∃ (n : Int) (d : Pd), ds = [.int n, d] ∧ 0 ≤ n ∧ okD 40 d = true
def f__law_is_clause : List Pd → Pd → Prop := fun ds r => ∀ (n : Int) (d : Pd), ds = [.int n, d] → r = .bool (isCl n d)
abbrev sp__law_is_clause : Sp := spR pre__law_is_clause f__law_is_clause
abbrev N__law_is_clause : List Str := ["_law_n", "_law_value", "_law_item"]
theorem sc__law_is_clause : FnScope N__law_is_clause ["_law_n", "_law_value"] (defScope s__law_is_clause) := ⟨rfl, rfl, rfl, by decide +kernel, rfl, by decide +kernel, by decide +kernel⟩
theorem ok__law_is_clause {P : Program} {w : World} {K : PySem.W.Frag} {mg : Str → Option Value} {base : Heap} (B : Bl mg) (D : DefH K mg "_law_is_clause" s__law_is_clause) (c__law_is_integer : C8.Cal P w K mg base 1 "_law_is_integer" sp__law_is_integer []) (c__law_rising : C8.Cal P w K mg base 1 "_law_rising" sp__law_rising []) : C8.Cal P w K mg base 2 "_law_is_clause" sp__law_is_clause [] := by
  refine cal_of D sc__law_is_clause (fun _ _ _ _ _ _ us hl => match us, hl with | [_, _], _ => rfl) (fun ds h => ?_) fun fa cdv A outer s H E hr => ⟨_, (pss_cons (ps_if (PW.pt (pw_or (pt_not (pt_val (pe_callB (r := rIsi K) call_isi rfl B.isinstance_ (by decide +kernel) (pa_cons (pv 1 rfl (Or.inr (Or.inl rfl))) (pa_cons (pe_bltn (v := .ty "tuple") rfl B.tuple_ (by decide +kernel) rfl) pa_nil))))) (pw_or1 (pt_cmpR op_gt (pe_callB (r := rLn K) call_len_seq rfl B.len_ (by decide +kernel) (pa_cons (pe_lc (own := [("_law_item", 2)]) (g := gName 2)  rfl sc__law_is_clause.nd (pi_tup (pv 1 rfl (Or.inr (Or.inl rfl)))) (blkOk_by (N := N__law_is_clause) (sc := defScope s__law_is_clause) (by decide +kernel)) (fun _ _ _ _ _ => pg_name (i := 2) sc__law_is_clause.nd rfl (Or.inl rfl)) (fun _ _ _ _ _ => pts_one (pt_not (pt_val (C8.pe_c c__law_is_integer hr (by first | decide | omega) rfl (pa_cons (pv 2 rfl (Or.inl rfl)) pa_nil))))) (fun _ _ _ _ _ => (pv 2 rfl (Or.inl rfl)))) pa_nil)) pe_int (nomark _))))) (pss_one (ps_ret pe_bl)) pss_nil)
    (pss_cons (ps_if (PW.pt (pw_or (pt_cmpR op_gt (pe_callB (r := rLn K) call_len_seq rfl B.len_ (by decide +kernel) (pa_cons (pe_lc (own := [("_law_item", 2)]) (g := gName 2)  rfl sc__law_is_clause.nd (pi_tup (pv 1 rfl (Or.inr (Or.inl rfl)))) (blkOk_by (N := N__law_is_clause) (sc := defScope s__law_is_clause) (by decide +kernel)) (fun _ _ _ _ _ => pg_name (i := 2) sc__law_is_clause.nd rfl (Or.inl rfl)) (fun _ _ _ _ _ => pts_one (PW.pt (pw_or (pt_cmpR op_eq (pv 2 rfl (Or.inl rfl)) pe_int (nomark _)) (pw_or (pt_cmpR op_gt (pv 2 rfl (Or.inl rfl)) (pv 0 rfl (Or.inr (Or.inl rfl))) (nomark _)) (pw_or1 (pt_cmpR op_lt (pv 2 rfl (Or.inl rfl)) (pe_un un_neg (pv 0 rfl (Or.inr (Or.inl rfl)))) (nomark _))))))) (fun _ _ _ _ _ => (pv 2 rfl (Or.inl rfl)))) pa_nil)) pe_int (nomark _)) (pw_or1 (pt_not (pt_val (C8.pe_c c__law_rising hr (by first | decide | omega) rfl (pa_cons (pv 1 rfl (Or.inr (Or.inl rfl))) pa_nil))))))) (pss_one (ps_ret pe_bl)) pss_nil)
    (pss_one (ps_ret (pe_cmpR op_eq (pe_callB (r := rLn K) call_len_seq rfl B.len_ (by decide +kernel) (pa_cons (pe_lc (own := [("_law_item", 2)]) (g := gName 2)  rfl sc__law_is_clause.nd (pi_tup (pv 1 rfl (Or.inr (Or.inl rfl)))) (blkOk_by (N := N__law_is_clause) (sc := defScope s__law_is_clause) (by decide +kernel)) (fun _ _ _ _ _ => pg_name (i := 2) sc__law_is_clause.nd rfl (Or.inl rfl)) (fun _ _ _ _ _ => pts_one (pt_cmpR (r := rIn K false) op_in_seq (pe_un un_neg (pv 2 rfl (Or.inl rfl))) (pv 1 rfl (Or.inr (Or.inl rfl))) rfl)) (fun _ _ _ _ _ => (pv 2 rfl (Or.inl rfl)))) pa_nil)) pe_int (nomark _)))))), fun W ds h => ?_⟩
  · obtain ⟨_, _, rfl, _⟩ := h
    rfl
  · obtain ⟨n, d, rfl, hn, hd⟩ := h
    suffices hh : Sm W _ (args N__law_is_clause.length [.int n, d]) (fun _ => False) (fun r => r = .bool (isCl n d)) from sm_mono hh (by
      rintro _ rfl n' d' q
      obtain ⟨q1, q2⟩ := args2 q
      rw [← int_inj q1, ← q2])
    cases ht : isT "tuple" d with
    | false =>
      have e0 : isCl n d = false := by cases d <;> first | rfl | simp [isT, tyN] at ht
      rw [e0]
      exact q_or1 (t_not ((t_test (e_isi (e_var rfl))).is ht)) (s_bool rfl)
    | true =>
      obtain ⟨ds, rfl⟩ := isT_of ht
      have hl : ds.length ≤ 50 := (okD_tuple hd).1
      refine q_if (b := false || !(asI ds).isSome) (t_or (t_not ((t_test (e_isi (e_var rfl))).is ht)) fun _ => (t_test (e_opB (e_lcLen (fun x => !isInt x) (i_tup (e_var rfl)) (fun x m => t_not (t_test (u__law_is_integer (a_cons (e_var rfl) a_nil)))) (fun x m _ => e_var rfl) (by omega)) e_int)).is ?_) (fun e => ?_) fun e => ?_
      · rw [filtP, ← asI_all]
        simp
      · cases q : asI ds with
        | some c => rw [q] at e; cases e
        | none =>
          have e0 : isCl n (.tuple ds) = false := by
            show ((asI ds).filter (goodC n)).isSome = false
            rw [q]
            rfl
          rw [e0]
          exact sm_ret e_bl
      · cases q : asI ds with
        | none => rw [q] at e; cases e
        | some c =>
          have e1 := asI_some q
          subst e1
          have hl' : c.length ≤ 60 := by rw [List.length_map] at hl; omega
          have e2 : isCl n (.tuple (c.map .int)) = goodC n c := by
            show (clOf n (cl c)).isSome = _
            rw [clOf_cl]
            cases goodC n c <;> rfl
          rw [e2]
          refine q_if (b := !c.all (inR n) || !asc c) (t_or ((t_test (e_opB (e_lenL (e_lcI (fun l => decide (l = 0) || (decide (l > n) || decide (l < -n))) (i_cl (e_var rfl)) (fun l _ => t_or (t_test (e_eqI (e_var rfl) e_int)) fun _ => t_or (t_test (e_opB (e_var rfl) (e_var rfl))) fun _ => t_test (e_opB (e_var rfl) (e_neg (e_var rfl)))) (fun l _ _ => e_var rfl) (by omega))) e_int)).is ?_) fun _ => t_not (t_test (u__law_rising (a_cons (e_var rfl) a_nil) (by omega)))) (fun e => ?_) fun e => ?_
          · rw [List.length_map, filtP]
            refine congrArg (fun b => !b) ?_
            refine congrArg (fun f => c.all f) (funext fun l => ?_)
            rw [Bool.eq_iff_iff, inR_iff]
            simp
            omega
          · have e3 : goodC n c = false := by
              unfold goodC
              cases h1 : c.all (inR n) <;> cases h2 : asc c <;> first | rfl | (rw [h1, h2] at e; cases e)
            rw [e3]
            exact sm_ret e_bl
          · refine sm_ret ((e_eqI (e_lenL (e_lcI (fun l => decide (-l ∈ c)) (i_cl (e_var rfl)) (fun l _ => t_test (e_inT (e_neg (e_var rfl)) (e_var rfl))) (fun l _ _ => e_var rfl) (by omega))) e_int).mono ?_)
            rintro _ rfl
            rw [List.length_map, filt0]
            unfold goodC
            cases h1 : c.all (inR n) <;> cases h2 : asc c <;> first | rfl | (rw [h1, h2] at e; cases e)
theorem u__law_is_clause {W : Wd} {δ : Dn} {tr : TA} {E : XK} {n : Int} {d : Pd} (h : AvE W tr δ [.int n, d]) (hn : 0 ≤ n) (hd : okD 40 d = true) : EvE W (tCall sp__law_is_clause [] E tr) δ (.bool (isCl n d)) := (e_callR h ⟨n, d, rfl, hn, hd⟩).mono fun r_ k => k n d rfl
/-! ### _law_with -/
def pre__law_with : List Pd → Prop := fun ds => ∃ (c : C) (l : Int), ds = [cl c, .int l] ∧ c.length < 60
def f__law_with : List Pd → Pd → Prop := fun ds r => ∀ (c : C) (l : Int), ds = [cl c, .int l] → r = cl (wLit c l)
abbrev sp__law_with : Sp := spR pre__law_with f__law_with
abbrev N__law_with : List Str := ["_law_cube", "_law_literal"]
theorem sc__law_with : FnScope N__law_with ["_law_cube", "_law_literal"] (defScope s__law_with) := ⟨rfl, rfl, rfl, by decide +kernel, rfl, by decide +kernel, by decide +kernel⟩
theorem ok__law_with {P : Program} {w : World} {K : PySem.W.Frag} {mg : Str → Option Value} {base : Heap} (B : Bl mg) (D : DefH K mg "_law_with" s__law_with)  : C8.Cal P w K mg base 1 "_law_with" sp__law_with [] := by
  refine cal_of D sc__law_with (fun _ _ _ _ _ _ us hl => match us, hl with | [_, _], _ => rfl) (fun ds h => ?_) fun fa cdv A outer s H E hr => ⟨_, (pss_one (ps_ret (pe_callTy (r := rTp K) call_tuple_of rfl B.tuple_ (by decide +kernel) (pa_cons (pe_callB (r := rSorted K) cr_sorted rfl B.sorted_ (by decide +kernel) (pa_cons (pe_op op_cat (pe_callTy (r := rLs K) call_list_of rfl B.list_ (by decide +kernel) (pa_cons (pv 0 rfl (Or.inl rfl)) pa_nil)) (pe_lst (pa_cons (pv 1 rfl (Or.inl rfl)) pa_nil))) pa_nil)) pa_nil)))), fun W ds h => ?_⟩
  · obtain ⟨_, _, rfl, _⟩ := h
    rfl
  · obtain ⟨c, l, rfl, hl⟩ := h
    refine sm_ret ?_
    have e1 : (c.map PyData.int ++ [.int l]) = (c ++ [l]).map PyData.int := by simp
    refine (e_toT (e_sorted (is := c ++ [l]) ((e_cat (e_toL (e_var rfl)) (e_lst (a_cons (e_var rfl) a_nil) (by simp)) (by simp; omega)).is (congrArg PyData.list e1)) (by simp; omega))).mono ?_
    rintro _ rfl c' l' q
    obtain ⟨q1, q2⟩ := args2 q
    rw [← cl_inj q1, ← int_inj q2]
    rfl
theorem u__law_with {W : Wd} {δ : Dn} {tr : TA} {E : XK} {c : C} {l : Int} (h : AvE W tr δ [cl c, .int l]) (he : c.length < 60) : EvE W (tCall sp__law_with [] E tr) δ (cl (wLit c l)) := (e_callR h ⟨c, l, rfl, he⟩).mono fun r_ k => k c l rfl
/-! ### _law_negated -/
def pre__law_negated : List Pd → Prop := fun ds => ∃ (c : C), ds = [cl c] ∧ c.length < 60
def f__law_negated : List Pd → Pd → Prop := fun ds r => ∀ (c : C), ds = [cl c] → r = cl (srt (c.map (- ·)))
abbrev sp__law_negated : Sp := spR pre__law_negated f__law_negated
abbrev N__law_negated : List Str := ["_law_cube", "_law_literal"]
theorem sc__law_negated : FnScope N__law_negated ["_law_cube"] (defScope s__law_negated) := ⟨rfl, rfl, rfl, by decide +kernel, rfl, by decide +kernel, by decide +kernel⟩
theorem ok__law_negated {P : Program} {w : World} {K : PySem.W.Frag} {mg : Str → Option Value} {base : Heap} (B : Bl mg) (D : DefH K mg "_law_negated" s__law_negated)  : C8.Cal P w K mg base 1 "_law_negated" sp__law_negated [] := by
  refine cal_of D sc__law_negated (fun _ _ _ _ _ _ us hl => match us, hl with | [_], _ => rfl) (fun ds h => ?_) fun fa cdv A outer s H E hr => ⟨_, (pss_one (ps_ret (pe_callTy (r := rTp K) call_tuple_of rfl B.tuple_ (by decide +kernel) (pa_cons (pe_callB (r := rSorted K) cr_sorted rfl B.sorted_ (by decide +kernel) (pa_cons (pe_lc (own := [("_law_literal", 1)]) (g := gName 1) (tt := tYes) rfl sc__law_negated.nd (pi_tup (pv 0 rfl (Or.inl rfl))) (blkOk_by (N := N__law_negated) (sc := defScope s__law_negated) (by decide +kernel)) (fun _ _ _ _ _ => pg_name (i := 1) sc__law_negated.nd rfl (Or.inl rfl)) (fun _ _ _ _ _ => pts_nil) (fun _ _ _ _ _ => (pe_un un_neg (pv 1 rfl (Or.inl rfl))))) pa_nil)) pa_nil)))), fun W ds h => ?_⟩
  · obtain ⟨_, rfl, _⟩ := h
    rfl
  · obtain ⟨c, rfl, hl⟩ := h
    refine sm_ret ?_
    refine (e_toT (e_sorted (is := c.map (- ·)) (e_mapII (- ·) (i_cl (e_var rfl)) (fun l _ => e_neg (e_var rfl)) (by omega)) (by simp; omega))).mono ?_
    rintro _ rfl c' q
    have q1 : cl c = cl c' := by injection q
    rw [← cl_inj q1]
    rfl
theorem u__law_negated {W : Wd} {δ : Dn} {tr : TA} {E : XK} {c : C} (h : AvE W tr δ [cl c]) (he : c.length < 60) : EvE W (tCall sp__law_negated [] E tr) δ (cl (srt (c.map (- ·)))) := (e_callR h ⟨c, rfl, he⟩).mono fun r_ k => k c rfl
/-! ### _law_within -/
def pre__law_within : List Pd → Prop := fun ds => ∃ (a b : C), ds = [cl a, cl b] ∧ a.length < 1000
def f__law_within : List Pd → Pd → Prop := fun ds r => ∀ (a b : C), ds = [cl a, cl b] → r = .bool (a.all fun l => decide (l ∈ b))
abbrev sp__law_within : Sp := spR pre__law_within f__law_within
abbrev N__law_within : List Str := ["_law_small", "_law_large", "_law_literal"]
theorem sc__law_within : FnScope N__law_within ["_law_small", "_law_large"] (defScope s__law_within) := ⟨rfl, rfl, rfl, by decide +kernel, rfl, by decide +kernel, by decide +kernel⟩
theorem ok__law_within {P : Program} {w : World} {K : PySem.W.Frag} {mg : Str → Option Value} {base : Heap} (B : Bl mg) (D : DefH K mg "_law_within" s__law_within)  : C8.Cal P w K mg base 1 "_law_within" sp__law_within [] := by
  refine cal_of D sc__law_within (fun _ _ _ _ _ _ us hl => match us, hl with | [_, _], _ => rfl) (fun ds h => ?_) fun fa cdv A outer s H E hr => ⟨_, (pss_one (ps_ret (pe_cmpR op_eq (pe_callB (r := rLn K) call_len_seq rfl B.len_ (by decide +kernel) (pa_cons (pe_lc (own := [("_law_literal", 2)]) (g := gName 2)  rfl sc__law_within.nd (pi_tup (pv 0 rfl (Or.inl rfl))) (blkOk_by (N := N__law_within) (sc := defScope s__law_within) (by decide +kernel)) (fun _ _ _ _ _ => pg_name (i := 2) sc__law_within.nd rfl (Or.inl rfl)) (fun _ _ _ _ _ => pts_one (pt_cmpR (r := rIn K true) op_notIn_seq (pv 2 rfl (Or.inl rfl)) (pv 1 rfl (Or.inr (Or.inl rfl))) rfl)) (fun _ _ _ _ _ => (pv 2 rfl (Or.inl rfl)))) pa_nil)) pe_int (nomark _)))), fun W ds h => ?_⟩
  · obtain ⟨_, _, rfl, _⟩ := h
    rfl
  · obtain ⟨a, b, rfl, hl⟩ := h
    refine sm_ret ?_
    refine (e_eqI (e_lenL (e_lcI (fun l => !decide (l ∈ b)) (i_cl (e_var rfl)) (fun l _ => t_test (e_niT (e_var rfl) (e_var rfl))) (fun l _ _ => e_var rfl) (by omega))) e_int).mono ?_
    rintro _ rfl a' b' q
    obtain ⟨q1, q2⟩ := args2 q
    rw [← cl_inj q1, ← cl_inj q2, List.length_map, filt0]
    simp
theorem u__law_within {W : Wd} {δ : Dn} {tr : TA} {E : XK} {a b : C} (h : AvE W tr δ [cl a, cl b]) (he : a.length < 1000) : EvE W (tCall sp__law_within [] E tr) δ (.bool (a.all fun l => decide (l ∈ b))) := (e_callR h ⟨a, b, rfl, he⟩).mono fun r_ k => k a b rfl
/-! ### _law_fails -/
def pre__law_fails : List Pd → Prop := fun ds => ∃ (c e : C), ds = [cl c, cl e] ∧ e.length < 60
def f__law_fails : List Pd → Pd → Prop := fun ds r => ∀ (c e : C), ds = [cl c, cl e] → r = .bool (fals c e)
abbrev sp__law_fails : Sp := spR pre__law_fails f__law_fails
abbrev N__law_fails : List Str := ["_law_cube", "_law_clause"]
theorem sc__law_fails : FnScope N__law_fails ["_law_cube", "_law_clause"] (defScope s__law_fails) := ⟨rfl, rfl, rfl, by decide +kernel, rfl, by decide +kernel, by decide +kernel⟩
theorem ok__law_fails {P : Program} {w : World} {K : PySem.W.Frag} {mg : Str → Option Value} {base : Heap} (B : Bl mg) (D : DefH K mg "_law_fails" s__law_fails) (c__law_negated : C8.Cal P w K mg base 1 "_law_negated" sp__law_negated []) (c__law_within : C8.Cal P w K mg base 1 "_law_within" sp__law_within []) : C8.Cal P w K mg base 2 "_law_fails" sp__law_fails [] := by
  refine cal_of D sc__law_fails (fun _ _ _ _ _ _ us hl => match us, hl with | [_, _], _ => rfl) (fun ds h => ?_) fun fa cdv A outer s H E hr => ⟨_, (pss_one (ps_ret (C8.pe_c c__law_within hr (by first | decide | omega) rfl (pa_cons (C8.pe_c c__law_negated hr (by first | decide | omega) rfl (pa_cons (pv 1 rfl (Or.inl rfl)) pa_nil)) (pa_cons (pv 0 rfl (Or.inl rfl)) pa_nil))))), fun W ds h => ?_⟩
  · obtain ⟨_, _, rfl, _⟩ := h
    rfl
  · obtain ⟨c, e, rfl, hl⟩ := h
    refine sm_ret ?_
    have l2 : (srt (e.map (- ·))).length < 1000 := by rw [(srt_perm _).length_eq, List.length_map]; omega
    refine (u__law_within (a_cons (u__law_negated (a_cons (e_var rfl) a_nil) hl) (a_cons (e_var rfl) a_nil)) l2).mono ?_
    rintro _ rfl c' e' q
    obtain ⟨q1, q2⟩ := args2 q
    rw [← cl_inj q1, ← cl_inj q2]
    refine congrArg PyData.bool ?_
    unfold fals
    rw [Bool.eq_iff_iff, List.all_eq_true, List.all_eq_true]
    constructor
    · intro h x hx
      exact h (-x) (mem_srt.mpr (List.mem_map.mpr ⟨x, hx, rfl⟩))
    · intro h x hx
      obtain ⟨y, hy, rfl⟩ := List.mem_map.mp (mem_srt.mp hx)
      exact h y hy
theorem u__law_fails {W : Wd} {δ : Dn} {tr : TA} {E : XK} {c e : C} (h : AvE W tr δ [cl c, cl e]) (he : e.length < 60) : EvE W (tCall sp__law_fails [] E tr) δ (.bool (fals c e)) := (e_callR h ⟨c, e, rfl, he⟩).mono fun r_ k => k c e rfl
/-! ### _law_free -/
def pre__law_free : List Pd → Prop := fun ds => ∃ (n : Int) (cs : List C) (c : C), ds = [fm n cs, cl c] ∧ 0 ≤ n ∧ n ≤ 1000
def f__law_free : List Pd → Pd → Prop := fun ds r => ∀ (n : Int) (cs : List C) (c : C), ds = [fm n cs, cl c] → r = .list ((freeV n c).map .int)
abbrev sp__law_free : Sp := spR pre__law_free f__law_free
abbrev N__law_free : List Str := ["_law_formula", "_law_cube", "_law_v"]
theorem sc__law_free : FnScope N__law_free ["_law_formula", "_law_cube"] (defScope s__law_free) := ⟨rfl, rfl, rfl, by decide +kernel, rfl, by decide +kernel, by decide +kernel⟩
theorem ok__law_free {P : Program} {w : World} {K : PySem.W.Frag} {mg : Str → Option Value} {base : Heap} (B : Bl mg) (D : DefH K mg "_law_free" s__law_free)  : C8.Cal P w K mg base 1 "_law_free" sp__law_free [] := by
  refine cal_of D sc__law_free (fun _ _ _ _ _ _ us hl => match us, hl with | [_, _], _ => rfl) (fun ds h => ?_) fun fa cdv A outer s H E hr => ⟨_, (pss_one (ps_ret (pe_lc (own := [("_law_v", 2)]) (g := gName 2)  rfl sc__law_free.nd (pi_range2 rfl B.range_ (pa_cons pe_int (pa_cons (pe_op op_add (pe_ix (r := rIx K) ix_seq (pv 0 rfl (Or.inl rfl)) pe_int (fun _ _ => rfl)) pe_int) pa_nil))) (blkOk_by (N := N__law_free) (sc := defScope s__law_free) (by decide +kernel)) (fun _ _ _ _ _ => pg_name (i := 2) sc__law_free.nd rfl (Or.inl rfl)) (fun _ _ _ _ _ => pts_one (PW.pt (pw_and (pt_cmpR (r := rIn K true) op_notIn_seq (pv 2 rfl (Or.inl rfl)) (pv 1 rfl (Or.inr (Or.inl rfl))) rfl) (pw_and1 (pt_cmpR (r := rIn K true) op_notIn_seq (pe_un un_neg (pv 2 rfl (Or.inl rfl))) (pv 1 rfl (Or.inr (Or.inl rfl))) rfl))))) (fun _ _ _ _ _ => (pv 2 rfl (Or.inl rfl)))))), fun W ds h => ?_⟩
  · obtain ⟨_, _, _, rfl, _⟩ := h
    rfl
  · obtain ⟨n, cs, c, rfl, h0, h1⟩ := h
    refine sm_ret ?_
    refine (e_lcI (is := rgV 1 (n + 1 - 1).toNat) (fun v => !decide (v ∈ c) && !decide (-v ∈ c)) (i_rg2 (a_cons e_int (a_cons (e_opI (e_ixT (e_var rfl) e_int rfl) e_int) a_nil)) (by omega) (by omega) (by omega) (by omega)) (fun v _ => t_and (t_test (e_niT (e_var rfl) (e_var rfl))) fun _ => t_test (e_niT (e_neg (e_var rfl)) (e_var rfl))) (fun v _ _ => e_var rfl) (by simp [rgV]; omega)).mono ?_
    rintro _ rfl n' cs' c' q
    obtain ⟨q1, q2⟩ := args2 q
    obtain ⟨q3, q4⟩ := fm_inj q1
    rw [← q3, ← cl_inj q2, show n + 1 - 1 = n by omega]
    rfl
theorem u__law_free {W : Wd} {δ : Dn} {tr : TA} {E : XK} {n : Int} {cs : List C} {c : C} (h : AvE W tr δ [fm n cs, cl c]) (h0 : 0 ≤ n) (h1 : n ≤ 1000) : EvE W (tCall sp__law_free [] E tr) δ (.list ((freeV n c).map .int)) := (e_callR h ⟨n, cs, c, rfl, h0, h1⟩).mono fun r_ k => k n cs c rfl
/-! ### _law_leaf -/
def pre__law_leaf : List Pd → Prop := fun ds => ∃ (n : Int) (cs : List C) (c : C), ds = [fm n cs, cl c] ∧ cs.length ≤ 1000 ∧ ∀ e ∈ cs, e.length < 60
def f__law_leaf : List Pd → Pd → Prop := fun ds r => ∀ (n : Int) (cs : List C) (c : C), ds = [fm n cs, cl c] → r = .int (fstF cs c)
abbrev sp__law_leaf : Sp := spR pre__law_leaf f__law_leaf
abbrev N__law_leaf : List Str := ["_law_formula", "_law_cube", "_law_k"]
theorem sc__law_leaf : FnScope N__law_leaf ["_law_formula", "_law_cube"] (defScope s__law_leaf) := ⟨rfl, rfl, rfl, by decide +kernel, rfl, by decide +kernel, by decide +kernel⟩
theorem ok__law_leaf {P : Program} {w : World} {K : PySem.W.Frag} {mg : Str → Option Value} {base : Heap} (B : Bl mg) (D : DefH K mg "_law_leaf" s__law_leaf) (c__law_fails : C8.Cal P w K mg base 2 "_law_fails" sp__law_fails []) : C8.Cal P w K mg base 3 "_law_leaf" sp__law_leaf [] := by
  refine cal_of D sc__law_leaf (fun _ _ _ _ _ _ us hl => match us, hl with | [_, _], _ => rfl) (fun ds h => ?_) fun fa cdv A outer s H E hr => ⟨_, (pss_cons (ps_for PassesOwn.never rfl (pi_range1 rfl B.range_ (pa_cons (pe_callB (r := rLn K) call_len_seq rfl B.len_ (by decide +kernel) (pa_cons (pe_ix (r := rIx K) ix_seq (pv 0 rfl (Or.inl rfl)) pe_int (fun _ _ => rfl)) pa_nil)) pa_nil)) (pg_name (i := 2) sc__law_leaf.nd rfl (Or.inl rfl)) (pss_one (ps_if (pt_val (C8.pe_c c__law_fails hr (by first | decide | omega) rfl (pa_cons (pv 1 rfl (Or.inl rfl)) (pa_cons (pe_ix (r := rIx K) ix_seq (pe_ix (r := rIx K) ix_seq (pv 0 rfl (Or.inl rfl)) pe_int (fun _ _ => rfl)) (pv 2 rfl (Or.inl rfl)) (fun _ _ => rfl)) pa_nil)))) (pss_one (ps_ret (pv 2 rfl (Or.inl rfl)))) pss_nil)))
    (pss_one (ps_ret (pe_un un_neg pe_int)))), fun W ds h => ?_⟩
  · obtain ⟨_, _, _, rfl, _⟩ := h
    rfl
  · obtain ⟨n, cs, c, rfl, hl, he⟩ := h
    suffices hh : Sm W _ (args N__law_leaf.length [fm n cs, cl c]) (fun _ => False) (fun r => r = .int (fstF cs c)) from sm_mono hh (by
      rintro _ rfl n' cs' c' q
      obtain ⟨q1, q2⟩ := args2 q
      obtain ⟨q3, q4⟩ := fm_inj q1
      rw [q4, cl_inj q2])
    have lr : ((rgV 0 cs.length).map PyData.int).length = cs.length := by simp [rgV]
    refine sm_seq (Mid := fun δ' => (∃ a : Kn, δ' = [.d (fm n cs), .d (cl c), a]) ∧ ∀ j e', j < cs.length → cs[j]? = some e' → fals c e' = false) (sm_for (ds := (rgV 0 cs.length).map .int) (i_rg1 (n := (cs.length : Int)) (a_cons ((e_lenT (e_ixT (e_var rfl) e_int rfl)).is (by rw [cls_len])) a_nil) (by omega) (by omega)) (fun i δ' => (∃ a : Kn, δ' = [.d (fm n cs), .d (cl c), a]) ∧ ∀ j e', j < i → cs[j]? = some e' → fals c e' = false) ⟨⟨_, rfl⟩, fun j e' hj => by omega⟩ ?_ ?_) ?_
    · rintro i x δ' hx ⟨⟨a, rfl⟩, hb⟩
      have hi : i < cs.length := by
        have := (List.getElem?_eq_some_iff.mp hx).1
        rw [lr] at this
        exact this
      have ex : x = .int (i : Nat) := by
        rw [List.getElem?_map] at hx
        unfold rgV at hx
        rw [List.getElem?_map, List.getElem?_range hi] at hx
        cases hx
        simp
      subst ex
      refine sm_if (t_test (u__law_fails (a_cons (e_var rfl) (a_cons (e_ixT (e_ixT (e_var rfl) e_int rfl) (e_var rfl) (cls_get (List.getElem?_eq_getElem hi)) (by omega)) a_nil)) (he _ (List.getElem_mem hi)))) (fun hf => ?_) fun hf => ?_
      · refine sm_ret ((e_var rfl).mono ?_)
        rintro _ rfl
        rw [fstF_at (List.getElem?_eq_getElem hi) hf hb]
      · refine sm_next ⟨⟨_, rfl⟩, fun j e' hj q => ?_⟩
        by_cases hji : j = i
        · subst hji
          rw [List.getElem?_eq_getElem hi] at q
          cases q
          exact hf
        · exact hb j e' (by omega) q
    · rintro δ' ⟨h1, h2⟩
      rw [lr] at h2
      exact ⟨h1, h2⟩
    · rintro δ' ⟨⟨a, rfl⟩, hb⟩
      refine sm_ret ((e_neg e_int).mono ?_)
      rintro _ rfl
      rw [fstF_none hb]
theorem u__law_leaf {W : Wd} {δ : Dn} {tr : TA} {E : XK} {n : Int} {cs : List C} {c : C} (h : AvE W tr δ [fm n cs, cl c]) (hl : cs.length ≤ 1000) (he : ∀ e ∈ cs, e.length < 60) : EvE W (tCall sp__law_leaf [] E tr) δ (.int (fstF cs c)) := (e_callR h ⟨n, cs, c, rfl, hl, he⟩).mono fun r_ k => k n cs c rfl
end K19
end
section
set_option Elab.async false
set_option linter.all false
set_option maxRecDepth 100000
set_option maxHeartbeats 4000000
namespace K19
open PySem L2
local macro_rules | `(tactic| walk_at "ev1") => `(tactic| first
  | exact e_var rfl | exact e_int | exact e_bl | exact e_non | exact e_str | exact a_nil | exact t_yes
  | refine a_cons ?_ ?_
  | (refine e_un ?_ (u_neg rfl))
  | (refine e_op ?_ ?_ (o_bl rfl)) | (refine e_op ?_ ?_ (o_int rfl))
  | (refine e_op ?_ ?_ (o_eqI rfl)) | (refine e_op ?_ ?_ (o_neI rfl))
  | (refine t_test ?_) | (refine t_B ?_) | (refine t_not ?_) | (refine e_notV ?_)
  | (refine e_cb ?_ (c_abs rfl)) | (refine e_cb ?_ (c_int rfl)))
local macro_rules | `(tactic| walk_at "ev") => `(tactic| repeat' walk_at "ev1")
def cN (n : Int) (c : C) : Prop := c.Pairwise (· < ·) ∧ ∀ l ∈ c, -n ≤ l ∧ l ≤ n
def okG (n : Int) (cs : List C) : Prop := 0 ≤ n ∧ n ≤ 4 ∧ ∀ c ∈ cs, cN n c
theorem cN_cB {n : Int} {c : C} (hn : n ≤ 4) (h : cN n c) : cB c := ⟨h.1, fun l hl => by have := h.2 l hl; omega⟩
theorem okG_F {n : Int} {cs : List C} (h : okG n cs) : okF n cs := ⟨h.2.1, fun c hc => cN_cB h.2.1 (h.2.2 c hc)⟩
theorem cN_len {n : Int} {c : C} (hn : n ≤ 4) (h : cN n c) : c.length ≤ 9 := cB_len (cN_cB hn h)
theorem good_cN {n : Int} {c : C} (h : goodC n c = true) : cN n c := by
  have h' := good_iff.mp h
  exact ⟨h'.1, fun l hl => (h'.2.1 l hl).2⟩
theorem nextP_cN {n : Int} {cs ks : List C} {e : Pd} {c : C} (hc : ∀ c ∈ cs, cN n c) (hk : ∀ c ∈ ks, cN n c) (h : nextP n cs ks e = some c) : cN n c := by
  obtain ⟨es, rfl, h | h | h⟩ := nextP_cases h
  · obtain ⟨t, i, _, h⟩ := axC_some h
    exact hc _ (getI_mem h)
  · obtain ⟨t, a, b, v, x, y, _, _, _, hx, hy, h⟩ := resP_some h
    obtain ⟨_, _, rfl, _⟩ := resC_some h
    refine ⟨dsrt_lt _, fun l hl => ?_⟩
    rcases List.mem_append.mp (mem_dsrt.mp hl) with hl | hl
    · exact (hk _ (getI_mem hx)).2 l (List.mem_filter.mp hl).1
    · exact (hk _ (getI_mem hy)).2 l (List.mem_filter.mp hl).1
  · obtain ⟨t, a, x, d, _, _, hd, _⟩ := weakP_some h
    exact good_cN (clOf_some hd).2
theorem isS_one {x y : Str} {t : Pd} (h : isS x t = true) (hne : (x == y) = false) : isS y t = false := by
  cases t with
  | str z =>
    have h' : (z == x) = true := h
    rw [beq_iff_eq] at h'
    rw [h']
    exact hne
  | _ => rfl
theorem axC3 {cs : List C} {t x y : Pd} {r : List Pd} : axC cs (t :: x :: y :: r) = none := axC_ne (by simp)
theorem nextP2 {n : Int} {cs ks : List C} {t : Pd} {i : Int} : nextP n cs ks (.tuple [t, .int i]) = if isS "axiom" t then getI cs i else none := by
  show (if isS "axiom" t then axC cs [t, .int i] else if isS "resolve" t then resP n ks [t, .int i] else if isS "weaken" t then weakP n ks [t, .int i] else none) = _
  rw [resP_ne (by simp), weakP_ne (by simp)]
  cases isS "axiom" t <;> cases isS "resolve" t <;> cases isS "weaken" t <;> rfl
theorem nextP3 {n : Int} {cs ks : List C} {t x y : Pd} : nextP n cs ks (.tuple [t, x, y]) = if isS "weaken" t then weakP n ks [t, x, y] else none := by
  show (if isS "axiom" t then axC cs [t, x, y] else if isS "resolve" t then resP n ks [t, x, y] else if isS "weaken" t then weakP n ks [t, x, y] else none) = _
  rw [axC3, resP_ne (by simp)]
  cases h : isS "weaken" t
  · cases isS "axiom" t <;> cases isS "resolve" t <;> rfl
  · rw [isS_one h (by decide), isS_one h (by decide)]
    rfl
theorem nextP4 {n : Int} {cs ks : List C} {t x y z : Pd} : nextP n cs ks (.tuple [t, x, y, z]) = if isS "resolve" t then resP n ks [t, x, y, z] else none := by
  show (if isS "axiom" t then axC cs [t, x, y, z] else if isS "resolve" t then resP n ks [t, x, y, z] else if isS "weaken" t then weakP n ks [t, x, y, z] else none) = _
  rw [axC3, weakP_ne (by simp)]
  cases h : isS "resolve" t
  · cases isS "axiom" t <;> cases isS "weaken" t <;> rfl
  · rw [isS_one h (by decide)]
    rfl
theorem nextP5 {n : Int} {cs ks : List C} {es : List Pd} (h : es.length < 2 ∨ 4 < es.length) : nextP n cs ks (.tuple es) = none := by
  unfold nextP
  split
  · rename_i t r e
    injection e with e
    subst e
    rw [axC_ne (by simp at h ⊢; omega), resP_ne (by simp at h ⊢; omega), weakP_ne (by simp at h ⊢; omega)]
    split
    · rfl
    · split
      · rfl
      · split <;> rfl
  · rfl
theorem nextP_nt {n : Int} {cs ks : List C} {d : Pd} (h : isT "tuple" d = false) : nextP n cs ks d = none := by
  cases d <;> first | rfl | simp [isT, tyN] at h
theorem nextP_bad {n : Int} {cs ks : List C} {t x : Pd} {r : List Pd} (h : ∀ i, x = .int i → i < 0) : nextP n cs ks (.tuple (t :: x :: r)) = none := by
  have g : ∀ (cs : List C) (i : Int), x = .int i → getI cs i = none := fun cs i e => getI_none (by have := h i e; omega)
  have a : axC cs (t :: x :: r) = none := by
    cases r with
    | nil => exact axC_no fun i e => g cs i e
    | cons y r => exact axC3
  have b : resP n ks (t :: x :: r) = none := by
    rcases r with _ | ⟨y, _ | ⟨z, _ | ⟨w, r⟩⟩⟩
    · exact resP_ne (by simp)
    · exact resP_ne (by simp)
    · exact resP_no fun i b v e _ _ => .inl (g ks i e)
    · exact resP_ne (by simp)
  have c : weakP n ks (t :: x :: r) = none := by
    rcases r with _ | ⟨y, _ | ⟨z, r⟩⟩
    · exact weakP_ne (by simp)
    · exact weakP_no fun i e => .inl (g ks i e)
    · exact weakP_ne (by simp)
  show (if isS "axiom" t then axC cs (t :: x :: r) else if isS "resolve" t then resP n ks (t :: x :: r) else if isS "weaken" t then weakP n ks (t :: x :: r) else none) = none
  rw [a, b, c]
  cases isS "axiom" t <;> cases isS "resolve" t <;> cases isS "weaken" t <;> rfl
theorem s_noneC {W : Wd} {δ : Dn} {Nx : Dn → Prop} {o : Option C} (h : o = none) : Sm W (tRet (tC .non)) δ Nx (fun r => r = oC o) := by
  subst h
  exact s_none rfl
theorem isInt_of {d : Pd} (h : isInt d = true) : ∃ i, d = .int i := by cases d <;> first | exact ⟨_, rfl⟩ | cases h
theorem bor {a b : Bool} (h : (a || b) = false) : a = false ∧ b = false := by cases a <;> cases b <;> simp_all
/-! ### _law_next -/
def pre__law_next : List Pd → Prop := fun ds => ∃ (n : Int) (cs ks : List C) (d : Pd), ds = [fm n cs, .list (cls ks), d] ∧ okG n cs ∧ (∀ c ∈ ks, cN n c) ∧ okD 22 d = true
def f__law_next : List Pd → Pd → Prop := fun ds r => ∀ (n : Int) (cs ks : List C) (d : Pd), ds = [fm n cs, .list (cls ks), d] → r = oC (nextP n cs ks d)
abbrev sp__law_next : Sp := spR pre__law_next f__law_next
abbrev N__law_next : List Str := ["_law_formula", "_law_clauses_here", "_law_step", "_law_fits", "_law_v", "_law_left", "_law_literal"]
theorem sc__law_next : FnScope N__law_next ["_law_formula", "_law_clauses_here", "_law_step"] (defScope s__law_next) := ⟨rfl, rfl, rfl, by decide +kernel, rfl, by decide +kernel, by decide +kernel⟩
theorem ok__law_next {P : Program} {w : World} {K : PySem.W.Frag} {mg : Str → Option Value} {base : Heap} (B : Bl mg) (D : DefH K mg "_law_next" s__law_next) (c__law_is_clause : C8.Cal P w K mg base 2 "_law_is_clause" sp__law_is_clause []) (c__law_is_integer : C8.Cal P w K mg base 1 "_law_is_integer" sp__law_is_integer []) (c__law_within : C8.Cal P w K mg base 1 "_law_within" sp__law_within []) : C8.Cal P w K mg base 3 "_law_next" sp__law_next [] := by
  refine cal_of D sc__law_next (fun _ _ _ _ _ _ us hl => match us, hl with | [_, _, _], _ => rfl) (fun ds h => ?_) fun fa cdv A outer s H E hr => ⟨_, (pss_cons (ps_if (PW.pt (pw_or (pt_not (pt_val (pe_callB (r := rIsi K) call_isi rfl B.isinstance_ (by decide +kernel) (pa_cons (pv 2 rfl (Or.inl rfl)) (pa_cons (pe_bltn (v := .ty "tuple") rfl B.tuple_ (by decide +kernel) rfl) pa_nil))))) (pw_or (pt_cmpR op_lt (pe_callB (r := rLn K) call_len_seq rfl B.len_ (by decide +kernel) (pa_cons (pv 2 rfl (Or.inl rfl)) pa_nil)) pe_int (nomark _)) (pw_or (pt_not (pt_val (C8.pe_c c__law_is_integer hr (by first | decide | omega) rfl (pa_cons (pe_ix (r := rIx K) ix_seq (pv 2 rfl (Or.inl rfl)) pe_int (fun _ _ => rfl)) pa_nil)))) (pw_or1 (pt_cmpR op_lt (pe_ix (r := rIx K) ix_seq (pv 2 rfl (Or.inl rfl)) pe_int (fun _ _ => rfl)) pe_int (nomark _))))))) (pss_one (ps_ret pe_non)) pss_nil)
    (pss_cons (ps_if (PW.pt (pw_and (pt_cmpR op_eq (pe_callB (r := rLn K) call_len_seq rfl B.len_ (by decide +kernel) (pa_cons (pv 2 rfl (Or.inl rfl)) pa_nil)) pe_int (nomark _)) (pw_and1 (pt_cmpR (r := rEqD K) (op_eqD hr.units) (pe_ix (r := rIx K) ix_seq (pv 2 rfl (Or.inl rfl)) pe_int (fun _ _ => rfl)) pe_str (nomark _))))) (pss_one (ps_ret (pe_ifExp (pt_cmpR op_lt (pe_ix (r := rIx K) ix_seq (pv 2 rfl (Or.inl rfl)) pe_int (fun _ _ => rfl)) (pe_callB (r := rLn K) call_len_seq rfl B.len_ (by decide +kernel) (pa_cons (pe_ix (r := rIx K) ix_seq (pv 0 rfl (Or.inl rfl)) pe_int (fun _ _ => rfl)) pa_nil)) (nomark _)) (pe_ix (r := rIx K) ix_seq (pe_ix (r := rIx K) ix_seq (pv 0 rfl (Or.inl rfl)) pe_int (fun _ _ => rfl)) (pe_ix (r := rIx K) ix_seq (pv 2 rfl (Or.inl rfl)) pe_int (fun _ _ => rfl)) (fun _ _ => rfl)) pe_non))) pss_nil)
    (pss_cons (ps_if (pt_cmpR op_ge (pe_ix (r := rIx K) ix_seq (pv 2 rfl (Or.inl rfl)) pe_int (fun _ _ => rfl)) (pe_callB (r := rLn K) call_len_seq rfl B.len_ (by decide +kernel) (pa_cons (pv 1 rfl (Or.inl rfl)) pa_nil)) (nomark _)) (pss_one (ps_ret pe_non)) pss_nil)
    (pss_cons (ps_if (PW.pt (pw_and (pt_cmpR op_eq (pe_callB (r := rLn K) call_len_seq rfl B.len_ (by decide +kernel) (pa_cons (pv 2 rfl (Or.inl rfl)) pa_nil)) pe_int (nomark _)) (pw_and1 (pt_cmpR (r := rEqD K) (op_eqD hr.units) (pe_ix (r := rIx K) ix_seq (pv 2 rfl (Or.inl rfl)) pe_int (fun _ _ => rfl)) pe_str (nomark _))))) (pss_cons (ps_set (i := 3) sc__law_next.nd rfl (Or.inl rfl) (pe_and (C8.pe_c c__law_is_clause hr (by first | decide | omega) rfl (pa_cons (pe_ix (r := rIx K) ix_seq (pv 0 rfl (Or.inl rfl)) pe_int (fun _ _ => rfl)) (pa_cons (pe_ix (r := rIx K) ix_seq (pv 2 rfl (Or.inl rfl)) pe_int (fun _ _ => rfl)) pa_nil))) (pe_one (C8.pe_c c__law_within hr (by first | decide | omega) rfl (pa_cons (pe_ix (r := rIx K) ix_seq (pv 1 rfl (Or.inl rfl)) (pe_ix (r := rIx K) ix_seq (pv 2 rfl (Or.inl rfl)) pe_int (fun _ _ => rfl)) (fun _ _ => rfl)) (pa_cons (pe_ix (r := rIx K) ix_seq (pv 2 rfl (Or.inl rfl)) pe_int (fun _ _ => rfl)) pa_nil))))))
    (pss_one (ps_ret (pe_ifExp (pt_val (pv 3 rfl (Or.inl rfl))) (pe_ix (r := rIx K) ix_seq (pv 2 rfl (Or.inl rfl)) pe_int (fun _ _ => rfl)) pe_non)))) pss_nil)
    (pss_cons (ps_if (PW.pt (pw_or (pt_cmpR op_ne (pe_callB (r := rLn K) call_len_seq rfl B.len_ (by decide +kernel) (pa_cons (pv 2 rfl (Or.inl rfl)) pa_nil)) pe_int (nomark _)) (pw_or (pt_cmpR (r := rNeD K) (op_neD hr.units) (pe_ix (r := rIx K) ix_seq (pv 2 rfl (Or.inl rfl)) pe_int (fun _ _ => rfl)) pe_str (nomark _)) (pw_or (pt_not (pt_val (C8.pe_c c__law_is_integer hr (by first | decide | omega) rfl (pa_cons (pe_ix (r := rIx K) ix_seq (pv 2 rfl (Or.inl rfl)) pe_int (fun _ _ => rfl)) pa_nil)))) (pw_or1 (pt_not (pt_val (C8.pe_c c__law_is_integer hr (by first | decide | omega) rfl (pa_cons (pe_ix (r := rIx K) ix_seq (pv 2 rfl (Or.inl rfl)) pe_int (fun _ _ => rfl)) pa_nil))))))))) (pss_one (ps_ret pe_non)) pss_nil)
    (pss_cons (ps_set (i := 4) sc__law_next.nd rfl (Or.inr rfl) (pe_ix (r := rIx K) ix_seq (pv 2 rfl (Or.inl rfl)) pe_int (fun _ _ => rfl)))
    (pss_cons (ps_if (PW.pt (pw_or (pt_cmpR op_lt (pe_ix (r := rIx K) ix_seq (pv 2 rfl (Or.inl rfl)) pe_int (fun _ _ => rfl)) pe_int (nomark _)) (pw_or (pt_cmpR op_ge (pe_ix (r := rIx K) ix_seq (pv 2 rfl (Or.inl rfl)) pe_int (fun _ _ => rfl)) (pe_callB (r := rLn K) call_len_seq rfl B.len_ (by decide +kernel) (pa_cons (pv 1 rfl (Or.inl rfl)) pa_nil)) (nomark _)) (pw_or (pt_cmpR op_lt (pv 4 rfl (Or.inr (Or.inl rfl))) pe_int (nomark _)) (pw_or (pt_cmpR (r := rIn K true) op_notIn_seq (pv 4 rfl (Or.inr (Or.inl rfl))) (pe_ix (r := rIx K) ix_seq (pv 1 rfl (Or.inl rfl)) (pe_ix (r := rIx K) ix_seq (pv 2 rfl (Or.inl rfl)) pe_int (fun _ _ => rfl)) (fun _ _ => rfl)) rfl) (pw_or1 (pt_cmpR (r := rIn K true) op_notIn_seq (pe_un un_neg (pv 4 rfl (Or.inr (Or.inl rfl)))) (pe_ix (r := rIx K) ix_seq (pv 1 rfl (Or.inl rfl)) (pe_ix (r := rIx K) ix_seq (pv 2 rfl (Or.inl rfl)) pe_int (fun _ _ => rfl)) (fun _ _ => rfl)) rfl))))))) (pss_one (ps_ret pe_non)) pss_nil)
    (pss_cons (ps_set (i := 5) sc__law_next.nd rfl (Or.inr rfl) (pe_lc (own := [("_law_literal", 6)]) (g := gName 6)  rfl sc__law_next.nd (pi_tup (pe_ix (r := rIx K) ix_seq (pv 1 rfl (Or.inl rfl)) (pe_ix (r := rIx K) ix_seq (pv 2 rfl (Or.inl rfl)) pe_int (fun _ _ => rfl)) (fun _ _ => rfl))) (blkOk_by (N := N__law_next) (sc := defScope s__law_next) (by decide +kernel)) (fun _ _ _ _ _ => pg_name (i := 6) sc__law_next.nd rfl (Or.inl rfl)) (fun _ _ _ _ _ => pts_one (pt_cmpR op_ne (pv 6 rfl (Or.inl rfl)) (pv 4 rfl (Or.inr (Or.inl rfl))) (nomark _))) (fun _ _ _ _ _ => (pv 6 rfl (Or.inl rfl)))))
    (pss_cons (ps_set (i := 5) sc__law_next.nd rfl (Or.inr rfl) (pe_op op_cat (pv 5 rfl (Or.inr (Or.inl rfl))) (pe_lc (own := [("_law_literal", 6)]) (g := gName 6)  rfl sc__law_next.nd (pi_tup (pe_ix (r := rIx K) ix_seq (pv 1 rfl (Or.inl rfl)) (pe_ix (r := rIx K) ix_seq (pv 2 rfl (Or.inl rfl)) pe_int (fun _ _ => rfl)) (fun _ _ => rfl))) (blkOk_by (N := N__law_next) (sc := defScope s__law_next) (by decide +kernel)) (fun _ _ _ _ _ => pg_name (i := 6) sc__law_next.nd rfl (Or.inl rfl)) (fun _ _ _ _ _ => pts_one (pt_cmpR op_ne (pv 6 rfl (Or.inl rfl)) (pe_un un_neg (pv 4 rfl (Or.inr (Or.inl rfl)))) (nomark _))) (fun _ _ _ _ _ => (pv 6 rfl (Or.inl rfl))))))
    (pss_cons (ps_if (pt_cmpR op_gt (pe_callB (r := rLn K) call_len_seq rfl B.len_ (by decide +kernel) (pa_cons (pe_lc (own := [("_law_literal", 6)]) (g := gName 6)  rfl sc__law_next.nd (pi_list (pv 5 rfl (Or.inr (Or.inl rfl)))) (blkOk_by (N := N__law_next) (sc := defScope s__law_next) (by decide +kernel)) (fun _ _ _ _ _ => pg_name (i := 6) sc__law_next.nd rfl (Or.inl rfl)) (fun _ _ _ _ _ => pts_one (pt_cmpR (r := rIn K false) op_in_seq (pe_un un_neg (pv 6 rfl (Or.inl rfl))) (pv 5 rfl (Or.inr (Or.inl rfl))) rfl)) (fun _ _ _ _ _ => (pv 6 rfl (Or.inl rfl)))) pa_nil)) pe_int (nomark _)) (pss_one (ps_ret pe_non)) pss_nil)
    (pss_one (ps_ret (pe_callTy (r := rTp K) call_tuple_of rfl B.tuple_ (by decide +kernel) (pa_cons (pe_callB (r := rSortedSet w) (cr_sortedSet rfl) rfl B.sorted_ (by decide +kernel) (pa_cons (pe_callTy (r := rSetI K w) (cr_setI rfl) rfl B.set_ (by decide +kernel) (pa_cons (pv 5 rfl (Or.inr (Or.inl rfl))) pa_nil)) pa_nil)) pa_nil)))))))))))))), fun W ds h => ?_⟩
  · obtain ⟨_, _, _, _, rfl, _⟩ := h
    rfl
  · obtain ⟨n, cs, ks, d, rfl, hG, hk, ho⟩ := h
    suffices hh : Sm W _ (args N__law_next.length [fm n cs, .list (cls ks), d]) (fun _ => False) (fun r => r = oC (nextP n cs ks d)) from sm_mono hh (by
      rintro _ rfl n' cs' ks' d' q
      obtain ⟨q1, q2, q3⟩ := args3 q
      obtain ⟨q4, q5⟩ := fm_inj q1
      rw [q4, q5, cls_inj (list_inj q2), q3])
    cases ht : isT "tuple" d with
    | false => exact q_or1 (t_not ((t_test (e_isi (e_var rfl))).is ht)) (s_noneC (nextP_nt ht))
    | true =>
    obtain ⟨es, rfl⟩ := isT_of ht
    have hoe : ∀ e ∈ es, okD 40 e = true := by
      obtain ⟨_, k, e, h⟩ := okD_tuple ho
      exact fun e he => okD_mono (h e he) (by omega)
    rcases es with _ | ⟨t, _ | ⟨x1, r⟩⟩
    · exact q_if (b := true) ((t_or (x := false) (y := true) (t_not ((t_test (e_isi (e_var rfl))).is ht)) fun _ => t_or (x := true) (y := false) ((t_test (e_opB (e_lenT (e_var rfl)) e_int)).is rfl) (fun e => nomatch e)).is rfl) (fun _ => s_noneC (nextP5 (.inl (by simp)))) (fun e => nomatch e)
    · exact q_if (b := true) ((t_or (x := false) (y := true) (t_not ((t_test (e_isi (e_var rfl))).is ht)) fun _ => t_or (x := true) (y := false) ((t_test (e_opB (e_lenT (e_var rfl)) e_int)).is rfl) (fun e => nomatch e)).is rfl) (fun _ => s_noneC (nextP5 (.inl (by simp)))) (fun e => nomatch e)
    have hot : okD 40 t = true := hoe t (List.mem_cons_self ..)
    have l2 : decide ((((t :: x1 :: r).length : Nat) : Int) < 2) = false := decide_eq_false (by simp only [List.length_cons]; omega)
    refine q_if (b := false || (false || (!isInt x1 || decide (iOf x1 < 0)))) (t_or (t_not ((t_test (e_isi (e_var rfl))).is ht)) fun _ => t_or ((t_test (e_opB (e_lenT (e_var rfl)) e_int)).is l2) fun _ => t_or (t_not (t_test (u__law_is_integer (a_cons (e_ixT (e_var rfl) e_int rfl) a_nil)))) fun e => ?_) (fun e => ?_) fun e => ?_
    · obtain ⟨i, rfl⟩ := isInt_of (d := x1) (by simpa using e)
      exact t_test (e_opB (e_ixT (e_var rfl) e_int rfl) e_int)
    · refine s_noneC (nextP_bad ?_)
      rintro i rfl
      exact of_decide_eq_true (p := iOf (.int i) < 0) e
    obtain ⟨i, rfl⟩ := isInt_of (d := x1) (by cases q : isInt x1 <;> simp_all)
    have h0 : 0 ≤ i := by
      have : ¬ i < 0 := of_decide_eq_false (p := iOf (.int i) < 0) e
      omega
    clear e l2
    -- axiom?
    have s2 : ∀ {r : List Pd}, r ≠ [] → decide ((((t :: .int i :: r).length : Nat) : Int) = 2) = false := fun {r} hr => decide_eq_false (by
      cases r with
      | nil => exact absurd rfl hr
      | cons y r => simp only [List.length_cons]; omega)
    have lk : ∀ {Δ : Dn}, Δ[1]? = some (.d (.list (cls ks))) → EvE W (tCB (rLn K) (tCons (tVar 1) tNil)) Δ (.int (ks.length : Nat)) := fun {Δ} h => (e_lenL (e_var h)).is (by rw [cls_len])
    rcases r with _ | ⟨x2, _ | ⟨x3, _ | ⟨x4, r⟩⟩⟩
    · -- two
      refine q_if (b := true && isS "axiom" t) (t_and ((t_test (e_eqI (e_lenT (e_var rfl)) e_int)).is rfl) fun _ => t_test (t_isS (e_ixT (e_var rfl) e_int rfl) hot)) (fun e => ?_) fun e => ?_
      · have e' : isS "axiom" t = true := by simpa using e
        refine sm_ret (e_if (t_test (e_opB (e_ixT (e_var rfl) e_int rfl) ((e_lenT (e_ixT (e_var rfl) e_int rfl)).is (by rw [cls_len])))) (fun el => ?_) fun el => ?_)
        · have el' : i < (cs.length : Nat) := of_decide_eq_true el
          obtain ⟨c, g1, g2, g3⟩ := getI_some (cs := cs) ⟨h0, el'⟩
          refine (e_ixT (e_ixT (e_var rfl) e_int rfl) (e_ixT (e_var rfl) e_int rfl) (cls_get g2) h0).mono ?_
          rintro _ rfl
          rw [nextP2, if_pos e', g1]
          rfl
        · have el' : ¬ i < (cs.length : Nat) := of_decide_eq_false el
          refine e_non.mono ?_
          rintro _ rfl
          rw [nextP2, if_pos e', getI_none (by omega)]
          rfl
      · have e' : isS "axiom" t = false := by simpa using e
        have hn : nextP n cs ks (.tuple [t, .int i]) = none := by rw [nextP2, if_neg (by rw [e']; decide)]
        refine q_if (t_test (e_opB (e_ixT (e_var rfl) e_int rfl) (lk rfl))) (fun _ => s_noneC hn) fun _ => ?_
        refine q_if (b := false) (t_and (x := false) (y := false) ((t_test (e_eqI (e_lenT (e_var rfl)) e_int)).is rfl) (fun e => nomatch e)) (fun e => nomatch e) fun _ => ?_
        exact q_or1 ((t_test (e_neI (e_lenT (e_var rfl)) e_int)).is rfl) (s_noneC hn)
    · -- three
      refine q_if (b := false) (t_and (x := false) (y := false) ((t_test (e_eqI (e_lenT (e_var rfl)) e_int)).is rfl) (fun e => nomatch e)) (fun e => nomatch e) fun _ => ?_
      refine q_if (t_test (e_opB (e_ixT (e_var rfl) e_int rfl) (lk rfl))) (fun el => ?_) fun el => ?_
      · have el' : i ≥ (ks.length : Nat) := of_decide_eq_true el
        refine s_noneC ?_
        rw [nextP3, weakP_no (fun a ea => .inl (getI_none (by cases ea; omega)))]
        cases isS "weaken" t <;> rfl
      have el' : ¬ i ≥ (ks.length : Nat) := of_decide_eq_false el
      obtain ⟨c, g1, g2, g3⟩ := getI_some (cs := ks) (i := i) ⟨h0, by omega⟩
      refine q_if (b := true && isS "weaken" t) (t_and ((t_test (e_eqI (e_lenT (e_var rfl)) e_int)).is rfl) fun _ => t_test (t_isS (e_ixT (e_var rfl) e_int rfl) hot)) (fun e => ?_) fun e => ?_
      · have e' : isS "weaken" t = true := by simpa using e
        have hx2 : okD 40 x2 = true := hoe x2 (by simp)
        refine q_asg (d := .bool (isCl n x2 && c.all fun l => decide (l ∈ cOf x2))) (e_andV (u__law_is_clause (a_cons (e_ixT (e_var rfl) e_int rfl) (a_cons (e_ixT (e_var rfl) e_int rfl) a_nil)) hG.1 hx2) fun hc => ?_) ?_
        · unfold isCl at hc
          cases q : clOf n x2 with
          | none => rw [q] at hc; cases hc
          | some c2 =>
            obtain ⟨rfl, _⟩ := clOf_some q
            rw [cOf_cl]
            exact u__law_within (a_cons (e_ixL (e_var rfl) (e_ixT (e_var rfl) e_int rfl) (cls_get g2) h0) (a_cons (e_ixT (e_var rfl) e_int rfl) a_nil)) (by have := cN_len hG.2.1 (hk _ g3); omega)
        · refine sm_ret (e_if (t_test (e_var rfl)) (fun ef => ?_) fun ef => ?_)
          · refine (e_ixT (e_var rfl) e_int rfl).mono ?_
            intro d0 hd0
            rw [hd0, nextP3, if_pos e']
            show x2 = oC ((getI ks i).bind fun c => (clOf n x2).bind fun e => if c.all (fun l => decide (l ∈ e)) then some e else none)
            unfold isCl at ef
            cases q : clOf n x2 with
            | none => rw [q] at ef; cases ef
            | some c2 =>
              obtain ⟨rfl, _⟩ := clOf_some q
              rw [q, cOf_cl] at ef
              rw [g1, Option.bind_some, Option.bind_some, if_pos (by simpa using ef)]
              rfl
          · refine e_non.mono ?_
            rintro _ rfl
            rw [nextP3, if_pos e']
            show PyData.none = oC ((getI ks i).bind fun c => (clOf n x2).bind fun e => if c.all (fun l => decide (l ∈ e)) then some e else none)
            unfold isCl at ef
            rw [g1, Option.bind_some]
            cases q : clOf n x2 with
            | none => rfl
            | some c2 =>
              obtain ⟨rfl, _⟩ := clOf_some q
              rw [q, cOf_cl] at ef
              rw [Option.bind_some, if_neg (by rw [show (c.all fun l => decide (l ∈ c2)) = false by simpa using ef]; decide)]
              rfl
      · have e' : isS "weaken" t = false := by simpa using e
        refine q_or1 ((t_test (e_neI (e_lenT (e_var rfl)) e_int)).is rfl) (s_noneC ?_)
        rw [nextP3, if_neg (by rw [e']; decide)]
    · -- four
      refine q_if (b := false) (t_and (x := false) (y := false) ((t_test (e_eqI (e_lenT (e_var rfl)) e_int)).is rfl) (fun e => nomatch e)) (fun e => nomatch e) fun _ => ?_
      refine q_if (t_test (e_opB (e_ixT (e_var rfl) e_int rfl) (lk rfl))) (fun el => ?_) fun el => ?_
      · have el' : i ≥ (ks.length : Nat) := of_decide_eq_true el
        refine s_noneC ?_
        rw [nextP4, resP_no (fun a b v ea _ _ => .inl (getI_none (by cases ea; omega)))]
        cases isS "resolve" t <;> rfl
      have el' : ¬ i ≥ (ks.length : Nat) := of_decide_eq_false el
      obtain ⟨c, g1, g2, g3⟩ := getI_some (cs := ks) (i := i) ⟨h0, by omega⟩
      refine q_if (b := false) (t_and (x := false) (y := false) ((t_test (e_eqI (e_lenT (e_var rfl)) e_int)).is rfl) (fun e => nomatch e)) (fun e => nomatch e) fun _ => ?_
      refine q_if (b := false || (!isS "resolve" t || (!isInt x2 || !isInt x3))) (t_or ((t_test (e_neI (e_lenT (e_var rfl)) e_int)).is rfl) fun _ => t_or (t_test (t_neS (e_ixT (e_var rfl) e_int rfl) hot)) fun _ => t_or (t_not (t_test (u__law_is_integer (a_cons (e_ixT (e_var rfl) e_int rfl) a_nil)))) fun _ => t_not (t_test (u__law_is_integer (a_cons (e_ixT (e_var rfl) e_int rfl) a_nil)))) (fun e => ?_) fun e => ?_
      · refine s_noneC ?_
        rw [nextP4]
        cases q : isS "resolve" t with
        | false => rfl
        | true =>
          rw [if_pos rfl, resP_no]
          rintro a b v _ rfl rfl
          rw [q] at e
          cases e
      obtain ⟨e1, e2⟩ := bor (bor e).2
      obtain ⟨e2, e3⟩ := bor e2
      have er : isS "resolve" t = true := by simpa using e1
      obtain ⟨a, rfl⟩ := isInt_of (d := x2) (by simpa using e2)
      obtain ⟨v, rfl⟩ := isInt_of (d := x3) (by simpa using e3)
      refine q_asg (e_ixT (e_var rfl) e_int rfl) ?_
      have hP : nextP n cs ks (.tuple [t, .int i, .int a, .int v]) = if 0 < v ∧ v ≤ n then ((getI ks a).bind fun e => resC c e v) else none := by
        rw [nextP4, if_pos er]
        show (if 0 < v ∧ v ≤ n then (getI ks i).bind fun c => (getI ks a).bind fun e => resC c e v else none) = _
        rw [g1]
        rfl
      refine q_if (b := decide (a < 0) || (decide (a ≥ (ks.length : Nat)) || (decide (v < 1) || (!decide (v ∈ c) || !decide (-v ∈ (getI ks a).getD []))))) (t_or (t_test (e_opB (e_ixT (e_var rfl) e_int rfl) e_int)) fun ea => t_or (t_test (e_opB (e_ixT (e_var rfl) e_int rfl) (lk rfl))) fun eb => t_or (t_test (e_opB (e_var rfl) e_int)) fun _ => t_or (t_test (e_niT (e_var rfl) (e_ixL (e_var rfl) (e_ixT (e_var rfl) e_int rfl) (cls_get g2) h0))) fun _ => ?_) (fun e => ?_) fun e => ?_
      · have ha0 : 0 ≤ a := by have := of_decide_eq_false ea; omega
        have ha1 : a < (ks.length : Nat) := by have := of_decide_eq_false eb; omega
        obtain ⟨c2, k1, k2, k3⟩ := getI_some (cs := ks) (i := a) ⟨ha0, ha1⟩
        rw [k1]
        exact t_test (e_niT (e_neg (e_var rfl)) (e_ixL (e_var rfl) (e_ixT (e_var rfl) e_int rfl) (cls_get k2) ha0))
      · refine s_noneC ?_
        rw [hP]
        split
        · rename_i hv
          cases q : getI ks a with
          | none => rfl
          | some c2 =>
            obtain ⟨ga, gb, _⟩ := getI_lt q
            rw [q] at e
            rw [decide_eq_false (show ¬ a < 0 by omega), decide_eq_false (show ¬ a ≥ (ks.length : Nat) by omega), decide_eq_false (show ¬ v < 1 by omega)] at e
            show resC c c2 v = none
            unfold resC
            rw [if_neg]
            rintro ⟨z1, z2⟩
            have z2' : -v ∈ (some c2).getD [] := z2
            rw [decide_eq_true z1, decide_eq_true z2'] at e
            cases e
        · rfl
      obtain ⟨f1, e⟩ := bor e
      obtain ⟨f2, e⟩ := bor e
      obtain ⟨f3, e⟩ := bor e
      obtain ⟨f4, f5⟩ := bor e
      have ha0 : 0 ≤ a := by have := of_decide_eq_false f1; omega
      have ha1 : a < (ks.length : Nat) := by have := of_decide_eq_false f2; omega
      have hv1 : 0 < v := by have := of_decide_eq_false f3; omega
      have hv2 : v ∈ c := by simpa using f4
      obtain ⟨c2, k1, k2, k3⟩ := getI_some (cs := ks) (i := a) ⟨ha0, ha1⟩
      have hv3 : -v ∈ c2 := by
        rw [k1] at f5
        simpa using f5
      have hvn : v ≤ n := ((hk _ g3).2 v hv2).2
      have lc : c.length ≤ 9 := cN_len hG.2.1 (hk _ g3)
      have lc2 : c2.length ≤ 9 := cN_len hG.2.1 (hk _ k3)
      have hP2 : nextP n cs ks (.tuple [t, .int i, .int a, .int v]) = mkC (c.filter (fun l => !decide (l = v)) ++ c2.filter fun l => !decide (l = -v)) := by
        rw [hP, if_pos ⟨hv1, hvn⟩, k1]
        show resC c c2 v = _
        unfold resC
        rw [if_pos ⟨hv2, hv3⟩]
      rw [hP2]
      have w1 := List.length_filter_le (fun l => !decide (l = v)) c
      have w2 := List.length_filter_le (fun l => !decide (l = -v)) c2
      refine q_asg (e_lcI (fun l => !decide (l = v)) (i_cl (e_ixL (e_var rfl) (e_ixT (e_var rfl) e_int rfl) (cls_get g2) h0)) (fun l _ => t_test (e_neI (e_var rfl) (e_var rfl))) (fun l _ _ => e_var rfl) (by omega)) ?_
      refine q_asg (d := .list ((c.filter (fun l => !decide (l = v)) ++ c2.filter fun l => !decide (l = -v)).map .int)) ((e_cat (e_var rfl) (e_lcI (fun l => !decide (l = -v)) (i_cl (e_ixL (e_var rfl) (e_ixT (e_var rfl) e_int rfl) (cls_get k2) ha0)) (fun l _ => t_test (e_neI (e_var rfl) (e_neg (e_var rfl)))) (fun l _ _ => e_var rfl) (by omega)) (by simp only [List.length_map]; omega)).is (by rw [List.map_append])) ?_
      generalize hxs : (c.filter (fun l => !decide (l = v)) ++ c2.filter fun l => !decide (l = -v)) = xs
      have lx : xs.length < 60 := by rw [← hxs, List.length_append]; omega
      refine q_if (b := !xs.all fun l => !decide (-l ∈ xs)) ((t_test (e_opB (e_lenL (e_lcI (fun l => decide (-l ∈ xs)) (i_ints (e_var rfl)) (fun l _ => t_test (e_inL (e_neg (e_var rfl)) (e_var rfl))) (fun l _ _ => e_var rfl) (by omega))) e_int)).is (by rw [List.length_map, filtP])) (fun e => ?_) fun e => ?_
      · refine s_noneC ?_
        unfold mkC
        rw [if_pos]
        rw [List.any_eq_true]
        have e' : ¬ ∀ l ∈ xs, -l ∉ xs := fun z => by
          have : xs.all (fun l => !decide (-l ∈ xs)) = true := List.all_eq_true.mpr fun l hl => by simpa using z l hl
          rw [this] at e
          cases e
        refine Classical.byContradiction fun hc => ?_
        exact e' fun l hl z => hc ⟨l, hl, by simpa using z⟩
      · refine sm_ret ((e_toT (e_sortI (e_var rfl) lx)).mono ?_)
        rintro _ rfl
        unfold mkC
        rw [if_neg]
        · rfl
        · intro z
          obtain ⟨l, hl, hz⟩ := List.any_eq_true.mp z
          have e' : xs.all (fun l => !decide (-l ∈ xs)) = true := by simpa using e
          have := List.all_eq_true.mp e' l hl
          rw [hz] at this
          cases this
    · -- more
      have hn : nextP n cs ks (.tuple (t :: .int i :: x2 :: x3 :: x4 :: r)) = none := nextP5 (.inr (by simp only [List.length_cons]; omega))
      rw [hn]
      have n2 : decide ((((t :: .int i :: x2 :: x3 :: x4 :: r).length : Nat) : Int) = 2) = false := s2 (List.cons_ne_nil _ _)
      have n3 : decide ((((t :: .int i :: x2 :: x3 :: x4 :: r).length : Nat) : Int) = 3) = false := decide_eq_false (by simp only [List.length_cons]; omega)
      have n4 : decide ((((t :: .int i :: x2 :: x3 :: x4 :: r).length : Nat) : Int) = 4) = false := decide_eq_false (by simp only [List.length_cons]; omega)
      refine q_if (b := false) (t_and (x := false) (y := false) ((t_test (e_eqI (e_lenT (e_var rfl)) e_int)).is n2) (fun e => nomatch e)) (fun e => nomatch e) fun _ => ?_
      refine q_if (t_test (e_opB (e_ixT (e_var rfl) e_int rfl) (lk rfl))) (fun el => s_noneC rfl) fun el => ?_
      refine q_if (b := false) (t_and (x := false) (y := false) ((t_test (e_eqI (e_lenT (e_var rfl)) e_int)).is n3) (fun e => nomatch e)) (fun e => nomatch e) fun _ => ?_
      exact q_or1 ((t_test (e_neI (e_lenT (e_var rfl)) e_int)).is (by rw [n4]; rfl)) (s_noneC rfl)
theorem u__law_next {W : Wd} {δ : Dn} {tr : TA} {E : XK} {n : Int} {cs ks : List C} {d : Pd} (h : AvE W tr δ [fm n cs, .list (cls ks), d]) (hG : okG n cs) (hk : ∀ c ∈ ks, cN n c) (hd : okD 22 d = true) : EvE W (tCall sp__law_next [] E tr) δ (oC (nextP n cs ks d)) := (e_callR h ⟨n, cs, ks, d, rfl, hG, hk, hd⟩).mono fun r_ k => k n cs ks d rfl
end K19
end
section
set_option Elab.async false
set_option linter.all false
set_option maxRecDepth 100000
set_option maxHeartbeats 4000000
namespace K19
open PySem L2
local macro_rules | `(tactic| walk_at "ev1") => `(tactic| first
  | exact e_var rfl | exact e_int | exact e_bl | exact e_non | exact e_str | exact a_nil | exact t_yes
  | refine a_cons ?_ ?_
  | (refine e_un ?_ (u_neg rfl))
  | (refine e_op ?_ ?_ (o_bl rfl)) | (refine e_op ?_ ?_ (o_int rfl))
  | (refine e_op ?_ ?_ (o_eqI rfl)) | (refine e_op ?_ ?_ (o_neI rfl))
  | (refine t_test ?_) | (refine t_B ?_) | (refine t_not ?_) | (refine e_notV ?_)
  | (refine e_cb ?_ (c_abs rfl)) | (refine e_cb ?_ (c_int rfl)))
local macro_rules | `(tactic| walk_at "ev") => `(tactic| repeat' walk_at "ev1")
theorem nd_len : ∀ {l m : List Int}, l.Nodup → (∀ x ∈ l, x ∈ m) → l.length ≤ m.length
  | [], m, _, _ => Nat.zero_le _
  | a :: l, m, hn, hs => by
    have h1 := List.nodup_cons.mp hn
    have ha := hs a (List.mem_cons_self ..)
    have ih := nd_len (l := l) (m := m.erase a) h1.2 fun x hx => (List.mem_erase_of_ne (fun (e : x = a) => h1.1 (e ▸ hx))).mpr (hs x (List.mem_cons_of_mem _ hx))
    rw [List.length_erase_of_mem ha] at ih
    have := List.length_pos_of_mem ha
    rw [List.length_cons]
    omega
def absI (l : Int) : Int := if l < 0 then -l else l
theorem whole {n : Int} {c : C} (hg : goodC n c = true) (hl : (c.length : Int) = n) {v : Int} (h1 : 1 ≤ v) (h2 : v ≤ n) : v ∈ c ∨ -v ∈ c := by
  refine Classical.byContradiction fun hc => ?_
  obtain ⟨g1, g2, g3⟩ := good_iff.mp hg
  have n1 : (c.map absI).Nodup := by
    refine List.pairwise_map.mpr (List.Pairwise.imp_of_mem (R := (· < ·)) ?_ g1)
    intro a b ha hb hab e
    have hb' := g3 b hb
    unfold absI at e
    have z : a ≠ -b := fun z => hb' (z ▸ ha)
    split at e <;> split at e <;> omega
  have n2 : ∀ x ∈ c.map absI, x ∈ (rgV 1 n.toNat).erase v := fun x hx => by
    obtain ⟨l, hl, rfl⟩ := List.mem_map.mp hx
    obtain ⟨z1, z2, z3⟩ := g2 l hl
    refine (List.mem_erase_of_ne fun e => hc ?_).mpr (mem_rgV.mpr ⟨(absI l - 1).toNat, ?_, ?_⟩)
    · unfold absI at e
      split at e
      · exact .inr (by rw [← e, Int.neg_neg]; exact hl)
      · exact .inl (e ▸ hl)
    · unfold absI
      split <;> omega
    · unfold absI
      split <;> omega
  have n3 := nd_len n1 n2
  have n4 : v ∈ rgV 1 n.toNat := mem_rgV.mpr ⟨(v - 1).toNat, by omega, by omega⟩
  rw [List.length_erase_of_mem n4, List.length_map] at n3
  have n5 : (rgV 1 n.toNat).length = n.toNat := by simp [rgV]
  rw [n5] at n3
  omega
theorem fals_sat {n : Int} {c e : C} (hg : goodC n c = true) (hl : (c.length : Int) = n) (he : goodC n e = true) : fals c e = !sat c e := by
  obtain ⟨g1, g2, g3⟩ := good_iff.mp hg
  obtain ⟨e1, e2, e3⟩ := good_iff.mp he
  unfold fals sat
  cases h : e.any fun l => decide (l ∈ c) with
  | true =>
    obtain ⟨l, hl, hlc⟩ := List.any_eq_true.mp h
    show _ = false
    rw [List.all_eq_false]
    exact ⟨l, hl, by simpa using g3 l (by simpa using hlc)⟩
  | false =>
    show _ = true
    rw [List.any_eq_false] at h
    rw [List.all_eq_true]
    intro l hle
    obtain ⟨z1, z2, z3⟩ := e2 l hle
    have nl : l ∉ c := by simpa using h l hle
    rw [decide_eq_true_iff]
    by_cases hneg : l < 0
    · rcases whole hg hl (v := -l) (by omega) (by omega) with h | h
      · exact h
      · rw [Int.neg_neg] at h
        exact absurd h nl
    · rcases whole hg hl (v := l) (by omega) (by omega) with h | h
      · exact absurd h nl
      · exact h
def okQ (n : Int) (cs : List C) : Prop := 0 ≤ n ∧ n ≤ 4 ∧ ∀ c ∈ cs, goodC n c = true
theorem okQ_G {n : Int} {cs : List C} (h : okQ n cs) : okG n cs := ⟨h.1, h.2.1, fun c hc => good_cN (h.2.2 c hc)⟩
theorem okQ_len {n : Int} {cs : List C} (h : okQ n cs) : ∀ c ∈ cs, c.length ≤ 9 := fun c hc => cN_len h.2.1 (good_cN (h.2.2 c hc))
theorem run_tup {n : Int} {cs : List C} : ∀ (es : List Pd) {k0 ks : List C}, runP n cs k0 es = some ks → es.all isTup = true
  | [], _, _, _ => rfl
  | e :: es, k0, ks, h => by
    have h' : ((nextP n cs k0 e).bind fun c => runP n cs (k0 ++ [c]) es) = some ks := h
    cases q : nextP n cs k0 e with
    | none => rw [q] at h'; cases h'
    | some c =>
      rw [q] at h'
      obtain ⟨ts, rfl, _⟩ := nextP_cases q
      rw [List.all_cons, run_tup es h']
      rfl
theorem refP_eq {n : Int} {cs : List C} {es : List Pd} (h : es ≠ []) : refP n cs (.tuple es) = (match runP n cs [] es with
    | some ks => decide (ks.getLast? = some [])
    | none => false) := by
  show (areT (.tuple es) && match runP n cs [] es with
    | some ks => decide (ks.getLast? = some [])
    | none => false) = _
  cases q : runP n cs [] es with
  | none => exact Bool.and_false _
  | some ks =>
    have e1 : areT (.tuple es) = true := by
      cases es with
      | nil => exact absurd rfl h
      | cons e es => exact run_tup _ q
    rw [e1]
    rfl
theorem refP_nil {n : Int} {cs : List C} : refP n cs (.tuple []) = false := rfl
theorem refP_nt {n : Int} {cs : List C} {d : Pd} (h : isT "tuple" d = false) : refP n cs d = false := by cases d <;> first | rfl | simp [isT, tyN] at h
theorem run_len {n : Int} {cs : List C} : ∀ (es : List Pd) (k0 ks : List C), runP n cs k0 es = some ks → ks.length = k0.length + es.length
  | [], k0, ks, h => by
    cases h
    rfl
  | e :: es, k0, ks, h => by
    have h' : ((nextP n cs k0 e).bind fun c => runP n cs (k0 ++ [c]) es) = some ks := h
    cases q : nextP n cs k0 e with
    | none => rw [q] at h'; cases h'
    | some c =>
      rw [q] at h'
      have := run_len es _ _ h'
      simp at this ⊢
      omega
/-! ### _law_clauses -/
def pre__law_clauses : List Pd → Prop := fun ds => ∃ (n : Int) (cs : List C) (es : List Pd), ds = [fm n cs, .tuple es] ∧ okG n cs ∧ es.length ≤ 1000 ∧ ∀ e ∈ es, okD 22 e = true
def f__law_clauses : List Pd → Pd → Prop := fun ds r => ∀ (n : Int) (cs : List C) (es : List Pd), ds = [fm n cs, .tuple es] → (∃ ks, runP n cs [] es = some ks ∧ r = .list (cls ks)) ∨ (runP n cs [] es = none ∧ ∃ k, r = .int k)
abbrev sp__law_clauses : Sp := spR pre__law_clauses f__law_clauses
abbrev N__law_clauses : List Str := ["_law_formula", "_law_steps", "_law_clauses_here", "_law_step", "_law_clause"]
theorem sc__law_clauses : FnScope N__law_clauses ["_law_formula", "_law_steps"] (defScope s__law_clauses) := ⟨rfl, rfl, rfl, by decide +kernel, rfl, by decide +kernel, by decide +kernel⟩
theorem ok__law_clauses {P : Program} {w : World} {K : PySem.W.Frag} {mg : Str → Option Value} {base : Heap} (B : Bl mg) (D : DefH K mg "_law_clauses" s__law_clauses) (c__law_next : C8.Cal P w K mg base 3 "_law_next" sp__law_next []) : C8.Cal P w K mg base 4 "_law_clauses" sp__law_clauses [] := by
  refine cal_of D sc__law_clauses (fun _ _ _ _ _ _ us hl => match us, hl with | [_, _], _ => rfl) (fun ds h => ?_) fun fa cdv A outer s H E hr => ⟨_, (pss_cons (ps_set (i := 2) sc__law_clauses.nd rfl (Or.inl rfl) (pe_lst pa_nil))
    (pss_cons (ps_for PassesOwn.never rfl (pi_tup (pv 1 rfl (Or.inl rfl))) (pg_name (i := 3) sc__law_clauses.nd rfl (Or.inl rfl)) (pss_cons (ps_set (i := 4) sc__law_clauses.nd rfl (Or.inl rfl) (C8.pe_c c__law_next hr (by first | decide | omega) rfl (pa_cons (pv 0 rfl (Or.inl rfl)) (pa_cons (pv 2 rfl (Or.inl rfl)) (pa_cons (pv 3 rfl (Or.inl rfl)) pa_nil)))))
    (pss_cons (ps_if (pt_cmpR op_isN (pv 4 rfl (Or.inl rfl)) pe_non (nomark _)) (pss_one (ps_ret (pe_callB (r := rLn K) call_len_seq rfl B.len_ (by decide +kernel) (pa_cons (pv 2 rfl (Or.inl rfl)) pa_nil)))) pss_nil)
    (pss_one (ps_expr (pe_bm PySem.F.plainAttrs_list PySem.F.slot_list_append PySem.F.type_list_append mt_append (pv 2 rfl (Or.inl rfl)) (pa_cons (pv 4 rfl (Or.inl rfl)) pa_nil)))))))
    (pss_one (ps_ret (pv 2 rfl (Or.inl rfl)))))), fun W ds h => ?_⟩
  · obtain ⟨_, _, _, rfl, _⟩ := h
    rfl
  · obtain ⟨n, cs, es, rfl, hG, hl, ho⟩ := h
    suffices hh : Sm W _ (args N__law_clauses.length [fm n cs, .tuple es]) (fun _ => False) (fun r => (∃ ks, runP n cs [] es = some ks ∧ r = .list (cls ks)) ∨ (runP n cs [] es = none ∧ ∃ k, r = .int k)) from sm_mono hh (by
      intro r h n' cs' es' q
      obtain ⟨q1, q2⟩ := args2 q
      obtain ⟨q3, q4⟩ := fm_inj q1
      rw [← q3, ← q4, ← tup_inj q2]
      exact h)
    refine l_open fun p => ?_
    refine l_seq (Mid := fun δ' ds' => ∃ ks a b, runP n cs [] es = some ks ∧ ds' = cls ks ∧ δ' = [.d (fm n cs), .d (.tuple es), .v (.ref p), a, b]) (l_for (xs := es) (fun W' hW => i_tup (e_var rfl)) (fun m δ' ds' => ∃ ks a b, runP n cs [] (es.take m) = some ks ∧ ds' = cls ks ∧ δ' = [.d (fm n cs), .d (.tuple es), .v (.ref p), a, b] ∧ (∀ k ∈ ks, cN n k) ∧ ks.length = m) ?_ ?_ ?_) ?_
    · exact ⟨[], _, _, rfl, rfl, rfl, fun k (hk : k ∈ []) => (List.not_mem_nil hk).elim, rfl⟩
    · rintro m y δ' ds' hy ⟨ks, a, b, hrun, rfl, rfl, hkB, hkl⟩
      have hm : m < es.length := (List.getElem?_eq_some_iff.mp hy).1
      refine lq_asg (i := 2) rfl (A := fun d => d = oC (nextP n cs ks y)) (fun W' hW => u__law_next (a_cons (e_var rfl) (a_cons (e_var rfl) (a_cons (e_var rfl) a_nil))) hG hkB (ho y (List.mem_of_getElem? hy))) (fun d e => by subst e; exact nl_oC _) ?_
      rintro _ rfl
      refine lq_if (i := 2) rfl (fun W' hW => t_test (e_isN (e_var rfl))) (fun e => ?_) fun e => ?_
      · rw [isN_oC] at e
        refine l_ret (i := 2) rfl fun W' hW => (e_lenL (e_var rfl)).mono fun d ed => .inr ⟨runP_bad hy hrun ?_, _, ed⟩
        cases q : nextP n cs ks y with
        | none => rfl
        | some c => rw [q] at e; cases e
      · rw [isN_oC] at e
        cases q : nextP n cs ks y with
        | none => rw [q] at e; cases e
        | some c =>
          have hk : (cls ks).length < 100000 := by rw [cls_len]; omega
          refine l_app (i := 2) rfl (A := fun d => d = oC (some c)) (fun W' hW => (e_var rfl).mono fun d e => e) (fun d e => by subst e; exact nl_oC _) hk ?_
          rintro _ rfl
          refine ⟨ks ++ [c], _, _, by rw [runP_step hy hrun, q]; rfl, by unfold cls; rw [List.map_append]; rfl, rfl, fun k hk => ?_, by rw [List.length_append, hkl]; rfl⟩
          rcases List.mem_append.mp hk with hk | hk
          · exact hkB k hk
          · rw [List.mem_singleton.mp hk]
            exact nextP_cN hG.2.2 hkB q
    · rintro δ' ds' ⟨ks, a, b, h1, h2, h3, _⟩
      rw [List.take_length] at h1
      exact ⟨ks, a, b, h1, h2, h3⟩
    · rintro δ' ds' ⟨ks, a, b, h1, rfl, rfl⟩
      exact l_ret (i := 2) rfl fun W' hW => (e_var rfl).mono fun d e => .inl ⟨ks, h1, e⟩
/-! ### _law_is_refutation -/
def pre__law_is_refutation : List Pd → Prop := fun ds => ∃ (n : Int) (cs : List C) (d : Pd), ds = [fm n cs, d] ∧ okG n cs ∧ okD 22 d = true
def f__law_is_refutation : List Pd → Pd → Prop := fun ds r => ∀ (n : Int) (cs : List C) (d : Pd), ds = [fm n cs, d] → r = .bool (refP n cs d)
abbrev sp__law_is_refutation : Sp := spR pre__law_is_refutation f__law_is_refutation
abbrev N__law_is_refutation : List Str := ["_law_formula", "_law_value", "_law_clauses_here"]
theorem sc__law_is_refutation : FnScope N__law_is_refutation ["_law_formula", "_law_value"] (defScope s__law_is_refutation) := ⟨rfl, rfl, rfl, by decide +kernel, rfl, by decide +kernel, by decide +kernel⟩
theorem ok__law_is_refutation {P : Program} {w : World} {K : PySem.W.Frag} {mg : Str → Option Value} {base : Heap} (B : Bl mg) (D : DefH K mg "_law_is_refutation" s__law_is_refutation) (c__law_clauses : C8.Cal P w K mg base 4 "_law_clauses" sp__law_clauses []) : C8.Cal P w K mg base 5 "_law_is_refutation" sp__law_is_refutation [] := by
  refine cal_of D sc__law_is_refutation (fun _ _ _ _ _ _ us hl => match us, hl with | [_, _], _ => rfl) (fun ds h => ?_) fun fa cdv A outer s H E hr => ⟨_, (pss_cons (ps_if (PW.pt (pw_or (pt_not (pt_val (pe_callB (r := rIsi K) call_isi rfl B.isinstance_ (by decide +kernel) (pa_cons (pv 1 rfl (Or.inl rfl)) (pa_cons (pe_bltn (v := .ty "tuple") rfl B.tuple_ (by decide +kernel) rfl) pa_nil))))) (pw_or1 (pt_cmpR op_eq (pe_callB (r := rLn K) call_len_seq rfl B.len_ (by decide +kernel) (pa_cons (pv 1 rfl (Or.inl rfl)) pa_nil)) pe_int (nomark _))))) (pss_one (ps_ret pe_bl)) pss_nil)
    (pss_cons (ps_set (i := 2) sc__law_is_refutation.nd rfl (Or.inl rfl) (C8.pe_c c__law_clauses hr (by first | decide | omega) rfl (pa_cons (pv 0 rfl (Or.inl rfl)) (pa_cons (pv 1 rfl (Or.inl rfl)) pa_nil))))
    (pss_one (ps_ret (pe_and (pe_callB (r := rIsi K) call_isi rfl B.isinstance_ (by decide +kernel) (pa_cons (pv 2 rfl (Or.inl rfl)) (pa_cons (pe_bltn (v := .ty "list") rfl B.list_ (by decide +kernel) rfl) pa_nil))) (pe_one (pe_cmpR (r := rEqD K) (op_eqD hr.units) (pe_ix (r := rIx K) ix_seq (pv 2 rfl (Or.inl rfl)) (pe_un un_neg pe_int) (fun _ _ => rfl)) (pe_tup pa_nil) (nomark _)))))))), fun W ds h => ?_⟩
  · obtain ⟨_, _, _, rfl, _⟩ := h
    rfl
  · obtain ⟨n, cs, d, rfl, hG, ho⟩ := h
    suffices hh : Sm W _ (args N__law_is_refutation.length [fm n cs, d]) (fun _ => False) (fun r => r = .bool (refP n cs d)) from sm_mono hh (by
      rintro _ rfl n' cs' d' q
      obtain ⟨q1, q2⟩ := args2 q
      obtain ⟨q3, q4⟩ := fm_inj q1
      rw [q3, q4, q2])
    cases ht : isT "tuple" d with
    | false =>
      rw [refP_nt ht]
      exact q_or1 (t_not ((t_test (e_isi (e_var rfl))).is ht)) (s_bool rfl)
    | true =>
    obtain ⟨es, rfl⟩ := isT_of ht
    by_cases hne : es = []
    · subst hne
      exact q_if (b := true) (t_or (x := false) (y := true) (t_not ((t_test (e_isi (e_var rfl))).is ht)) fun _ => (t_test (e_eqI (e_lenT (e_var rfl)) e_int)).is rfl) (fun _ => s_bool rfl) (fun e => nomatch e)
    have hl : es.length ≠ 0 := fun z => hne (List.length_eq_zero_iff.mp z)
    refine q_if (b := false) (t_or (x := false) (y := false) (t_not ((t_test (e_isi (e_var rfl))).is ht)) fun _ => (t_test (e_eqI (e_lenT (e_var rfl)) e_int)).is (decide_eq_false (by omega))) (fun e => nomatch e) fun _ => ?_
    have hes : es.length ≤ 50 ∧ ∀ e ∈ es, okD 22 e = true := by
      obtain ⟨h1, k, e, h⟩ := okD_tuple ho
      exact ⟨h1, fun x hx => okD_mono (h x hx) (by omega)⟩
    refine q_asgP (A := fun r => (∃ ks, runP n cs [] es = some ks ∧ r = .list (cls ks)) ∨ (runP n cs [] es = none ∧ ∃ k, r = .int k)) ((e_callR (a_cons (e_var rfl) (a_cons (e_var rfl) a_nil)) ⟨n, cs, es, rfl, hG, by omega, hes.2⟩).mono fun r k => k n cs es rfl) ?_
    rw [refP_eq hne]
    rintro r (⟨ks, hr, rfl⟩ | ⟨hr, k, rfl⟩)
    · have lks := run_len es [] ks hr
      rw [hr]
      obtain ⟨c, hc⟩ : ∃ c, ks.getLast? = some c := by
        cases q : ks.getLast? with
        | some c => exact ⟨c, rfl⟩
        | none =>
          rw [List.getLast?_eq_none_iff] at q
          rw [q] at lks
          simp at lks
          omega
      have hc' : (cls ks).getLast? = some (cl c) := by
        unfold cls
        rw [List.getLast?_map, hc]
        rfl
      refine sm_ret ((e_andV (x := true) ((e_isi (e_var rfl)).is (congrArg PyData.bool (isT_lst _))) fun _ => e_eqD (a := cl c) (b := .tuple []) (e_op (e_var rfl) (e_neg e_int) (o_ix (.inr rfl) (atI_last hc') rfl)) (e_tup a_nil) (shaped_cl c) (by decide +kernel)).mono ?_)
      rintro _ rfl
      show _ = PyData.bool (decide (ks.getLast? = some []))
      rw [eqv_nil, hc]
      simp
    · rw [hr]
      exact sm_ret (e_andV (x := false) (y := false) ((e_isi (e_var rfl)).is (congrArg PyData.bool (isT_lst _))) (fun e => nomatch e))
/-! ### _law_right -/
def pre__law_right : List Pd → Prop := fun ds => ∃ (n : Int) (cs : List C) (d : Pd), ds = [fm n cs, d] ∧ okQ n cs ∧ cs.length ≤ 1000 ∧ okV d
def f__law_right : List Pd → Pd → Prop := fun ds r => ∀ (n : Int) (cs : List C) (d : Pd), ds = [fm n cs, d] → r = .bool (solP n cs d)
abbrev sp__law_right : Sp := spR pre__law_right f__law_right
abbrev N__law_right : List Str := ["_law_formula", "_law_value", "_law_clause"]
theorem sc__law_right : FnScope N__law_right ["_law_formula", "_law_value"] (defScope s__law_right) := ⟨rfl, rfl, rfl, by decide +kernel, rfl, by decide +kernel, by decide +kernel⟩
theorem ok__law_right {P : Program} {w : World} {K : PySem.W.Frag} {mg : Str → Option Value} {base : Heap} (B : Bl mg) (D : DefH K mg "_law_right" s__law_right) (c__law_fails : C8.Cal P w K mg base 2 "_law_fails" sp__law_fails []) (c__law_is_clause : C8.Cal P w K mg base 2 "_law_is_clause" sp__law_is_clause []) (c__law_is_refutation : C8.Cal P w K mg base 5 "_law_is_refutation" sp__law_is_refutation []) : C8.Cal P w K mg base 6 "_law_right" sp__law_right [] := by
  refine cal_of D sc__law_right (fun _ _ _ _ _ _ us hl => match us, hl with | [_, _], _ => rfl) (fun ds h => ?_) fun fa cdv A outer s H E hr => ⟨_, (pss_cons (ps_if (PW.pt (pw_or (pt_not (pt_val (pe_callB (r := rIsi K) call_isi rfl B.isinstance_ (by decide +kernel) (pa_cons (pv 1 rfl (Or.inr (Or.inl rfl))) (pa_cons (pe_bltn (v := .ty "tuple") rfl B.tuple_ (by decide +kernel) rfl) pa_nil))))) (pw_or1 (pt_cmpR op_ne (pe_callB (r := rLn K) call_len_seq rfl B.len_ (by decide +kernel) (pa_cons (pv 1 rfl (Or.inr (Or.inl rfl))) pa_nil)) pe_int (nomark _))))) (pss_one (ps_ret pe_bl)) pss_nil)
    (pss_cons (ps_if (pt_cmpR (r := rEqD K) (op_eqD hr.units) (pe_ix (r := rIx K) ix_seq (pv 1 rfl (Or.inr (Or.inl rfl))) pe_int (fun _ _ => rfl)) pe_str (nomark _)) (pss_one (ps_ret (C8.pe_c c__law_is_refutation hr (by first | decide | omega) rfl (pa_cons (pv 0 rfl (Or.inl rfl)) (pa_cons (pe_ix (r := rIx K) ix_seq (pv 1 rfl (Or.inr (Or.inl rfl))) pe_int (fun _ _ => rfl)) pa_nil))))) pss_nil)
    (pss_cons (ps_if (PW.pt (pw_or (pt_cmpR (r := rNeD K) (op_neD hr.units) (pe_ix (r := rIx K) ix_seq (pv 1 rfl (Or.inr (Or.inl rfl))) pe_int (fun _ _ => rfl)) pe_str (nomark _)) (pw_or (pt_not (pt_val (C8.pe_c c__law_is_clause hr (by first | decide | omega) rfl (pa_cons (pe_ix (r := rIx K) ix_seq (pv 0 rfl (Or.inl rfl)) pe_int (fun _ _ => rfl)) (pa_cons (pe_ix (r := rIx K) ix_seq (pv 1 rfl (Or.inr (Or.inl rfl))) pe_int (fun _ _ => rfl)) pa_nil))))) (pw_or1 (pt_cmpR op_ne (pe_callB (r := rLn K) call_len_seq rfl B.len_ (by decide +kernel) (pa_cons (pe_ix (r := rIx K) ix_seq (pv 1 rfl (Or.inr (Or.inl rfl))) pe_int (fun _ _ => rfl)) pa_nil)) (pe_ix (r := rIx K) ix_seq (pv 0 rfl (Or.inl rfl)) pe_int (fun _ _ => rfl)) (nomark _)))))) (pss_one (ps_ret pe_bl)) pss_nil)
    (pss_one (ps_ret (pe_cmpR op_eq (pe_callB (r := rLn K) call_len_seq rfl B.len_ (by decide +kernel) (pa_cons (pe_lc (own := [("_law_clause", 2)]) (g := gName 2)  rfl sc__law_right.nd (pi_tup (pe_ix (r := rIx K) ix_seq (pv 0 rfl (Or.inl rfl)) pe_int (fun _ _ => rfl))) (blkOk_by (N := N__law_right) (sc := defScope s__law_right) (by decide +kernel)) (fun _ _ _ _ _ => pg_name (i := 2) sc__law_right.nd rfl (Or.inl rfl)) (fun _ _ _ _ _ => pts_one (pt_val (C8.pe_c c__law_fails hr (by first | decide | omega) rfl (pa_cons (pe_ix (r := rIx K) ix_seq (pv 1 rfl (Or.inr (Or.inl rfl))) pe_int (fun _ _ => rfl)) (pa_cons (pv 2 rfl (Or.inl rfl)) pa_nil))))) (fun _ _ _ _ _ => (pv 2 rfl (Or.inl rfl)))) pa_nil)) pe_int (nomark _))))))), fun W ds h => ?_⟩
  · obtain ⟨_, _, _, rfl, _⟩ := h
    rfl
  · obtain ⟨n, cs, d, rfl, hQ, hcl, ho⟩ := h
    suffices hh : Sm W _ (args N__law_right.length [fm n cs, d]) (fun _ => False) (fun r => r = .bool (solP n cs d)) from sm_mono hh (by
      rintro _ rfl n' cs' d' q
      obtain ⟨q1, q2⟩ := args2 q
      obtain ⟨q3, q4⟩ := fm_inj q1
      rw [q3, q4, q2])
    cases ht : isT "tuple" d with
    | false =>
      rw [solP_nt ht]
      exact q_or1 (t_not ((t_test (e_isi (e_var rfl))).is ht)) (s_bool rfl)
    | true =>
    obtain ⟨es, rfl⟩ := isT_of ht
    by_cases hl : es.length = 2
    case neg =>
      rw [solP_ne hl]
      exact q_if (b := true) (t_or (x := false) (y := true) (t_not ((t_test (e_isi (e_var rfl))).is ht)) fun _ => (t_test (e_neI (e_lenT (e_var rfl)) e_int)).is (by simp; omega)) (fun _ => s_bool rfl) (fun e => nomatch e)
    obtain ⟨t, x, rfl⟩ := len2 hl
    have hk : okD 40 t = true ∧ okD 22 x = true := by
      obtain ⟨_, k, e, h⟩ := okD_tuple ho
      exact ⟨okD_mono (h t (by simp)) (by omega), okD_mono (h x (by simp)) (by omega)⟩
    have hx40 : okD 40 x = true := okD_mono hk.2 (by omega)
    refine q_if (b := false || false) (t_or (t_not ((t_test (e_isi (e_var rfl))).is ht)) fun _ => (t_test (e_neI (e_lenT (e_var rfl)) e_int)).is rfl) (fun e => nomatch e) fun _ => ?_
    refine q_if (t_test (t_isS (e_ixT (e_var rfl) e_int rfl) hk.1)) (fun e => ?_) fun e => ?_
    · have e0 : solP n cs (.tuple [t, x]) = refP n cs x := by
        show (if isS "model" t = true then _ else isS "refutation" t && refP n cs x) = _
        rw [if_neg (by rw [isS_one e (by decide)]; decide), e]
        rfl
      rw [e0]
      exact sm_ret ((e_callR (a_cons (e_var rfl) (a_cons (e_ixT (e_var rfl) e_int rfl) a_nil)) ⟨n, cs, x, rfl, okQ_G hQ, hk.2⟩).mono fun r k => k n cs x rfl)
    have hm : solP n cs (.tuple [t, x]) = (isS "model" t && match clOf n x with
        | some c => isMod n cs c
        | none => false) := by
      show (if isS "model" t = true then _ else isS "refutation" t && refP n cs x) = _
      rw [e]
      cases isS "model" t <;> rfl
    rw [hm]
    refine q_if (b := !isS "model" t || (!isCl n x || !decide (((cOf x).length : Int) = n))) (t_or (t_test (t_neS (e_ixT (e_var rfl) e_int rfl) hk.1)) fun _ => t_or (t_not (t_test (u__law_is_clause (a_cons (e_ixT (e_var rfl) e_int rfl) (a_cons (e_ixT (e_var rfl) e_int rfl) a_nil)) hQ.1 hx40))) fun hc => ?_) (fun e => ?_) fun e => ?_
    · have hc' : isCl n x = true := by simpa using hc
      unfold isCl at hc'
      cases q : clOf n x with
      | none => rw [q] at hc'; cases hc'
      | some c =>
        obtain ⟨rfl, _⟩ := clOf_some q
        rw [cOf_cl]
        exact (t_test (e_neI (e_lenT (e_ixT (e_var rfl) e_int rfl)) (e_ixT (e_var rfl) e_int rfl))).is (by rw [List.length_map])
    · refine s_bool ?_
      cases q : isS "model" t with
      | false => rfl
      | true =>
        cases q2 : clOf n x with
        | none => rfl
        | some c =>
          obtain ⟨rfl, _⟩ := clOf_some q2
          have e1 : isCl n (cl c) = true := by unfold isCl; rw [q2]; rfl
          rw [q, e1, cOf_cl] at e
          have e2 : decide ((c.length : Int) = n) = false := by simpa using e
          show _ = PyData.bool (true && isMod n cs c)
          unfold isMod
          rw [e2]
          rfl
    · obtain ⟨e1, e2⟩ := bor e
      obtain ⟨e2, e3⟩ := bor e2
      have h1 : isS "model" t = true := by simpa using e1
      have h2 : isCl n x = true := by simpa using e2
      unfold isCl at h2
      cases q : clOf n x with
      | none => rw [q] at h2; cases h2
      | some c =>
        obtain ⟨rfl, hg⟩ := clOf_some q
        have h3 : (c.length : Int) = n := by
          rw [cOf_cl] at e3
          simpa using e3
        rw [h1]
        refine sm_ret ((e_eqI (e_lenL (e_lcC (fun e => fals c e) (i_cls (e_ixT (e_var rfl) e_int rfl)) (fun e he => t_test (u__law_fails (a_cons (e_ixT (e_var rfl) e_int rfl) (a_cons (e_var rfl) a_nil)) (by have := okQ_len hQ e he; omega))) (fun e _ _ => e_var rfl) (by omega))) e_int).mono ?_)
        rintro _ rfl
        rw [cls_len, filt0]
        show _ = PyData.bool (true && isMod n cs c)
        unfold isMod
        rw [decide_eq_true h3]
        refine congrArg PyData.bool ?_
        show _ = cs.all fun e => sat c e
        rw [Bool.eq_iff_iff, List.all_eq_true, List.all_eq_true]
        constructor
        · intro h e he
          have := h e he
          rw [fals_sat hg h3 (hQ.2.2 e he), Bool.not_not] at this
          exact this
        · intro h e he
          rw [fals_sat hg h3 (hQ.2.2 e he), Bool.not_not]
          exact h e he
theorem u__law_right {W : Wd} {δ : Dn} {tr : TA} {E : XK} {n : Int} {cs : List C} {x : Pd} (h : AvE W tr δ [fm n cs, x]) (hF : okQ n cs) (hl : cs.length ≤ 1000) (hx : okV x) : EvE W (tCall sp__law_right [] E tr) δ (.bool (solP n cs x)) := (e_callR h ⟨n, cs, x, rfl, hF, hl, hx⟩).mono fun r_ k => k n cs x rfl
end K19
end
section
set_option Elab.async false
set_option linter.all false
set_option maxRecDepth 100000
namespace K19
open PySem L2
/-! # the plain laws: steps that are typed, what is pruned, what a tree writes -/
inductive Sx | ax (k : Nat) | rs (a b : Nat) (v : Int)
def encS : Sx → Pd
  | .ax k => .tuple [.str "axiom", .int (k : Nat)]
  | .rs a b v => .tuple [.str "resolve", .int (a : Nat), .int (b : Nat), .int v]
def srcs : Sx → List Nat
  | .ax _ => []
  | .rs a b _ => [a, b]
def mvS (f : Nat → Nat) : Sx → Sx
  | .ax k => .ax k
  | .rs a b v => .rs (f a) (f b) v
theorem getI_nat {cs : List C} {k : Nat} : getI cs (k : Nat) = cs[k]? := by
  unfold getI
  rw [if_pos (by omega)]
  rfl
theorem next_ax {n : Int} {cs ks : List C} {k : Nat} : nextP n cs ks (encS (.ax k)) = cs[k]? := by
  show nextP n cs ks (.tuple [.str "axiom", .int (k : Nat)]) = _
  rw [nextP2, if_pos (by decide), getI_nat]
theorem next_rs {n : Int} {cs ks : List C} {a b : Nat} {v : Int} : nextP n cs ks (encS (.rs a b v)) = if 0 < v ∧ v ≤ n then (ks[a]?).bind fun c => (ks[b]?).bind fun e => resC c e v else none := by
  show nextP n cs ks (.tuple [.str "resolve", .int (a : Nat), .int (b : Nat), .int v]) = _
  rw [nextP4, if_pos (by decide)]
  show (if 0 < v ∧ v ≤ n then (getI ks a).bind fun c => (getI ks b).bind fun e => resC c e v else none) = _
  rw [getI_nat, getI_nat]
theorem run_get {n : Int} {cs : List C} : ∀ (es : List Pd) (k0 ks : List C), runP n cs k0 es = some ks → ∀ (m : Nat) (e : Pd), es[m]? = some e → ∃ c, ks[k0.length + m]? = some c ∧ nextP n cs (ks.take (k0.length + m)) e = some c
  | [], _, _, _, m, e, he => by cases he
  | x :: es, k0, ks, h, m, e, he => by
    have h' : ((nextP n cs k0 x).bind fun c => runP n cs (k0 ++ [c]) es) = some ks := h
    cases q : nextP n cs k0 x with
    | none => rw [q] at h'; cases h'
    | some c =>
      rw [q] at h'
      have h2 : runP n cs (k0 ++ [c]) es = some ks := h'
      have pre : ∀ (es : List Pd) (k0 ks : List C), runP n cs k0 es = some ks → ∃ r, ks = k0 ++ r := by
        intro es
        induction es with
        | nil =>
          intro k0 ks h
          cases h
          exact ⟨[], by simp⟩
        | cons y es ih =>
          intro k0 ks h
          have h' : ((nextP n cs k0 y).bind fun c => runP n cs (k0 ++ [c]) es) = some ks := h
          cases q : nextP n cs k0 y with
          | none => rw [q] at h'; cases h'
          | some c =>
            rw [q] at h'
            obtain ⟨r, e⟩ := ih _ _ h'
            exact ⟨c :: r, by rw [e]; simp⟩
      obtain ⟨r, er⟩ := pre es _ _ h2
      cases m with
      | zero =>
        cases he
        refine ⟨c, ?_, ?_⟩
        · rw [er]
          simp
        · have : ks.take (k0.length + 0) = k0 := by rw [er]; simp
          rw [this]
          exact q
      | succ m =>
        obtain ⟨c', h3, h4⟩ := run_get es _ _ h2 m e he
        have e2 : (k0 ++ [c]).length + m = k0.length + (m + 1) := by simp; omega
        rw [e2] at h3 h4
        exact ⟨c', h3, h4⟩
theorem run_of {n : Int} {cs : List C} (es : List Pd) (ks : List C) (hl : ks.length = es.length) (h : ∀ (m : Nat) (e : Pd) (c : C), es[m]? = some e → ks[m]? = some c → nextP n cs (ks.take m) e = some c) : runP n cs [] es = some ks := by
  have key : ∀ m, m ≤ es.length → runP n cs [] (es.take m) = some (ks.take m) := by
    intro m
    induction m with
    | zero => intro _; rfl
    | succ m ih =>
      intro hm
      have he : es[m]? = some es[m] := List.getElem?_eq_getElem (by omega)
      have hk : ks[m]? = some ks[m] := List.getElem?_eq_getElem (by omega)
      rw [runP_step he (ih (by omega)), h m _ _ he hk, List.take_succ, hk]
      rfl
  have := key es.length (Nat.le_refl _)
  rw [List.take_length, ← hl, List.take_length] at this
  exact this
/-! ## pruning -/
structure Closed (sts : List Sx) (U : List Nat) : Prop where
  asc : U.Pairwise (· < ·)
  lt : ∀ k ∈ U, k < sts.length
  cl : ∀ k ∈ U, ∀ s, sts[k]? = some s → ∀ x ∈ srcs s, x ∈ U
def pos (U : List Nat) (k : Nat) : Nat := U.idxOf k
theorem pos_get {U : List Nat} {k : Nat} (h : k ∈ U) : U[pos U k]? = some k := by
  have lt : U.idxOf k < U.length := List.idxOf_lt_length_of_mem h
  unfold pos
  rw [List.getElem?_eq_getElem lt, List.getElem_idxOf lt]
theorem asc_get {U : List Nat} (h : U.Pairwise (· < ·)) {i j x y : Nat} (hi : U[i]? = some x) (hj : U[j]? = some y) : i < j ↔ x < y := by
  obtain ⟨li, ei⟩ := List.getElem?_eq_some_iff.mp hi
  obtain ⟨lj, ej⟩ := List.getElem?_eq_some_iff.mp hj
  have key : ∀ i j (li : i < U.length) (lj : j < U.length), i < j → U[i] < U[j] := fun i j li lj h' => List.pairwise_iff_getElem.mp h i j li lj h'
  constructor
  · intro q
    rw [← ei, ← ej]
    exact key i j li lj q
  · intro q
    refine Nat.lt_of_not_le fun z => ?_
    rcases Nat.lt_or_eq_of_le z with z | z
    · have := key j i lj li z
      rw [ei, ej] at this
      omega
    · subst z
      rw [hi] at hj
      cases hj
      omega
theorem pos_of {U : List Nat} (h : U.Pairwise (· < ·)) {i k : Nat} (hi : U[i]? = some k) : pos U k = i := by
  have m : k ∈ U := List.mem_of_getElem? hi
  have h2 := pos_get m
  have a : ¬ i < pos U k := fun z => absurd ((asc_get h hi h2).mp z) (by omega)
  have b : ¬ pos U k < i := fun z => absurd ((asc_get h h2 hi).mp z) (by omega)
  omega
def stAt (sts : List Sx) (k : Nat) : Sx := sts.getD k (.ax 0)
theorem prune_run {n : Int} {cs ks : List C} {sts : List Sx} {U : List Nat} (h : runP n cs [] (sts.map encS) = some ks) (hU : Closed sts U) : runP n cs [] (U.map fun k => encS (mvS (pos U) (stAt sts k))) = some (U.map fun k => ks.getD k []) := by
  have lk := run_len _ _ _ h
  have lk' : ks.length = sts.length := by simpa using lk
  refine run_of _ _ (by simp) fun m e c he hc => ?_
  rw [List.getElem?_map] at he hc
  cases q : U[m]? with
  | none => rw [q] at he; cases he
  | some k =>
    rw [q] at he hc
    cases he
    cases hc
    have mk := List.mem_of_getElem? q
    have lt := hU.lt k mk
    have hst : sts[k]? = some (stAt sts k) := by
      unfold stAt
      rw [List.getD_eq_getElem?_getD, List.getElem?_eq_getElem lt]
      rfl
    obtain ⟨c, h1, h2⟩ := run_get _ _ _ h k (encS (stAt sts k)) (by rw [List.getElem?_map, hst]; rfl)
    simp only [List.length_nil, Nat.zero_add] at h1 h2
    have ec : ks.getD k [] = c := by rw [List.getD_eq_getElem?_getD, h1]; rfl
    show nextP n cs (List.take m (List.map (fun k => ks.getD k []) U)) (encS (mvS (pos U) (stAt sts k))) = some (ks.getD k [])
    rw [ec]
    cases hs : stAt sts k with
    | ax i =>
      rw [hs, next_ax] at h2
      show nextP n cs _ (encS (.ax i)) = _
      rw [next_ax]
      exact h2
    | rs a b v =>
      rw [hs, next_rs] at h2
      show nextP n cs _ (encS (.rs (pos U a) (pos U b) v)) = _
      rw [next_rs]
      split at h2
      · rename_i hv
        rw [if_pos hv]
        have get : ∀ {x : Nat} {e : C}, x ∈ srcs (stAt sts k) → (ks.take k)[x]? = some e → ((U.map fun k => ks.getD k []).take m)[pos U x]? = some e := by
          intro x e hx he
          have xU := hU.cl k mk _ hst x hx
          have hp := pos_get xU
          have xl : x < k := by
            have := (List.getElem?_eq_some_iff.mp he).1
            rw [List.length_take] at this
            omega
          have pl : pos U x < m := (asc_get hU.asc hp q).mpr xl
          rw [List.getElem?_take] at he ⊢
          rw [if_pos xl] at he
          rw [if_pos pl, List.getElem?_map, hp]
          show some (ks.getD x []) = _
          rw [List.getD_eq_getElem?_getD, he]
          rfl
        cases q1 : (ks.take k)[a]? with
        | none => rw [q1] at h2; cases h2
        | some x => cases q2 : (ks.take k)[b]? with
          | none => rw [q1, q2] at h2; cases h2
          | some y =>
            rw [q1, q2] at h2
            rw [get (by rw [hs]; simp [srcs]) q1, get (by rw [hs]; simp [srcs]) q2]
            exact h2
      · cases h2
/-! ## cubes -/
theorem mem_wLit {c : C} {l x : Int} : x ∈ wLit c l ↔ x ∈ c ∨ x = l := by
  unfold wLit
  rw [mem_srt, List.mem_append, List.mem_singleton]
theorem wLit_len {c : C} {l : Int} : (wLit c l).length = c.length + 1 := by
  unfold wLit
  rw [(srt_perm _).length_eq, List.length_append, List.length_singleton]
theorem wLit_good {n : Int} {c : C} {l : Int} (hg : goodC n c = true) (h0 : l ≠ 0) (h1 : -n ≤ l) (h2 : l ≤ n) (h3 : l ∉ c) (h4 : -l ∉ c) : goodC n (wLit c l) = true := by
  obtain ⟨g1, g2, g3⟩ := good_iff.mp hg
  refine good_iff.mpr ⟨?_, ?_, ?_⟩
  · refine lt_of_le_nd (srt_le _) ((srt_perm _).nodup_iff.mpr ?_)
    rw [List.nodup_append]
    refine ⟨nd_of_lt g1, by simp, ?_⟩
    intro a ha b hb e
    rw [List.mem_singleton] at hb
    exact h3 (hb ▸ e ▸ ha)
  · intro x hx
    rcases mem_wLit.mp hx with hx | rfl
    · exact g2 x hx
    · exact ⟨h0, h1, h2⟩
  · intro x hx z
    rcases mem_wLit.mp hx with hx | rfl
    · rcases mem_wLit.mp z with z | z
      · exact g3 x hx z
      · exact h4 (by rw [← z, Int.neg_neg]; exact hx)
    · rcases mem_wLit.mp z with z | z
      · exact h4 z
      · omega
theorem mem_freeV {n : Int} {c : C} {v : Int} : v ∈ freeV n c ↔ (1 ≤ v ∧ v ≤ n) ∧ v ∉ c ∧ -v ∉ c := by
  unfold freeV
  rw [List.mem_filter, mem_rgV]
  simp only [Bool.and_eq_true, Bool.not_eq_true', decide_eq_false_iff_not]
  constructor
  · rintro ⟨⟨i, hi, rfl⟩, h⟩
    exact ⟨⟨by omega, by omega⟩, h⟩
  · rintro ⟨⟨h1, h2⟩, h⟩
    exact ⟨⟨(v - 1).toNat, by omega, by omega⟩, h⟩
theorem rgV_nd (lo : Int) (n : Nat) : (rgV lo n).Nodup := by
  unfold rgV
  refine List.pairwise_map.mpr ((List.nodup_range (n := n)).imp ?_)
  intro a b h e
  omega
theorem free_len {n : Int} {c : C} (hn : 0 ≤ n) (hg : goodC n c = true) : ((c.length + (freeV n c).length : Nat) : Int) = n := by
  obtain ⟨g1, g2, g3⟩ := good_iff.mp hg
  have n1 : (c.map absI).Nodup := by
    refine List.pairwise_map.mpr (List.Pairwise.imp_of_mem (R := (· < ·)) ?_ g1)
    intro a b ha hb hab e
    have hb' := g3 b hb
    unfold absI at e
    have z : a ≠ -b := fun z => hb' (z ▸ ha)
    split at e <;> split at e <;> omega
  have n2 : (freeV n c).Nodup := (rgV_nd _ _).filter _
  have n3 : (c.map absI ++ freeV n c).Nodup := by
    rw [List.nodup_append]
    refine ⟨n1, n2, ?_⟩
    intro a ha b hb e
    subst e
    obtain ⟨l, hl, rfl⟩ := List.mem_map.mp ha
    obtain ⟨_, h1, h2⟩ := mem_freeV.mp hb
    unfold absI at h1 h2
    split at h1
    · exact h2 (by rw [if_pos (by assumption), Int.neg_neg]; exact hl)
    · exact h1 hl
  have p : (c.map absI ++ freeV n c).Perm (rgV 1 n.toNat) := by
    refine (List.perm_ext_iff_of_nodup n3 (rgV_nd _ _)).mpr fun x => ?_
    rw [List.mem_append, mem_rgV]
    constructor
    · rintro (h | h)
      · obtain ⟨l, hl, rfl⟩ := List.mem_map.mp h
        obtain ⟨z1, z2, z3⟩ := g2 l hl
        unfold absI
        split
        · exact ⟨(-l - 1).toNat, by omega, by omega⟩
        · exact ⟨(l - 1).toNat, by omega, by omega⟩
      · obtain ⟨⟨h1, h2⟩, _⟩ := mem_freeV.mp h
        exact ⟨(x - 1).toNat, by omega, by omega⟩
    · rintro ⟨i, hi, rfl⟩
      by_cases h1 : (1 + (i : Int)) ∈ c
      · exact .inl (List.mem_map.mpr ⟨_, h1, by unfold absI; rw [if_neg (by omega)]⟩)
      · by_cases h2 : -(1 + (i : Int)) ∈ c
        · exact .inl (List.mem_map.mpr ⟨_, h2, by unfold absI; rw [if_pos (by omega)]; omega⟩)
        · exact .inr (mem_freeV.mpr ⟨⟨by omega, by omega⟩, h1, h2⟩)
  have := p.length_eq
  rw [List.length_append, List.length_map] at this
  have n5 : (rgV 1 n.toNat).length = n.toNat := by simp [rgV]
  omega
/-! ## trees -/
inductive Tr | leaf (k : Nat) | ask (v : Int) (l h : Tr)
def encT : Tr → Pd
  | .leaf k => .tuple [.str "leaf", .int (k : Nat)]
  | .ask v l h => .tuple [.str "ask", .int v, encT l, encT h]
def nds : Tr → Nat
  | .leaf _ => 1
  | .ask _ l h => nds l + nds h + 1
def dep : Tr → Nat
  | .leaf _ => 0
  | .ask _ l h => max (dep l) (dep h) + 1
/-- right from the cube on -/
def RT (n : Int) (cs : List C) : C → Tr → Prop
  | c, .leaf k => ∃ e, cs[k]? = some e ∧ fals c e = true
  | c, .ask v l h => (1 ≤ v ∧ v ≤ n) ∧ v ∉ c ∧ -v ∉ c ∧ RT n cs (wLit c (-v)) l ∧ RT n cs (wLit c v) h
theorem nds_le : ∀ (t : Tr) (m : Nat), dep t ≤ m → nds t + 1 ≤ 2 ^ (m + 1)
  | .leaf _, m, _ => by
    have : 2 ^ 1 ≤ 2 ^ (m + 1) := Nat.pow_le_pow_right (by omega) (by omega)
    show 1 + 1 ≤ _
    omega
  | .ask _ l h, m, hd => by
    have hd' : max (dep l) (dep h) + 1 ≤ m := hd
    obtain ⟨k, rfl⟩ : ∃ k, m = k + 1 := ⟨m - 1, by omega⟩
    have h1 := nds_le l k (by omega)
    have h2 := nds_le h k (by omega)
    show nds l + nds h + 1 + 1 ≤ 2 ^ (k + 1 + 1)
    rw [Nat.pow_succ 2 (k + 1)]
    omega
theorem nl_encT : ∀ t : Tr, nl (encT t) = true
  | .leaf _ => by simp [encT, nl, nlA]
  | .ask _ l h => by simp [encT, nl, nlA, nl_encT l, nl_encT h]
theorem fals_iff {c e : C} : fals c e = true ↔ ∀ l ∈ e, -l ∈ c := by
  unfold fals
  rw [List.all_eq_true]
  constructor
  · intro h l hl
    simpa using h l hl
  · intro h l hl
    simpa using h l hl
/-- a clause that fails at the lower cube, without the literal -/
theorem fals_low {c e : C} {v : Int} (h : fals (wLit c (-v)) e = true) (hv : v ∉ e) : fals c e = true := fals_iff.mpr fun l hl => by
  rcases mem_wLit.mp (fals_iff.mp h l hl) with z | z
  · exact z
  · exact absurd hl (by rw [show l = v by omega]; exact hv)
theorem fals_high {c e : C} {v : Int} (h : fals (wLit c v) e = true) (hv : -v ∉ e) : fals c e = true := fals_iff.mpr fun l hl => by
  rcases mem_wLit.mp (fals_iff.mp h l hl) with z | z
  · exact z
  · exact absurd hl (by rw [show l = -v by omega]; exact hv)
theorem res_ok {n : Int} {c a b : C} {v : Int} (hg : goodC n c = true) (ha : fals (wLit c (-v)) a = true) (hb : fals (wLit c v) b = true) (h1 : v ∈ a) (h2 : -v ∈ b) : ∃ e, resC a b v = some e ∧ fals c e = true := by
  obtain ⟨g1, g2, g3⟩ := good_iff.mp hg
  have all : ∀ l ∈ (a.filter (fun l => !decide (l = v)) ++ b.filter fun l => !decide (l = -v)), -l ∈ c := by
    intro l hl
    rcases List.mem_append.mp hl with hl | hl
    · obtain ⟨m1, m2⟩ := List.mem_filter.mp hl
      rcases mem_wLit.mp (fals_iff.mp ha l m1) with z | z
      · exact z
      · have : l = v := by omega
        simp [this] at m2
    · obtain ⟨m1, m2⟩ := List.mem_filter.mp hl
      rcases mem_wLit.mp (fals_iff.mp hb l m1) with z | z
      · exact z
      · have : l = -v := by omega
        simp [this] at m2
  refine ⟨dsrt (a.filter (fun l => !decide (l = v)) ++ b.filter fun l => !decide (l = -v)), ?_, fals_iff.mpr fun l hl => all l (mem_dsrt.mp hl)⟩
  unfold resC mkC
  rw [if_pos ⟨h1, h2⟩, if_neg]
  intro z
  obtain ⟨l, hl, hz⟩ := List.any_eq_true.mp z
  have q1 := all l hl
  have q2 := all (-l) (by simpa using hz)
  exact g3 _ q1 q2
end K19
end
section
set_option Elab.async false
set_option linter.all false
set_option maxRecDepth 100000
set_option maxHeartbeats 4000000
namespace K19
open PySem L2
local macro_rules | `(tactic| walk_at "ev1") => `(tactic| first
  | exact e_var rfl | exact e_int | exact e_bl | exact e_non | exact e_str | exact a_nil | exact t_yes
  | refine a_cons ?_ ?_
  | (refine e_un ?_ (u_neg rfl))
  | (refine e_op ?_ ?_ (o_bl rfl)) | (refine e_op ?_ ?_ (o_int rfl))
  | (refine e_op ?_ ?_ (o_eqI rfl)) | (refine e_op ?_ ?_ (o_neI rfl))
  | (refine t_test ?_) | (refine t_B ?_) | (refine t_not ?_) | (refine e_notV ?_)
  | (refine e_cb ?_ (c_abs rfl)) | (refine e_cb ?_ (c_int rfl)))
local macro_rules | `(tactic| walk_at "ev") => `(tactic| repeat' walk_at "ev1")
theorem Room.u1 {k : Nat} {A : Around} (r : Room k A) : A.units + 1 < cLine := Nat.lt_of_le_of_lt (Nat.add_le_add_left (show 1 ≤ 64 by decide) _) r.units
theorem shaped_enc (x : Str) (h : SeqAt.shaped (.str x) = true) : SeqAt.shaped (.str x) = true := h
/-! ### sources -/
def pre_sources : List Pd → Prop := fun ds => ∃ s : Sx, ds = [encS s]
def f_sources : List Pd → Pd → Prop := fun ds r => ∀ s : Sx, ds = [encS s] → r = .list ((srcs s).map fun k => .int (k : Nat))
abbrev sp_sources : Sp := spR pre_sources f_sources
abbrev N_sources : List Str := ["step"]
theorem sc_sources : FnScope N_sources ["step"] (defScope s_sources) := ⟨rfl, rfl, rfl, by decide +kernel, rfl, by decide +kernel, by decide +kernel⟩
theorem ok_sources {P : Program} {w : World} {K : PySem.W.Frag} {mg : Str → Option Value} {base : Heap} (B : Bl mg) (D : DefH K mg "sources" s_sources)  : C8.Cal P w K mg base 1 "sources" sp_sources [] := by
  refine cal_of D sc_sources (fun _ _ _ _ _ _ us hl => match us, hl with | [_], _ => rfl) (fun ds h => ?_) fun fa cdv A outer s H E hr => ⟨_, (pss_cons (ps_if (pt_cmpR (r := rEqD K) (op_eqD hr.units) (pe_ix (r := rIx K) ix_seq (pv 0 rfl (Or.inl rfl)) pe_int (fun _ _ => rfl)) pe_str (nomark _)) (pss_one (ps_ret (pe_lst pa_nil))) pss_nil)
    (pss_one (ps_ret (pe_ifExp (pt_cmpR (r := rEqD K) (op_eqD hr.units) (pe_ix (r := rIx K) ix_seq (pv 0 rfl (Or.inl rfl)) pe_int (fun _ _ => rfl)) pe_str (nomark _)) (pe_lst (pa_cons (pe_ix (r := rIx K) ix_seq (pv 0 rfl (Or.inl rfl)) pe_int (fun _ _ => rfl)) (pa_cons (pe_ix (r := rIx K) ix_seq (pv 0 rfl (Or.inl rfl)) pe_int (fun _ _ => rfl)) pa_nil))) (pe_lst (pa_cons (pe_ix (r := rIx K) ix_seq (pv 0 rfl (Or.inl rfl)) pe_int (fun _ _ => rfl)) pa_nil)))))), fun W ds h => ?_⟩
  · obtain ⟨_, rfl⟩ := h
    rfl
  · obtain ⟨s, rfl⟩ := h
    suffices hh : Sm W _ (args N_sources.length [encS s]) (fun _ => False) (fun r => r = .list ((srcs s).map fun k => .int (k : Nat))) from sm_mono hh (by
      rintro _ rfl s' q
      have q1 : encS s = encS s' := by injection q
      cases s <;> cases s' <;> simp [encS] at q1
      · rfl
      · rename_i a b v a' b' v'
        obtain ⟨h1, h2, h3⟩ := q1
        have e1 : a = a' := by omega
        have e2 : b = b' := by omega
        subst e1 e2
        rfl)
    cases s with
    | ax k =>
      refine q_if (b := true) ((t_test (e_eqD (a := .str "axiom") (e_ixT (e_var rfl) e_int rfl) e_str (by decide +kernel) (by decide +kernel))).is rfl) (fun _ => sm_ret (e_lst a_nil (by simp [srcs]))) (fun e => nomatch e)
    | rs a b v =>
      refine q_if (b := false) ((t_test (e_eqD (a := .str "resolve") (e_ixT (e_var rfl) e_int rfl) e_str (by decide +kernel) (by decide +kernel))).is (by decide +kernel)) (fun e => nomatch e) fun _ => ?_
      refine sm_ret (e_if (x := true) ((t_test (e_eqD (a := .str "resolve") (e_ixT (e_var rfl) e_int rfl) e_str (by decide +kernel) (by decide +kernel))).is rfl) (fun _ => e_lst (a_cons (e_ixT (e_var rfl) e_int rfl) (a_cons (e_ixT (e_var rfl) e_int rfl) a_nil)) (by simp [srcs])) (fun e => nomatch e))
theorem u_sources {W : Wd} {δ : Dn} {tr : TA} {E : XK} {s : Sx} (h : AvE W tr δ [encS s]) : EvE W (tCall sp_sources [] E tr) δ (.list ((srcs s).map fun k => .int (k : Nat))) := (e_callR h ⟨s, rfl⟩).mono fun r_ k => k s rfl
/-- nothing is avoided: data without lists -/
abbrev No : Addr → Prop := fun _ => False
theorem evp {te : TE} {δ : Dn} {P : Pd → Prop} {H : Hp} {σ : Sl} {Q : VK} (h : Ev (pureW No H fun _ z => z.elim) te δ P) (en : En No H σ δ) (q : ∀ v d H', Same H H' → P d → Rp No H' v d → Q v H') : te σ H Q := h H σ (fun _ _ e => e) en Q fun v d H' _ g p s => q v d H' g p s
theorem Rp.no {N : Addr → Prop} {H : Hp} {v : V} {d : Pd} (h : Rp N H v d) : Rp No H v d := h.weak fun _ z => z.elim
theorem RpA.no {N : Addr → Prop} {H : Hp} {v : List V} {d : List Pd} (h : RpA N H v d) : RpA No H v d := h.weak fun _ z => z.elim
theorem e_dget {N : Addr → Prop} {H0 : Hp} {hl : ∀ a, N a → H0 a ≠ none} {δ : Dn} {te : TE} {i : Nat} {p : Addr} {kvs : List (Key × V)} {x z : Int} (h0 : H0 p = some (.dK kvs)) (hi : δ[i]? = some (.v (.ref p))) (hx : EvE (pureW N H0 hl) te δ (.int x)) (hv : valV kvs (.inl x) = some (.int z)) :
    EvE (pureW N H0 hl) (tDGet (tVar i) te) δ (.int z) := fun H σ g en Q q => by
  refine ⟨_, en.getV hi, hx H σ g en _ fun v d H1 r1 g1 p1 s1 => ?_⟩
  subst p1
  cases s1
  refine ⟨p, .int z, rfl, ?_, q _ _ H1 r1 g1 rfl (.int z)⟩
  have e := DGet.k (k := .inl x) (g1 p _ h0)
  rw [hv] at e
  exact e
def spMoved : Sp := fun vs H Q _ => ∃ (N : Addr → Prop) (sv : V) (p : Addr) (s : Sx) (kvs : List (Key × V)) (f : Nat → Nat), vs = [sv, .ref p] ∧ (∀ a, N a → H a ≠ none) ∧ Rp N H sv (encS s) ∧ H p = some (.dK kvs) ∧ (∀ x ∈ srcs s, valV kvs (.inl (x : Nat)) = some (.int (f x : Nat))) ∧
  ∀ v H', Same H H' → Rp N H' v (encS (mvS f s)) → Q v H'
abbrev sp_moved := spMoved
/-! ### moved -/
abbrev N_moved : List Str := ["step", "places"]
theorem sc_moved : FnScope N_moved ["step", "places"] (defScope s_moved) := ⟨rfl, rfl, rfl, by decide +kernel, rfl, by decide +kernel, by decide +kernel⟩
theorem ok_moved {P : Program} {w : World} {K : PySem.W.Frag} {mg : Str → Option Value} {base : Heap} (B : Bl mg) (D : DefH K mg "moved" s_moved)  : C8.Cal P w K mg base 1 "moved" spMoved [] := by
  refine cal_any D sc_moved (fun _ _ _ _ _ _ us hl => match us, hl with | [_, _], _ => rfl) (fun vs H Q E h => ?_) fun fa cdv A outer s H E hr => ⟨_, (pss_cons (ps_if (pt_cmpR (r := rEqD K) (op_eqD hr.units) (pe_ix (r := rIx K) ix_seq (pv 0 rfl (Or.inl rfl)) pe_int (fun _ _ => rfl)) pe_str (nomark _)) (pss_one (ps_ret (pv 0 rfl (Or.inl rfl)))) pss_nil)
    (pss_cons (ps_if (pt_cmpR (r := rEqD K) (op_eqD hr.units) (pe_ix (r := rIx K) ix_seq (pv 0 rfl (Or.inl rfl)) pe_int (fun _ _ => rfl)) pe_str (nomark _)) (pss_one (ps_ret (pe_tup (pa_cons pe_str (pa_cons (pe_dget (Room.u1 hr) (pv 1 rfl (Or.inl rfl)) (pe_ix (r := rIx K) ix_seq (pv 0 rfl (Or.inl rfl)) pe_int (fun _ _ => rfl)) (fun _ _ => rfl)) (pa_cons (pe_dget (Room.u1 hr) (pv 1 rfl (Or.inl rfl)) (pe_ix (r := rIx K) ix_seq (pv 0 rfl (Or.inl rfl)) pe_int (fun _ _ => rfl)) (fun _ _ => rfl)) (pa_cons (pe_ix (r := rIx K) ix_seq (pv 0 rfl (Or.inl rfl)) pe_int (fun _ _ => rfl)) pa_nil))))))) pss_nil)
    (pss_one (ps_ret (pe_tup (pa_cons pe_str (pa_cons (pe_dget (Room.u1 hr) (pv 1 rfl (Or.inl rfl)) (pe_ix (r := rIx K) ix_seq (pv 0 rfl (Or.inl rfl)) pe_int (fun _ _ => rfl)) (fun _ _ => rfl)) (pa_cons (pe_ix (r := rIx K) ix_seq (pv 0 rfl (Or.inl rfl)) pe_int (fun _ _ => rfl)) pa_nil)))))))), fun vs Q h => ?_⟩
  · obtain ⟨_, _, _, _, _, _, rfl, _⟩ := h
    rfl
  · obtain ⟨N, sv, p, s, kvs, f, rfl, hl, hs, hp, hf, k⟩ := h
    have en : En N H (L2.start N_moved [sv, .ref p]) [.d (encS s), .v (.ref p)] := ⟨rfl, fun i c e => by
      match i, e with
      | 0, e => cases e; exact ⟨_, rfl, sv, rfl, hs⟩
      | 1, e => cases e; exact ⟨_, rfl, rfl⟩⟩
    refine sm_go (W := pureW N H hl) (P := fun r => r = encS (mvS f s)) (fun _ _ e => e) en ?_ fun v d H' _ g' pd s => by
      subst pd
      exact k v H' g' s
    cases s with
    | ax k =>
      refine q_if (b := true) ((t_test (e_eqD (a := .str "axiom") (e_ixT (e_var rfl) e_int rfl) e_str (by decide +kernel) (by decide +kernel))).is rfl) (fun _ => sm_ret (e_var rfl)) (fun e => nomatch e)
    | rs a b v =>
      refine q_if (b := false) ((t_test (e_eqD (a := .str "resolve") (e_ixT (e_var rfl) e_int rfl) e_str (by decide +kernel) (by decide +kernel))).is (by decide +kernel)) (fun e => nomatch e) fun _ => ?_
      refine q_if (b := true) ((t_test (e_eqD (a := .str "resolve") (e_ixT (e_var rfl) e_int rfl) e_str (by decide +kernel) (by decide +kernel))).is rfl) (fun _ => sm_ret ?_) (fun e => nomatch e)
      exact e_tup (a_cons e_str (a_cons (e_dget hp rfl (e_ixT (e_var rfl) e_int rfl) (hf a (by simp [srcs]))) (a_cons (e_dget hp rfl (e_ixT (e_var rfl) e_int rfl) (hf b (by simp [srcs]))) (a_cons (e_ixT (e_var rfl) e_int rfl) a_nil)))) (by simp)
end K19
end
section
set_option Elab.async false
set_option linter.all false
set_option maxRecDepth 100000
set_option maxHeartbeats 4000000
namespace K19
open PySem L2
local macro_rules | `(tactic| walk_at "ev1") => `(tactic| first
  | exact e_var rfl | exact e_int | exact e_bl | exact e_non | exact e_str | exact a_nil | exact t_yes
  | refine a_cons ?_ ?_
  | (refine e_un ?_ (u_neg rfl))
  | (refine e_op ?_ ?_ (o_bl rfl)) | (refine e_op ?_ ?_ (o_int rfl))
  | (refine e_op ?_ ?_ (o_eqI rfl)) | (refine e_op ?_ ?_ (o_neI rfl))
  | (refine t_test ?_) | (refine t_B ?_) | (refine t_not ?_) | (refine e_notV ?_)
  | (refine e_cb ?_ (c_abs rfl)) | (refine e_cb ?_ (c_int rfl)))
local macro_rules | `(tactic| walk_at "ev") => `(tactic| repeat' walk_at "ev1")
/-! ## dicts whose keys are small ints -/
theorem any_keys {k : Key} {kvs : List (Key × V)} : (kvs.any fun kv => decide (kv.1 = k)) = true ↔ k ∈ kvs.map (·.1) := by
  rw [List.any_eq_true, List.mem_map]
  constructor
  · rintro ⟨p, hp, h⟩
    exact ⟨p, hp, by simpa using h⟩
  · rintro ⟨p, hp, h⟩
    exact ⟨p, hp, by simpa using h⟩
theorem put_keys_mem {k : Key} {v : V} {kvs : List (Key × V)} (h : k ∈ kvs.map (·.1)) : (putK kvs k v).map (·.1) = kvs.map (·.1) := by
  unfold putK
  rw [if_pos (any_keys.mpr h), List.map_map]
  refine List.map_congr_left fun p _ => ?_
  show (if p.1 = k then (p.1, v) else p).1 = p.1
  split <;> rfl
theorem put_keys_new {k : Key} {v : V} {kvs : List (Key × V)} (h : k ∉ kvs.map (·.1)) : (putK kvs k v).map (·.1) = kvs.map (·.1) ++ [k] := by
  unfold putK
  rw [if_neg fun z => h (any_keys.mp z), List.map_append]
  rfl
theorem val_some {k : Key} {kvs : List (Key × V)} : (valV kvs k).isSome = true ↔ k ∈ kvs.map (·.1) := by
  rw [← valV_any]
  exact any_keys
def ky (x : Nat) : Key := .inl (x : Int)
theorem ky_inj {x y : Nat} (h : ky x = ky y) : x = y := by
  injection h with h
  omega
def DU (kvs : List (Key × V)) (ns : List Nat) : Prop := kvs.map (·.1) = ns.map ky ∧ ns.Nodup
theorem DU.mem {kvs : List (Key × V)} {ns : List Nat} (h : DU kvs ns) (x : Nat) : ky x ∈ kvs.map (·.1) ↔ x ∈ ns := by
  rw [h.1, List.mem_map]
  constructor
  · rintro ⟨y, hy, e⟩
    exact ky_inj e ▸ hy
  · intro hx
    exact ⟨x, hx, rfl⟩
theorem DU.put {kvs : List (Key × V)} {ns : List Nat} (h : DU kvs ns) (x : Nat) (v : V) : DU (putK kvs (ky x) v) (if x ∈ ns then ns else ns ++ [x]) := by
  by_cases hx : x ∈ ns
  · rw [if_pos hx]
    exact ⟨by rw [put_keys_mem ((h.mem x).mpr hx)]; exact h.1, h.2⟩
  · rw [if_neg hx]
    refine ⟨by rw [put_keys_new fun z => hx ((h.mem x).mp z), h.1, List.map_append]; rfl, ?_⟩
    rw [List.nodup_append]
    exact ⟨h.2, by simp, fun a ha b hb e => hx (by rw [List.mem_singleton] at hb; rw [← hb, ← e]; exact ha)⟩
theorem nat_len {l : List Nat} {m : Nat} (hn : l.Nodup) (h : ∀ x ∈ l, x ≤ m) : l.length ≤ m + 1 := by
  have n1 : (l.map fun (x : Nat) => (x : Int)).Nodup := List.pairwise_map.mpr (hn.imp fun {a b} h e => h (by omega))
  have n2 : ∀ x ∈ (l.map fun (x : Nat) => (x : Int)), x ∈ rgV 0 (m + 1) := fun x hx => by
    obtain ⟨y, hy, rfl⟩ := List.mem_map.mp hx
    exact mem_rgV.mpr ⟨y, by have := h y hy; omega, by omega⟩
  have := nd_len n1 n2
  simpa [rgV] using this
/-- Y may change; it has not yet -/
def mutW (Y : Addr → Prop) (H0 : Hp) (hY : ∀ a, Y a → ∃ o, H0 a = some o ∧ ∀ xs, o ≠ .tup xs) : Wd where
  N := Y
  X := Y
  S := fun a => H0 a ≠ none
  G := fun H => Same H0 H
  ns := fun a y => by
    obtain ⟨o, e, _⟩ := hY a y
    rw [e]
    exact fun z => nomatch z
  xn := fun _ h => h
  live := fun H a g s => by
    cases q : H0 a with
    | none => exact absurd q s
    | some o =>
      rw [g a o q]
      exact fun z => nomatch z
  chg := fun H H' g k a o e => by
    rw [k a (by rw [e]; exact fun z => nomatch z)]
    exact g a o e
  mts := fun H a xs g x => by
    obtain ⟨o, e, n⟩ := hY a x
    rw [g a o e]
    exact fun z => n xs (Option.some.inj z)
def okSt (sts : List Sx) : Prop := sts.length ≤ 60 ∧ ∀ k s, sts[k]? = some s → ∀ x ∈ srcs s, x < k
def spPruned : Sp := fun vs H Q _ => ∃ (N : Addr → Prop) (sv : V) (last : Nat) (sts : List Sx), vs = [sv, .int (last : Nat)] ∧ (∀ a, N a → H a ≠ none) ∧ Rp N H sv (.list (sts.map encS)) ∧ okSt sts ∧ last < sts.length ∧
  ∀ U : List Nat, Closed sts U → last ∈ U → (∀ k ∈ U, k ≤ last) → ∀ v H', Same H H' → Rp N H' v (.tuple (U.map fun k => encS (mvS (pos U) (stAt sts k)))) → Q v H'
abbrev rSortDI : List V → Hp → VK → Prop := fun xs H Q => ∃ (a : Addr) (kvs : List (Key × V)) (ks : List Int), xs = [.ref a] ∧ Rd H a (.dK kvs) ∧ kvs.map (·.1) = ks.map Sum.inl ∧ ks.length < 64 ∧
    ∀ (ys : List Int) (p : Addr), ys.Perm ks → ys.Pairwise (· ≤ ·) → H p = none → Q (.ref p) (upd H p (.lst (ys.map V.int)))
theorem nl_encS (s : Sx) : nl (encS s) = true := by cases s <;> simp [encS, nl, nlA]
theorem nlA_encS (sts : List Sx) : nlA (sts.map encS) = true := by
  induction sts with
  | nil => rfl
  | cons s r ih => simp [nlA, nl_encS, ih]
theorem encS_at {sts : List Sx} {k : Nat} {s : Sx} (h : sts[k]? = some s) : (sts.map encS)[k]? = some (encS s) := by
  rw [List.getElem?_map, h]
  rfl
theorem pw_nat {U : List Nat} (h : (U.map fun (k : Nat) => (k : Int)).Pairwise (· ≤ ·)) (hn : U.Nodup) : U.Pairwise (· < ·) := by
  have h1 := List.pairwise_map.mp h
  have hn' : U.Pairwise (· ≠ ·) := hn
  exact (h1.and hn').imp fun ⟨a, b⟩ => by omega
theorem same_upd {H0 H : Hp} {p : Addr} {o : HO} (s : Same H0 H) (hp : H0 p = none) : Same H0 (upd H p o) := fun a u e => by
  rw [L2.upd_ne (ne_of_none e hp)]
  exact s a u e
theorem tups_upd {H : Hp} {p : Addr} {o o' : HO} (hp : H p = some o) (ho : ∀ xs, o ≠ .tup xs) : ∀ a xs, H a = some (.tup xs) → (upd H p o') a = some (.tup xs) := fun a xs e => by
  rw [L2.upd_ne]
  · exact e
  · rintro rfl
    rw [hp] at e
    exact ho xs (Option.some.inj e)
/-! ### pruned_to -/
abbrev N_pruned_to : List Str := ["steps", "last", "used", "k", "source", "places", "found"]
theorem sc_pruned_to : FnScope N_pruned_to ["steps", "last"] (defScope s_pruned_to) := ⟨rfl, rfl, rfl, by decide +kernel, rfl, by decide +kernel, by decide +kernel⟩
theorem ok_pruned_to {P : Program} {w : World} {K : PySem.W.Frag} {mg : Str → Option Value} {base : Heap} (B : Bl mg) (D : DefH K mg "pruned_to" s_pruned_to) (c_moved : C8.Cal P w K mg base 1 "moved" sp_moved []) (c_sources : C8.Cal P w K mg base 1 "sources" sp_sources []) : C8.Cal P w K mg base 2 "pruned_to" spPruned [] := by
  refine cal_any D sc_pruned_to (fun _ _ _ _ _ _ us hl => match us, hl with | [_, _], _ => rfl) (fun vs H Q E h => ?_) fun fa cdv A outer s H E hr => ⟨_, (pss_cons (ps_set (i := 2) sc_pruned_to.nd rfl (Or.inl rfl) (pe_disp (pps_cons (pv 1 rfl (Or.inl rfl)) pe_bl pps_nil) rfl rfl (by decide) (by decide)))
    (pss_cons (ps_for PassesOwn.never rfl (pi_range3 rfl B.range_ (pa_cons (pv 1 rfl (Or.inl rfl)) (pa_cons (pe_un un_neg pe_int) (pa_cons (pe_un un_neg pe_int) pa_nil)))) (pg_name (i := 3) sc_pruned_to.nd rfl (Or.inl rfl)) (pss_one (ps_if (pt_cmp (pc_din (Room.u1 hr) (pv 3 rfl (Or.inl rfl)) (pv 2 rfl (Or.inl rfl))) rfl) (pss_one (ps_for PassesOwn.never rfl (pi_list (C8.pe_c c_sources hr (by first | decide | omega) rfl (pa_cons (pe_ix (r := rIx K) ix_seq (pv 0 rfl (Or.inl rfl)) (pv 3 rfl (Or.inl rfl)) (fun _ _ => rfl)) pa_nil))) (pg_name (i := 4) sc_pruned_to.nd rfl (Or.inl rfl)) (pss_one (ps_dput (Room.u1 hr) (pv 2 rfl (Or.inl rfl)) (pv 4 rfl (Or.inl rfl)) pe_bl rfl)))) pss_nil)))
    (pss_cons (ps_set (i := 5) sc_pruned_to.nd rfl (Or.inl rfl) pe_dnewK)
    (pss_cons (ps_set (i := 6) sc_pruned_to.nd rfl (Or.inl rfl) (pe_lst pa_nil))
    (pss_cons (ps_for PassesOwn.never rfl (pi_list (pe_callB (r := rSortDI) (call_sortedDI rfl) rfl B.sorted_ (by decide +kernel) (pa_cons (pv 2 rfl (Or.inl rfl)) pa_nil))) (pg_name (i := 3) sc_pruned_to.nd rfl (Or.inl rfl)) (pss_cons (ps_dput (Room.u1 hr) (pv 5 rfl (Or.inl rfl)) (pv 3 rfl (Or.inl rfl)) (pe_callB (r := rLn K) call_len_seq rfl B.len_ (by decide +kernel) (pa_cons (pv 6 rfl (Or.inl rfl)) pa_nil)) rfl)
    (pss_one (ps_expr (pe_bm PySem.F.plainAttrs_list PySem.F.slot_list_append PySem.F.type_list_append mt_append (pv 6 rfl (Or.inl rfl)) (pa_cons (C8.pe_c c_moved hr (by first | decide | omega) rfl (pa_cons (pe_ix (r := rIx K) ix_seq (pv 0 rfl (Or.inl rfl)) (pv 3 rfl (Or.inl rfl)) (fun _ _ => rfl)) (pa_cons (pv 5 rfl (Or.inl rfl)) pa_nil))) pa_nil))))))
    (pss_one (ps_ret (pe_callTy (r := rTp K) call_tuple_of rfl B.tuple_ (by decide +kernel) (pa_cons (pv 6 rfl (Or.inl rfl)) pa_nil))))))))), fun vs Q h => ?_⟩
  · obtain ⟨_, _, _, _, rfl, _⟩ := h
    rfl
  · obtain ⟨N, sv, last, sts, rfl, hl, hs, hok, hlt, k⟩ := h
    cases hs with
    | @lst p1 vs1 _ hn1 h1 rs1 =>
    have rs0 : RpA No H vs1 (sts.map encS) := rs1.no
    -- used = {last: True}
    refine fun pu hpu => ?_
    refine ⟨_, rfl, upd_same, [(ky last, .bl true)], rfl, by show 1 ≤ 15; omega, ?_⟩
    have s1 : Same H (upd (upd H pu (.dK [])) pu (.dK (mergeK [] [(ky last, .bl true)]))) := same_upd (same_new hpu _) hpu
    have start1 : (upd (upd H pu (.dK [])) pu (.dK (mergeK [] [(ky last, .bl true)]))) pu = some (.dK [(ky last, .bl true)]) := upd_same
    generalize (upd (upd H pu (.dK [])) pu (.dK (mergeK [] [(ky last, .bl true)]))) = H1 at s1 start1
    have npu : p1 ≠ pu := fun z => by rw [z, hpu] at h1; cases h1
    have l60 := hok.1
    -- the first loop
    refine ⟨_, rfl, _, rfl, _, rfl, (last : Nat), -1, -1, last + 1, rfl, ?_, ?_⟩
    · have e := RgC.neg (i := (last : Nat)) (j := -1) (by omega) (by omega) (by omega) (by omega)
      have e2 : ((last : Int) - -1).toNat = last + 1 := by omega
      rw [e2] at e
      exact e
    have getS : ∀ m, m < sts.length → sts[m]? = some (stAt sts m) := fun m hm => by
      unfold stAt
      rw [List.getD_eq_getElem?_getD, List.getElem?_eq_getElem hm]
      rfl
    refine for_it walk_rangeC (fun i σ H2 => ∃ k3 k4 : Option V, σ = [some (.ref p1), some (.int (last : Nat)), some (.ref pu), k3, k4, none, none] ∧ Same H H2 ∧ ∃ kvs ns, H2 pu = some (.dK kvs) ∧ DU kvs ns ∧ last ∈ ns ∧ (∀ x ∈ ns, x ≤ last) ∧ ∀ x ∈ ns, last < x + i → ∀ s, sts[x]? = some s → ∀ y ∈ srcs s, y ∈ ns) ?_ (fun _ _ _ _ _ => True.intro) ?_ ?_
    · refine ⟨none, none, rfl, s1, _, [last], start1, ⟨rfl, by simp⟩, by simp, by simp, fun x hx z => ?_⟩
      rw [List.mem_singleton] at hx
      omega
    · rintro i x σ H9 H2 hi ⟨k3, k4, rfl, s2, kvs, ns, hu, hD, hl1, hl2, hcl⟩ ⟨e, ex⟩
      subst e
      have ek : x = .int ((last - i : Nat) : Int) := by
        rw [ex]
        show V.int (((last : Nat) : Int) + ((i : Nat) : Int) * (-1)) = _
        rw [show ((last : Nat) : Int) + ((i : Nat) : Int) * (-1) = ((last - i : Nat) : Int) by omega]
      subst ek
      refine ⟨_, rfl, _, rfl, pu, _, rfl, DGet.k (k := ky (last - i)) hu, _, rfl, ?_⟩
      have s2' : sts[last - i]? = some (stAt sts (last - i)) := getS _ (by omega)
      cases hb : (valV kvs (ky (last - i))).isSome with
      | false =>
        refine ⟨_, _, rfl, s2, kvs, ns, hu, hD, hl1, hl2, fun z hz hzi => ?_⟩
        by_cases hz2 : last < z + i
        · exact hcl z hz hz2
        · have : z = last - i := by have := hl2 z hz; omega
          subst this
          have := val_some.mpr ((hD.mem _).mpr hz)
          rw [hb] at this
          cases this
      | true =>
        have hkn : (last - i) ∈ ns := (hD.mem _).mp (val_some.mp hb)
        have hY : ∀ a, a = pu → ∃ o, H2 a = some o ∧ ∀ xs, o ≠ .tup xs := fun a e => ⟨.dK kvs, by rw [e]; exact hu, fun xs z => nomatch z⟩
        have r1 : Rp (fun a => a = pu) H2 (.ref p1) (.list (sts.map encS)) := .lst npu (s2 _ _ h1) (RpA.nl_keep (fun a xs e => s2 a _ e) _ _ (nlA_encS sts) rs0)
        have en : En (mutW (fun a => a = pu) H2 hY).N H2 [some (.ref p1), some (.int (last : Nat)), some (.ref pu), some (.int ((last - i : Nat) : Int)), k4, none, none] [.d (.list (sts.map encS)), .d (.int (last : Nat)), .v (.ref pu), .d (.int ((last - i : Nat) : Int)), .no, .no, .no] := ⟨rfl, fun j c e => by
          match j, e with
          | 0, e => cases e; exact ⟨_, rfl, _, rfl, r1⟩
          | 1, e => cases e; exact ⟨_, rfl, _, rfl, .int _⟩
          | 2, e => cases e; exact ⟨_, rfl, rfl⟩
          | 3, e => cases e; exact ⟨_, rfl, _, rfl, .int _⟩
          | 4, e => cases e; exact ⟨_, rfl, True.intro⟩
          | 5, e => cases e; exact ⟨_, rfl, True.intro⟩
          | 6, e => cases e; exact ⟨_, rfl, True.intro⟩⟩
        have hw : ItE (mutW (fun a => a = pu) H2 hY) (iList K (tCall sp_sources [] C8.E0 (tCons (tOp (rIx K) (tVar 0) (tVar 3)) tNil))) [.d (.list (sts.map encS)), .d (.int (last : Nat)), .v (.ref pu), .d (.int ((last - i : Nat) : Int)), .no, .no, .no] ((srcs (stAt sts (last - i))).map fun k => .int (k : Nat)) :=
          i_lst (u_sources (a_cons (e_ixL (e_var rfl) (e_var rfl) (by rw [show (((last - i : Nat) : Int)).toNat = last - i by omega]; exact encS_at s2')) a_nil))
        show tFor (iList K (tCall sp_sources [] C8.E0 (tCons (tOp (rIx K) (tVar 0) (tVar 3)) tNil))) (gName 4) (sDPut (tVar 2) (tVar 4) (tC (.bl true))) _ _ _
        refine hw H2 _ (fun _ _ e => e) en _ fun J H3 xs r3 g3 rs wk => ?_
        have g3' : Same H2 H3 := g3
        have lx : xs.length = (srcs (stAt sts (last - i))).length := by rw [rs.length, List.length_map]
        have mine : ∀ y ∈ srcs (stAt sts (last - i)), y < last - i := hok.2 _ _ s2'
        refine for_it wk (fun j σ H4 => ∃ k4 : Option V, σ = [some (.ref p1), some (.int (last : Nat)), some (.ref pu), some (.int ((last - i : Nat) : Int)), k4, none, none] ∧ (∀ a o, a ≠ pu → H3 a = some o → H4 a = some o) ∧ ∃ kvs' ns', H4 pu = some (.dK kvs') ∧ DU kvs' ns' ∧ (∀ x ∈ ns, x ∈ ns') ∧ (∀ x ∈ ns', x ∈ ns ∨ x < last - i) ∧ ∀ y ∈ (srcs (stAt sts (last - i))).take j, y ∈ ns') ?_ ?_ ?_ ?_
        · exact ⟨k4, rfl, fun a o _ e => e, kvs, ns, g3' _ _ hu, hD, fun x h => h, fun x h => .inl h, fun y hy => by simp at hy⟩
        · rintro j σ H4 _ ⟨_, _, b, _⟩
          exact fun a o n e => b a o n e
        · rintro j v σ H9 H4 hj ⟨k4', rfl, keep, kvs', ns', hu', hD', i1, i2, i3⟩ ⟨e, hv⟩
          subst e
          obtain ⟨d, hd, rv⟩ := rs.getV hv
          rw [List.getElem?_map] at hd
          cases q : (srcs (stAt sts (last - i)))[j]? with
          | none => rw [q] at hd; cases hd
          | some y =>
            rw [q] at hd
            cases hd
            cases rv
            have hy := mine y (List.mem_of_getElem? q)
            have lns : ns'.length ≤ 60 := by
              have := nat_len (m := last) hD'.2 fun x hx => by
                rcases i2 x hx with h | h
                · exact hl2 x h
                · omega
              omega
            have lkv : kvs'.length ≤ 60 := by
              have := congrArg List.length hD'.1
              simp at this
              omega
            refine ⟨_, rfl, _, rfl, pu, _, rfl, DPut.k (k := ky y) hu' (Nat.lt_of_le_of_lt lkv (by decide)), ?_⟩
            refine ⟨_, rfl, fun a o n e => by rw [L2.upd_ne n]; exact keep a o n e, _, _, upd_same, hD'.put y (.bl true), fun x hx => ?_, fun x hx => ?_, fun z hz => ?_⟩
            · split
              · exact i1 x hx
              · exact List.mem_append_left _ (i1 x hx)
            · split at hx
              · exact i2 x hx
              · rcases List.mem_append.mp hx with hx | hx
                · exact i2 x hx
                · rw [List.mem_singleton] at hx
                  exact .inr (by omega)
            · rw [List.take_succ, q] at hz
              rcases List.mem_append.mp hz with hz | hz
              · have := i3 z hz
                split
                · exact this
                · exact List.mem_append_left _ this
              · have : z = y := by simpa using hz
                subst this
                split
                · assumption
                · exact List.mem_append_right _ (by simp)
        · rintro σ H4 ⟨k4', rfl, keep, kvs', ns', hu', hD', i1, i2, i3⟩
          rw [lx, List.take_length] at i3
          refine ⟨_, _, rfl, fun a o e => ?_, kvs', ns', hu', hD', i1 _ hl1, fun x hx => ?_, fun z hz hzi s hs y hy => ?_⟩
          · have na : a ≠ pu := ne_of_none e hpu
            exact keep a o na (g3' a o (s2 a o e))
          · rcases i2 x hx with h | h
            · exact hl2 x h
            · omega
          · rcases i2 z hz with h | h
            · by_cases hz2 : last < z + i
              · exact i1 _ (hcl z h hz2 s hs y hy)
              · have : z = last - i := by have := hl2 z h; omega
                subst this
                rw [s2'] at hs
                cases hs
                exact i3 y hy
            · omega
    rintro σ H2 ⟨k3, k4, rfl, s2, kvs, ns, hu, hD, hl1, hl2, hcl⟩
    -- places = {}, found = []
    refine fun pp hpp => ?_
    refine ⟨Nat.zero_le _, fun pf hpf => ?_⟩
    have n1 : pp ≠ pu := fun z => by rw [z, hu] at hpp; cases hpp
    have n2 : pf ≠ pp := fun z => by rw [z, upd_same] at hpf; cases hpf
    have n3 : pf ≠ pu := fun z => by rw [z, L2.upd_ne n1.symm, hu] at hpf; cases hpf
    have hpp0 : H pp = none := by
      cases q : H pp with
      | none => rfl
      | some o => rw [s2 pp o q] at hpp; cases hpp
    have hpf0 : H pf = none := by
      cases q : H pf with
      | none => rfl
      | some o =>
        have := s2 pf o q
        rw [L2.upd_ne n2, this] at hpf
        cases hpf
    have s3 : Same H (upd (upd H2 pp (.dK [])) pf (.lst [])) := same_upd (same_upd s2 hpp0) hpf0
    have u3 : (upd (upd H2 pp (.dK [])) pf (.lst [])) pu = some (.dK kvs) := by rw [L2.upd_ne n3.symm, L2.upd_ne n1.symm]; exact hu
    have p3 : (upd (upd H2 pp (.dK [])) pf (.lst [])) pp = some (.dK []) := by rw [L2.upd_ne n2.symm]; exact upd_same
    have f3 : (upd (upd H2 pp (.dK [])) pf (.lst [])) pf = some (.lst []) := upd_same
    generalize (upd (upd H2 pp (.dK [])) pf (.lst [])) = H3 at s3 u3 p3 f3
    have lns : ns.length ≤ 60 := by have := nat_len hD.2 hl2; omega
    refine ⟨_, rfl, pu, kvs, ns.map fun (x : Nat) => (x : Int), rfl, Rd.of u3, by rw [hD.1, List.map_map]; rfl, by rw [List.length_map]; omega, fun ys ps perm pw hps => ?_⟩
    have hU : ∃ U : List Nat, ys = U.map fun (x : Nat) => (x : Int) := ⟨ys.map Int.toNat, by
      rw [List.map_map]
      have : ∀ y ∈ ys, ((fun (x : Nat) => (x : Int)) ∘ Int.toNat) y = y := fun y hy => by
        obtain ⟨x, _, rfl⟩ := List.mem_map.mp (perm.mem_iff.mp hy)
        show ((x : Int).toNat : Int) = x
        omega
      rw [List.map_congr_left this, List.map_id']⟩
    obtain ⟨U, rfl⟩ := hU
    have memU : ∀ x, x ∈ U ↔ x ∈ ns := fun x => by
      have := perm.mem_iff (a := (x : Int))
      rw [List.mem_map, List.mem_map] at this
      constructor
      · intro h
        obtain ⟨y, hy, e⟩ := this.mp ⟨x, h, rfl⟩
        have : y = x := by omega
        exact this ▸ hy
      · intro h
        obtain ⟨y, hy, e⟩ := this.mpr ⟨x, h, rfl⟩
        have : y = x := by omega
        exact this ▸ hy
    have nsU : (ns.map fun (x : Nat) => (x : Int)).Nodup := List.pairwise_map.mpr (hD.2.imp fun {a b} h e => h (by omega))
    have ndU : U.Nodup := by
      have := perm.nodup_iff.mpr nsU
      exact (List.pairwise_map.mp this).imp fun {a b} h e => h (by rw [e])
    have ascU := pw_nat pw ndU
    have clU : Closed sts U := ⟨ascU, fun k hk => by have := hl2 k ((memU k).mp hk); omega, fun k hk s hs x hx => (memU x).mpr (hcl k ((memU k).mp hk) (by omega) s hs x hx)⟩
    have lU : U.length ≤ 60 := by
      have := perm.length_eq
      simp at this
      omega
    refine ⟨ps, rfl, ⟨_, SqL.of upd_same⟩, ?_⟩
    have m1 : ps ≠ pu := fun z => by rw [z, u3] at hps; cases hps
    have m2 : ps ≠ pp := fun z => by rw [z, p3] at hps; cases hps
    have m3 : ps ≠ pf := fun z => by rw [z, f3] at hps; cases hps
    have hps0 : H ps = none := by
      cases q : H ps with
      | none => rfl
      | some o => rw [s3 ps o q] at hps; cases hps
    refine for_it (walk_list (K := K) (xs := (U.map fun (x : Nat) => (x : Int)).map V.int)) (fun i σ H4 => ∃ k3 k4 : Option V, σ = [some (.ref p1), some (.int (last : Nat)), some (.ref pu), k3, k4, some (.ref pp), some (.ref pf)] ∧ Same H H4 ∧ H4 ps = some (.lst ((U.map fun (x : Nat) => (x : Int)).map V.int)) ∧
      (∃ kv, H4 pp = some (.dK kv) ∧ kv.length ≤ i ∧ ∀ j x, U[j]? = some x → j < i → valV kv (ky x) = some (.int (j : Nat))) ∧ ∃ vs, H4 pf = some (.lst vs) ∧ RpA No H4 vs ((U.take i).map fun k => encS (mvS (pos U) (stAt sts k)))) ?_ (fun i σ H4 _ ⟨_, _, _, _, h, _⟩ => SqL.of h) ?_ ?_
    · refine ⟨k3, k4, rfl, same_upd s3 hps0, upd_same, ⟨[], by rw [L2.upd_ne m2.symm]; exact p3, Nat.le_refl _, fun j x _ h => by omega⟩, [], by rw [L2.upd_ne m3.symm]; exact f3, .nil⟩
    · rintro i v σ H9 H4 hi ⟨k3', k4', rfl, s4, hps4, ⟨kv, hpp4, lkv, hkv⟩, vs, hpf4, rvs⟩ ⟨e, hv⟩
      subst e
      rw [List.length_map, List.length_map] at hi
      have hUi : U[i]? = some U[i] := List.getElem?_eq_getElem hi
      rw [List.getElem?_map, List.getElem?_map, hUi] at hv
      cases hv
      generalize U[i] = x at hUi
      have lvs : vs.length = i := by
        have := rvs.length
        rw [List.length_map, List.length_take] at this
        omega
      have mx := List.mem_of_getElem? hUi
      have ltx := clU.lt x mx
      refine ⟨_, rfl, pf, vs, rfl, .inl (SqL.of hpf4), _, rfl, _, rfl, pp, _, rfl, DPut.k (k := ky x) hpp4 (Nat.lt_of_le_of_lt lkv (Nat.lt_of_lt_of_le (show i < 100 by omega) (by decide))), ?_⟩
      have s5 : Same H (upd H4 pp (.dK (putK kv (ky x) (.int (vs.length : Nat))))) := same_upd s4 hpp0
      have tp : ∀ a xs, H4 a = some (.tup xs) → (upd H4 pp (.dK (putK kv (ky x) (.int (vs.length : Nat))))) a = some (.tup xs) := tups_upd hpp4 fun xs z => nomatch z
      have rvs5 : RpA No (upd H4 pp (.dK (putK kv (ky x) (.int (vs.length : Nat))))) vs ((U.take i).map fun k => encS (mvS (pos U) (stAt sts k))) := RpA.nl_keep tp _ _ (by have := nlA_encS ((U.take i).map fun k => mvS (pos U) (stAt sts k)); rw [List.map_map] at this; exact this) rvs
      have p5 : (upd H4 pp (.dK (putK kv (ky x) (.int (vs.length : Nat))))) pp = some (.dK (putK kv (ky x) (.int (vs.length : Nat)))) := upd_same
      have f5 : (upd H4 pp (.dK (putK kv (ky x) (.int (vs.length : Nat))))) pf = some (.lst vs) := by rw [L2.upd_ne n2]; exact hpf4
      have ps5 : (upd H4 pp (.dK (putK kv (ky x) (.int (vs.length : Nat))))) ps = some (.lst ((U.map fun (x : Nat) => (x : Int)).map V.int)) := by rw [L2.upd_ne m2]; exact hps4
      generalize (upd H4 pp (.dK (putK kv (ky x) (.int (vs.length : Nat))))) = H5 at s5 tp rvs5 p5 f5 ps5
      obtain ⟨w, hw, rw'⟩ := rs0.get (encS_at (getS x ltx))
      have val5 : ∀ j z, U[j]? = some z → j < i + 1 → valV (putK kv (ky x) (.int (vs.length : Nat))) (ky z) = some (.int (j : Nat)) := fun j z hz hj => by
        rw [valV_put]
        by_cases hji : j = i
        · subst hji
          rw [hUi] at hz
          cases hz
          rw [if_pos rfl, lvs]
        · have hne : ¬ ky z = ky x := fun e => by
            have e' := ky_inj e
            subst e'
            have := pos_of ascU hz
            have := pos_of ascU hUi
            omega
          rw [if_neg hne]
          exact hkv j z hz (by omega)
      refine ⟨_, rfl, .inl ⟨rfl, vs, SqL.of f5⟩, _, rfl, _, rfl, .inl ⟨p1, vs1, (x : Nat), w, rfl, rfl, SqL.of (s5 _ _ h1), atI_nat hw, _, rfl, ?_⟩⟩
      refine ⟨No, w, pp, stAt sts x, _, pos U, rfl, fun _ z => z.elim, Rp.nl_keep (fun a xs e => s5 a _ e) _ _ (nl_encS _) rw', p5, fun y hy => ?_, fun u H6 s6 ru => ?_⟩
      · have yU := clU.cl x mx _ (getS x ltx) y hy
        have hy2 := hok.2 _ _ (getS x ltx) y hy
        have gy := pos_get yU
        have lt := (asc_get ascU gy hUi).mpr hy2
        exact val5 _ y gy (by omega)
      · refine ⟨pf, vs, u, rfl, rfl, s6 _ _ f5, Nat.lt_of_lt_of_le (show vs.length < 100 by omega) (by decide), ?_⟩
        have tp6 : ∀ a xs, H6 a = some (.tup xs) → (upd H6 pf (.lst (vs ++ [u]))) a = some (.tup xs) := tups_upd (s6 _ _ f5) fun xs z => nomatch z
        refine ⟨_, _, rfl, fun a o e => ?_, by rw [L2.upd_ne m3]; exact s6 _ _ ps5, ⟨_, by rw [L2.upd_ne n2.symm]; exact s6 _ _ p5, by have := length_putK kv (ky x) (.int (vs.length : Nat)); omega, val5⟩, _, upd_same, ?_⟩
        · rw [L2.upd_ne (ne_of_none e hpf0)]
          exact s6 a o (s5 a o e)
        · rw [List.take_succ, hUi, List.map_append]
          refine RpA.append (RpA.nl_keep (fun a xs e => tp6 a xs (s6 a _ e)) _ _ (by have := nlA_encS ((U.take i).map fun k => mvS (pos U) (stAt sts k)); rw [List.map_map] at this; exact this) rvs5) (.cons (Rp.nl_keep tp6 _ _ (nl_encS _) ru) .nil)
    · rintro σ H4 ⟨k3', k4', rfl, s4, hps4, _, vs, hpf4, rvs⟩
      rw [List.length_map, List.length_map, List.take_length] at rvs
      have nlr : nlA (U.map fun k => encS (mvS (pos U) (stAt sts k))) = true := by have := nlA_encS (U.map fun k => mvS (pos U) (stAt sts k)); rw [List.map_map] at this; exact this
      refine ⟨_, rfl, pf, vs, rfl, .inl ⟨SqL.of hpf4, fun l hl' => ?_⟩⟩
      have hl0 : H l = none := by
        cases q : H l with
        | none => rfl
        | some o => rw [s4 l o q] at hl'; cases hl'
      exact k U clU ((memU last).mpr hl1) (fun x hx => hl2 x ((memU x).mp hx)) _ _ (same_upd s4 hl0) (.tup upd_same (RpA.nl_keep (fun a xs e => same_new hl' _ a _ e) _ _ nlr rvs))
end K19
end
section
set_option Elab.async false
set_option linter.all false
set_option maxRecDepth 100000
set_option maxHeartbeats 4000000
namespace K19
open PySem L2
local macro_rules | `(tactic| walk_at "ev1") => `(tactic| first
  | exact e_var rfl | exact e_int | exact e_bl | exact e_non | exact e_str | exact a_nil | exact t_yes
  | refine a_cons ?_ ?_
  | (refine e_un ?_ (u_neg rfl))
  | (refine e_op ?_ ?_ (o_bl rfl)) | (refine e_op ?_ ?_ (o_int rfl))
  | (refine e_op ?_ ?_ (o_eqI rfl)) | (refine e_op ?_ ?_ (o_neI rfl))
  | (refine t_test ?_) | (refine t_B ?_) | (refine t_not ?_) | (refine e_notV ?_)
  | (refine e_cb ?_ (c_abs rfl)) | (refine e_cb ?_ (c_int rfl)))
local macro_rules | `(tactic| walk_at "ev") => `(tactic| repeat' walk_at "ev1")
theorem ifT {c : Bool} {A B : Prop} (h : c = true) (k : A) : if c = true then A else B := by
  rw [if_pos h]
  exact k
theorem en_nil {N : Addr → Prop} {H : Hp} : En N H [] [] := ⟨rfl, fun i k e => by cases e⟩
theorem en_cons {N : Addr → Prop} {H : Hp} {o : Option V} {k : Kn} {σ : Sl} {δ : Dn} (s : Slot N H o k) (h : En N H σ δ) : En N H (o :: σ) (k :: δ) := ⟨by simp [h.len], fun i c e => by
  cases i with
  | zero => cases e; exact ⟨o, rfl, s⟩
  | succ i => exact h.at_ i c e⟩
theorem sl_no {N : Addr → Prop} {H : Hp} {o : Option V} : Slot N H o .no := True.intro
theorem sl_d {N : Addr → Prop} {H : Hp} {v : V} {d : Pd} (r : Rp N H v d) : Slot N H (some v) (.d d) := ⟨v, rfl, r⟩
theorem sl_v {N : Addr → Prop} {H : Hp} {v : V} : Slot N H (some v) (.v v) := rfl
theorem evpA {ta : TA} {δ : Dn} {P : List Pd → Prop} {H : Hp} {σ : Sl} {Q : List V → Hp → Prop} (h : EvA (pureW No H fun _ z => z.elim) ta δ P) (en : En No H σ δ) (q : ∀ v d H', Same H H' → P d → RpA No H' v d → Q v H') : ta σ H Q := h H σ (fun _ _ e => e) en Q fun v d H' _ g p s => q v d H' g p s
theorem evpT {t : TT} {δ : Dn} {P : Bool → Prop} {H : Hp} {σ : Sl} {Q : Bool → Hp → Prop} (h : EvT (pureW No H fun _ z => z.elim) t δ P) (en : En No H σ δ) (q : ∀ b H', Same H H' → P b → Q b H') : t σ H Q := h H σ (fun _ _ e => e) en Q fun b H' _ g p => q b H' g p
theorem run_all {n : Int} {cs : List C} (hF : okF n cs) : ∀ (es : List Pd) (k0 ks : List C), (∀ c ∈ k0, cB c) → runP n cs k0 es = some ks → ∀ c ∈ ks, cB c
  | [], k0, ks, h0, h => by
    cases h
    exact h0
  | e :: es, k0, ks, h0, h => by
    have h' : ((nextP n cs k0 e).bind fun c => runP n cs (k0 ++ [c]) es) = some ks := h
    cases q : nextP n cs k0 e with
    | none => rw [q] at h'; cases h'
    | some c =>
      rw [q] at h'
      refine run_all hF es _ ks (fun x hx => ?_) h'
      rcases List.mem_append.mp hx with hx | hx
      · exact h0 x hx
      · rw [List.mem_singleton.mp hx]
        exact nextP_cB hF.1 hF.2 h0 q
/-- what the text has written of Shortener -/
structure ShH (K : PySem.W.Frag) (mg : Str → Option Value) (C : Addr) : Prop where
  cls : Cls K C
  nF : NoAttr K C "formula"
  nS : NoAttr K C "steps"
  nC : NoAttr K C "clauses"
  gC : mg "Shortener" = some (.ref C)
  init : ∃ f fd, FunD K "__init__" "Shortener.__init__" (defArgs s_Shortener_init) (defBody s_Shortener_init) (defScope s_Shortener_init) [] [] f fd ∧ Mk K C f
  add : ∃ f fd, FunD K "add" "Shortener.add" (defArgs s_Shortener_add) (defBody s_Shortener_add) (defScope s_Shortener_add) [] [] f fd ∧ Meth K C "add" f
  resolve : ∃ f fd, FunD K "resolve" "Shortener.resolve" (defArgs s_Shortener_resolve) (defBody s_Shortener_resolve) (defScope s_Shortener_resolve) [] [] f fd ∧ Meth K C "resolve" f
def wfs (vf : V) (p1 p2 : Addr) : List (Str × V) := [("formula", vf), ("steps", .ref p1), ("clauses", .ref p2)]
theorem wfs_F {vf : V} {p1 p2 : Addr} : List.lookup ("formula" : Str) (wfs vf p1 p2) = some vf := rfl
theorem wfs_S {vf : V} {p1 p2 : Addr} : List.lookup ("steps" : Str) (wfs vf p1 p2) = some (.ref p1) := rfl
theorem wfs_C {vf : V} {p1 p2 : Addr} : List.lookup ("clauses" : Str) (wfs vf p1 p2) = some (.ref p2) := rfl
theorem wfs_add {vf : V} {p1 p2 : Addr} : List.lookup ("add" : Str) (wfs vf p1 p2) = none := rfl
theorem wfs_res {vf : V} {p1 p2 : Addr} : List.lookup ("resolve" : Str) (wfs vf p1 p2) = none := rfl
/-- the writer -/
structure Wr (Cs x p1 p2 : Addr) (n : Int) (cs : List C) (sts : List Sx) (ks : List C) (H : Hp) : Prop where
  ins : ∃ dx vf, H x = some (.ins Cs dx (wfs vf p1 p2)) ∧ Rp No H vf (fm n cs)
  st : ∃ vs, H p1 = some (.lst vs) ∧ RpA No H vs (sts.map encS)
  kl : ∃ vs, H p2 = some (.lst vs) ∧ RpA No H vs (cls ks)
  ne : p1 ≠ p2
def RW (p1 p2 : Addr) (H H' : Hp) : Prop := ∀ a o, a ≠ p1 → a ≠ p2 → H a = some o → H' a = some o
theorem RW.of {p1 p2 : Addr} {H H' : Hp} (s : Same H H') : RW p1 p2 H H' := fun a o _ _ e => s a o e
theorem RW.trans {p1 p2 : Addr} {H H' H1 : Hp} (a : RW p1 p2 H H1) (b : RW p1 p2 H1 H') : RW p1 p2 H H' := fun x o n m e => b x o n m (a x o n m e)
section
variable {Cs x p1 p2 : Addr} {n : Int} {cs ks : List C} {sts : List Sx} {H H' : Hp}
theorem RW.tups (w : Wr Cs x p1 p2 n cs sts ks H) (r : RW p1 p2 H H') : ∀ a xs, H a = some (.tup xs) → H' a = some (.tup xs) := fun a xs e => by
  obtain ⟨v1, e1, _⟩ := w.st
  obtain ⟨v2, e2, _⟩ := w.kl
  refine r a _ (fun z => ?_) (fun z => ?_) e
  · rw [z, e1] at e
    cases e
  · rw [z, e2] at e
    cases e
theorem RW.rp (w : Wr Cs x p1 p2 n cs sts ks H) (r : RW p1 p2 H H') {v : V} {d : Pd} (h : nl d = true) (q : Rp No H v d) : Rp No H' v d := Rp.nl_keep (RW.tups w r) d v h q
theorem nl_fm : nl (fm n cs) = true := by
  show (nl (.int n) && (nl (.tuple (cls cs)) && true)) = true
  have : nl (.tuple (cls cs)) = true := nlA_cls cs
  rw [this]
  rfl
theorem Wr.same (w : Wr Cs x p1 p2 n cs sts ks H) (s : Same H H') : Wr Cs x p1 p2 n cs sts ks H' := by
  obtain ⟨dx, vf, e, r⟩ := w.ins
  obtain ⟨v1, e1, r1⟩ := w.st
  obtain ⟨v2, e2, r2⟩ := w.kl
  exact ⟨⟨dx, vf, s _ _ e, r.same s⟩, ⟨v1, s _ _ e1, r1.same s⟩, ⟨v2, s _ _ e2, r2.same s⟩, w.ne⟩
theorem Wr.pushS (w : Wr Cs x p1 p2 n cs sts ks H) {vs : List V} {v : V} {s : Sx} (e1 : H p1 = some (.lst vs)) (r1 : RpA No H vs (sts.map encS)) (rv : Rp No H v (encS s)) : Wr Cs x p1 p2 n cs (sts ++ [s]) ks (upd H p1 (.lst (vs ++ [v]))) ∧ RW p1 p2 H (upd H p1 (.lst (vs ++ [v]))) := by
  have r : RW p1 p2 H (upd H p1 (.lst (vs ++ [v]))) := fun a o n _ e => by rw [L2.upd_ne n]; exact e
  have tp := RW.tups w r
  obtain ⟨dx, vf, e, rf⟩ := w.ins
  obtain ⟨v2, e2, r2⟩ := w.kl
  refine ⟨⟨⟨dx, vf, ?_, Rp.nl_keep tp _ _ nl_fm rf⟩, ⟨_, upd_same, ?_⟩, ⟨v2, ?_, RpA.nl_keep tp _ _ (nlA_cls ks) r2⟩, w.ne⟩, r⟩
  · rw [L2.upd_ne]
    · exact e
    · rintro rfl
      rw [e] at e1
      cases e1
  · rw [List.map_append]
    exact (RpA.nl_keep tp _ _ (nlA_encS sts) r1).append (.cons (Rp.nl_keep tp _ _ (nl_encS s) rv) .nil)
  · rw [L2.upd_ne w.ne.symm]
    exact e2
theorem Wr.pushK (w : Wr Cs x p1 p2 n cs sts ks H) {vs : List V} {v : V} {c : C} (e2 : H p2 = some (.lst vs)) (r2 : RpA No H vs (cls ks)) (rv : Rp No H v (cl c)) : Wr Cs x p1 p2 n cs sts (ks ++ [c]) (upd H p2 (.lst (vs ++ [v]))) ∧ RW p1 p2 H (upd H p2 (.lst (vs ++ [v]))) := by
  have r : RW p1 p2 H (upd H p2 (.lst (vs ++ [v]))) := fun a o _ n e => by rw [L2.upd_ne n]; exact e
  have tp := RW.tups w r
  obtain ⟨dx, vf, e, rf⟩ := w.ins
  obtain ⟨v1, e1, r1⟩ := w.st
  refine ⟨⟨⟨dx, vf, ?_, Rp.nl_keep tp _ _ nl_fm rf⟩, ⟨v1, ?_, RpA.nl_keep tp _ _ (nlA_encS sts) r1⟩, ⟨_, upd_same, ?_⟩, w.ne⟩, r⟩
  · rw [L2.upd_ne]
    · exact e
    · rintro rfl
      rw [e] at e2
      cases e2
  · rw [L2.upd_ne w.ne]
    exact e1
  · unfold cls
    rw [List.map_append]
    exact (RpA.nl_keep tp _ _ (nlA_cls ks) r2).append (.cons (Rp.nl_keep tp _ _ (nl_cl c) rv) .nil)
theorem Wr.clauses (w : Wr Cs x p1 p2 n cs sts ks H) : Rp No H (.ref p2) (.list (cls ks)) := by
  obtain ⟨v2, e2, r2⟩ := w.kl
  exact .lst (fun z => z) e2 r2
theorem Wr.steps (w : Wr Cs x p1 p2 n cs sts ks H) : Rp No H (.ref p1) (.list (sts.map encS)) := by
  obtain ⟨v2, e2, r2⟩ := w.st
  exact .lst (fun z => z) e2 r2
/-- a field read, in a heap that stands -/
theorem e_fld {K : PySem.W.Frag} {f : Str} {u : V} {d : Pd} {δ : Dn} {i : Nat} {dx : Addr} {fs : List (Str × V)} (h : H x = some (.ins Cs dx fs)) (hc : Cls K Cs) (hn : NoAttr K Cs f) (hl : fs.lookup f = some u) (r : Rp No H u d) (hi : δ[i]? = some (.v (.ref x))) :
    EvE (pureW No H fun _ z => z.elim) (tFld K (tVar i) f) δ d := fun H1 σ g en Q q => ⟨_, en.getV hi, x, Cs, dx, fs, u, rfl, g _ _ h, hc, hn, hl, q u d H1 Wd.rfl' g rfl (r.same g)⟩
end
theorem encS_tup (s : Sx) : ∃ es, encS s = .tuple es ∧ ∀ e ∈ es, okD 19 e = true := by
  cases s with
  | ax k => exact ⟨_, rfl, fun e he => by
      rcases List.mem_cons.mp he with rfl | he
      · show PyData.canLay0 (.str "axiom") = true
        decide +kernel
      · rw [List.mem_singleton.mp he]
        rfl⟩
  | rs a b v => exact ⟨_, rfl, fun e he => by
      rcases List.mem_cons.mp he with rfl | he
      · show PyData.canLay0 (.str "resolve") = true
        decide +kernel
      · rcases List.mem_cons.mp he with rfl | he
        · rfl
        · rcases List.mem_cons.mp he with rfl | he
          · rfl
          · rw [List.mem_singleton.mp he]
            rfl⟩
def spAdd (Cs : Addr) : Sp := fun vs H Q _ => ∃ (x p1 p2 : Addr) (n : Int) (cs ks : List C) (sts : List Sx) (s : Sx) (vd : V) (c : C), vs = [.ref x, vd] ∧ Wr Cs x p1 p2 n cs sts ks H ∧ Rp No H vd (encS s) ∧ (∀ k ∈ ks, cB k) ∧ sts.length ≤ 1000 ∧ ks.length ≤ 1000 ∧
  nextP n cs ks (encS s) = some c ∧ ∀ H', RW p1 p2 H H' → Wr Cs x p1 p2 n cs (sts ++ [s]) (ks ++ [c]) H' → Q (.int (sts.length : Nat)) H'
def spResolve (Cs : Addr) : Sp := fun vs H Q _ => ∃ (x p1 p2 : Addr) (n : Int) (cs ks : List C) (sts : List Sx) (a b : Nat) (v : Int) (ca cb : C), vs = [.ref x, .int (a : Nat), .int (b : Nat), .int v] ∧ Wr Cs x p1 p2 n cs sts ks H ∧ (∀ k ∈ ks, cB k) ∧ sts.length ≤ 1000 ∧ ks.length ≤ 1000 ∧
  ks[a]? = some ca ∧ ks[b]? = some cb ∧ (v ∉ ca → ∀ H', Same H H' → Q (.int (a : Nat)) H') ∧ (v ∈ ca → -v ∉ cb → ∀ H', Same H H' → Q (.int (b : Nat)) H') ∧
  (v ∈ ca → -v ∈ cb → ∃ c, resC ca cb v = some c ∧ 0 < v ∧ v ≤ n ∧ ∀ H', RW p1 p2 H H' → Wr Cs x p1 p2 n cs (sts ++ [.rs a b v]) (ks ++ [c]) H' → Q (.int (sts.length : Nat)) H')
def spInit (Cs : Addr) : Sp := fun vs H Q _ => ∃ (x dx : Addr) (vf : V), vs = [.ref x, vf] ∧ H x = some (.ins Cs dx []) ∧ ∀ H' p1 p2, (∀ a o, a ≠ x → H a = some o → H' a = some o) → H' x = some (.ins Cs dx (wfs vf p1 p2)) → H' p1 = some (.lst []) → H' p2 = some (.lst []) → p1 ≠ p2 → H p1 = none → H p2 = none → Q .non H'
/-! ### Shortener.__init__ -/
abbrev N_Shortener_init : List Str := ["self", "formula"]
theorem sc_Shortener_init : FnScope N_Shortener_init ["self", "formula"] (defScope s_Shortener_init) := ⟨rfl, rfl, rfl, by decide +kernel, rfl, by decide +kernel, by decide +kernel⟩
theorem ok_Shortener_init {P : Program} {w : World} {K : PySem.W.Frag} {mg : Str → Option Value} {base : Heap} (B : Bl mg) {Cs : Addr} (S : ShH K mg Cs) : C8.Mak P w K mg base 1 "Shortener" Cs (spInit Cs) [] := by
  obtain ⟨f, fd, F, hm⟩ := S.init
  refine ⟨f, fd, ["self", "formula"], [], hm, ?_, S.gC, F.bindsN (fun _ _ _ _ _ _ us hl => match us, hl with | [_, _], _ => rfl), .nil⟩
  refine F.ok sc_Shortener_init (fun vs H Q E h => ?_) fun cdv A outer s H vs Q E hr h => ⟨_, PSs.nox (pss_cons (ps_fld (pv 0 rfl (Or.inl rfl)) (pv 1 rfl (Or.inl rfl)) rfl)
    (pss_cons (ps_fld (pv 0 rfl (Or.inl rfl)) (pe_lst pa_nil) rfl)
    (pss_one (ps_fld (pv 0 rfl (Or.inl rfl)) (pe_lst pa_nil) rfl)))), ?_⟩
  · obtain ⟨_, _, _, rfl, _⟩ := h
    rfl
  · obtain ⟨x, dx, vf, rfl, hx, k⟩ := h
    refine ⟨_, rfl, _, rfl, x, Cs, dx, _, rfl, hx, S.cls, S.nF, by decide, ?_⟩
    have h1 : (upd H x (.ins Cs dx (putF "formula" vf []))) x = some (.ins Cs dx [("formula", vf)]) := upd_same
    have r1 : ∀ a o, a ≠ x → H a = some o → (upd H x (.ins Cs dx (putF "formula" vf []))) a = some o := fun a o n e => by rw [L2.upd_ne n]; exact e
    generalize (upd H x (.ins Cs dx (putF "formula" vf []))) = H1 at h1 r1
    refine ⟨Nat.zero_le _, fun p1 hp1 => ⟨_, rfl, x, Cs, dx, _, rfl, same_new hp1 _ _ _ h1, S.cls, S.nS, by show 1 < 1000; omega, ?_⟩⟩
    have n1 : p1 ≠ x := fun z => by rw [z, h1] at hp1; cases hp1
    have h2 : (upd (upd H1 p1 (.lst [])) x (.ins Cs dx (putF "steps" (.ref p1) [("formula", vf)]))) x = some (.ins Cs dx [("formula", vf), ("steps", .ref p1)]) := upd_same
    have f2 : (upd (upd H1 p1 (.lst [])) x (.ins Cs dx (putF "steps" (.ref p1) [("formula", vf)]))) p1 = some (.lst []) := by rw [L2.upd_ne n1]; exact upd_same
    have r2 : ∀ a o, a ≠ x → H a = some o → (upd (upd H1 p1 (.lst [])) x (.ins Cs dx (putF "steps" (.ref p1) [("formula", vf)]))) a = some o := fun a o n e => by rw [L2.upd_ne n]; exact same_new hp1 _ _ _ (r1 a o n e)
    generalize (upd (upd H1 p1 (.lst [])) x (.ins Cs dx (putF "steps" (.ref p1) [("formula", vf)]))) = H2 at h2 f2 r2
    refine ⟨Nat.zero_le _, fun p2 hp2 => ⟨_, rfl, x, Cs, dx, _, rfl, same_new hp2 _ _ _ h2, S.cls, S.nC, by show 2 < 1000; omega, ?_⟩⟩
    have n2 : p2 ≠ x := fun z => by rw [z, h2] at hp2; cases hp2
    have n3 : p1 ≠ p2 := fun z => by rw [← z, f2] at hp2; cases hp2
    refine k _ p1 p2 (fun a o n e => ?_) upd_same ?_ ?_ n3 ?_ ?_
    · rw [L2.upd_ne n]
      exact same_new hp2 _ _ _ (r2 a o n e)
    · rw [L2.upd_ne n1]
      exact same_new hp2 _ _ _ f2
    · rw [L2.upd_ne n2]
      exact upd_same
    · cases q : H p1 with
      | none => rfl
      | some o => rw [r1 p1 o n1 q] at hp1; cases hp1
    · cases q : H p2 with
      | none => rfl
      | some o => rw [r2 p2 o n2 q] at hp2; cases hp2
/-! ### Shortener.add -/
abbrev N_Shortener_add : List Str := ["self", "step"]
theorem sc_Shortener_add : FnScope N_Shortener_add ["self", "step"] (defScope s_Shortener_add) := ⟨rfl, rfl, rfl, by decide +kernel, rfl, by decide +kernel, by decide +kernel⟩
theorem ok_Shortener_add {P : Program} {w : World} {K : PySem.W.Frag} {mg : Str → Option Value} {base : Heap} (B : Bl mg) {Cs : Addr} (S : ShH K mg Cs) (c_next_clause : C8.Cal P w K mg base 5 "next_clause" sp_next_clause []) : C8.Met P w K mg base 6 Cs "add" (spAdd Cs) [] := by
  obtain ⟨f, fd, F, hm⟩ := S.add
  refine ⟨f, fd, ["self", "step"], [], S.cls, hm, ?_, F.bindsN (fun _ _ _ _ _ _ us hl => match us, hl with | [_, _], _ => rfl), .nil⟩
  refine F.ok sc_Shortener_add (fun vs H Q E h => ?_) fun cdv A outer s H vs Q E hr h => ⟨_, PSs.nox (pss_cons (ps_expr (pe_bm PySem.F.plainAttrs_list PySem.F.slot_list_append PySem.F.type_list_append mt_append (pe_fld (pv 0 rfl (Or.inl rfl)) rfl) (pa_cons (C8.pe_c c_next_clause hr (by first | decide | omega) rfl (pa_cons (pe_fld (pv 0 rfl (Or.inl rfl)) rfl) (pa_cons (pe_fld (pv 0 rfl (Or.inl rfl)) rfl) (pa_cons (pv 1 rfl (Or.inl rfl)) pa_nil)))) pa_nil)))
    (pss_cons (ps_expr (pe_bm PySem.F.plainAttrs_list PySem.F.slot_list_append PySem.F.type_list_append mt_append (pe_fld (pv 0 rfl (Or.inl rfl)) rfl) (pa_cons (pv 1 rfl (Or.inl rfl)) pa_nil)))
    (pss_one (ps_ret (pe_op op_sub (pe_callB (r := rLn K) call_len_seq rfl B.len_ (by decide +kernel) (pa_cons (pe_fld (pv 0 rfl (Or.inl rfl)) rfl) pa_nil)) pe_int))))), ?_⟩
  · obtain ⟨_, _, _, _, _, _, _, _, _, _, rfl, _⟩ := h
    rfl
  · obtain ⟨x, p1, p2, n, cs, ks, sts, s, vd, c, rfl, w, rd, hk, l1, l2, hn, k⟩ := h
    obtain ⟨dx, vf, hx, rf⟩ := w.ins
    obtain ⟨v2, e2, r2⟩ := w.kl
    refine ⟨_, rfl, x, Cs, dx, _, .ref p2, rfl, hx, S.cls, S.nC, wfs_C, .inl ⟨rfl, v2, SqL.of e2⟩, ?_⟩
    obtain ⟨es, ees, hes⟩ := encS_tup s
    have en : En No H [some (.ref x), some vd] [.v (.ref x), .d (encS s)] := en_cons sl_v (en_cons (sl_d rd) en_nil)
    refine evpA (δ := [.v (.ref x), .d (encS s)]) (P := fun ds => ds = [cl c]) (a_cons (Ev.is (u_next_clause (ks := ks) (a_cons (e_fld hx S.cls S.nF wfs_F rf rfl) (a_cons (e_fld hx S.cls S.nC wfs_C w.clauses rfl) (a_cons ((e_var rfl).is ees) a_nil))) (fun c hc => cB_len30 (hk c hc)) hes) (by rw [← ees, hn]; rfl)) a_nil) en fun vs ds H1 s1 ed rs => ?_
    subst ed
    have w1 := w.same s1
    cases rs with
    | @cons u _ _ _ ru rs =>
    cases rs
    have l2' : v2.length ≤ 1000 := by rw [r2.length, cls_len]; exact l2
    refine ⟨p2, v2, u, rfl, rfl, s1 _ _ e2, Nat.lt_of_lt_of_le (show v2.length < 100000 by omega) (by decide), ?_⟩
    obtain ⟨w2, q2⟩ := w1.pushK (s1 _ _ e2) (r2.same s1) ru
    have rd2 : Rp No _ vd (encS s) := RW.rp w1 q2 (nl_encS s) (rd.same s1)
    obtain ⟨dx2, vf2, hx2, rf2⟩ := w2.ins
    obtain ⟨v1, e1, r1⟩ := w2.st
    have l1' : v1.length ≤ 1000 := by rw [r1.length, List.length_map]; exact l1
    refine ⟨_, rfl, x, Cs, dx2, _, .ref p1, rfl, hx2, S.cls, S.nS, wfs_S, .inl ⟨rfl, v1, SqL.of e1⟩, _, rfl, p1, v1, vd, rfl, rfl, e1, Nat.lt_of_lt_of_le (show v1.length < 100000 by omega) (by decide), ?_⟩
    obtain ⟨w3, q3⟩ := w2.pushS e1 r1 rd2
    obtain ⟨dx3, vf3, hx3, rf3⟩ := w3.ins
    refine ⟨_, rfl, x, Cs, dx3, _, .ref p1, rfl, hx3, S.cls, S.nS, wfs_S, p1, _, rfl, .inl (SqL.of upd_same), _, _, rfl, rfl, ?_⟩
    have e4 : (((v1 ++ [vd]).length : Nat) : Int) - 1 = (sts.length : Nat) := by
      rw [List.length_append, r1.length, List.length_map, List.length_singleton]
      omega
    show Q (.int ((((v1 ++ [vd]).length : Nat) : Int) - 1)) _
    rw [e4]
    exact k _ ((RW.of s1).trans (q2.trans q3)) w3
/-! ### Shortener.resolve -/
abbrev N_Shortener_resolve : List Str := ["self", "a", "b", "v"]
theorem sc_Shortener_resolve : FnScope N_Shortener_resolve ["self", "a", "b", "v"] (defScope s_Shortener_resolve) := ⟨rfl, rfl, rfl, by decide +kernel, rfl, by decide +kernel, by decide +kernel⟩
theorem ok_Shortener_resolve {P : Program} {w : World} {K : PySem.W.Frag} {mg : Str → Option Value} {base : Heap} (B : Bl mg) {Cs : Addr} (S : ShH K mg Cs) (m_add : C8.Met P w K mg base 6 Cs "add" (spAdd Cs) []) : C8.Met P w K mg base 7 Cs "resolve" (spResolve Cs) [] := by
  obtain ⟨f, fd, F, hm⟩ := S.resolve
  refine ⟨f, fd, ["self", "a", "b", "v"], [], S.cls, hm, ?_, F.bindsN (fun _ _ _ _ _ _ us hl => match us, hl with | [_, _, _, _], _ => rfl), .nil⟩
  refine F.ok sc_Shortener_resolve (fun vs H Q E h => ?_) fun cdv A outer s H vs Q E hr h => ⟨_, PSs.nox (pss_cons (ps_if (pt_cmpR (r := rIn K true) op_notIn_seq (pv 3 rfl (Or.inl rfl)) (pe_ix (r := rIx K) ix_seq (pe_fld (pv 0 rfl (Or.inl rfl)) rfl) (pv 1 rfl (Or.inl rfl)) (fun _ _ => rfl)) rfl) (pss_one (ps_ret (pv 1 rfl (Or.inl rfl)))) pss_nil)
    (pss_cons (ps_if (pt_cmpR (r := rIn K true) op_notIn_seq (pe_un un_neg (pv 3 rfl (Or.inl rfl))) (pe_ix (r := rIx K) ix_seq (pe_fld (pv 0 rfl (Or.inl rfl)) rfl) (pv 2 rfl (Or.inl rfl)) (fun _ _ => rfl)) rfl) (pss_one (ps_ret (pv 2 rfl (Or.inl rfl)))) pss_nil)
    (pss_one (ps_ret (C8.pe_mt m_add hr (by first | decide | omega) (pv 0 rfl (Or.inl rfl)) (pa_cons (pe_tup (pa_cons pe_str (pa_cons (pv 1 rfl (Or.inl rfl)) (pa_cons (pv 2 rfl (Or.inl rfl)) (pa_cons (pv 3 rfl (Or.inl rfl)) pa_nil))))) pa_nil)))))), ?_⟩
  · obtain ⟨_, _, _, _, _, _, _, _, _, _, _, _, rfl, _⟩ := h
    rfl
  · obtain ⟨x, p1, p2, n, cs, ks, sts, a, b, v, ca, cb, rfl, w, hk, l1, l2, ha, hb, k1, k2, k3⟩ := h
    obtain ⟨dx, vf, hx, rf⟩ := w.ins
    have en : En No H [some (.ref x), some (.int (a : Nat)), some (.int (b : Nat)), some (.int v)] [.v (.ref x), .d (.int (a : Nat)), .d (.int (b : Nat)), .d (.int v)] := en_cons sl_v (en_cons (sl_d (.int _)) (en_cons (sl_d (.int _)) (en_cons (sl_d (.int _)) en_nil)))
    refine evpT (δ := [.v (.ref x), .d (.int (a : Nat)), .d (.int (b : Nat)), .d (.int v)]) (t_test (e_niT (e_var rfl) (e_ixL (e_fld hx S.cls S.nC wfs_C w.clauses rfl) (e_var rfl) (by rw [show ((a : Nat) : Int).toNat = a by omega]; exact cls_get ha)))) en fun t H1 s1 et => ?_
    subst et
    by_cases hv : v ∈ ca
    · rw [decide_eq_true hv]
      show tNext _ _ _
      have w1 := w.same s1
      have en1 := en.same s1
      obtain ⟨dx, vf, hx, rf⟩ := w1.ins
      refine evpT (δ := [.v (.ref x), .d (.int (a : Nat)), .d (.int (b : Nat)), .d (.int v)]) (t_test (e_niT (e_neg (e_var rfl)) (e_ixL (e_fld hx S.cls S.nC wfs_C w1.clauses rfl) (e_var rfl) (by rw [show ((b : Nat) : Int).toNat = b by omega]; exact cls_get hb)))) en1 fun t H2 s2 et => ?_
      subst et
      have s12 : Same H H2 := fun a o e => s2 a o (s1 a o e)
      by_cases hw : -v ∈ cb
      · rw [decide_eq_true hw]
        show tNext _ _ _
        obtain ⟨c, hc, hv0, hvn, k3⟩ := k3 hv hw
        have w2 := w1.same s2
        obtain ⟨dx, vf, hx, rf⟩ := w2.ins
        refine ⟨_, rfl, x, dx, _, rfl, hx, wfs_add, ?_⟩
        refine evpA (δ := [.v (.ref x), .d (.int (a : Nat)), .d (.int (b : Nat)), .d (.int v)]) (P := fun ds => ds = [encS (.rs a b v)]) (a_cons (e_tup (a_cons e_str (a_cons (e_var rfl) (a_cons (e_var rfl) (a_cons (e_var rfl) a_nil)))) (by simp)) a_nil) (en1.same s2) fun vs ds H3 s3 ed rs => ?_
        subst ed
        cases rs with
        | @cons u _ _ _ ru rs =>
        cases rs
        exact ⟨x, p1, p2, n, cs, ks, sts, .rs a b v, u, c, rfl, w2.same s3, ru, hk, l1, l2, by rw [next_rs, if_pos ⟨hv0, hvn⟩, ha, hb]; exact hc, fun H' r w' => k3 H' ((RW.of fun a o e => s3 a o (s12 a o e)).trans r) w'⟩
      · rw [decide_eq_false hw]
        refine ifT (c := !false) rfl ?_
        exact ⟨_, rfl, k2 hv hw _ s12⟩
    · rw [decide_eq_false hv]
      refine ifT (c := !false) rfl ?_
      exact ⟨_, rfl, k1 hv _ s1⟩
end K19
end
section
set_option Elab.async false
set_option linter.all false
set_option maxRecDepth 100000
set_option maxHeartbeats 4000000
namespace K19
open PySem L2
local macro_rules | `(tactic| walk_at "ev1") => `(tactic| first
  | exact e_var rfl | exact e_int | exact e_bl | exact e_non | exact e_str | exact a_nil | exact t_yes
  | refine a_cons ?_ ?_
  | (refine e_un ?_ (u_neg rfl))
  | (refine e_op ?_ ?_ (o_bl rfl)) | (refine e_op ?_ ?_ (o_int rfl))
  | (refine e_op ?_ ?_ (o_eqI rfl)) | (refine e_op ?_ ?_ (o_neI rfl))
  | (refine t_test ?_) | (refine t_B ?_) | (refine t_not ?_) | (refine e_notV ?_)
  | (refine e_cb ?_ (c_abs rfl)) | (refine e_cb ?_ (c_int rfl)))
local macro_rules | `(tactic| walk_at "ev") => `(tactic| repeat' walk_at "ev1")
theorem cal_no {P : Program} {w : World} {K : PySem.W.Frag} {mg : Str → Option Value} {base : Heap} {x : Str} {st : Stmt} {ps : List Str} {k : Nat} {sp : Sp} (D : DefH K mg x st) (hb : BindS x st ps) (h : ∀ vs H Q E, ¬ sp vs H Q E) : C8.Cal P w K mg base k x sp [] := by
  obtain ⟨f, fd, F, m⟩ := D.ex
  exact ⟨f, fd, ps, [], ⟨fun vs H Q E z => (h _ _ _ _ z).elim, fun A outer s H args us vs Q E _ _ _ _ z => (h _ _ _ _ z).elim⟩, m, F.kp, F.bindsN hb, .nil⟩
theorem cal_mono {P : Program} {w : World} {K : PySem.W.Frag} {mg : Str → Option Value} {base : Heap} {x : Str} {j k : Nat} {sp : Sp} (c : C8.Cal P w K mg base j x sp []) (h : j ≤ k) : C8.Cal P w K mg base k x sp [] := by
  obtain ⟨f, fd, ps, ds, F, a, b, d, e⟩ := c.ex
  exact ⟨f, fd, ps, ds, F.mono h, a, b, d, e⟩
def spWT (Cs : Addr) (m : Nat) : Sp := fun vs H Q _ => ∃ (x p1 p2 : Addr) (n : Int) (cs ks : List C) (sts : List Sx) (vt : V) (T : Tr) (cube : C), vs = [.ref x, vt] ∧ Wr Cs x p1 p2 n cs sts ks H ∧ Rp No H vt (encT T) ∧ dep T < m ∧ RT n cs cube T ∧ goodC n cube = true ∧ okF n cs ∧
  runP n cs [] (sts.map encS) = some ks ∧ sts.length + nds T ≤ 500 ∧
  ∀ H' (s2 : List Sx) (k2 : List C) (i : Nat) (c : C), RW p1 p2 H H' → Wr Cs x p1 p2 n cs (sts ++ s2) (ks ++ k2) H' → s2.length ≤ nds T → runP n cs [] ((sts ++ s2).map encS) = some (ks ++ k2) → (ks ++ k2)[i]? = some c → fals cube c = true → Q (.int (i : Nat)) H'
theorem run_snoc {n : Int} {cs ks : List C} {sts : List Sx} {s : Sx} {c : C} (h : runP n cs [] (sts.map encS) = some ks) (hn : nextP n cs ks (encS s) = some c) : runP n cs [] ((sts ++ [s]).map encS) = some (ks ++ [c]) := by
  rw [List.map_append, runP_app, h, Option.bind_some]
  show (nextP n cs ks (encS s)).bind _ = _
  rw [hn]
  rfl
theorem encT_leaf (k : Nat) : encT (.leaf k) = .tuple [.str "leaf", .int (k : Nat)] := rfl
theorem encT_ask (v : Int) (l h : Tr) : encT (.ask v l h) = .tuple [.str "ask", .int v, encT l, encT h] := rfl
/-! ### write_tree -/
abbrev N_write_tree : List Str := ["writer", "tree", "low", "high"]
theorem sc_write_tree : FnScope N_write_tree ["writer", "tree"] (defScope s_write_tree) := ⟨rfl, rfl, rfl, by decide +kernel, rfl, by decide +kernel, by decide +kernel⟩
theorem ok_write_tree {P : Program} {w : World} {K : PySem.W.Frag} {mg : Str → Option Value} {base : Heap} (B : Bl mg) (D : DefH K mg "write_tree" s_write_tree) {Cs : Addr} (S : ShH K mg Cs) {m : Nat} (c_write_tree : C8.Cal P w K mg base (7 + m) "write_tree" (spWT Cs m) []) (m_add : C8.Met P w K mg base 6 Cs "add" (spAdd Cs) []) (m_resolve : C8.Met P w K mg base 7 Cs "resolve" (spResolve Cs) []) : C8.Cal P w K mg base (7 + m + 1) "write_tree" (spWT Cs (m + 1)) [] := by
  refine cal_any D sc_write_tree (fun _ _ _ _ _ _ us hl => match us, hl with | [_, _], _ => rfl) (fun vs H Q E h => ?_) fun fa cdv A outer s H E hr => ⟨_, (pss_cons (ps_if (pt_cmpR (r := rEqD K) (op_eqD hr.units) (pe_ix (r := rIx K) ix_seq (pv 1 rfl (Or.inl rfl)) pe_int (fun _ _ => rfl)) pe_str (nomark _)) (pss_one (ps_ret (C8.pe_mt m_add hr (by first | decide | omega) (pv 0 rfl (Or.inl rfl)) (pa_cons (pe_tup (pa_cons pe_str (pa_cons (pe_ix (r := rIx K) ix_seq (pv 1 rfl (Or.inl rfl)) pe_int (fun _ _ => rfl)) pa_nil))) pa_nil)))) pss_nil)
    (pss_cons (ps_set (i := 2) sc_write_tree.nd rfl (Or.inl rfl) (C8.pe_c c_write_tree hr (by first | decide | omega) rfl (pa_cons (pv 0 rfl (Or.inl rfl)) (pa_cons (pe_ix (r := rIx K) ix_seq (pv 1 rfl (Or.inl rfl)) pe_int (fun _ _ => rfl)) pa_nil))))
    (pss_cons (ps_if (pt_cmpR (r := rIn K true) op_notIn_seq (pe_ix (r := rIx K) ix_seq (pv 1 rfl (Or.inl rfl)) pe_int (fun _ _ => rfl)) (pe_ix (r := rIx K) ix_seq (pe_fld (pv 0 rfl (Or.inl rfl)) rfl) (pv 2 rfl (Or.inl rfl)) (fun _ _ => rfl)) rfl) (pss_one (ps_ret (pv 2 rfl (Or.inl rfl)))) pss_nil)
    (pss_cons (ps_set (i := 3) sc_write_tree.nd rfl (Or.inl rfl) (C8.pe_c c_write_tree hr (by first | decide | omega) rfl (pa_cons (pv 0 rfl (Or.inl rfl)) (pa_cons (pe_ix (r := rIx K) ix_seq (pv 1 rfl (Or.inl rfl)) pe_int (fun _ _ => rfl)) pa_nil))))
    (pss_one (ps_ret (C8.pe_mt m_resolve hr (by first | decide | omega) (pv 0 rfl (Or.inl rfl)) (pa_cons (pv 2 rfl (Or.inl rfl)) (pa_cons (pv 3 rfl (Or.inl rfl)) (pa_cons (pe_ix (r := rIx K) ix_seq (pv 1 rfl (Or.inl rfl)) pe_int (fun _ _ => rfl)) pa_nil)))))))))), fun vs Q h => ?_⟩
  · obtain ⟨_, _, _, _, _, _, _, _, _, _, rfl, _⟩ := h
    rfl
  · obtain ⟨x, p1, p2, n, cs, ks, sts, vt, T, cube, rfl, w, rt, hd, hT, hg, hF, hrun, hl, k⟩ := h
    have lk := run_len _ _ _ hrun
    rw [List.length_map] at lk
    have lk' : ks.length = sts.length := by simpa using lk
    have hkB := run_all hF _ _ _ (fun c (hc : c ∈ []) => (List.not_mem_nil hc).elim) hrun
    cases T with
    | leaf kk =>
      rw [encT_leaf] at rt
      have en : En No H [some (.ref x), some vt, none, none] [.v (.ref x), .d (.tuple [.str "leaf", .int (kk : Nat)]), .no, .no] := en_cons sl_v (en_cons (sl_d rt) (en_cons sl_no (en_cons sl_no en_nil)))
      refine evpT (δ := [.v (.ref x), .d (.tuple [.str "leaf", .int (kk : Nat)]), .no, .no]) (P := fun b => b = true) ((t_test (e_eqD (a := .str "leaf") (e_ixT (e_var rfl) e_int rfl) e_str (by decide +kernel) (by decide +kernel))).is rfl) en fun t H1 s1 et => ?_
      subst et
      refine ifT (c := true) rfl ?_
      have w1 := w.same s1
      obtain ⟨dx, vf, hx, rf⟩ := w1.ins
      obtain ⟨e, he, hf⟩ := hT
      refine ⟨_, rfl, x, dx, _, rfl, hx, wfs_add, ?_⟩
      refine evpA (δ := [.v (.ref x), .d (.tuple [.str "leaf", .int (kk : Nat)]), .no, .no]) (P := fun ds => ds = [encS (.ax kk)]) (a_cons (e_tup (a_cons e_str (a_cons (e_ixT (e_var rfl) e_int rfl) a_nil)) (by simp)) a_nil) (en.same s1) fun vs ds H3 s3 ed rs => ?_
      subst ed
      cases rs with
      | @cons u _ _ _ ru rs =>
      cases rs
      have hl' : sts.length + 1 ≤ 500 := hl
      have hn : nextP n cs ks (encS (.ax kk)) = some e := by rw [next_ax]; exact he
      refine ⟨x, p1, p2, n, cs, ks, sts, .ax kk, u, e, rfl, w1.same s3, ru, hkB, by omega, by omega, hn, fun H' r w' => ?_⟩
      exact k H' [.ax kk] [e] sts.length e ((RW.of fun a o e => s3 a o (s1 a o e)).trans r) w' (by simp [nds]) (run_snoc hrun hn) (by rw [← lk', List.getElem?_append_right (Nat.le_refl _)]; simp) hf
    | ask v tl th =>
      rw [encT_ask] at rt
      obtain ⟨hv, hv1, hv2, hTl, hTh⟩ := hT
      have hgl : goodC n (wLit cube (-v)) = true := wLit_good hg (by omega) (by omega) (by omega) hv2 (by rw [Int.neg_neg]; exact hv1)
      have hgh : goodC n (wLit cube v) = true := wLit_good hg (by omega) (by omega) (by omega) hv1 hv2
      have hd' : max (dep tl) (dep th) + 1 < m + 1 := hd
      have hl' : sts.length + (nds tl + nds th + 1) ≤ 500 := hl
      have en : En No H [some (.ref x), some vt, none, none] [.v (.ref x), .d (.tuple [.str "ask", .int v, encT tl, encT th]), .no, .no] := en_cons sl_v (en_cons (sl_d rt) (en_cons sl_no (en_cons sl_no en_nil)))
      refine evpT (δ := [.v (.ref x), .d (.tuple [.str "ask", .int v, encT tl, encT th]), .no, .no]) (P := fun b => b = false) ((t_test (e_eqD (a := .str "ask") (e_ixT (e_var rfl) e_int rfl) e_str (by decide +kernel) (by decide +kernel))).is (by decide +kernel)) en fun t H1 s1 et => ?_
      subst et
      show tNext _ _ _
      have w1 := w.same s1
      -- low
      refine ⟨_, rfl, ?_⟩
      refine evp (δ := [.v (.ref x), .d (.tuple [.str "ask", .int v, encT tl, encT th]), .no, .no]) (P := fun d => d = encT tl) (e_ixT (e_var rfl) e_int rfl) (en.same s1) fun u d H2 s2 ed ru => ?_
      subst ed
      have s12 : Same H H2 := fun a o e => s2 a o (s1 a o e)
      refine ⟨x, p1, p2, n, cs, ks, sts, u, tl, _, rfl, w1.same s2, ru, by omega, hTl, hgl, hF, hrun, by omega, fun H3 sl kl il cl' q3 w3 ll rl gl fl => ?_⟩
      have q03 : RW p1 p2 H H3 := (RW.of s12).trans q3
      have nlT : nl (.tuple [.str "ask", .int v, encT tl, encT th]) = true := nl_encT (.ask v tl th)
      have rt3 : Rp No H3 vt (.tuple [.str "ask", .int v, encT tl, encT th]) := RW.rp w q03 nlT rt
      have lk3 := run_len _ _ _ rl
      rw [List.length_map] at lk3
      have lk3' : (ks ++ kl).length = (sts ++ sl).length := by simpa using lk3
      obtain ⟨dx, vf, hx, rf⟩ := w3.ins
      have en3 : En No H3 [some (.ref x), some vt, some (.int (il : Nat)), none] [.v (.ref x), .d (.tuple [.str "ask", .int v, encT tl, encT th]), .d (.int (il : Nat)), .no] := en_cons sl_v (en_cons (sl_d rt3) (en_cons (sl_d (.int _)) (en_cons sl_no en_nil)))
      refine evpT (δ := [.v (.ref x), .d (.tuple [.str "ask", .int v, encT tl, encT th]), .d (.int (il : Nat)), .no]) (t_test (e_niT (e_ixT (e_var rfl) e_int rfl) (e_ixL (e_fld hx S.cls S.nC wfs_C w3.clauses rfl) (e_var rfl) (by rw [show ((il : Nat) : Int).toNat = il by omega]; exact cls_get gl)))) en3 fun t H4 s4 et => ?_
      subst et
      have w4 := w3.same s4
      by_cases hvl : v ∈ cl'
      case neg =>
        rw [decide_eq_false hvl]
        refine ifT (c := !false) rfl ?_
        exact ⟨_, rfl, k H4 sl kl il cl' (q03.trans (RW.of s4)) w4 (by show sl.length ≤ nds tl + nds th + 1; omega) rl gl (fals_low fl hvl)⟩
      rw [decide_eq_true hvl]
      show tNext _ _ _
      -- high
      refine ⟨_, rfl, ?_⟩
      refine evp (δ := [.v (.ref x), .d (.tuple [.str "ask", .int v, encT tl, encT th]), .d (.int (il : Nat)), .no]) (P := fun d => d = encT th) (e_ixT (e_var rfl) e_int rfl) (en3.same s4) fun u2 d H5 s5 ed ru2 => ?_
      subst ed
      refine ⟨x, p1, p2, n, cs, ks ++ kl, sts ++ sl, u2, th, _, rfl, w4.same s5, ru2, by omega, hTh, hgh, hF, rl, by rw [List.length_append]; omega, fun H6 sh kh ih ch q6 w6 lh rh gh fh => ?_⟩
      have q06 : RW p1 p2 H H6 := q03.trans ((RW.of fun a o e => s5 a o (s4 a o e)).trans q6)
      have rt6 : Rp No H6 vt (.tuple [.str "ask", .int v, encT tl, encT th]) := RW.rp w q06 nlT rt
      have lk6 := run_len _ _ _ rh
      rw [List.length_map] at lk6
      have lk6' : (ks ++ kl ++ kh).length = (sts ++ sl ++ sh).length := by simpa using lk6
      obtain ⟨dx6, vf6, hx6, rf6⟩ := w6.ins
      have gl6 : (ks ++ kl ++ kh)[il]? = some cl' := by
        rw [List.getElem?_append_left (List.getElem?_eq_some_iff.mp gl).1]
        exact gl
      have en6 : En No H6 [some (.ref x), some vt, some (.int (il : Nat)), some (.int (ih : Nat))] [.v (.ref x), .d (.tuple [.str "ask", .int v, encT tl, encT th]), .d (.int (il : Nat)), .d (.int (ih : Nat))] := en_cons sl_v (en_cons (sl_d rt6) (en_cons (sl_d (.int _)) (en_cons (sl_d (.int _)) en_nil)))
      refine ⟨_, rfl, x, dx6, _, rfl, hx6, wfs_res, ?_⟩
      refine evpA (δ := [.v (.ref x), .d (.tuple [.str "ask", .int v, encT tl, encT th]), .d (.int (il : Nat)), .d (.int (ih : Nat))]) (P := fun ds => ds = [.int (il : Nat), .int (ih : Nat), .int v]) (a_cons (e_var rfl) (a_cons (e_var rfl) (a_cons (e_ixT (e_var rfl) e_int rfl) a_nil))) en6 fun vs ds H7 s7 ed rs => ?_
      subst ed
      cases rs with
      | @cons a1 _ _ _ ra1 rs =>
      cases rs with
      | @cons a2 _ _ _ ra2 rs =>
      cases rs with
      | @cons a3 _ _ _ ra3 rs =>
      cases rs
      cases ra1
      cases ra2
      cases ra3
      have hkB6 := run_all hF _ _ _ (fun c (hc : c ∈ []) => (List.not_mem_nil hc).elim) rh
      have ls6 : (sts ++ sl ++ sh).length ≤ 500 := by
        simp only [List.length_append]
        omega
      have ass : sts ++ sl ++ sh = sts ++ (sl ++ sh) := List.append_assoc ..
      have ask : ks ++ kl ++ kh = ks ++ (kl ++ kh) := List.append_assoc ..
      refine ⟨x, p1, p2, n, cs, _, _, il, ih, v, cl', ch, rfl, w6.same s7, hkB6, by omega, by omega, gl6, gh, fun hz => absurd hvl hz, fun _ hz H' s8 => ?_, fun _ hz => ?_⟩
      · have w8 := (w6.same s7).same s8
        rw [ass, ask] at w8
        rw [ass, ask] at rh
        rw [ask] at gh
        exact k H' (sl ++ sh) (kl ++ kh) ih ch (q06.trans (RW.of fun a o e => s8 a o (s7 a o e))) w8 (by rw [List.length_append]; show _ ≤ nds tl + nds th + 1; omega) rh gh (fals_high fh hz)
      · obtain ⟨c, hc, hfc⟩ := res_ok hg fl fh hvl hz
        refine ⟨c, hc, by omega, hv.2, fun H' q8 w8 => ?_⟩
        have hn : nextP n cs (ks ++ kl ++ kh) (encS (.rs il ih v)) = some c := by rw [next_rs, if_pos ⟨by omega, hv.2⟩, gl6, gh]; exact hc
        have r8 := run_snoc rh hn
        have e1 : sts ++ sl ++ sh ++ [.rs il ih v] = sts ++ (sl ++ sh ++ [.rs il ih v]) := by simp
        have e2 : ks ++ kl ++ kh ++ [c] = ks ++ (kl ++ kh ++ [c]) := by simp
        have g8 : (ks ++ kl ++ kh ++ [c])[(sts ++ sl ++ sh).length]? = some c := by
          rw [← lk6', List.getElem?_append_right (Nat.le_refl _)]
          simp
        rw [e1, e2] at w8 r8
        rw [e2] at g8
        exact k H' (sl ++ sh ++ [.rs il ih v]) (kl ++ kh ++ [c]) _ c (q06.trans ((RW.of s7).trans q8)) w8 (by simp only [List.length_append, List.length_singleton]; show _ ≤ nds tl + nds th + 1; omega) r8 g8 hfc
theorem all_write_tree {P : Program} {w : World} {K : PySem.W.Frag} {mg : Str → Option Value} {base : Heap} (B : Bl mg) (D : DefH K mg "write_tree" s_write_tree) {Cs : Addr} (S : ShH K mg Cs) (m_add : C8.Met P w K mg base 6 Cs "add" (spAdd Cs) []) (m_resolve : C8.Met P w K mg base 7 Cs "resolve" (spResolve Cs) []) : ∀ m : Nat, C8.Cal P w K mg base (7 + m) "write_tree" (spWT Cs m) []
  | 0 => cal_no (ps := ["writer", "tree"]) D (fun _ _ _ _ _ _ us hl => match us, hl with | [_, _], _ => rfl) fun vs H Q E h => by
    obtain ⟨_, _, _, _, _, _, _, _, _, _, _, _, _, h, _⟩ := h
    omega
  | m + 1 => ok_write_tree B D S (all_write_tree B D S m_add m_resolve m) m_add m_resolve
end K19
end
section
set_option Elab.async false
set_option linter.all false
set_option maxRecDepth 100000
set_option maxHeartbeats 4000000
namespace K19
open PySem L2
local macro_rules | `(tactic| walk_at "ev1") => `(tactic| first
  | exact e_var rfl | exact e_int | exact e_bl | exact e_non | exact e_str | exact a_nil | exact t_yes
  | refine a_cons ?_ ?_
  | (refine e_un ?_ (u_neg rfl))
  | (refine e_op ?_ ?_ (o_bl rfl)) | (refine e_op ?_ ?_ (o_int rfl))
  | (refine e_op ?_ ?_ (o_eqI rfl)) | (refine e_op ?_ ?_ (o_neI rfl))
  | (refine t_test ?_) | (refine t_B ?_) | (refine t_not ?_) | (refine e_notV ?_)
  | (refine e_cb ?_ (c_abs rfl)) | (refine e_cb ?_ (c_int rfl)))
local macro_rules | `(tactic| walk_at "ev") => `(tactic| repeat' walk_at "ev1")
def goodRef (n : Int) (cs : List C) (r : Pd) : Prop := ∃ (ss : List Sx) (ks : List C), r = .tuple (ss.map encS) ∧ runP n cs [] (ss.map encS) = some ks ∧ ks.getLast? = some [] ∧ ss.length ≤ 40 ∧ ss ≠ []
theorem run_okSt {n : Int} {cs ks : List C} {sts : List Sx} (h : runP n cs [] (sts.map encS) = some ks) (hl : sts.length ≤ 60) : okSt sts := ⟨hl, fun k s hs x hx => by
  obtain ⟨c, h1, h2⟩ := run_get _ _ _ h k (encS s) (encS_at hs)
  simp only [List.length_nil, Nat.zero_add] at h2
  cases s with
  | ax i => cases hx
  | rs a b v =>
    rw [next_rs] at h2
    split at h2
    · have get : ∀ {y : Nat} {e : C}, (ks.take k)[y]? = some e → y < k := fun {y e} z => by
        have := (List.getElem?_eq_some_iff.mp z).1
        rw [List.length_take] at this
        omega
      cases q1 : (ks.take k)[a]? with
      | none => rw [q1] at h2; cases h2
      | some u => cases q2 : (ks.take k)[b]? with
        | none => rw [q1, q2] at h2; cases h2
        | some y =>
          rcases List.mem_cons.mp hx with rfl | hx
          · exact get q1
          · rw [List.mem_singleton.mp hx]
            exact get q2
    · cases h2⟩
theorem fals_nil {c : C} (h : fals [] c = true) : c = [] := by
  cases c with
  | nil => rfl
  | cons a c => exact absurd (fals_iff.mp h a (List.mem_cons_self ..)) (by simp)
theorem encT_inj : ∀ {a b : Tr}, encT a = encT b → a = b
  | .leaf i, .leaf j, h => by
    simp [encT] at h
    have : i = j := by omega
    rw [this]
  | .leaf i, .ask v l r, h => by simp [encT] at h
  | .ask v l r, .leaf i, h => by simp [encT] at h
  | .ask v l r, .ask v' l' r', h => by
    simp [encT] at h
    obtain ⟨h1, h2, h3⟩ := h
    rw [h1, encT_inj h2, encT_inj h3]
def pre_steps_of_tree : List Pd → Prop := fun ds => ∃ (n : Int) (cs : List C) (T : Tr), ds = [fm n cs, encT T] ∧ okF n cs ∧ RT n cs [] T ∧ dep T ≤ 4
def f_steps_of_tree : List Pd → Pd → Prop := fun ds r => ∀ (n : Int) (cs : List C) (T : Tr), ds = [fm n cs, encT T] → goodRef n cs r
abbrev sp_steps_of_tree : Sp := spR pre_steps_of_tree f_steps_of_tree
abbrev sp_write_tree' := fun Cs => spWT Cs 5
/-! ### steps_of_tree -/
abbrev N_steps_of_tree : List Str := ["formula", "tree", "writer", "last"]
theorem sc_steps_of_tree : FnScope N_steps_of_tree ["formula", "tree"] (defScope s_steps_of_tree) := ⟨rfl, rfl, rfl, by decide +kernel, rfl, by decide +kernel, by decide +kernel⟩
theorem ok_steps_of_tree {P : Program} {w : World} {K : PySem.W.Frag} {mg : Str → Option Value} {base : Heap} (B : Bl mg) (D : DefH K mg "steps_of_tree" s_steps_of_tree) (c_pruned_to : C8.Cal P w K mg base 2 "pruned_to" spPruned []) {Cs : Addr} (S : ShH K mg Cs) (mk_S : C8.Mak P w K mg base 1 "Shortener" Cs (spInit Cs) []) (w_tree : C8.Cal P w K mg base 12 "write_tree" (spWT Cs 5) []) : C8.Cal P w K mg base 13 "steps_of_tree" sp_steps_of_tree [] := by
  refine cal_any D sc_steps_of_tree (fun _ _ _ _ _ _ us hl => match us, hl with | [_, _], _ => rfl) (fun vs H Q E h => ?_) fun fa cdv A outer s H E hr => ⟨_, (pss_cons (ps_set (i := 2) sc_steps_of_tree.nd rfl (Or.inl rfl) (C8.pe_mk mk_S hr (by omega) rfl (pa_cons (pv 0 rfl (Or.inl rfl)) pa_nil)))
    (pss_cons (ps_set (i := 3) sc_steps_of_tree.nd rfl (Or.inl rfl) (C8.pe_c w_tree hr (by omega) rfl (pa_cons (pv 2 rfl (Or.inl rfl)) (pa_cons (pv 1 rfl (Or.inl rfl)) pa_nil))))
    (pss_one (ps_ret (C8.pe_c c_pruned_to hr (by omega) rfl (pa_cons (pe_fld (pv 2 rfl (Or.inl rfl)) rfl) (pa_cons (pv 3 rfl (Or.inl rfl)) pa_nil))))))), fun vs Q h => ?_⟩
  · obtain ⟨N, ds, _, rs, ⟨n, cs, T, rfl, _⟩, _⟩ := h
    exact rs.length
  · obtain ⟨N, ds, hl, rs, ⟨n, cs, T, rfl, hF, hT, hd⟩, k⟩ := h
    cases rs with
    | @cons vf _ _ _ rf rs =>
    cases rs with
    | @cons vt _ _ _ rt rs =>
    cases rs
    refine ⟨_, rfl, fun x dx hx hdx hne => ?_⟩
    have s0 : Same H (upd (upd H dx (.own x)) x (.ins Cs dx [])) := same_upd (same_new hdx _) hx
    refine ⟨x, dx, vf, rfl, upd_same, fun H1 p1 p2 keep hx1 h1 h2 ne f1 f2 => ⟨rfl, ?_⟩⟩
    have s1 : Same H H1 := fun a o e => keep a o (ne_of_none e hx) (s0 a o e)
    have n1 : H p1 = none := by
      cases q : H p1 with
      | none => rfl
      | some o => rw [s0 p1 o q] at f1; cases f1
    have n2 : H p2 = none := by
      cases q : H p2 with
      | none => rfl
      | some o => rw [s0 p2 o q] at f2; cases f2
    have w1 : Wr Cs x p1 p2 n cs [] [] H1 := ⟨⟨dx, vf, hx1, rf.no.same s1⟩, ⟨[], h1, .nil⟩, ⟨[], h2, .nil⟩, ne⟩
    have nT := nds_le T 4 hd
    refine ⟨_, rfl, _, rfl, x, p1, p2, n, cs, [], [], vt, T, [], rfl, w1, rt.no.same s1, by omega, hT, rfl, hF, rfl, ?_, fun H2 s2 k2 i c q2 w2 l2 r2 g2 f2 => ?_⟩
    · have : (2 : Nat) ^ (4 + 1) = 32 := by decide
      show 0 + nds T ≤ 500
      omega
    have l40 : s2.length ≤ 40 := by
      have : (2 : Nat) ^ (4 + 1) = 32 := by decide
      omega
    have e0 := fals_nil f2
    subst e0
    obtain ⟨dx2, vf2, hx2, _⟩ := w2.ins
    rw [List.nil_append] at r2 g2
    have lk := run_len _ _ _ r2
    rw [List.length_map] at lk
    have lk' : k2.length = s2.length := by simpa using lk
    have li : i < s2.length := by
      have := (List.getElem?_eq_some_iff.mp g2).1
      omega
    have st2 : Same H H2 := fun a o e => q2 a o (ne_of_none e n1) (ne_of_none e n2) (s1 a o e)
    have w2s := w2.steps
    rw [List.nil_append] at w2s
    refine ⟨_, rfl, x, Cs, dx2, _, .ref p1, rfl, hx2, S.cls, S.nS, wfs_S, _, rfl, No, .ref p1, i, s2, rfl, fun _ z => z.elim, w2s, run_okSt r2 (by omega), li, fun U hU hi hle v H3 s3 rv => ?_⟩
    have run3 := prune_run r2 hU
    have eU : (U.map fun k => encS (mvS (pos U) (stAt s2 k))) = (U.map fun k => mvS (pos U) (stAt s2 k)).map encS := by rw [List.map_map]; rfl
    have nU : U ≠ [] := fun z => by rw [z] at hi; cases hi
    -- the last of U
    obtain ⟨z, hz⟩ : ∃ z, U.getLast? = some z := by
      cases q : U.getLast? with
      | some z => exact ⟨z, rfl⟩
      | none => exact absurd (List.getLast?_eq_none_iff.mp q) nU
    have zi : z = i := by
      have mz : z ∈ U := List.mem_of_getLast? hz
      have h1 := hle z mz
      obtain ⟨j, hj, ej⟩ := List.mem_iff_getElem.mp hi
      have hz2 := hz
      rw [List.getLast?_eq_getElem?] at hz2
      by_cases hjl : j = U.length - 1
      · subst hjl
        rw [List.getElem?_eq_getElem hj, ej] at hz2
        exact (Option.some.inj hz2).symm
      · have := (asc_get hU.asc (List.getElem?_eq_getElem hj) hz2).mp (by omega)
        omega
    subst zi
    have lU : U.length ≤ 40 := by
      have := nat_len (m := s2.length - 1) (l := U) (hU.asc.imp fun h => by omega) fun x hx => by have := hU.lt x hx; omega
      omega
    refine k v _ H3 (fun a o e => s3 a o (st2 a o e)) (fun n' cs' T' q => ?_) (Rp.nlw (by show nlA _ = true; rw [eU]; exact nlA_encS _) rv)
    obtain ⟨q1, q2⟩ := args2 q
    obtain ⟨q3, q4⟩ := fm_inj q1
    subst q3 q4
    refine ⟨U.map fun k => mvS (pos U) (stAt s2 k), _, by rw [eU], by rw [← eU]; exact run3, ?_, by rw [List.length_map]; exact lU, fun e => nU (List.map_eq_nil_iff.mp e)⟩
    rw [List.getLast?_map, hz]
    show some (k2.getD z []) = _
    rw [List.getD_eq_getElem?_getD, g2]
    rfl
theorem u_steps_of_tree {W : Wd} {δ : Dn} {tr : TA} {E : XK} {n : Int} {cs : List C} {T : Tr} (h : AvE W tr δ [fm n cs, encT T]) (hF : okF n cs) (hT : RT n cs [] T) (hd : dep T ≤ 4) : Ev W (tCall sp_steps_of_tree [] E tr) δ (goodRef n cs) := (e_callR h ⟨n, cs, T, rfl, hF, hT, hd⟩).mono fun r k => k n cs T rfl
/-! ## search -/
theorem fstF_cases (cs : List C) (c : C) : (∃ (k : Nat) (e : C), fstF cs c = (k : Int) ∧ cs[k]? = some e ∧ fals c e = true) ∨ (fstF cs c = -1 ∧ ∀ e ∈ cs, fals c e = false) := by
  unfold fstF
  cases q : cs.findIdx? (fun e => fals c e) with
  | some k =>
    obtain ⟨lt, h1, h2⟩ := List.findIdx?_eq_some_iff_getElem.mp q
    exact .inl ⟨k, cs[k], rfl, List.getElem?_eq_getElem lt, h1⟩
  | none => exact .inr ⟨rfl, fun e he => by
      have := List.findIdx?_eq_none_iff.mp q e he
      simpa using this⟩
def Mdl (n : Int) (cs : List C) (c : C) : Prop := goodC n c = true ∧ (c.length : Int) = n ∧ ∀ e ∈ cs, fals c e = false
def pre_search (m : Nat) : List Pd → Prop := fun ds => ∃ (n : Int) (cs : List C) (c : C), ds = [fm n cs, cl c] ∧ okQ n cs ∧ goodC n c = true ∧ (freeV n c).length < m
def f_search (m : Nat) : List Pd → Pd → Prop := fun ds r => ∀ (n : Int) (cs : List C) (c : C), ds = [fm n cs, cl c] → (∃ c', r = .tuple [cl c', .none] ∧ Mdl n cs c') ∨ (∃ T, r = .tuple [.none, encT T] ∧ RT n cs c T ∧ dep T < m)
abbrev sp_searchM (m : Nat) : Sp := spR (pre_search m) (f_search m)
theorem free_wLit {n : Int} {c : C} {l : Int} (hn : 0 ≤ n) (hg : goodC n c = true) (hg2 : goodC n (wLit c l) = true) : (freeV n (wLit c l)).length + 1 = (freeV n c).length := by
  have h1 := free_len hn hg
  have h2 := free_len hn hg2
  rw [wLit_len] at h2
  omega
theorem good_len {n : Int} {c : C} (hn : n ≤ 4) (h : goodC n c = true) : c.length ≤ 9 := cN_len hn (good_cN h)
theorem whole_no {n : Int} {cs : List C} {w : C} (hg : goodC n w = true) (hl : (w.length : Int) = n) : ∀ (T : Tr) (c : C), (∀ l ∈ c, l ∈ w) → RT n cs c T → ∃ e ∈ cs, fals w e = true
  | .leaf k, c, hc, h => by
    obtain ⟨e, he, hf⟩ := h
    exact ⟨e, List.mem_of_getElem? he, fals_iff.mpr fun l hl => hc _ (fals_iff.mp hf l hl)⟩
  | .ask v tl th, c, hc, h => by
    obtain ⟨hv, _, _, h1, h2⟩ := h
    rcases whole hg hl hv.1 hv.2 with z | z
    · refine whole_no hg hl th (wLit c v) (fun l hl => ?_) h2
      rcases mem_wLit.mp hl with q | q
      · exact hc l q
      · rw [q]; exact z
    · refine whole_no hg hl tl (wLit c (-v)) (fun l hl => ?_) h1
      rcases mem_wLit.mp hl with q | q
      · exact hc l q
      · rw [q]; exact z
/-! ### search -/
abbrev N_search : List Str := ["formula", "cube", "leaf", "free", "model", "low", "high"]
theorem sc_search : FnScope N_search ["formula", "cube"] (defScope s_search) := ⟨rfl, rfl, rfl, by decide +kernel, rfl, by decide +kernel, by decide +kernel⟩
theorem ok_search {P : Program} {w : World} {K : PySem.W.Frag} {mg : Str → Option Value} {base : Heap} (B : Bl mg) (D : DefH K mg "search" s_search) (c_falsified : C8.Cal P w K mg base 2 "falsified" sp_falsified []) (c_free_variables : C8.Cal P w K mg base 1 "free_variables" sp_free_variables []) {m : Nat} (c_search : C8.Cal P w K mg base (2 + m) "search" (sp_searchM m) []) (c_with_literal : C8.Cal P w K mg base 1 "with_literal" sp_with_literal []) : C8.Cal P w K mg base (2 + m + 1) "search" (sp_searchM (m + 1)) [] := by
  refine cal_any D sc_search (fun _ _ _ _ _ _ us hl => match us, hl with | [_, _], _ => rfl) (fun vs H Q E h => ?_) fun fa cdv A outer s H E hr => ⟨_, (pss_cons (ps_set (i := 2) sc_search.nd rfl (Or.inl rfl) (C8.pe_c c_falsified hr (by first | decide | omega) rfl (pa_cons (pv 0 rfl (Or.inl rfl)) (pa_cons (pv 1 rfl (Or.inl rfl)) pa_nil))))
    (pss_cons (ps_if (pt_cmpR op_ge (pv 2 rfl (Or.inl rfl)) pe_int (nomark _)) (pss_one (ps_ret (pe_tup (pa_cons pe_non (pa_cons (pe_tup (pa_cons pe_str (pa_cons (pv 2 rfl (Or.inl rfl)) pa_nil))) pa_nil))))) pss_nil)
    (pss_cons (ps_set (i := 3) sc_search.nd rfl (Or.inl rfl) (C8.pe_c c_free_variables hr (by first | decide | omega) rfl (pa_cons (pv 0 rfl (Or.inl rfl)) (pa_cons (pv 1 rfl (Or.inl rfl)) pa_nil))))
    (pss_cons (ps_if (pt_cmpR op_eq (pe_callB (r := rLn K) call_len_seq rfl B.len_ (by decide +kernel) (pa_cons (pv 3 rfl (Or.inl rfl)) pa_nil)) pe_int (nomark _)) (pss_one (ps_ret (pe_tup (pa_cons (pv 1 rfl (Or.inl rfl)) (pa_cons pe_non pa_nil))))) pss_nil)
    (pss_cons (ps_asg (C8.pe_c c_search hr (by first | decide | omega) rfl (pa_cons (pv 0 rfl (Or.inl rfl)) (pa_cons (C8.pe_c c_with_literal hr (by first | decide | omega) rfl (pa_cons (pv 1 rfl (Or.inl rfl)) (pa_cons (pe_un un_neg (pe_ix (r := rIx K) ix_seq (pv 3 rfl (Or.inl rfl)) pe_int (fun _ _ => rfl))) pa_nil))) pa_nil))) (pg_tup rfl (pgs_cons (pg_name (i := 4) sc_search.nd rfl (Or.inl rfl)) (pgs_cons (pg_name (i := 5) sc_search.nd rfl (Or.inl rfl)) pgs_nil))))
    (pss_cons (ps_if (pt_cmpR op_notN (pv 4 rfl (Or.inl rfl)) pe_non (nomark _)) (pss_one (ps_ret (pe_tup (pa_cons (pv 4 rfl (Or.inl rfl)) (pa_cons pe_non pa_nil))))) pss_nil)
    (pss_cons (ps_asg (C8.pe_c c_search hr (by first | decide | omega) rfl (pa_cons (pv 0 rfl (Or.inl rfl)) (pa_cons (C8.pe_c c_with_literal hr (by first | decide | omega) rfl (pa_cons (pv 1 rfl (Or.inl rfl)) (pa_cons (pe_ix (r := rIx K) ix_seq (pv 3 rfl (Or.inl rfl)) pe_int (fun _ _ => rfl)) pa_nil))) pa_nil))) (pg_tup rfl (pgs_cons (pg_name (i := 4) sc_search.nd rfl (Or.inl rfl)) (pgs_cons (pg_name (i := 6) sc_search.nd rfl (Or.inl rfl)) pgs_nil))))
    (pss_cons (ps_if (pt_cmpR op_notN (pv 4 rfl (Or.inl rfl)) pe_non (nomark _)) (pss_one (ps_ret (pe_tup (pa_cons (pv 4 rfl (Or.inl rfl)) (pa_cons pe_non pa_nil))))) pss_nil)
    (pss_one (ps_ret (pe_tup (pa_cons pe_non (pa_cons (pe_tup (pa_cons pe_str (pa_cons (pe_ix (r := rIx K) ix_seq (pv 3 rfl (Or.inl rfl)) pe_int (fun _ _ => rfl)) (pa_cons (pv 5 rfl (Or.inl rfl)) (pa_cons (pv 6 rfl (Or.inl rfl)) pa_nil))))) pa_nil))))))))))))), fun vs Q h => ?_⟩
  · obtain ⟨N, ds, _, rs, ⟨n, cs, T, rfl, _⟩, _⟩ := h
    exact rs.length
  · refine pure_go (pre := pre_search (m + 1)) (f := f_search (m + 1)) (fun W ds h => ?_) h
    obtain ⟨n, cs, c, rfl, hQ, hg, hm⟩ := h
    suffices hh : Sm W _ (args N_search.length [fm n cs, cl c]) (fun _ => False) (fun r => (∃ c', r = .tuple [cl c', .none] ∧ Mdl n cs c') ∨ (∃ T, r = .tuple [.none, encT T] ∧ RT n cs c T ∧ dep T < m + 1)) from sm_mono hh (by
      intro r h n' cs' c' q
      obtain ⟨q1, q2⟩ := args2 q
      obtain ⟨q3, q4⟩ := fm_inj q1
      rw [← q3, ← q4, ← cl_inj q2]
      exact h)
    have hF := okG_F (okQ_G hQ)
    have lc : c.length ≤ 9 := good_len hQ.2.1 hg
    refine q_asg (u_falsified (a_cons (e_var rfl) (a_cons (e_var rfl) a_nil)) (fun e he => by have := okQ_len hQ e he; omega)) ?_
    refine q_if (t_test (e_opB (e_var rfl) e_int)) (fun e => ?_) fun e => ?_
    · rcases fstF_cases cs c with ⟨k, ee, h1, h2, h3⟩ | ⟨h1, _⟩
      · refine sm_ret ((e_tup (a_cons e_non (a_cons (e_tup (a_cons e_str (a_cons (e_var rfl) a_nil)) (by simp)) a_nil)) (by simp)).mono fun d ed => .inr ⟨.leaf k, ?_, ⟨ee, h2, h3⟩, by show 0 < m + 1; omega⟩)
        rw [ed, h1]
        rfl
      · rw [h1] at e
        cases e
    · rcases fstF_cases cs c with ⟨k, ee, h1, h2, h3⟩ | ⟨h1, hnf⟩
      · rw [h1] at e
        have := of_decide_eq_false e
        omega
      clear e
      refine q_asg (u_free_variables (a_cons (e_var rfl) (a_cons (e_var rfl) a_nil)) hQ.1 (by have := hQ.2.1; omega)) ?_
      have hfl := free_len hQ.1 hg
      cases hfr : freeV n c with
      | nil =>
        rw [hfr] at hfl
        refine q_if (b := true) ((t_test (e_eqI (e_lenL (e_var rfl)) e_int)).is rfl) (fun _ => ?_) (fun e => nomatch e)
        exact sm_ret ((e_tup (a_cons (e_var rfl) (a_cons e_non a_nil)) (by simp)).mono fun d ed => .inl ⟨c, ed, hg, by simpa using hfl, hnf⟩)
      | cons v rr =>
        have hv := mem_freeV.mp (show v ∈ freeV n c by rw [hfr]; exact List.mem_cons_self ..)
        have g1 : goodC n (wLit c (-v)) = true := wLit_good hg (by omega) (by omega) (by omega) hv.2.2 (by rw [Int.neg_neg]; exact hv.2.1)
        have g2 : goodC n (wLit c v) = true := wLit_good hg (by omega) (by omega) (by omega) hv.2.1 hv.2.2
        have f1 := free_wLit hQ.1 hg g1
        have f2 := free_wLit hQ.1 hg g2
        refine q_if (b := false) ((t_test (e_eqI (e_lenL (e_var rfl)) e_int)).is (decide_eq_false (by simp only [List.length_map, List.length_cons]; omega))) (fun e => nomatch e) fun _ => ?_
        refine q_unp (A := fun a b => (∃ c', a = cl c' ∧ b = .none ∧ Mdl n cs c') ∨ (∃ T, a = .none ∧ b = encT T ∧ RT n cs (wLit c (-v)) T ∧ dep T < m)) ((e_callR (a_cons (e_var rfl) (a_cons (u_with_literal (a_cons (e_var rfl) (a_cons (e_neg (e_ixL (e_var rfl) e_int rfl)) a_nil)) (by omega)) a_nil)) ⟨n, cs, _, rfl, hQ, g1, by omega⟩).mono fun r k => ?_) ?_
        · rcases k n cs _ rfl with ⟨c', h1, h2⟩ | ⟨T, h1, h2, h3⟩
          · exact ⟨_, _, h1, .inl ⟨c', rfl, rfl, h2⟩⟩
          · exact ⟨_, _, h1, .inr ⟨T, rfl, rfl, h2, h3⟩⟩
        rintro a b (⟨c', rfl, rfl, hM⟩ | ⟨T1, rfl, rfl, hT1, hd1⟩)
        · refine q_if (b := true) ((t_test (e_notN (e_var rfl))).is rfl) (fun _ => ?_) (fun e => nomatch e)
          exact sm_ret ((e_tup (a_cons (e_var rfl) (a_cons e_non a_nil)) (by simp)).mono fun d ed => .inl ⟨c', ed, hM⟩)
        refine q_if (b := false) ((t_test (e_notN (e_var rfl))).is rfl) (fun e => nomatch e) fun _ => ?_
        refine q_unp (A := fun a b => (∃ c', a = cl c' ∧ b = .none ∧ Mdl n cs c') ∨ (∃ T, a = .none ∧ b = encT T ∧ RT n cs (wLit c v) T ∧ dep T < m)) ((e_callR (a_cons (e_var rfl) (a_cons (u_with_literal (a_cons (e_var rfl) (a_cons (e_ixL (e_var rfl) e_int rfl) a_nil)) (by omega)) a_nil)) ⟨n, cs, _, rfl, hQ, g2, by omega⟩).mono fun r k => ?_) ?_
        · rcases k n cs _ rfl with ⟨c', h1, h2⟩ | ⟨T, h1, h2, h3⟩
          · exact ⟨_, _, h1, .inl ⟨c', rfl, rfl, h2⟩⟩
          · exact ⟨_, _, h1, .inr ⟨T, rfl, rfl, h2, h3⟩⟩
        rintro a b (⟨c', rfl, rfl, hM⟩ | ⟨T2, rfl, rfl, hT2, hd2⟩)
        · refine q_if (b := true) ((t_test (e_notN (e_var rfl))).is rfl) (fun _ => ?_) (fun e => nomatch e)
          exact sm_ret ((e_tup (a_cons (e_var rfl) (a_cons e_non a_nil)) (by simp)).mono fun d ed => .inl ⟨c', ed, hM⟩)
        refine q_if (b := false) ((t_test (e_notN (e_var rfl))).is rfl) (fun e => nomatch e) fun _ => ?_
        refine sm_ret ((e_tup (a_cons e_non (a_cons (e_tup (a_cons e_str (a_cons (e_ixL (e_var rfl) e_int rfl) (a_cons (e_var rfl) (a_cons (e_var rfl) a_nil)))) (by simp)) a_nil)) (by simp)).mono fun d ed => .inr ⟨.ask v T1 T2, ?_, ⟨hv.1, hv.2.1, hv.2.2, hT1, hT2⟩, by show max (dep T1) (dep T2) + 1 < m + 1; omega⟩)
        rw [ed]
        rfl
theorem all_search {P : Program} {w : World} {K : PySem.W.Frag} {mg : Str → Option Value} {base : Heap} (B : Bl mg) (D : DefH K mg "search" s_search) (c_falsified : C8.Cal P w K mg base 2 "falsified" sp_falsified []) (c_free_variables : C8.Cal P w K mg base 1 "free_variables" sp_free_variables []) (c_with_literal : C8.Cal P w K mg base 1 "with_literal" sp_with_literal []) : ∀ m : Nat, C8.Cal P w K mg base (2 + m) "search" (sp_searchM m) []
  | 0 => cal_no (ps := ["formula", "cube"]) D (fun _ _ _ _ _ _ us hl => match us, hl with | [_, _], _ => rfl) fun vs H Q E h => by
    obtain ⟨_, _, _, _, ⟨_, _, _, _, _, _, h⟩, _⟩ := h
    omega
  | m + 1 => ok_search B D c_falsified c_free_variables (all_search B D c_falsified c_free_variables c_with_literal m) c_with_literal
abbrev sp_search : Sp := sp_searchM 5
abbrev told_ok (n : Int) (cs : List C) (r : Pd) : Prop := (∃ c, r = .tuple [.str "model", cl c] ∧ Mdl n cs c) ∨ (∃ d, r = .tuple [.str "refutation", d] ∧ goodRef n cs d ∧ ∀ w, goodC n w = true → (w.length : Int) = n → ∃ e ∈ cs, fals w e = true)
/-! ### solve -/
def pre_solve : List Pd → Prop := fun ds => ∃ (n : Int) (cs : List C), ds = [fm n cs] ∧ okQ n cs
def f_solve : List Pd → Pd → Prop := fun ds r => ∀ (n : Int) (cs : List C), ds = [fm n cs] → told_ok n cs r
abbrev sp_solve : Sp := spR pre_solve f_solve
abbrev N_solve : List Str := ["formula", "model", "tree"]
theorem sc_solve : FnScope N_solve ["formula"] (defScope s_solve) := ⟨rfl, rfl, rfl, by decide +kernel, rfl, by decide +kernel, by decide +kernel⟩
theorem ok_solve {P : Program} {w : World} {K : PySem.W.Frag} {mg : Str → Option Value} {base : Heap} (B : Bl mg) (D : DefH K mg "solve" s_solve) (c_search : C8.Cal P w K mg base 7 "search" sp_search []) (c_steps_of_tree : C8.Cal P w K mg base 13 "steps_of_tree" sp_steps_of_tree []) : C8.Cal P w K mg base 14 "solve" sp_solve [] := by
  refine cal_of D sc_solve (fun _ _ _ _ _ _ us hl => match us, hl with | [_], _ => rfl) (fun ds h => ?_) fun fa cdv A outer s H E hr => ⟨_, (pss_cons (ps_asg (C8.pe_c c_search hr (by first | decide | omega) rfl (pa_cons (pv 0 rfl (Or.inl rfl)) (pa_cons (pe_tup pa_nil) pa_nil))) (pg_tup rfl (pgs_cons (pg_name (i := 1) sc_solve.nd rfl (Or.inl rfl)) (pgs_cons (pg_name (i := 2) sc_solve.nd rfl (Or.inl rfl)) pgs_nil))))
    (pss_cons (ps_if (pt_cmpR op_notN (pv 1 rfl (Or.inl rfl)) pe_non (nomark _)) (pss_one (ps_ret (pe_tup (pa_cons pe_str (pa_cons (pv 1 rfl (Or.inl rfl)) pa_nil))))) pss_nil)
    (pss_one (ps_ret (pe_tup (pa_cons pe_str (pa_cons (C8.pe_c c_steps_of_tree hr (by first | decide | omega) rfl (pa_cons (pv 0 rfl (Or.inl rfl)) (pa_cons (pv 2 rfl (Or.inl rfl)) pa_nil))) pa_nil))))))), fun W ds h => ?_⟩
  · obtain ⟨_, _, rfl, _⟩ := h
    rfl
  · obtain ⟨n, cs, rfl, hQ⟩ := h
    suffices hh : Sm W _ (args N_solve.length [fm n cs]) (fun _ => False) (fun r => told_ok n cs r) from sm_mono hh (by
      intro r h n' cs' q
      have q1 : fm n cs = fm n' cs' := by injection q
      obtain ⟨q3, q4⟩ := fm_inj q1
      rw [← q3, ← q4]
      exact h)
    have g0 : goodC n [] = true := rfl
    have hfl := free_len hQ.1 g0
    have hn4 := hQ.2.1
    refine q_unp (A := fun a b => (∃ c', a = cl c' ∧ b = .none ∧ Mdl n cs c') ∨ (∃ T, a = .none ∧ b = encT T ∧ RT n cs [] T ∧ dep T < 5)) ((e_callR (a_cons (e_var rfl) (a_cons (e_tup a_nil) a_nil)) ⟨n, cs, [], rfl, hQ, g0, by simp at hfl; omega⟩).mono fun r k => ?_) ?_
    · rcases k n cs [] rfl with ⟨c', h1, h2⟩ | ⟨T, h1, h2, h3⟩
      · exact ⟨_, _, h1, .inl ⟨c', rfl, rfl, h2⟩⟩
      · exact ⟨_, _, h1, .inr ⟨T, rfl, rfl, h2, h3⟩⟩
    rintro a b (⟨c', rfl, rfl, hM⟩ | ⟨T, rfl, rfl, hT, hd⟩)
    · refine q_if (b := true) ((t_test (e_notN (e_var rfl))).is rfl) (fun _ => ?_) (fun e => nomatch e)
      exact sm_ret ((e_tup (a_cons e_str (a_cons (e_var rfl) a_nil)) (by simp)).mono fun d ed => .inl ⟨c', ed, hM⟩)
    refine q_if (b := false) ((t_test (e_notN (e_var rfl))).is rfl) (fun e => nomatch e) fun _ => ?_
    refine sm_ret (v_tup (A := fun ds => ∃ d, ds = [.str "refutation", d] ∧ goodRef n cs d) (va_cons (A := fun d => d = .str "refutation") (B := fun _ ds => ∃ d, ds = [d] ∧ goodRef n cs d) e_str (fun _ _ => va_cons (A := goodRef n cs) (B := fun _ ds => ds = []) (u_steps_of_tree (a_cons (e_var rfl) (a_cons (e_var rfl) a_nil)) (okG_F (okQ_G hQ)) hT (by omega)) (fun _ _ => a_nil) fun d ds h1 h2 => ⟨d, by rw [h2], h1⟩) fun d ds h1 ⟨d', h2, h3⟩ => ⟨d', by rw [h1, h2], h3⟩) fun ds ⟨d, h1, h2⟩ => ?_)
    subst h1
    exact ⟨by simp, .inr ⟨d, rfl, h2, fun w hg hl => whole_no hg hl T [] (fun l (hl : l ∈ []) => (List.not_mem_nil hl).elim) hT⟩⟩
theorem u_solve {W : Wd} {δ : Dn} {tr : TA} {E : XK} {n : Int} {cs : List C} (h : AvE W tr δ [fm n cs]) (hQ : okQ n cs) : Ev W (tCall sp_solve [] E tr) δ (told_ok n cs) := (e_callR h ⟨n, cs, rfl, hQ⟩).mono fun r k => k n cs rfl
end K19
end
section
set_option Elab.async false
set_option linter.all false
set_option maxRecDepth 100000
set_option maxHeartbeats 4000000
namespace K19
open PySem L2
local macro_rules | `(tactic| walk_at "ev1") => `(tactic| first
  | exact e_var rfl | exact e_int | exact e_bl | exact e_non | exact e_str | exact a_nil | exact t_yes
  | refine a_cons ?_ ?_
  | (refine e_un ?_ (u_neg rfl))
  | (refine e_op ?_ ?_ (o_bl rfl)) | (refine e_op ?_ ?_ (o_int rfl))
  | (refine e_op ?_ ?_ (o_eqI rfl)) | (refine e_op ?_ ?_ (o_neI rfl))
  | (refine t_test ?_) | (refine t_B ?_) | (refine t_not ?_) | (refine e_notV ?_)
  | (refine e_cb ?_ (c_abs rfl)) | (refine e_cb ?_ (c_int rfl)))
local macro_rules | `(tactic| walk_at "ev") => `(tactic| repeat' walk_at "ev1")
abbrev spNo : Sp := fun _ _ _ _ => False
/-! ### _law_same -/
def pre__law_same : List Pd → Prop := fun ds => ∃ a b : Bool, ds = [.bool a, .bool b]
def f__law_same : List Pd → Pd → Prop := fun ds r => ∀ a b : Bool, ds = [.bool a, .bool b] → r = .bool (a == b)
abbrev sp__law_same : Sp := spR pre__law_same f__law_same
abbrev N__law_same : List Str := ["_law_actual", "_law_due", "_law_k"]
theorem sc__law_same : FnScope N__law_same ["_law_actual", "_law_due"] (defScope s__law_same) := ⟨rfl, rfl, rfl, by decide +kernel, rfl, by decide +kernel, by decide +kernel⟩
theorem ok__law_same {P : Program} {w : World} {K : PySem.W.Frag} {mg : Str → Option Value} {base : Heap} (B : Bl mg) (D : DefH K mg "_law_same" s__law_same) (c__law_same : C8.Cal P w K mg base 0 "_law_same" spNo []) : C8.Cal P w K mg base 1 "_law_same" sp__law_same [] := by
  refine cal_of D sc__law_same (fun _ _ _ _ _ _ us hl => match us, hl with | [_, _], _ => rfl) (fun ds h => ?_) fun fa cdv A outer s H E hr => ⟨_, (pss_cons (ps_if (PW.pt (pw_or (pt_val (pe_callB (r := rIsi K) call_isi rfl B.isinstance_ (by decide +kernel) (pa_cons (pv 1 rfl (Or.inl rfl)) (pa_cons (pe_bltn (v := .ty "tuple") rfl B.tuple_ (by decide +kernel) rfl) pa_nil)))) (pw_or1 (pt_val (pe_callB (r := rIsi K) call_isi rfl B.isinstance_ (by decide +kernel) (pa_cons (pv 1 rfl (Or.inl rfl)) (pa_cons (pe_bltn (v := .ty "list") rfl B.list_ (by decide +kernel) rfl) pa_nil))))))) (pss_cons (ps_if (PW.pt (pw_or (pt_cmpR op_ne (pe_callB (r := rIsi K) call_isi rfl B.isinstance_ (by decide +kernel) (pa_cons (pv 1 rfl (Or.inl rfl)) (pa_cons (pe_bltn (v := .ty "tuple") rfl B.tuple_ (by decide +kernel) rfl) pa_nil))) (pe_callB (r := rIsi K) call_isi rfl B.isinstance_ (by decide +kernel) (pa_cons (pv 0 rfl (Or.inl rfl)) (pa_cons (pe_bltn (v := .ty "tuple") rfl B.tuple_ (by decide +kernel) rfl) pa_nil))) (nomark _)) (pw_or1 (pt_cmpR op_ne (pe_callB (r := rIsi K) call_isi rfl B.isinstance_ (by decide +kernel) (pa_cons (pv 1 rfl (Or.inl rfl)) (pa_cons (pe_bltn (v := .ty "list") rfl B.list_ (by decide +kernel) rfl) pa_nil))) (pe_callB (r := rIsi K) call_isi rfl B.isinstance_ (by decide +kernel) (pa_cons (pv 0 rfl (Or.inl rfl)) (pa_cons (pe_bltn (v := .ty "list") rfl B.list_ (by decide +kernel) rfl) pa_nil))) (nomark _))))) (pss_one (ps_ret pe_bl)) pss_nil)
    (pss_cons (ps_if (pt_cmpR op_ne (pe_callB (r := rLn K) call_len_seq rfl B.len_ (by decide +kernel) (pa_cons (pv 0 rfl (Or.inl rfl)) pa_nil)) (pe_callB (r := rLn K) call_len_seq rfl B.len_ (by decide +kernel) (pa_cons (pv 1 rfl (Or.inl rfl)) pa_nil)) (nomark _)) (pss_one (ps_ret pe_bl)) pss_nil)
    (pss_cons (ps_for PassesOwn.never rfl (pi_range1 rfl B.range_ (pa_cons (pe_callB (r := rLn K) call_len_seq rfl B.len_ (by decide +kernel) (pa_cons (pv 1 rfl (Or.inl rfl)) pa_nil)) pa_nil)) (pg_name (i := 2) sc__law_same.nd rfl (Or.inl rfl)) (pss_one (ps_if (pt_not (pt_val (C8.pe_c c__law_same hr (by first | decide | omega) rfl (pa_cons (pe_ix (r := rIx K) ix_seq (pv 0 rfl (Or.inl rfl)) (pv 2 rfl (Or.inl rfl)) (fun _ _ => rfl)) (pa_cons (pe_ix (r := rIx K) ix_seq (pv 1 rfl (Or.inl rfl)) (pv 2 rfl (Or.inl rfl)) (fun _ _ => rfl)) pa_nil))))) (pss_one (ps_ret pe_bl)) pss_nil)))
    (pss_one (ps_ret pe_bl))))) pss_nil)
    (pss_cons (ps_if (pt_cmpR op_isN (pv 1 rfl (Or.inl rfl)) pe_non (nomark _)) (pss_one (ps_ret (pe_cmpR op_isN (pv 0 rfl (Or.inl rfl)) pe_non (nomark _)))) pss_nil)
    (pss_cons (ps_if (pt_val (pe_callB (r := rIsi K) call_isi rfl B.isinstance_ (by decide +kernel) (pa_cons (pv 1 rfl (Or.inl rfl)) (pa_cons (pe_bltn (v := .ty "bool") rfl B.bool_ (by decide +kernel) rfl) pa_nil)))) (pss_one (ps_ret (pe_and (pe_callB (r := rIsi K) call_isi rfl B.isinstance_ (by decide +kernel) (pa_cons (pv 0 rfl (Or.inl rfl)) (pa_cons (pe_bltn (v := .ty "bool") rfl B.bool_ (by decide +kernel) rfl) pa_nil))) (pe_one (pe_cmpR op_eq (pv 0 rfl (Or.inl rfl)) (pv 1 rfl (Or.inl rfl)) (nomark _)))))) pss_nil)
    (pss_cons (ps_if (pt_val (pe_callB (r := rIsi K) call_isi rfl B.isinstance_ (by decide +kernel) (pa_cons (pv 1 rfl (Or.inl rfl)) (pa_cons (pe_bltn (v := .ty "int") rfl B.int_ (by decide +kernel) rfl) pa_nil)))) (pss_one (ps_ret (pe_and (pe_callB (r := rIsi K) call_isi rfl B.isinstance_ (by decide +kernel) (pa_cons (pv 0 rfl (Or.inl rfl)) (pa_cons (pe_bltn (v := .ty "int") rfl B.int_ (by decide +kernel) rfl) pa_nil))) (pe_and (pe_not (pe_callB (r := rIsi K) call_isi rfl B.isinstance_ (by decide +kernel) (pa_cons (pv 0 rfl (Or.inl rfl)) (pa_cons (pe_bltn (v := .ty "bool") rfl B.bool_ (by decide +kernel) rfl) pa_nil)))) (pe_one (pe_cmpR op_eq (pv 0 rfl (Or.inl rfl)) (pv 1 rfl (Or.inl rfl)) (nomark _))))))) pss_nil)
    (pss_one (ps_ret (pe_and (pe_callB (r := rIsi K) call_isi rfl B.isinstance_ (by decide +kernel) (pa_cons (pv 0 rfl (Or.inl rfl)) (pa_cons (pe_bltn (v := .ty "str") rfl B.str_ (by decide +kernel) rfl) pa_nil))) (pe_one (pe_cmpR op_eq (pv 0 rfl (Or.inl rfl)) (pv 1 rfl (Or.inl rfl)) (nomark _)))))))))), fun W ds h => ?_⟩
  · obtain ⟨_, _, rfl⟩ := h
    rfl
  · obtain ⟨a, b, rfl⟩ := h
    suffices hh : Sm W _ (args N__law_same.length [.bool a, .bool b]) (fun _ => False) (fun r => r = .bool (a == b)) from sm_mono hh (by
      rintro _ rfl a' b' q
      cases q
      rfl)
    refine q_if (b := false) (t_or (x := false) (y := false) ((t_test (e_isi (e_var rfl))).is rfl) fun _ => (t_test (e_isi (e_var rfl))).is rfl) (fun e => nomatch e) fun _ => ?_
    refine q_if (b := false) ((t_test (e_isN (e_var rfl))).is rfl) (fun e => nomatch e) fun _ => ?_
    refine q_if (b := true) ((t_test (e_isi (e_var rfl))).is rfl) (fun _ => ?_) (fun e => nomatch e)
    exact sm_ret (e_andV (x := true) ((e_isi (e_var rfl)).is rfl) fun _ => e_eqB (e_var rfl) (e_var rfl))
theorem u__law_same {W : Wd} {δ : Dn} {tr : TA} {E : XK} {a b : Bool} (h : AvE W tr δ [.bool a, .bool b]) : EvE W (tCall sp__law_same [] E tr) δ (.bool (a == b)) := (e_callR h ⟨a, b, rfl⟩).mono fun r_ k => k a b rfl
/-! ### _law_spread -/
def pre__law_spread : List Pd → Prop := fun ds => ∃ i : Int, ds = [.int i]
def f__law_spread : List Pd → Pd → Prop := fun ds r => ∃ z, r = .int z
abbrev sp__law_spread : Sp := spR pre__law_spread f__law_spread
abbrev N__law_spread : List Str := ["_law_cell", "_law_mixed", "_law_total", "_law_k"]
theorem sc__law_spread : FnScope N__law_spread ["_law_cell"] (defScope s__law_spread) := ⟨rfl, rfl, rfl, by decide +kernel, rfl, by decide +kernel, by decide +kernel⟩
theorem ok__law_spread {P : Program} {w : World} {K : PySem.W.Frag} {mg : Str → Option Value} {base : Heap} (B : Bl mg) (D : DefH K mg "_law_spread" s__law_spread)  : C8.Cal P w K mg base 1 "_law_spread" sp__law_spread [] := by
  refine cal_of D sc__law_spread (fun _ _ _ _ _ _ us hl => match us, hl with | [_], _ => rfl) (fun ds h => ?_) fun fa cdv A outer s H E hr => ⟨_, (pss_cons (ps_set (i := 1) sc__law_spread.nd rfl (Or.inl rfl) (pe_op op_mod (pe_callTy call_int1 rfl B.int_ (by decide +kernel) (pa_cons (pv 0 rfl (Or.inl rfl)) pa_nil)) pe_int))
    (pss_cons (ps_set (i := 2) sc__law_spread.nd rfl (Or.inl rfl) pe_int)
    (pss_cons (ps_for PassesOwn.never rfl (pi_range1 rfl B.range_ (pa_cons pe_int pa_nil)) (pg_name (i := 3) sc__law_spread.nd rfl (Or.inl rfl)) (pss_cons (ps_set (i := 1) sc__law_spread.nd rfl (Or.inl rfl) (pe_op op_mod (pe_callTy call_int1 rfl B.int_ (by decide +kernel) (pa_cons (pe_op op_add (pe_op op_add (pe_op op_mul (pv 1 rfl (Or.inl rfl)) pe_int) pe_int) (pv 3 rfl (Or.inl rfl))) pa_nil)) pe_int))
    (pss_one (ps_set (i := 2) sc__law_spread.nd rfl (Or.inl rfl) (pe_op op_add (pe_op op_mul (pv 2 rfl (Or.inl rfl)) pe_int) (pv 1 rfl (Or.inl rfl)))))))
    (pss_one (ps_ret (pv 2 rfl (Or.inl rfl))))))), fun W ds h => ?_⟩
  · obtain ⟨_, rfl⟩ := h
    rfl
  · obtain ⟨i, rfl⟩ := h
    refine q_asg (e_opC (e_toint (e_var rfl)) e_int (by decide)) ?_
    refine q_asg e_int ?_
    refine sm_seq (Mid := fun δ' => ∃ (m z : Int) (k : Kn), δ' = [.d (.int i), .d (.int m), .d (.int z), k]) (sm_for (i_rg1 (n := 4) (a_cons e_int a_nil) (by decide) (by decide)) (fun _ δ' => ∃ (m z : Int) (k : Kn), δ' = [.d (.int i), .d (.int m), .d (.int z), k]) ⟨_, _, _, rfl⟩ ?_ fun δ' h => h) ?_
    · rintro j x δ' hx ⟨m, z, k, rfl⟩
      obtain ⟨y, hy, rfl⟩ : ∃ y, y ∈ rgV 0 (4 : Int).toNat ∧ x = .int y := by
        have := List.mem_of_getElem? hx
        obtain ⟨y, hy, e⟩ := List.mem_map.mp this
        exact ⟨y, hy, e.symm⟩
      refine q_asg (e_opC (e_toint (e_opI (e_opI (e_opC (e_var rfl) e_int (.inr (by decide))) e_int) (e_var rfl))) e_int (by decide)) ?_
      exact sm_asg (e_opI (e_opC (e_var rfl) e_int (.inr (by decide))) (e_var rfl)) ⟨_, _, _, rfl⟩
    · rintro δ' ⟨m, z, k, rfl⟩
      exact sm_ret ((e_var rfl).mono fun d e => ⟨_, e⟩)
theorem p_rd {K : PySem.W.Frag} {σ : Sl} {H : Hp} {q : Addr} {xs : List V} {j : Int} {v : V} {Q : VK} {i : Nat} (h : σ[i]? = some (some (.ref q))) (hq : H q = some (.lst xs)) (ha : L2.atI xs j = some v) (k : Q v H) : tOp (rIx K) (tVar i) (tC (.int j)) σ H Q := ⟨_, h, .inl ⟨q, xs, j, v, rfl, rfl, SqL.of hq, ha, k⟩⟩
theorem p_wr {σ : Sl} {H : Hp} {q : Addr} {xs : List V} {j : Int} {m : Nat} {v : V} {k : L2.St → Hp → Prop} {i : Nat} (h : σ[i]? = some (some (.ref q))) (hq : H q = some (.lst xs)) (hm : L2.ixN xs.length j = some m) (g : k σ (upd H q (.lst (xs.set m v)))) : gSub (tVar i) (tC (.int j)) rSetL v σ H k := ⟨_, h, q, xs, j, m, rfl, rfl, hq, hm, g⟩
/-- the pool's own list, told in full -/
def pl (r : Addr) (i1 i2 i3 i4 : Int) : List V := [.ref r, .int i1, .int i2, .int i3, .int i4]
def spDraw : Sp := fun vs H Q _ => ∃ (q r : Addr) (is : List Int) (n : Int), vs = [.ref q, .int n] ∧ Pool q r is H ∧ (0 < n ∧ n < 1073741824) ∧ ∀ (z : Int) H', 0 ≤ z → z < n → (∀ a o, a ≠ q → H a = some o → H' a = some o) → Pool q r is H' → Q (.int z) H'
theorem upd_upd {H : Hp} {q : Addr} {o o' : HO} : upd (upd H q o) q o' = upd H q o' := by
  funext b
  by_cases h : b = q
  · rw [h, upd_same, upd_same]
  · rw [L2.upd_ne h, L2.upd_ne h, L2.upd_ne h]
/-! ### _law_draw -/
abbrev N__law_draw : List Str := ["_law_pool_here", "_law_many", "_law_cell", "_law_mixed", "_law_value"]
theorem sc__law_draw : FnScope N__law_draw ["_law_pool_here", "_law_many"] (defScope s__law_draw) := ⟨rfl, rfl, rfl, by decide +kernel, rfl, by decide +kernel, by decide +kernel⟩
theorem ok__law_draw {P : Program} {w : World} {K : PySem.W.Frag} {mg : Str → Option Value} {base : Heap} (B : Bl mg) (D : DefH K mg "_law_draw" s__law_draw) (c__law_spread : C8.Cal P w K mg base 1 "_law_spread" sp__law_spread []) : C8.Cal P w K mg base 2 "_law_draw" spDraw [] := by
  refine cal_any D sc__law_draw (fun _ _ _ _ _ _ us hl => match us, hl with | [_, _], _ => rfl) (fun vs H Q E h => ?_) fun fa cdv A outer s H E hr => ⟨_, (pss_cons (ps_if (PW.pt (pw_and (pt_cmpR op_le (pe_ix (r := rIx K) ix_seq (pv 0 rfl (Or.inl rfl)) pe_int (fun _ _ => rfl)) pe_int (nomark _)) (pw_and1 (pt_cmpR op_lt (pe_ix (r := rIx K) ix_seq (pv 0 rfl (Or.inl rfl)) pe_int (fun _ _ => rfl)) (pe_callB (r := rLn K) call_len_seq rfl B.len_ (by decide +kernel) (pa_cons (pe_ix (r := rIx K) ix_seq (pv 0 rfl (Or.inl rfl)) pe_int (fun _ _ => rfl)) pa_nil)) (nomark _))))) (pss_cons (ps_set (i := 2) sc__law_draw.nd rfl (Or.inl rfl) (pe_ix (r := rIx K) ix_seq (pe_ix (r := rIx K) ix_seq (pv 0 rfl (Or.inl rfl)) pe_int (fun _ _ => rfl)) (pe_ix (r := rIx K) ix_seq (pv 0 rfl (Or.inl rfl)) pe_int (fun _ _ => rfl)) (fun _ _ => rfl)))
    (pss_cons (ps_asg (pe_op op_add (pe_ix (r := rIx K) ix_seq (pv 0 rfl (Or.inl rfl)) pe_int (fun _ _ => rfl)) pe_int) (pg_sub (pv 0 rfl (Or.inl rfl)) pe_int set_list))
    (pss_cons (ps_asg (pv 2 rfl (Or.inl rfl)) (pg_sub (pv 0 rfl (Or.inl rfl)) pe_int set_list))
    (pss_one (ps_if (pt_cmpR op_lt (pv 2 rfl (Or.inl rfl)) pe_int (nomark _)) (pss_one (ps_asg (C8.pe_c c__law_spread hr (by first | decide | omega) rfl (pa_cons (pv 2 rfl (Or.inl rfl)) pa_nil)) (pg_sub (pv 0 rfl (Or.inl rfl)) pe_int set_list))) pss_nil))))) pss_nil)
    (pss_cons (ps_asg (pe_op op_add (pe_ix (r := rIx K) ix_seq (pv 0 rfl (Or.inl rfl)) pe_int (fun _ _ => rfl)) pe_int) (pg_sub (pv 0 rfl (Or.inl rfl)) pe_int set_list))
    (pss_cons (ps_if (pt_cmpR op_le (pe_ix (r := rIx K) ix_seq (pv 0 rfl (Or.inl rfl)) pe_int (fun _ _ => rfl)) pe_int (nomark _)) (pss_cons (ps_set (i := 3) sc__law_draw.nd rfl (Or.inl rfl) (pe_op op_mod (pe_callTy call_int1 rfl B.int_ (by decide +kernel) (pa_cons (pe_op op_add (pe_op op_add (pe_op op_mul (pe_ix (r := rIx K) ix_seq (pv 0 rfl (Or.inl rfl)) pe_int (fun _ _ => rfl)) pe_int) (pe_op op_mul (pe_ix (r := rIx K) ix_seq (pv 0 rfl (Or.inl rfl)) pe_int (fun _ _ => rfl)) pe_int)) pe_int) pa_nil)) pe_int))
    (pss_cons (ps_set (i := 3) sc__law_draw.nd rfl (Or.inl rfl) (pe_op op_mod (pe_callTy call_int1 rfl B.int_ (by decide +kernel) (pa_cons (pe_op op_add (pe_op op_mul (pv 3 rfl (Or.inl rfl)) pe_int) (pe_ix (r := rIx K) ix_seq (pv 0 rfl (Or.inl rfl)) pe_int (fun _ _ => rfl))) pa_nil)) pe_int))
    (pss_one (ps_ret (pe_op op_mod (pe_op op_fdivN (pv 3 rfl (Or.inl rfl)) pe_int) (pv 1 rfl (Or.inl rfl))))))) pss_nil)
    (pss_cons (ps_set (i := 4) sc__law_draw.nd rfl (Or.inl rfl) (pe_op op_mod (pe_callTy call_int1 rfl B.int_ (by decide +kernel) (pa_cons (pe_ix (r := rIx K) ix_seq (pv 0 rfl (Or.inl rfl)) pe_int (fun _ _ => rfl)) pa_nil)) (pv 1 rfl (Or.inl rfl))))
    (pss_cons (ps_asg (pe_op op_fdivN (pe_ix (r := rIx K) ix_seq (pv 0 rfl (Or.inl rfl)) pe_int (fun _ _ => rfl)) (pv 1 rfl (Or.inl rfl))) (pg_sub (pv 0 rfl (Or.inl rfl)) pe_int set_list))
    (pss_one (ps_ret (pv 4 rfl (Or.inl rfl))))))))), fun vs Q h => ?_⟩
  · obtain ⟨_, _, _, _, rfl, _⟩ := h
    rfl
  · obtain ⟨q, r, is, n, rfl, ⟨i1, i2, i3, i4, hq, hr, h0⟩, hn, k⟩ := h
    have nrq : r ≠ q := Pool.ne hq hr
    have mod0 : ∀ x : Int, 0 ≤ x % n ∧ x % n < n := fun x => ⟨Int.emod_nonneg x (by omega), Int.emod_lt_of_pos x hn.1⟩
    -- from the turn's count on
    have tail : ∀ (H1 : Hp) (a b c : Option V) (i1 i2 i3 i4 : Int), (∀ a o, a ≠ q → H a = some o → H1 a = some o) → H1 q = some (.lst (pl r i1 i2 i3 i4)) → 0 ≤ i1 →
        (tSeq (tAsg (tOp (rI0 fun i j => .int (i + j)) (tOp (rIx K) (tVar 0) (tC (.int 3))) (tC (.int 1))) (gSub (tVar 0) (tC (.int 3)) rSetL)) (tSeq (tIfS (tTest (tOp (rI0 fun i j => .bl (decide (i ≤ j))) (tOp (rIx K) (tVar 0) (tC (.int 2))) (tC (.int 0))))
          (tSeq (tAsg (tOp (rI (fun _ j => 0 < j) fun i j => .int (i % j)) (tCB (fun xs H Q => (∃ i, xs = [.int i] ∧ Q (.int i) H) ∨ ∃ k, xs = [.bl k] ∧ Q (.int (if k then 1 else 0)) H) (tCons (tOp (rI0 fun i j => .int (i + j)) (tOp (rI0 fun i j => .int (i + j)) (tOp (rI CMul fun i j => .int (i * j)) (tOp (rIx K) (tVar 0) (tC (.int 4))) (tC (.int 48271))) (tOp (rI CMul fun i j => .int (i * j)) (tOp (rIx K) (tVar 0) (tC (.int 3))) (tC (.int 69621)))) (tC (.int 1))) tNil)) (tC (.int 2147483647))) (gName 3))
          (tSeq (tAsg (tOp (rI (fun _ j => 0 < j) fun i j => .int (i % j)) (tCB (fun xs H Q => (∃ i, xs = [.int i] ∧ Q (.int i) H) ∨ ∃ k, xs = [.bl k] ∧ Q (.int (if k then 1 else 0)) H) (tCons (tOp (rI0 fun i j => .int (i + j)) (tOp (rI CMul fun i j => .int (i * j)) (tVar 3) (tC (.int 16807))) (tOp (rIx K) (tVar 0) (tC (.int 3)))) tNil)) (tC (.int 2147483629))) (gName 3))
          (tRet (tOp (rI (fun _ j => 0 < j) fun i j => .int (i % j)) (tOp (rI CDivN fun i j => .int (i.fdiv j)) (tVar 3) (tC (.int 5))) (tVar 1))))) tNext)
          (tSeq (tAsg (tOp (rI (fun _ j => 0 < j) fun i j => .int (i % j)) (tCB (fun xs H Q => (∃ i, xs = [.int i] ∧ Q (.int i) H) ∨ ∃ k, xs = [.bl k] ∧ Q (.int (if k then 1 else 0)) H) (tCons (tOp (rIx K) (tVar 0) (tC (.int 2))) tNil)) (tVar 1)) (gName 4))
          (tSeq (tAsg (tOp (rI CDivN fun i j => .int (i.fdiv j)) (tOp (rIx K) (tVar 0) (tC (.int 2))) (tVar 1)) (gSub (tVar 0) (tC (.int 2)) rSetL)) (tRet (tVar 4)))))) { nx := fun _ H' => Q .non H', rt := Q } [some (.ref q), some (.int n), a, b, c] H1 := by
      intro H1 a b c i1 i2 i3 i4 k1 h1 h0
      refine p_rd rfl h1 rfl ⟨_, _, rfl, rfl, p_wr (m := 3) rfl h1 rfl ?_⟩
      change tSeq _ _ _ _ (upd H1 q (.lst (pl r i1 i2 (i3 + 1) i4)))
      have h2 : (upd H1 q (.lst (pl r i1 i2 (i3 + 1) i4))) q = some (.lst (pl r i1 i2 (i3 + 1) i4)) := upd_same
      have k2 : ∀ a o, a ≠ q → H a = some o → (upd H1 q (.lst (pl r i1 i2 (i3 + 1) i4))) a = some o := fun a o m e => by rw [L2.upd_ne m]; exact k1 a o m e
      generalize (upd H1 q (.lst (pl r i1 i2 (i3 + 1) i4))) = H2 at h2 k2
      refine p_rd rfl h2 rfl ⟨_, _, rfl, rfl, _, rfl, ?_⟩
      have pool2 : Pool q r is H2 := ⟨i1, i2, i3 + 1, i4, h2, k2 r _ nrq hr, h0⟩
      by_cases hle : i2 ≤ 0
      · rw [decide_eq_true hle]
        refine ifT (c := true) rfl ?_
        refine p_rd rfl h2 rfl ⟨_, _, rfl, rfl, .inr (by decide), p_rd rfl h2 rfl ⟨_, _, rfl, rfl, .inr (by decide), _, _, rfl, rfl, _, _, rfl, rfl, .inl ⟨_, rfl, _, _, rfl, rfl, (show (0 : Int) < 2147483647 by decide), ?_⟩⟩⟩
        refine ⟨_, rfl, _, _, rfl, rfl, .inr (by decide), p_rd rfl h2 rfl ⟨_, _, rfl, rfl, .inl ⟨_, rfl, _, _, rfl, rfl, (show (0 : Int) < 2147483629 by decide), ?_⟩⟩⟩
        refine ⟨_, rfl, _, _, rfl, rfl, ⟨by decide, by decide⟩, _, rfl, _, _, rfl, rfl, hn.1, ?_⟩
        exact k _ H2 (mod0 _).1 (mod0 _).2 k2 pool2
      · rw [decide_eq_false hle]
        show tNext _ _ _
        refine p_rd rfl h2 rfl (.inl ⟨_, rfl, _, rfl, _, _, rfl, rfl, hn.1, ?_⟩)
        refine p_rd rfl h2 rfl ⟨_, rfl, _, _, rfl, rfl, ⟨by omega, by omega⟩, p_wr (m := 2) rfl h2 rfl ?_⟩
        refine ⟨_, rfl, k _ _ (mod0 _).1 (mod0 _).2 (fun a o m e => by rw [L2.upd_ne m]; exact k2 a o m e) ⟨i1, _, i3 + 1, i4, upd_same, ?_, h0⟩⟩
        rw [L2.upd_ne nrq]
        exact k2 r _ nrq hr
    -- the first lines
    refine p_rd rfl hq rfl ⟨_, _, rfl, rfl, _, rfl, ?_⟩
    by_cases hle : i2 ≤ 0
    case neg =>
      rw [decide_eq_false hle]
      exact tail H none none none i1 i2 i3 i4 (fun _ _ _ e => e) hq h0
    rw [decide_eq_true hle]
    refine p_rd rfl hq rfl (p_rd rfl hq rfl ⟨r, _, rfl, .inl (SqL.of hr), _, _, rfl, rfl, _, rfl, ?_⟩)
    by_cases hlt : i1 < ((is.map V.int).length : Nat)
    case neg =>
      rw [decide_eq_false hlt]
      exact tail H none none none i1 i2 i3 i4 (fun _ _ _ e => e) hq h0
    rw [decide_eq_true hlt]
    refine ifT (c := true) rfl ?_
    rw [List.length_map] at hlt
    obtain ⟨cell, hc⟩ : ∃ cell, (is.map V.int)[i1.toNat]? = some (.int cell) := ⟨is[i1.toNat]'(by omega), by rw [List.getElem?_map, List.getElem?_eq_getElem (by omega)]; rfl⟩
    refine p_rd rfl hq rfl (p_rd rfl hq rfl (.inl ⟨r, _, i1, .int cell, rfl, rfl, SqL.of hr, atI_ok h0 hc, ?_⟩))
    refine p_rd rfl hq rfl ⟨_, _, rfl, rfl, p_wr (m := 1) rfl hq rfl ?_⟩
    change tSeq _ _ _ _ (upd H q (.lst (pl r (i1 + 1) i2 i3 i4)))
    have h1 : (upd H q (.lst (pl r (i1 + 1) i2 i3 i4))) q = some (.lst (pl r (i1 + 1) i2 i3 i4)) := upd_same
    have k1 : ∀ a o, a ≠ q → H a = some o → (upd H q (.lst (pl r (i1 + 1) i2 i3 i4))) a = some o := fun a o m e => by rw [L2.upd_ne m]; exact e
    generalize (upd H q (.lst (pl r (i1 + 1) i2 i3 i4))) = H1 at h1 k1
    refine ⟨_, rfl, p_wr (m := 2) rfl h1 rfl ?_⟩
    rw [show (pl r (i1 + 1) i2 i3 i4).set 2 (.int cell) = pl r (i1 + 1) cell i3 i4 from rfl]
    have h2 : (upd H1 q (.lst (pl r (i1 + 1) cell i3 i4))) q = some (.lst (pl r (i1 + 1) cell i3 i4)) := upd_same
    have k2 : ∀ a o, a ≠ q → H a = some o → (upd H1 q (.lst (pl r (i1 + 1) cell i3 i4))) a = some o := fun a o m e => by rw [L2.upd_ne m]; exact k1 a o m e
    generalize (upd H1 q (.lst (pl r (i1 + 1) cell i3 i4))) = H2 at h2 k2
    refine ⟨_, rfl, _, _, rfl, rfl, _, rfl, ?_⟩
    by_cases hbig : cell < 1000000000000000000
    case neg =>
      rw [decide_eq_false hbig]
      exact tail H2 _ none none (i1 + 1) cell i3 i4 k2 h2 (by omega)
    rw [decide_eq_true hbig]
    refine ifT (c := true) rfl ?_
    refine ⟨_, rfl, No, [.int cell], fun _ z => z.elim, .cons (.int _) .nil, ⟨cell, rfl⟩, fun v d H3 s3 hf rv => ?_⟩
    obtain ⟨z, rfl⟩ := hf
    cases rv
    refine p_wr (m := 2) rfl (s3 _ _ h2) rfl ?_
    exact tail _ _ none none (i1 + 1) z i3 i4 (fun a o m e => by rw [L2.upd_ne m]; exact s3 _ _ (k2 a o m e)) upd_same (by omega)
theorem v_draw {W : Wd} {δ : Dn} {ta : TE} {E : XK} {q r : Addr} {is : List Int} {i : Nat} {n : Int} (hq : HasPool W q r is) (hi : δ[i]? = some (.v (.ref q))) (h : EvE W ta δ (.int n)) (hn : 0 < n ∧ n < 1073741824 := by first | decide | omega) : Ev W (tCall spDraw [] E (tCons (tVar i) (tCons ta tNil))) δ (fun d => ∃ z : Int, d = .int z ∧ 0 ≤ z ∧ z < n) := fun H σ g en Q k =>
  ⟨_, en.getV hi, h H σ g en _ fun v d H1 r1 g1 p1 s1 => by
    subst p1
    cases s1
    exact ⟨q, r, is, n, rfl, hq.pool H1 g1, hn, fun z H2 z0 z1 keep pl => k _ _ H2 (Wd.trans r1 fun a o x e => keep a o (fun e2 => x (e2 ▸ hq.x)) e) (hq.stay H1 H2 g1 keep pl) ⟨z, rfl, z0, z1⟩ (.int z)⟩⟩
theorem SqL_same {K : PySem.W.Frag} {H H' : Hp} {a : Addr} {xs : List V} (h : SqL K H a xs) (s : Same H H') : SqL K H' a xs := by
  rcases h with (h | ⟨o, h⟩) | h
  · exact .inl (.inl (s _ _ h))
  · exact .inl (.inr ⟨o, s _ _ h⟩)
  · exact .inr h
def spPool (K : PySem.W.Frag) : Sp := fun vs H Q _ => ∃ (a : Addr) (is : List Int), vs = [.ref a] ∧ SqL K H a (is.map V.int) ∧ is.length ≤ 1000 ∧ ∀ q r H', Same H H' → H q = none → H r = none → Pool q r is H' → Q (.ref q) H'
theorem cut_ints (is : List Int) (lo hi : Option Int) : ∃ js : List Int, cutD (is.map .int) lo hi = js.map .int := by
  unfold cutD
  rw [List.length_map]
  exact ⟨(is.drop (HT.sIx is.length 0 lo)).take (HT.sIx is.length is.length hi - HT.sIx is.length 0 lo), by rw [List.map_take, List.map_drop]⟩
/-! ### _law_pool -/
abbrev N__law_pool : List Str := ["_law_script", "_law_salt", "_law_cell"]
theorem sc__law_pool : FnScope N__law_pool ["_law_script"] (defScope s__law_pool) := ⟨rfl, rfl, rfl, by decide +kernel, rfl, by decide +kernel, by decide +kernel⟩
theorem ok__law_pool {P : Program} {w : World} {K : PySem.W.Frag} {mg : Str → Option Value} {base : Heap} (B : Bl mg) (D : DefH K mg "_law_pool" s__law_pool)  : C8.Cal P w K mg base 1 "_law_pool" (spPool K) [] := by
  refine cal_any D sc__law_pool (fun _ _ _ _ _ _ us hl => match us, hl with | [_], _ => rfl) (fun vs H Q E h => ?_) fun fa cdv A outer s H E hr => ⟨_, (pss_cons (ps_set (i := 1) sc__law_pool.nd rfl (Or.inl rfl) pe_int)
    (pss_cons (ps_for PassesOwn.never rfl (pi_list (pe_slice (r := rSlL K) sl_list (pv 0 rfl (Or.inl rfl)) po_none (po_some pe_int))) (pg_name (i := 2) sc__law_pool.nd rfl (Or.inl rfl)) (pss_one (ps_set (i := 1) sc__law_pool.nd rfl (Or.inl rfl) (pe_op op_mod (pe_callTy call_int1 rfl B.int_ (by decide +kernel) (pa_cons (pe_op op_add (pe_op op_mul (pv 1 rfl (Or.inl rfl)) pe_int) (pv 2 rfl (Or.inl rfl))) pa_nil)) pe_int))))
    (pss_one (ps_ret (pe_lst (pa_cons (pe_callTy (r := rLs K) call_list_of rfl B.list_ (by decide +kernel) (pa_cons (pv 0 rfl (Or.inl rfl)) pa_nil)) (pa_cons pe_int (pa_cons pe_int (pa_cons pe_int (pa_cons (pv 1 rfl (Or.inl rfl)) pa_nil)))))))))), fun vs Q h => ?_⟩
  · obtain ⟨_, _, rfl, _⟩ := h
    rfl
  · obtain ⟨a, is, rfl, hS, hl, k⟩ := h
    have en : En (pureW No H fun _ z => z.elim).N H (L2.start N__law_pool [.ref a]) [.v (.ref a), .no, .no] := en_cons sl_v (en_cons sl_no (en_cons sl_no en_nil))
    obtain ⟨js, hjs⟩ := cut_ints is none (some 63)
    have hit : ∀ δ' : Dn, δ'[0]? = some (.v (.ref a)) → ItE (pureW No H fun _ z => z.elim) (iList K (tSl (rSlL K) (tVar 0) tNoPart (tPart (tC (.int 63))))) δ' (js.map .int) := fun δ' hd => i_lst fun H1 σ g en Q q => ⟨.ref a, en.getV hd, _, rfl, a, is.map V.int, rfl, SqL_same hS g, fun l hl => q _ _ _ (Wd.rNew hl _) (Wd.gNew g hl _) (by rw [← hjs]) (rp_newL g hl ((RpA.ints is).cut _ _))⟩
    have loop : Sm (pureW No H fun _ z => z.elim) _ [.v (.ref a), .d (.int 7), .no] (fun δ' => ∃ (m : Int) (k : Kn), δ' = [.v (.ref a), .d (.int m), k]) (fun _ => False) := sm_for (j := 2) (tb := tAsg (tOp (rI (fun _ j => 0 < j) fun i j => .int (i % j)) (tCB (fun xs H Q => (∃ i, xs = [.int i] ∧ Q (.int i) H) ∨ ∃ k, xs = [.bl k] ∧ Q (.int (if k then 1 else 0)) H) (tCons (tOp (rI0 fun i j => .int (i + j)) (tOp (rI CMul fun i j => .int (i * j)) (tVar 1) (tC (.int 31))) (tVar 2)) tNil)) (tC (.int 1000003))) (gName 1)) (hit _ rfl) (fun _ δ' => ∃ (m : Int) (k : Kn), δ' = [.v (.ref a), .d (.int m), k]) ⟨_, _, rfl⟩ (fun i x δ' hx ⟨m, k, e⟩ => by
      subst e
      obtain ⟨y, hy, rfl⟩ : ∃ y, y ∈ js ∧ x = .int y := by
        obtain ⟨y, hy, e⟩ := List.mem_map.mp (List.mem_of_getElem? hx)
        exact ⟨y, hy, e.symm⟩
      exact sm_asg (e_opC (e_toint (e_opI (e_opC (e_var rfl) e_int (.inr (by decide))) (e_var rfl))) e_int (by decide)) ⟨_, _, rfl⟩) fun δ' h => h
    refine loop H _ (fun _ _ e => e) (en.set (i := 1) (.int 7)) _ (fun σ1 δ1 H1 r1 g1 m1 en1 => ?_) (fun _ _ _ _ _ z _ => z.elim)
    obtain ⟨m, kk, rfl⟩ := m1
    have s1 : Same H H1 := g1
    obtain ⟨v1, e1, r1'⟩ := en1.getD (i := 1) rfl
    cases r1'
    refine ⟨_, en1.getV rfl, a, _, rfl, .inl (SqL_same hS s1), fun l hl' => ⟨_, e1, by show 5 ≤ sizeLine; decide, fun q hq => ?_⟩⟩
    have s2 : Same H (upd (upd H1 l (.lst (is.map V.int))) q (.lst [.ref l, .int 0, .int 0, .int 0, .int m])) := fun a o e => same_new hq _ a o (same_new hl' _ a o (s1 a o e))
    have back : ∀ {a : Addr}, H1 a = none → H a = none := fun {a} z => by
      cases w : H a with
      | none => rfl
      | some o => rw [s1 a o w] at z; cases z
    have lq : l ≠ q := fun z => by rw [← z, upd_same] at hq; cases hq
    refine k q l _ s2 ?_ (back hl') ⟨0, 0, 0, m, upd_same, by rw [L2.upd_ne lq]; exact upd_same, Int.le_refl _⟩
    rw [L2.upd_ne lq.symm] at hq
    exact back hq
end K19
end
section
set_option Elab.async false
set_option linter.all false
set_option maxRecDepth 100000
namespace K19
open PySem L2
/-! ## walks over what is not told in full -/
def ItA (W : Wd) (wi : TI) (δ : Dn) (A : List Pd → Prop) : Prop := ∀ H σ, W.G H → En W.N H σ δ → ∀ Rr : It → Hp → Prop, (∀ J H1 xs ds, A ds → W.R H H1 → W.G H1 → RpA W.N H1 xs ds → Walk J xs.length (fun H2 => W.R H1 H2) (YAt xs) → Rr J H1) → wi σ H Rr
section
variable {W : Wd} {δ : Dn} {ta tb te : TE} {tt : TT} {tr : TA} {K : PySem.W.Frag} {wi : TI} {g : TG} {A : List Pd → Prop} {P : Pd → Prop} {vs : List Nat}
theorem at_it {H1 : Hp} {xs : List V} {ds : List Pd} {J : It} {hl : ∀ a, W.N a → H1 a ≠ none} (g1 : W.G H1) (rs : RpA W.N H1 xs ds) (wk : Walk J xs.length (fun H2 => W.R H1 H2) (YAt xs)) :
    ItE (W.at H1 W.N (fun _ h => h) hl) (fun _ H R => R J H) δ ds := fun H σ gg en Rr q =>
  q J H xs Wd.rfl' gg (Wd.rpA g1 gg.2 rs) (wk.mono (fun H2 r2 => Wd.trans gg.2 r2) fun _ _ _ _ _ _ y => y)
theorem lc_any (hi : ItA W wi δ A) (h : ∀ ds, A ds → ∀ W', Sub W W' → ∀ wi', ItE W' wi' δ ds → Ev W' (tLc wi' g tt te vs) δ P) : Ev W (tLc wi g tt te vs) δ P := fun H σ gg en Q q => by
  refine hi H σ gg en _ fun J H1 xs ds a r1 g1 rs wk => ?_
  have hl : ∀ a, W.N a → H1 a ≠ none := fun a n => W.live H1 a g1 (W.ns a n)
  have e := h ds a (W.at H1 W.N (fun _ h => h) hl) Wd.at_sub (fun _ H R => R J H) (at_it g1 rs wk) H1 σ ⟨g1, Wd.rfl'⟩ (en.go gg r1) Q fun v d H2 r2 g2 p s => q v d H2 (Wd.trans r1 r2) g2.1 p s
  exact e
theorem for_any {tb : TS} {Nx : Dn → Prop} (hi : ItA W wi δ A) (h : ∀ ds, A ds → ∀ W', Sub W W' → ∀ wi', ItE W' wi' δ ds → Sm W' (tFor wi' g tb) δ Nx P) : Sm W (tFor wi g tb) δ Nx P := fun H σ gg en D nx rt => by
  refine hi H σ gg en _ fun J H1 xs ds a r1 g1 rs wk => ?_
  have hl : ∀ a, W.N a → H1 a ≠ none := fun a n => W.live H1 a g1 (W.ns a n)
  have e := h ds a (W.at H1 W.N (fun _ h => h) hl) Wd.at_sub (fun _ H R => R J H) (at_it g1 rs wk) H1 σ ⟨g1, Wd.rfl'⟩ (en.go gg r1) D (fun σ2 δ2 H2 r2 g2 m2 en2 => nx σ2 δ2 H2 (Wd.trans r1 r2) g2.1 m2 en2) fun v d H2 r2 g2 p s => rt v d H2 (Wd.trans r1 r2) g2.1 p s
  exact e
theorem ia_lst (h : Ev W te δ fun d => ∃ ds, d = .list ds ∧ A ds) : ItA W (iList K te) δ A := fun H σ g en Rr q => h H σ g en _ fun v d H1 r1 g1 p1 s1 => by
  obtain ⟨ds, rfl, a⟩ := p1
  cases s1 with
  | @lst p xs _ hn hp rs => exact ⟨p, rfl, ⟨xs, SqL.of hp⟩, q _ H1 xs ds a r1 g1 rs (walk_list.mono (fun H2 r2 => SqL.of (r2 p _ (fun z => hn (W.xn p z)) hp)) fun _ _ _ _ _ _ y => y)⟩
theorem ia_rg1 {B : Int → Prop} (h : EvA W tr δ fun ds => ∃ z, ds = [.int z] ∧ B z) (hb : ∀ z, B z → z ≤ 1000000 ∧ -1000000 ≤ z) : ItA W (iRng1 tr) δ (fun ds => ∃ z, B z ∧ ds = (rgV 0 z.toNat).map .int) := fun H σ g en Rr q => h H σ g en _ fun vs ds H1 r1 g1 p1 s1 => by
  obtain ⟨z, rfl, b⟩ := p1
  have hz := hb z b
  cases s1 with
  | cons h1 h2 =>
    cases h2
    cases h1
    exact ⟨z, rfl, by omega, by omega, q _ H1 _ _ ⟨z, b, rfl⟩ r1 g1 (RpA.ints _) walk_rg⟩
theorem v_toT {A : List Pd → Prop} (h : Ev W ta δ fun d => ∃ ds, d = .list ds ∧ A ds) : Ev W (tCB (rTp K) (tCons ta tNil)) δ (fun d => ∃ ds, d = .tuple ds ∧ A ds) := fun H σ g en Q q => h H σ g en _ fun v d H1 r1 g1 p1 s1 => by
  obtain ⟨ds, rfl, a⟩ := p1
  exact c_tuple (P := fun d => ∃ ds, d = .tuple ds ∧ A ds) (.inr rfl) ⟨ds, rfl, a⟩ H1 [v] g1 (.cons s1 .nil) Q fun v d H2 r2 g2 p2 s2 => q v d H2 (Wd.trans r1 r2) g2 p2 s2
theorem v_one {B : Pd → Prop} (h : Ev W ta δ B) : EvA W (tCons ta tNil) δ (fun ds => ∃ d, ds = [d] ∧ B d) := va_cons (A := B) (B := fun _ ds => ds = []) h (fun _ _ => a_nil) fun d ds b e => ⟨d, by rw [e], b⟩
end
/-- for x in .., with a local list -/
theorem l_forA {W : Wd} {p : Addr} {δ : Dn} {ds : List Pd} {Nx : Dn → List Pd → Prop} {P : Pd → Prop} {wi : TI} {j : Nat} {tb : TS} {A : List Pd → Prop} (hw : ∀ W', Loc W p W' → ItA W' wi δ A) (Inv : List Pd → Nat → Dn → List Pd → Prop) (h0 : ∀ xs, A xs → Inv xs 0 δ ds)
    (hs : ∀ xs, A xs → ∀ m a δ' ds', xs[m]? = some a → Inv xs m δ' ds' → SmL W p tb (δ'.set j (.d a)) ds' (Inv xs (m + 1)) P) (hd : ∀ xs, A xs → ∀ δ' ds', Inv xs xs.length δ' ds' → Nx δ' ds') :
    SmL W p (tFor wi (gName j) tb) δ ds Nx P := fun hp H σ g L en D nx rt => by
  refine hw _ (Wd.loc_loc (H0 := H) (hp := hp) (hl := L.any)) H σ ⟨g, Wd.rfl'⟩ en _ fun J H1 vs xs hA _ g1 rs wk => ?_
  have r1 : W.R H H1 := g1.2
  have L1 := L.go g hp r1
  have en1 := RL.en g L (RL.of r1) en
  have wr : ∀ {H2}, RL W p H1 H2 → (W.loc p H hp L.any).R H1 H2 := fun {H2} r a o n e => r a o (fun z => n (.inl z)) (fun z => n (.inr z)) e
  refine for_it wk (fun i σ2 H2 => RL W p H1 H2 ∧ W.G H2 ∧ ∃ δ' ds', Ll W p ds' H2 ∧ Inv xs i δ' ds' ∧ En (Nn W p) H2 σ2 δ') ⟨RL.rfl', g1.1, δ, ds, L1, h0 xs hA, en1⟩ (fun i σ2 H2 _ q => wr q.1) ?_ ?_
  · rintro i v σ2 H2 H2' hlt ⟨r2, g2, δ', ds', L2, hI, en2⟩ ⟨e, hv⟩
    subst e
    obtain ⟨x, hx, rx⟩ := rs.getV hv
    exact hs xs hA i x δ' ds' hx hI hp _ _ g2 L2 (en2.set (RL.rp g1.1 L1 r2 rx)) _ (fun σ4 δ4 ds4 H4 r4 g4 L4 m4 en4 => ⟨r2.trans r4, g4, δ4, ds4, L4, m4, en4⟩) fun v d H4 r4 g4 p4 s4 => rt v d H4 ((RL.of r1).trans (r2.trans r4)) g4 p4 s4
  · rintro σ2 H2 ⟨r2, g2, δ', ds', L2, hI, en2⟩
    rw [rs.length] at hI
    exact nx σ2 δ' ds' H2 ((RL.of r1).trans r2) g2 L2 (hd xs hA δ' ds' hI) en2
/-! ## cubes -/
def cubesF : Nat → List C
  | 0 => [[]]
  | m + 1 => cubesF m ++ (cubesF m).flatMap fun c => [wLit c (-((m : Int) + 1)), wLit c ((m : Int) + 1)]
theorem cubesF_len : ∀ m, (cubesF m).length = 3 ^ m
  | 0 => rfl
  | m + 1 => by
    show (cubesF m ++ _).length = _
    have e : ∀ l : List C, (l.flatMap fun c => [wLit c (-((m : Int) + 1)), wLit c ((m : Int) + 1)]).length = 2 * l.length := fun l => by
      induction l with
      | nil => rfl
      | cons a l ih =>
        rw [List.flatMap_cons, List.length_append, ih]
        simp
        omega
    rw [List.length_append, e, cubesF_len m, Nat.pow_succ]
    omega
theorem cubesF_good : ∀ (m : Nat) (c : C), c ∈ cubesF m → goodC (m : Nat) c = true
  | 0, c, h => by
    rw [List.mem_singleton.mp h]
    rfl
  | m + 1, c, h => by
    have up : ∀ c, goodC (m : Nat) c = true → goodC ((m + 1 : Nat) : Int) c = true := fun c h => by
      obtain ⟨g1, g2, g3⟩ := good_iff.mp h
      exact good_iff.mpr ⟨g1, fun l hl => by have := g2 l hl; omega, g3⟩
    have out : ∀ c, goodC (m : Nat) c = true → ((m : Int) + 1) ∉ c ∧ -((m : Int) + 1) ∉ c := fun c h => by
      obtain ⟨g1, g2, g3⟩ := good_iff.mp h
      exact ⟨fun z => by have := g2 _ z; omega, fun z => by have := g2 _ z; omega⟩
    rcases List.mem_append.mp (show c ∈ cubesF m ++ _ from h) with h | h
    · exact up c (cubesF_good m c h)
    · obtain ⟨d, hd, hc⟩ := List.mem_flatMap.mp h
      have gd := cubesF_good m d hd
      obtain ⟨o1, o2⟩ := out d gd
      rcases List.mem_cons.mp hc with rfl | hc
      · exact wLit_good (up d gd) (by omega) (by omega) (by omega) o2 (by rw [Int.neg_neg]; exact o1)
      · rw [List.mem_singleton.mp hc]
        exact wLit_good (up d gd) (by omega) (by omega) (by omega) o1 o2
theorem cubesF_all : ∀ (m : Nat) (c : C), goodC (m : Nat) c = true → c ∈ cubesF m
  | 0, c, h => by
    obtain ⟨g1, g2, g3⟩ := good_iff.mp h
    cases c with
    | nil => exact List.mem_singleton.mpr rfl
    | cons a c => have := g2 a (List.mem_cons_self ..); omega
  | m + 1, c, h => by
    obtain ⟨g1, g2, g3⟩ := good_iff.mp h
    show c ∈ cubesF m ++ _
    have take : ∀ l : Int, l ∈ c → (l = (m : Int) + 1 ∨ l = -((m : Int) + 1)) → ∃ d, d ∈ cubesF m ∧ c = wLit d l := fun l hl he => by
      have hneg := g3 l hl
      have gd : goodC (m : Nat) (c.filter fun x => !decide (x = l)) = true := by
        refine good_iff.mpr ⟨g1.filter _, fun x hx => ?_, fun x hx z => g3 x (List.mem_filter.mp hx).1 (List.mem_filter.mp z).1⟩
        obtain ⟨x1, x2⟩ := List.mem_filter.mp hx
        have := g2 x x1
        have xl : x ≠ l := by simpa using x2
        have xl2 : x ≠ -l := fun z => hneg (z ▸ x1)
        omega
      refine ⟨_, cubesF_all m _ gd, ?_⟩
      have gw : (wLit (c.filter fun x => !decide (x = l)) l).Pairwise (· < ·) := by
        refine lt_of_le_nd (srt_le _) ((srt_perm _).nodup_iff.mpr ?_)
        rw [List.nodup_append]
        refine ⟨nd_of_lt (g1.filter _), by simp, ?_⟩
        intro a ha b hb e
        rw [List.mem_singleton] at hb
        have := (List.mem_filter.mp ha).2
        simp [e, hb] at this
      refine strict_one g1 gw fun x => ?_
      rw [mem_wLit, List.mem_filter]
      constructor
      · intro hx
        by_cases e : x = l
        · exact .inr e
        · exact .inl ⟨hx, by simpa using e⟩
      · rintro (h | rfl)
        · exact h.1
        · exact hl
    by_cases h1 : ((m : Int) + 1) ∈ c
    · obtain ⟨d, hd, e⟩ := take _ h1 (.inl rfl)
      exact List.mem_append_right _ (List.mem_flatMap.mpr ⟨d, hd, by rw [e]; simp⟩)
    · by_cases h2 : -((m : Int) + 1) ∈ c
      · obtain ⟨d, hd, e⟩ := take _ h2 (.inr rfl)
        exact List.mem_append_right _ (List.mem_flatMap.mpr ⟨d, hd, by rw [e]; simp⟩)
      · refine List.mem_append_left _ (cubesF_all m c (good_iff.mpr ⟨g1, fun l hl => ?_, g3⟩))
        have := g2 l hl
        have a1 : l ≠ (m : Int) + 1 := fun z => h1 (z ▸ hl)
        have a2 : l ≠ -((m : Int) + 1) := fun z => h2 (z ▸ hl)
        omega
end K19
end
section
set_option Elab.async false
set_option linter.all false
set_option maxRecDepth 100000
namespace PyProof.Rows
open PySem PySem.Spec
section
variable {prog : Program} {w : World} {A : Around} {E : Value → Shared → Prop} {s : Shared}
/-- the items of a tuple, as a list of its own -/
theorem k19_collect {l : Addr} {vs : List Value} {Q : List Value → Shared → Prop} (hl : s.heap.IsTuple l vs.toArray)
    (h : Q vs { s with heap := (s.heap.push (seqObj "list" #[] 0)).update s.heap.objs.size (Obj.mapSeq (· ++ vs.toArray)) }) (hsz : vs.length ≤ sizeLine := by size_fits) : wpAny (model prog w) A (collect (.ref l)) Q E s := by
  obtain ⟨o, ho, hc, n, hd⟩ := id hl
  unfold collect
  refine wpAny_bind (wpAny_runValue (codeAny_builtin entry_proto_collect' ?_))
  refine (?_ : wpAny _ _ (do again (.builtin "list.__iadd__" ⟨[← newList [], .ref l], []⟩)) _ _ s)
  refine wpAny_bind (wpAny_newList (wpAny_pure ⟨Code.quiet_builtin _ (by decide +kernel), codeAny_builtin entry_list_iadd' ?_⟩))
  refine (?_ : wpAny _ _ (Builtin.List.listExtendWith (.ref s.heap.objs.size) (.ref l) (.ref s.heap.objs.size)) _ _ { s with heap := s.heap.push (seqObj "list" #[] 0) })
  unfold Builtin.List.listExtendWith
  have ho' : (s.heap.push (seqObj "list" #[] 0)).get? l = some o := Heap.get?_push_of_some _ ho
  refine wpAny_bind (wpAny_typeOf (T := "tuple") ⟨o, ho', hc⟩ ?_)
  have ht : (Value.type "tuple" == Value.type "tuple") = true := by rfl
  rw [if_pos (by rw [ht]; simp)]
  refine wpAny_bind (listItems_at ho' hd ?_)
  refine wpAny_bind (listItems_at (xs := #[]) (n := 0) (Heap.get?_push_size _ rfl) rfl ?_)
  rw [if_neg (by simp)]
  refine wpAny_bind (listUpdate_at (xs := #[]) (n := 0) (Heap.get?_push_size _ rfl) rfl ?_ (Nat.zero_le _) (by show (#[] ++ vs.toArray).size ≤ sizeLine + 1; simp only [Array.size_append, List.size_toArray, List.length_nil]; omega))
  refine wpAny_pure ?_
  refine (?_ : wpAny (model prog w) A (do
      let o ← load s.heap.objs.size
      match o.data with
      | .seq xs _ => pure xs.toList
      | _ => unsupported "internal:collect") Q E { s with heap := (s.heap.push (seqObj "list" #[] 0)).update s.heap.objs.size (Obj.mapSeq (· ++ vs.toArray)) })
  refine wpAny_bind (wpAny_load (get?_update_seq (Heap.get?_push_size _ rfl) _) ?_)
  refine (?_ : wpAny _ _ (pure ((#[] : Array Value) ++ vs.toArray).toList) Q E _)
  rw [show ((#[] : Array Value) ++ vs.toArray).toList = vs by simp]
  exact wpAny_pure h
theorem k19_sortedT {l : Addr} {vs : List Value} {ns : List Int} {Q : Value → Shared → Prop} (hl : s.heap.IsTuple l vs.toArray) (hI : IntsAre vs ns) (h64 : vs.length < 64)
    (h : ∀ (out : Array Value) (ns' : List Int), IntsAre out.toList ns' → ns'.Perm ns → ns'.Pairwise (· ≤ ·) → Q (.ref (s.heap.objs.size + 1)) { s with heap := sortedAll s.heap vs out }) :
    wpAny (model prog w) A (call (.builtin "sorted") [.ref l]) Q E s := by
  refine Calls.call_function_entry kind_sorted plain_sorted entry_sorted (args_sorted1 _) ?_
  unfold Builtin.«sorted»
  refine wpAny_bind (m := checkCount "sorted" 1 1 _) (wpAny_pure ?_)
  refine wpAny_bind (k19_collect hl ?_ (by rw [sizeLine_eq]; omega))
  refine wpAny_bind (wpAny_newList ?_)
  have hsz : ((s.heap.push (seqObj "list" #[] 0)).update s.heap.objs.size (Obj.mapSeq (· ++ vs.toArray))).objs.size = s.heap.objs.size + 1 := by
    rw [Heap.size_update, size_push']
  have hoL : (((s.heap.push (seqObj "list" #[] 0)).update s.heap.objs.size (Obj.mapSeq (· ++ vs.toArray))).push (seqObj "list" vs.toArray 0)).get? (s.heap.objs.size + 1) = some (seqObj "list" vs.toArray 0) := by
    rw [← hsz]; exact Heap.get?_push_size _ rfl
  refine (?_ : wpAny _ _ _ _ _ { s with heap := ((s.heap.push (seqObj "list" #[] 0)).update s.heap.objs.size (Obj.mapSeq (· ++ vs.toArray))).push (seqObj "list" vs.toArray 0) })
  rw [hsz]
  refine wpAny_bind (wpAny_holding (wpAny_call_entry slot_list_sort ⟨_, hoL, rfl⟩ entry_list_sort (list_sort_tree hoL hI h64 fun out ns' a1 a2 a3 => ⟨_, rfl, ?_⟩) (args_list_sort _)))
  exact wpAny_pure ⟨_, rfl, h out ns' a1 a2 a3⟩
end
end PyProof.Rows
namespace L2
open PySem PySem.Spec PyProof.Rows
/-- sorted(a tuple of ints) -/
def rSortedTI (K : PySem.W.Frag) : List V → Hp → VK → Prop := fun vs H Q => ∃ (a : Addr) (ns : List Int), vs = [V.ref a] ∧ SqT K H a (ns.map V.int) ∧ ns.length < 64 ∧
  ∀ (ns' : List Int) (p : Addr), ns'.Perm ns → ns'.Pairwise (· ≤ ·) → H p = none → Q (.ref p) (upd H p (.lst (ns'.map V.int)))
theorem cr_sortedTI {X : Cx} : CallR X (.builtin "sorted") (rSortedTI X.K) := by
  intro pins s σ H vs us Q I r h
  obtain ⟨a, ns, rfl, hs, h64, q⟩ := h
  obtain ⟨its, rv, hl, _⟩ := I.tuple hs
  rw [Vals.ref1 r]
  have hi := rv.ints
  refine PyProof.Rows.k19_sortedT (show s.heap.IsTuple a its.toArray from hl) hi (by rw [hi.length]; exact h64) fun out ns' h1 h2 h3 => ?_
  obtain ⟨ep, he'⟩ := PyProof.Rows.sortedAll_at s.heap its out
  have hlen : (ns'.map V.int).length ≤ sizeLine := by rw [List.length_map, h2.length_eq]; exact small64 h64
  exact ⟨.ref _, upd H (s.heap.objs.size + 1) (.lst (ns'.map V.int)), I.laid (t' := s.toks) (fun _ _ => PyProof.Rows.sortedAll_old) (Nat.le_succ _) ⟨hlen, out.toList, ep, vals_of_ints h1, he'⟩, rfl, q ns' _ h2 h3 (I.hok.fresh (Nat.le_succ _))⟩
end L2
namespace K19
open PySem L2
theorem e_sortedT {W : Wd} {δ : Dn} {ta : TE} {K : PySem.W.Frag} {c : C} (ha : EvE W ta δ (cl c)) (hl : c.length < 64) : EvE W (tCB (rSortedTI K) (tCons ta tNil)) δ (.list ((srt c).map .int)) := fun H σ g en Q q => ha H σ g en _ fun v d H1 r1 g1 p1 s1 => by
  subst p1
  cases s1 with
  | @tup p xs _ hp rs =>
    have e := rs.ints_eq
    subst e
    refine ⟨p, c, rfl, SqT.of hp, hl, fun ns l hpm hpw hl => ?_⟩
    have e2 := srt_of hpm hpw
    subst e2
    exact q _ _ _ (Wd.trans r1 (Wd.rNew hl _)) (Wd.gNew g1 hl _) rfl (rp_newL g1 hl (RpA.ints _))
end K19
end
section
set_option Elab.async false
set_option linter.all false
set_option maxRecDepth 100000
set_option maxHeartbeats 4000000
namespace K19
open PySem L2
local macro_rules | `(tactic| walk_at "ev1") => `(tactic| first
  | exact e_var rfl | exact e_int | exact e_bl | exact e_non | exact e_str | exact a_nil | exact t_yes
  | refine a_cons ?_ ?_
  | (refine e_un ?_ (u_neg rfl))
  | (refine e_op ?_ ?_ (o_bl rfl)) | (refine e_op ?_ ?_ (o_int rfl))
  | (refine e_op ?_ ?_ (o_eqI rfl)) | (refine e_op ?_ ?_ (o_neI rfl))
  | (refine t_test ?_) | (refine t_B ?_) | (refine t_not ?_) | (refine e_notV ?_)
  | (refine e_cb ?_ (c_abs rfl)) | (refine e_cb ?_ (c_int rfl)))
local macro_rules | `(tactic| walk_at "ev") => `(tactic| repeat' walk_at "ev1")
abbrev sp__law_draw : Sp := spDraw
theorem va_int {W : Wd} {δ : Dn} {ta : TE} {B : Int → Prop} (h : Ev W ta δ fun d => ∃ z, d = .int z ∧ B z) : EvA W (tCons ta tNil) δ (fun ds => ∃ z, ds = [.int z] ∧ B z) := va_cons (A := fun d => ∃ z, d = .int z ∧ B z) (B := fun _ ds => ds = []) h (fun _ _ => a_nil) fun d ds ⟨z, e, b⟩ e2 => ⟨z, by rw [e, e2], b⟩
theorem good_negsub {n : Int} {c e : C} (hg : goodC n c = true) (hn : e.Nodup) (hs : ∀ x ∈ e, x ∈ c) : goodC n (srt (e.map (- ·))) = true := by
  obtain ⟨g1, g2, g3⟩ := good_iff.mp hg
  have mem : ∀ {l : Int}, l ∈ srt (e.map (- ·)) → -l ∈ e := fun {l} h => by
    obtain ⟨x, hx, rfl⟩ := List.mem_map.mp (mem_srt.mp h)
    rw [Int.neg_neg]
    exact hx
  refine good_iff.mpr ⟨lt_of_le_nd (srt_le _) ((srt_perm _).nodup_iff.mpr (List.pairwise_map.mpr (hn.imp fun {a b} h z => h (by omega)))), fun l hl => ?_, fun l hl z => ?_⟩
  · have := g2 _ (hs _ (mem hl))
    omega
  · exact g3 _ (hs _ (mem hl)) (hs _ (mem z))
theorem good_srt {n : Int} {fs : C} (h1 : ∀ l ∈ fs, l ≠ 0 ∧ -n ≤ l ∧ l ≤ n) (h2 : ∀ l ∈ fs, -l ∉ fs) (h3 : fs.Nodup) : goodC n (srt fs) = true :=
  good_iff.mpr ⟨lt_of_le_nd (srt_le _) ((srt_perm _).nodup_iff.mpr h3), fun l hl => h1 l (mem_srt.mp hl), fun l hl z => h2 l (mem_srt.mp hl) (mem_srt.mp z)⟩
/-! ### _law_cubes -/
def pre__law_cubes : List Pd → Prop := fun ds => ∃ n : Nat, ds = [.int (n : Nat)] ∧ n ≤ 4
def f__law_cubes : List Pd → Pd → Prop := fun ds r => ∀ n : Nat, ds = [.int (n : Nat)] → ∃ L : List C, r = .list (cls L) ∧ L.Perm (cubesF n)
abbrev sp__law_cubes : Sp := spR pre__law_cubes f__law_cubes
abbrev N__law_cubes : List Str := ["_law_n", "_law_found", "_law_v", "_law_more", "_law_cube"]
theorem sc__law_cubes : FnScope N__law_cubes ["_law_n"] (defScope s__law_cubes) := ⟨rfl, rfl, rfl, by decide +kernel, rfl, by decide +kernel, by decide +kernel⟩
theorem ok__law_cubes {P : Program} {w : World} {K : PySem.W.Frag} {mg : Str → Option Value} {base : Heap} (B : Bl mg) (D : DefH K mg "_law_cubes" s__law_cubes) (c__law_with : C8.Cal P w K mg base 1 "_law_with" sp__law_with []) : C8.Cal P w K mg base 2 "_law_cubes" sp__law_cubes [] := by
  refine cal_of D sc__law_cubes (fun _ _ _ _ _ _ us hl => match us, hl with | [_], _ => rfl) (fun ds h => ?_) fun fa cdv A outer s H E hr => ⟨_, (pss_cons (ps_set (i := 1) sc__law_cubes.nd rfl (Or.inl rfl) (pe_lst (pa_cons (pe_tup pa_nil) pa_nil)))
    (pss_cons (ps_for PassesOwn.never rfl (pi_range2 rfl B.range_ (pa_cons pe_int (pa_cons (pe_op op_add (pv 0 rfl (Or.inl rfl)) pe_int) pa_nil))) (pg_name (i := 2) sc__law_cubes.nd rfl (Or.inl rfl)) (pss_cons (ps_set (i := 3) sc__law_cubes.nd rfl (Or.inl rfl) (pe_lst pa_nil))
    (pss_cons (ps_for PassesOwn.never rfl (pi_list (pv 1 rfl (Or.inl rfl))) (pg_name (i := 4) sc__law_cubes.nd rfl (Or.inl rfl)) (pss_one (ps_set (i := 3) sc__law_cubes.nd rfl (Or.inl rfl) (pe_op op_cat (pv 3 rfl (Or.inl rfl)) (pe_lst (pa_cons (C8.pe_c c__law_with hr (by first | decide | omega) rfl (pa_cons (pv 4 rfl (Or.inl rfl)) (pa_cons (pe_un un_neg (pv 2 rfl (Or.inl rfl))) pa_nil))) (pa_cons (C8.pe_c c__law_with hr (by first | decide | omega) rfl (pa_cons (pv 4 rfl (Or.inl rfl)) (pa_cons (pv 2 rfl (Or.inl rfl)) pa_nil))) pa_nil)))))))
    (pss_one (ps_set (i := 1) sc__law_cubes.nd rfl (Or.inl rfl) (pe_op op_cat (pv 1 rfl (Or.inl rfl)) (pv 3 rfl (Or.inl rfl))))))))
    (pss_one (ps_ret (pe_callB (r := rSortL K) (cr_sortL hr) rfl B.sorted_ (by decide +kernel) (pa_cons (pv 1 rfl (Or.inl rfl)) pa_nil)))))), fun W ds h => ?_⟩
  · obtain ⟨_, rfl, _⟩ := h
    rfl
  · obtain ⟨n, rfl, hn⟩ := h
    suffices hh : Sm W _ (args N__law_cubes.length [.int (n : Nat)]) (fun _ => False) (fun r => ∃ L : List C, r = .list (cls L) ∧ L.Perm (cubesF n)) from sm_mono hh (by
      intro r h n' q
      have q1 : (PyData.int (n : Nat)) = .int (n' : Nat) := by injection q
      have q2 : n = n' := by injection q1; omega
      rw [← q2]
      exact h)
    have c81 : ∀ m, m ≤ 4 → (cubesF m).length ≤ 81 := fun m hm => by
      rw [cubesF_len]
      have := Nat.pow_le_pow_right (show 0 < 3 by omega) hm
      omega
    refine q_asg (d := .list (cls (cubesF 0))) ((e_lst (a_cons (e_tup a_nil) a_nil) (by simp)).is rfl) ?_
    have lr : ((rgV 1 ((n : Int) + 1 - 1).toNat).map PyData.int).length = n := by simp [rgV]
    refine sm_seq (Mid := fun δ' => ∃ a b c : Kn, δ' = [.d (.int (n : Nat)), .d (.list (cls (cubesF n))), a, b, c]) (sm_for (ds := (rgV 1 ((n : Int) + 1 - 1).toNat).map .int) (i_rg2 (a_cons e_int (a_cons (e_opI (e_var rfl) e_int) a_nil)) (by omega) (by omega) (by omega) (by omega)) (fun i δ' => ∃ a b c : Kn, δ' = [.d (.int (n : Nat)), .d (.list (cls (cubesF i))), a, b, c]) ⟨_, _, _, rfl⟩ ?_ ?_) ?_
    · rintro i x δ' hx ⟨a, b, c, rfl⟩
      have hi : i < n := by
        have := (List.getElem?_eq_some_iff.mp hx).1
        omega
      have ex : x = .int ((i : Int) + 1) := by
        rw [List.getElem?_map] at hx
        unfold rgV at hx
        rw [List.getElem?_map, List.getElem?_range (by omega)] at hx
        cases hx
        show PyData.int (1 + (i : Int)) = _
        rw [Int.add_comm]
      subst ex
      have l81 := c81 i (by omega)
      refine q_asg (d := .list (cls [])) ((e_lst a_nil).is rfl) ?_
      refine sm_seq (Mid := fun δ' => ∃ c : Kn, δ' = [.d (.int (n : Nat)), .d (.list (cls (cubesF i))), .d (.int ((i : Int) + 1)), .d (.list (cls ((cubesF i).flatMap fun c => [wLit c (-((i : Int) + 1)), wLit c ((i : Int) + 1)]))), c]) (sm_for (ds := cls (cubesF i)) (i_lst (e_var rfl)) (fun j δ' => ∃ c : Kn, δ' = [.d (.int (n : Nat)), .d (.list (cls (cubesF i))), .d (.int ((i : Int) + 1)), .d (.list (cls (((cubesF i).take j).flatMap fun c => [wLit c (-((i : Int) + 1)), wLit c ((i : Int) + 1)]))), c]) ⟨_, rfl⟩ ?_ ?_) ?_
      · rintro j y δ' hy ⟨cc, rfl⟩
        have hj : j < (cubesF i).length := by
          have := (List.getElem?_eq_some_iff.mp hy).1
          rw [cls_len] at this
          exact this
        have hcj := List.getElem?_eq_getElem hj
        rw [cls_get hcj] at hy
        cases hy
        have gd := cubesF_good i _ (List.getElem_mem hj)
        generalize (cubesF i)[j] = c0 at hcj gd
        have l0 : c0.length ≤ 9 := good_len (n := (i : Nat)) (by omega) gd
        have lt2 : ∀ l : List C, (l.flatMap fun c => [wLit c (-((i : Int) + 1)), wLit c ((i : Int) + 1)]).length = 2 * l.length := fun l => by
          induction l with
          | nil => rfl
          | cons a l ih =>
            rw [List.flatMap_cons, List.length_append, ih]
            simp
            omega
        refine sm_asg (d := .list (cls (((cubesF i).take (j + 1)).flatMap fun c => [wLit c (-((i : Int) + 1)), wLit c ((i : Int) + 1)]))) ((e_cat (e_var rfl) (e_lst (ds := cls [wLit c0 (-((i : Int) + 1)), wLit c0 ((i : Int) + 1)]) (a_cons (u__law_with (a_cons (e_var rfl) (a_cons (e_neg (e_var rfl)) a_nil)) (by omega)) (a_cons (u__law_with (a_cons (e_var rfl) (a_cons (e_var rfl) a_nil)) (by omega)) a_nil)) (by simp [cls])) ?_).is ?_) ⟨_, rfl⟩
        · rw [cls_len, lt2, cls_len, List.length_take, List.length_cons, List.length_cons, List.length_nil]
          omega
        · rw [List.take_succ, hcj, List.flatMap_append]
          unfold cls
          rw [List.map_append]
          rfl
      · rintro δ' ⟨cc, rfl⟩
        rw [cls_len, List.take_length]
        exact ⟨_, rfl⟩
      · rintro δ' ⟨cc, rfl⟩
        have l82 := c81 (i + 1) (by omega)
        refine sm_asg (d := .list (cls (cubesF (i + 1)))) ((e_cat (e_var rfl) (e_var rfl) ?_).is ?_) ⟨_, _, _, rfl⟩
        · have e : (cubesF (i + 1)).length = (cubesF i).length + ((cubesF i).flatMap fun c => [wLit c (-((i : Int) + 1)), wLit c ((i : Int) + 1)]).length := List.length_append
          rw [cls_len, cls_len]
          omega
        · show _ = PyData.list (cls (cubesF i ++ _))
          unfold cls
          rw [List.map_append]
    · rintro δ' h
      rw [lr] at h
      exact h
    · rintro δ' ⟨a, b, c, rfl⟩
      refine sm_ret ((v_sortL (e_var rfl)).mono ?_)
      rintro d ⟨L, rfl, hp⟩
      exact ⟨L, rfl, hp⟩
/-! ### _law_model -/
def pre__law_model : List Pd → Prop := fun ds => ∃ (n : Nat) (cs : List C), ds = [fm (n : Nat) cs] ∧ n ≤ 4 ∧ cs.length ≤ 1000 ∧ ∀ e ∈ cs, e.length < 60
def f__law_model : List Pd → Pd → Prop := fun ds r => ∀ (n : Nat) (cs : List C), ds = [fm (n : Nat) cs] → (∃ c, r = cl c ∧ Mdl (n : Nat) cs c) ∨ (r = .none ∧ ∀ c, ¬ Mdl (n : Nat) cs c)
abbrev sp__law_model : Sp := spR pre__law_model f__law_model
abbrev N__law_model : List Str := ["_law_formula", "_law_cube"]
theorem sc__law_model : FnScope N__law_model ["_law_formula"] (defScope s__law_model) := ⟨rfl, rfl, rfl, by decide +kernel, rfl, by decide +kernel, by decide +kernel⟩
theorem ok__law_model {P : Program} {w : World} {K : PySem.W.Frag} {mg : Str → Option Value} {base : Heap} (B : Bl mg) (D : DefH K mg "_law_model" s__law_model) (c__law_cubes : C8.Cal P w K mg base 2 "_law_cubes" sp__law_cubes []) (c__law_leaf : C8.Cal P w K mg base 3 "_law_leaf" sp__law_leaf []) : C8.Cal P w K mg base 4 "_law_model" sp__law_model [] := by
  refine cal_of D sc__law_model (fun _ _ _ _ _ _ us hl => match us, hl with | [_], _ => rfl) (fun ds h => ?_) fun fa cdv A outer s H E hr => ⟨_, (pss_cons (ps_for PassesOwn.never rfl (pi_list (C8.pe_c c__law_cubes hr (by first | decide | omega) rfl (pa_cons (pe_ix (r := rIx K) ix_seq (pv 0 rfl (Or.inl rfl)) pe_int (fun _ _ => rfl)) pa_nil))) (pg_name (i := 1) sc__law_model.nd rfl (Or.inl rfl)) (pss_one (ps_if (PW.pt (pw_and (pt_cmpR op_eq (pe_callB (r := rLn K) call_len_seq rfl B.len_ (by decide +kernel) (pa_cons (pv 1 rfl (Or.inl rfl)) pa_nil)) (pe_ix (r := rIx K) ix_seq (pv 0 rfl (Or.inl rfl)) pe_int (fun _ _ => rfl)) (nomark _)) (pw_and1 (pt_cmpR op_lt (C8.pe_c c__law_leaf hr (by first | decide | omega) rfl (pa_cons (pv 0 rfl (Or.inl rfl)) (pa_cons (pv 1 rfl (Or.inl rfl)) pa_nil))) pe_int (nomark _))))) (pss_one (ps_ret (pv 1 rfl (Or.inl rfl)))) pss_nil)))
    (pss_one (ps_ret pe_non))), fun W ds h => ?_⟩
  · obtain ⟨_, _, rfl, _⟩ := h
    rfl
  · obtain ⟨n, cs, rfl, hn, hl, he⟩ := h
    suffices hh : Sm W _ (args N__law_model.length [fm (n : Nat) cs]) (fun _ => False) (fun r => (∃ c, r = cl c ∧ Mdl (n : Nat) cs c) ∨ (r = .none ∧ ∀ c, ¬ Mdl (n : Nat) cs c)) from sm_mono hh (by
      intro r h n' cs' q
      have q1 : fm (n : Nat) cs = fm (n' : Nat) cs' := by injection q
      obtain ⟨q2, q3⟩ := fm_inj q1
      have q4 : n = n' := by omega
      rw [← q4, ← q3]
      exact h)
    have hit : ItA W (iList K (tCall sp__law_cubes [] C8.E0 (tCons (tOp (rIx K) (tVar 0) (tC (.int 0))) tNil))) (args N__law_model.length [fm (n : Nat) cs]) (fun ds => ∃ L : List C, ds = cls L ∧ L.Perm (cubesF n)) := ia_lst ((e_callR (a_cons (e_ixT (e_var rfl) e_int rfl) a_nil) ⟨n, rfl, hn⟩).mono fun r k => by
      obtain ⟨L, h1, h2⟩ := k n rfl
      exact ⟨_, h1, L, rfl, h2⟩)
    refine sm_seq (Mid := fun δ' => (∃ a : Kn, δ' = [.d (fm (n : Nat) cs), a]) ∧ ∀ c, ¬ Mdl (n : Nat) cs c) (for_any hit ?_) ?_
    · rintro ds ⟨L, rfl, hp⟩ W' hW wi' hi'
      refine sm_for hi' (fun i δ' => (∃ a : Kn, δ' = [.d (fm (n : Nat) cs), a]) ∧ ∀ j c, j < i → L[j]? = some c → ¬ Mdl (n : Nat) cs c) ⟨⟨_, rfl⟩, fun j c hj => by omega⟩ ?_ ?_
      · rintro i x δ' hx ⟨⟨a, rfl⟩, hb⟩
        have hi : i < L.length := by
          have := (List.getElem?_eq_some_iff.mp hx).1
          rw [cls_len] at this
          exact this
        have hci := List.getElem?_eq_getElem hi
        rw [cls_get hci] at hx
        cases hx
        have gd := cubesF_good n _ (hp.mem_iff.mp (List.getElem_mem hi))
        generalize L[i] = c at hci gd
        refine sm_if (b := decide ((c.length : Int) = (n : Nat)) && decide (fstF cs c < 0)) (t_and ((t_test (e_eqI (e_lenT (e_var rfl)) (e_ixT (e_var rfl) e_int rfl))).is (by rw [List.length_map])) fun _ => t_test (e_opB (u__law_leaf (a_cons (e_var rfl) (a_cons (e_var rfl) a_nil)) hl he) e_int)) (fun e => ?_) fun e => ?_
        · rw [Bool.and_eq_true] at e
          refine sm_ret ((e_var rfl).mono fun d ed => .inl ⟨c, ed, gd, of_decide_eq_true e.1, ?_⟩)
          rcases fstF_cases cs c with ⟨k, ee, h1, _, _⟩ | ⟨_, h2⟩
          · have := of_decide_eq_true e.2
            omega
          · exact h2
        · refine sm_next ⟨⟨_, rfl⟩, fun j d hj hd hM => ?_⟩
          by_cases hji : j = i
          · subst hji
            rw [hci] at hd
            cases hd
            rw [decide_eq_true hM.2.1] at e
            rcases fstF_cases cs c with ⟨k, ee, h1, h2, h3⟩ | ⟨h1, _⟩
            · have := hM.2.2 ee (List.mem_of_getElem? h2)
              rw [h3] at this
              cases this
            · rw [h1] at e
              cases e
          · exact hb j d (by omega) hd hM
      · rintro δ' ⟨h1, h2⟩
        refine ⟨h1, fun c hM => ?_⟩
        have mc := hp.mem_iff.mpr (cubesF_all n c hM.1)
        obtain ⟨j, hj, ej⟩ := List.mem_iff_getElem.mp mc
        exact h2 j c (by rw [cls_len]; exact hj) (by rw [List.getElem?_eq_getElem hj, ej]) hM
    · rintro δ' ⟨⟨a, rfl⟩, hb⟩
      exact sm_ret (e_non.mono fun d ed => .inr ⟨ed, hb⟩)
def pre__law_some_clause : List Pd → Prop := fun ds => ∃ n m : Int, ds = [.int n, .int m] ∧ (1 ≤ n ∧ n ≤ 1000) ∧ 0 ≤ m ∧ m ≤ 50
def f__law_some_clause : List Pd → Pd → Prop := fun ds r => ∀ n m : Int, ds = [.int n, .int m] → ∃ c, r = cl c ∧ goodC n c = true
abbrev sp__law_some_clause : Sp := spP pre__law_some_clause f__law_some_clause
/-! ### _law_some_clause -/
abbrev N__law_some_clause : List Str := ["_law_pool_here", "_law_n", "_law_most", "_law_found", "_law_k", "_law_v"]
theorem sc__law_some_clause : FnScope N__law_some_clause ["_law_pool_here", "_law_n", "_law_most"] (defScope s__law_some_clause) := ⟨rfl, rfl, rfl, by decide +kernel, rfl, by decide +kernel, by decide +kernel⟩
theorem ok__law_some_clause {P : Program} {w : World} {K : PySem.W.Frag} {mg : Str → Option Value} {base : Heap} (B : Bl mg) (D : DefH K mg "_law_some_clause" s__law_some_clause) (c__law_draw : C8.Cal P w K mg base 2 "_law_draw" sp__law_draw []) : C8.Cal P w K mg base 3 "_law_some_clause" sp__law_some_clause [] := by
  refine cal_any D sc__law_some_clause (fun _ _ _ _ _ _ us hl => match us, hl with | [_, _, _], _ => rfl) (fun vs H Q E h => ?_) fun fa cdv A outer s H E hr => ⟨_, (pss_cons (ps_set (i := 3) sc__law_some_clause.nd rfl (Or.inl rfl) (pe_lst pa_nil))
    (pss_cons (ps_for PassesOwn.never rfl (pi_range1 rfl B.range_ (pa_cons (C8.pe_c c__law_draw hr (by first | decide | omega) rfl (pa_cons (pv 0 rfl (Or.inl rfl)) (pa_cons (pe_op op_add (pv 2 rfl (Or.inl rfl)) pe_int) pa_nil))) pa_nil)) (pg_name (i := 4) sc__law_some_clause.nd rfl (Or.inl rfl)) (pss_cons (ps_set (i := 5) sc__law_some_clause.nd rfl (Or.inl rfl) (pe_op op_add pe_int (C8.pe_c c__law_draw hr (by first | decide | omega) rfl (pa_cons (pv 0 rfl (Or.inl rfl)) (pa_cons (pv 1 rfl (Or.inl rfl)) pa_nil)))))
    (pss_one (ps_if (PW.pt (pw_and (pt_cmpR (r := rIn K true) op_notIn_seq (pv 5 rfl (Or.inl rfl)) (pv 3 rfl (Or.inl rfl)) rfl) (pw_and1 (pt_cmpR (r := rIn K true) op_notIn_seq (pe_un un_neg (pv 5 rfl (Or.inl rfl))) (pv 3 rfl (Or.inl rfl)) rfl)))) (pss_one (ps_expr (pe_bm PySem.F.plainAttrs_list PySem.F.slot_list_append PySem.F.type_list_append mt_append (pv 3 rfl (Or.inl rfl)) (pa_cons (pe_ifExp (pt_cmpR op_eq (C8.pe_c c__law_draw hr (by first | decide | omega) rfl (pa_cons (pv 0 rfl (Or.inl rfl)) (pa_cons pe_int pa_nil))) pe_int (nomark _)) (pv 5 rfl (Or.inl rfl)) (pe_un un_neg (pv 5 rfl (Or.inl rfl)))) pa_nil)))) pss_nil))))
    (pss_one (ps_ret (pe_callTy (r := rTp K) call_tuple_of rfl B.tuple_ (by decide +kernel) (pa_cons (pe_callB (r := rSorted K) cr_sorted rfl B.sorted_ (by decide +kernel) (pa_cons (pv 3 rfl (Or.inl rfl)) pa_nil)) pa_nil)))))), fun vs Q h => ?_⟩
  · exact spP_len (n := 3) (fun ds h => by
      unfold pre__law_some_clause at h
      obtain ⟨_, _, rfl, _⟩ := h
      rfl) _ _ _ _ h
  · refine pool_go (pre := pre__law_some_clause) (f := f__law_some_clause) (fun W q r is ds hq h => ?_) (by simp) h
    obtain ⟨n, m, rfl, hn, hm⟩ := h
    suffices hh : Sm W _ (.v (.ref q) :: args (N__law_some_clause.length - 1) [.int n, .int m]) (fun _ => False) (fun r => ∃ c, r = cl c ∧ goodC n c = true) from sm_mono hh (by
      intro r h n' m' q
      obtain ⟨q1, q2⟩ := args2 q
      rw [← int_inj q1]
      exact h)
    refine l_open fun p => ?_
    refine l_seq (Mid := fun δ' ds' => ∃ (fs : C) (a b : Kn), ds' = fs.map .int ∧ δ' = [.v (.ref q), .d (.int n), .d (.int m), .v (.ref p), a, b] ∧ (∀ l ∈ fs, l ≠ 0 ∧ -n ≤ l ∧ l ≤ n) ∧ (∀ l ∈ fs, -l ∉ fs) ∧ fs.Nodup ∧ fs.length ≤ 50) (l_forA (A := fun xs => ∃ z : Int, (0 ≤ z ∧ z < m + 1) ∧ xs = (rgV 0 z.toNat).map .int) (fun W' hW => ia_rg1 (va_int (v_draw (hW.p _ _ _ hq) rfl (e_opI (e_var rfl) e_int))) (fun z hz => by omega)) (fun xs i δ' ds' => ∃ (fs : C) (a b : Kn), ds' = fs.map .int ∧ δ' = [.v (.ref q), .d (.int n), .d (.int m), .v (.ref p), a, b] ∧ (∀ l ∈ fs, l ≠ 0 ∧ -n ≤ l ∧ l ≤ n) ∧ (∀ l ∈ fs, -l ∉ fs) ∧ fs.Nodup ∧ fs.length ≤ i) ?_ ?_ ?_) ?_
    · rintro xs hA
      exact ⟨[], _, _, rfl, rfl, fun l (hl : l ∈ []) => (List.not_mem_nil hl).elim, fun l (hl : l ∈ []) => (List.not_mem_nil hl).elim, List.nodup_nil, Nat.le_refl _⟩
    · rintro xs ⟨z, hz, rfl⟩ i x δ' ds' hx ⟨fs, a, b, rfl, rfl, h1, h2, h3, h4⟩
      have hi : i < 50 := by
        have := (List.getElem?_eq_some_iff.mp hx).1
        simp [rgV] at this
        omega
      refine lq_asg (i := 3) rfl (A := fun d => ∃ v : Int, d = .int v ∧ 1 ≤ v ∧ v ≤ n) (fun W' hW => v_op (A := fun d => d = .int 1) (B := fun d => ∃ z : Int, d = .int z ∧ 0 ≤ z ∧ z < n) e_int (fun _ _ => v_draw (hW.p _ _ _ hq) rfl (e_var rfl)) fun a b ea ⟨z, eb, hz⟩ => by
        subst ea eb
        exact o_int ⟨_, rfl, by omega, by omega⟩) (fun d ⟨v, e, _⟩ => by subst e; rfl) ?_
      rintro _ ⟨v, rfl, hv⟩
      refine l_if (i := 3) rfl (fun W' hW => t_and (t_test (e_niL (e_var rfl) (e_var rfl))) fun _ => t_test (e_niL (e_neg (e_var rfl)) (e_var rfl))) (fun e => ?_) fun e => ?_
      · have ev : v ∉ fs ∧ -v ∉ fs := by
          have e' : (!decide (v ∈ fs) && !decide (-v ∈ fs)) = true := e.symm
          simpa using e'
        refine l_app (i := 3) rfl (A := fun d => ∃ z : Int, d = .int z ∧ (z = v ∨ z = -v)) (fun W' hW => v_if (A := fun _ => True) (vt_test (v_op (A := fun d => ∃ z : Int, d = .int z ∧ 0 ≤ z ∧ z < 2) (B := fun d => d = .int 0) (v_draw (hW.p _ _ _ hq) rfl e_int) (fun _ _ => e_int) fun a b ⟨z, ea, _⟩ eb => by
          subst ea eb
          exact o_eqI ⟨_, rfl, True.intro⟩)) (fun _ => (e_var rfl).mono fun d ed => ⟨v, ed, .inl rfl⟩) (fun _ => (e_neg (e_var rfl)).mono fun d ed => ⟨-v, ed, .inr rfl⟩)) (fun d ⟨z, e, _⟩ => by subst e; rfl) (by rw [List.length_map]; omega) ?_
        rintro _ ⟨z, rfl, hz⟩
        refine ⟨fs ++ [z], _, _, by rw [List.map_append]; rfl, rfl, fun l hl => ?_, fun l hl hl2 => ?_, ?_, by rw [List.length_append, List.length_singleton]; omega⟩
        · rcases List.mem_append.mp hl with hl | hl
          · exact h1 l hl
          · rw [List.mem_singleton.mp hl]
            omega
        · rcases List.mem_append.mp hl with g1 | g1
          · rcases List.mem_append.mp hl2 with g2 | g2
            · exact h2 l g1 g2
            · have e1 := List.mem_singleton.mp g2
              rcases hz with e2 | e2
              · exact ev.2 (by rw [show -v = l by omega]; exact g1)
              · exact ev.1 (by rw [show v = l by omega]; exact g1)
          · have e1 := List.mem_singleton.mp g1
            rcases List.mem_append.mp hl2 with g2 | g2
            · rcases hz with e2 | e2
              · exact ev.2 (by rw [show -v = -l by omega]; exact g2)
              · exact ev.1 (by rw [show v = -l by omega]; exact g2)
            · have := List.mem_singleton.mp g2
              omega
        · rw [List.nodup_append]
          refine ⟨h3, by simp, fun a ha b hb e => ?_⟩
          rw [List.mem_singleton] at hb
          subst hb
          subst e
          rcases hz with rfl | rfl
          · exact ev.1 ha
          · exact ev.2 ha
      · exact l_next ⟨fs, _, _, rfl, rfl, h1, h2, h3, Nat.le_succ_of_le h4⟩
    · rintro xs ⟨z, hz, rfl⟩ δ' ds' ⟨fs, a, b, h0, h0', h1, h2, h3, h4⟩
      refine ⟨fs, a, b, h0, h0', h1, h2, h3, ?_⟩
      simp [rgV] at h4
      omega
    · rintro δ' ds' ⟨fs, a, b, rfl, rfl, h1, h2, h3, h4⟩
      exact l_ret (i := 3) rfl fun W' hW => (e_toT (e_sorted (e_var rfl) (by omega))).mono fun d ed => ⟨srt fs, ed, good_srt h1 h2 h3⟩
def pre__law_drawn_formula : List Pd → Prop := fun ds => ∃ m : Int, ds = [.int m] ∧ 1 ≤ m ∧ m ≤ 1000
def f__law_drawn_formula : List Pd → Pd → Prop := fun ds r => ∀ m : Int, ds = [.int m] → ∃ (n : Int) (cs : List C), r = fm n cs ∧ 1 ≤ n ∧ n ≤ m ∧ (∀ c ∈ cs, goodC n c = true) ∧ cs.length ≤ 6
abbrev sp__law_drawn_formula : Sp := spP pre__law_drawn_formula f__law_drawn_formula
/-! ### _law_drawn_formula -/
abbrev N__law_drawn_formula : List Str := ["_law_pool_here", "_law_most", "_law_n", "_law_rows", "_law_k", "_law_row"]
theorem sc__law_drawn_formula : FnScope N__law_drawn_formula ["_law_pool_here", "_law_most"] (defScope s__law_drawn_formula) := ⟨rfl, rfl, rfl, by decide +kernel, rfl, by decide +kernel, by decide +kernel⟩
theorem ok__law_drawn_formula {P : Program} {w : World} {K : PySem.W.Frag} {mg : Str → Option Value} {base : Heap} (B : Bl mg) (D : DefH K mg "_law_drawn_formula" s__law_drawn_formula) (c__law_draw : C8.Cal P w K mg base 2 "_law_draw" sp__law_draw []) (c__law_some_clause : C8.Cal P w K mg base 3 "_law_some_clause" sp__law_some_clause []) : C8.Cal P w K mg base 4 "_law_drawn_formula" sp__law_drawn_formula [] := by
  refine cal_any D sc__law_drawn_formula (fun _ _ _ _ _ _ us hl => match us, hl with | [_, _], _ => rfl) (fun vs H Q E h => ?_) fun fa cdv A outer s H E hr => ⟨_, (pss_cons (ps_set (i := 2) sc__law_drawn_formula.nd rfl (Or.inr rfl) (pe_op op_add pe_int (C8.pe_c c__law_draw hr (by first | decide | omega) rfl (pa_cons (pv 0 rfl (Or.inr (Or.inl rfl))) (pa_cons (pv 1 rfl (Or.inl rfl)) pa_nil)))))
    (pss_cons (ps_setLc (own := [("_law_k", 4)]) (g := gName 4) (tt := tYes) (i := 3) rfl sc__law_drawn_formula.nd rfl rfl (sw_true rfl rfl rfl (by decide +kernel)) (pi_range1 rfl B.range_ (pa_cons (C8.pe_c c__law_draw hr (by first | decide | omega) rfl (pa_cons (pv 0 rfl (Or.inr (Or.inl rfl))) (pa_cons pe_int pa_nil))) pa_nil)) (blkOk_by (N := N__law_drawn_formula) (sc := defScope s__law_drawn_formula) (by decide +kernel)) (fun _ _ _ _ _ => pg_name (i := 4) sc__law_drawn_formula.nd rfl (Or.inl rfl)) (fun _ _ _ _ _ => pts_nil) (fun _ _ _ _ _ => (C8.pe_c c__law_some_clause hr (by first | decide | omega) rfl (pa_cons (pv 0 rfl (Or.inr (Or.inl rfl))) (pa_cons (pv 2 rfl (Or.inr (Or.inl rfl))) (pa_cons pe_int pa_nil))))))
    (pss_cons (ps_setLc (own := [("_law_row", 5)]) (g := gName 5)  (i := 3) rfl sc__law_drawn_formula.nd rfl rfl (sw_true rfl rfl rfl (by decide +kernel)) (pi_list (pv 3 rfl (Or.inl rfl))) (blkOk_by (N := N__law_drawn_formula) (sc := defScope s__law_drawn_formula) (by decide +kernel)) (fun _ _ _ _ _ => pg_name (i := 5) sc__law_drawn_formula.nd rfl (Or.inl rfl)) (fun _ _ _ _ _ => pts_one (PW.pt (pw_or (pt_cmpR op_gt (pe_callB (r := rLn K) call_len_seq rfl B.len_ (by decide +kernel) (pa_cons (pv 5 rfl (Or.inl rfl)) pa_nil)) pe_int (nomark _)) (pw_or1 (pt_cmpR op_eq (C8.pe_c c__law_draw hr (by first | decide | omega) rfl (pa_cons (pv 0 rfl (Or.inr (Or.inl rfl))) (pa_cons pe_int pa_nil))) pe_int (nomark _)))))) (fun _ _ _ _ _ => (pv 5 rfl (Or.inl rfl))))
    (pss_one (ps_ret (pe_tup (pa_cons (pv 2 rfl (Or.inr (Or.inl rfl))) (pa_cons (pe_callTy (r := rTp K) call_tuple_of rfl B.tuple_ (by decide +kernel) (pa_cons (pe_callB (r := rSortS K P w) (cr_sortS rfl hr) rfl B.sorted_ (by decide +kernel) (pa_cons (pe_callTy (r := rSetOfT K P w) (cr_setOfT rfl hr.units) rfl B.set_ (by decide +kernel) (pa_cons (pv 3 rfl (Or.inl rfl)) pa_nil)) pa_nil)) pa_nil)) pa_nil)))))))), fun vs Q h => ?_⟩
  · exact spP_len (n := 2) (fun ds h => by
      unfold pre__law_drawn_formula at h
      obtain ⟨_, rfl, _⟩ := h
      rfl) _ _ _ _ h
  · refine pool_go (pre := pre__law_drawn_formula) (f := f__law_drawn_formula) (fun W q r is ds hq h => ?_) (by simp) h
    obtain ⟨m, rfl, hm⟩ := h
    suffices hh : Sm W _ (.v (.ref q) :: args (N__law_drawn_formula.length - 1) [.int m]) (fun _ => False) (fun r => ∃ (n : Int) (cs : List C), r = fm n cs ∧ 1 ≤ n ∧ n ≤ m ∧ (∀ c ∈ cs, goodC n c = true) ∧ cs.length ≤ 6) from sm_mono hh (by
      intro r h m' q
      have q1 : (PyData.int m) = .int m' := by injection q
      rw [← int_inj q1]
      exact h)
    refine q_asgP (A := fun d => ∃ n : Int, d = .int n ∧ 1 ≤ n ∧ n ≤ m) (v_op (A := fun d => d = .int 1) (B := fun d => ∃ z : Int, d = .int z ∧ 0 ≤ z ∧ z < m) e_int (fun _ _ => v_draw hq rfl (e_var rfl)) fun a b ea ⟨z, eb, hz⟩ => by
      subst ea eb
      exact o_int ⟨_, rfl, by omega, by omega⟩) ?_
    rintro _ ⟨n, rfl, hn⟩
    refine q_asgP (A := fun d => ∃ cs : List C, d = .list (cls cs) ∧ (∀ c ∈ cs, goodC n c = true) ∧ cs.length ≤ 6) (lc_any (A := fun xs => ∃ z : Int, (0 ≤ z ∧ z < 7) ∧ xs = (rgV 0 z.toNat).map .int) (ia_rg1 (va_int (v_draw hq rfl e_int)) (fun z hz => by omega)) ?_) ?_
    · rintro xs ⟨z, hz, rfl⟩ W' hW wi' hi'
      have lz : ((rgV 0 z.toNat).map PyData.int).length ≤ 6 := by simp [rgV]; omega
      refine v_lc (Pt := fun _ b => b = true) (Pe := fun _ y => ∃ c, y = cl c ∧ goodC n c = true) (R := fun xs ys => ∃ cs : List C, ys = cls cs ∧ ∀ c ∈ cs, goodC n c = true) hi' rfl (by decide) (fun _ _ => t_yes) (fun x hx _ => v_callP (hW.p _ _ _ hq) rfl (a_cons (e_var rfl) (a_cons e_int a_nil)) fun ds e => ⟨⟨n, 3, e, by omega, by omega⟩, fun d fd => fd n 3 e⟩) (fun x y _ _ ⟨c, e, _⟩ => by rw [e]; exact nl_cl c) (by omega) ⟨[], rfl, fun c (hc : c ∈ []) => (List.not_mem_nil hc).elim⟩ ?_ (fun xs ys x _ e => by cases e) ?_
      · rintro xs ys x y _ _ ⟨c, rfl, hc⟩ ⟨cs, rfl, hcs⟩
        refine ⟨cs ++ [c], by unfold cls; rw [List.map_append]; rfl, fun d hd => ?_⟩
        rcases List.mem_append.mp hd with hd | hd
        · exact hcs d hd
        · rw [List.mem_singleton.mp hd]
          exact hc
      · rintro ys hy ⟨cs, rfl, hcs⟩
        rw [cls_len] at hy
        exact ⟨cs, rfl, hcs, by omega⟩
    rintro _ ⟨rows, rfl, hr, hrl⟩
    refine q_asgP (A := fun d => ∃ cs : List C, d = .list (cls cs) ∧ (∀ c ∈ cs, goodC n c = true) ∧ cs.length ≤ 6) (v_lc (ds := cls rows) (Pt := fun _ _ => True) (Pe := fun x y => y = x) (R := fun xs ys => ∃ cs : List C, ys = cls cs ∧ ∀ c ∈ cs, goodC n c = true) (i_lst (e_var rfl)) rfl (by decide) (fun x hx => ?_) (fun x hx _ => e_var rfl) (fun x y hx _ e => ?_) (by rw [cls_len]; omega) ⟨[], rfl, fun c (hc : c ∈ []) => (List.not_mem_nil hc).elim⟩ ?_ (fun xs ys x _ _ h => h) ?_) ?_
    · obtain ⟨c, hc, rfl⟩ := List.mem_map.mp hx
      exact vt_or (A := fun _ => True) ((t_test (e_opB (e_lenT (e_var rfl)) e_int)).mono fun _ _ => True.intro) (fun _ => vt_test (v_op (A := fun d => ∃ z : Int, d = .int z ∧ 0 ≤ z ∧ z < 6) (B := fun d => d = .int 0) (v_draw hq rfl e_int) (fun _ _ => e_int) fun a b ⟨z, ea, _⟩ eb => by
        subst ea eb
        exact o_eqI ⟨_, rfl, True.intro⟩)) fun _ => True.intro
    · obtain ⟨c, hc, rfl⟩ := List.mem_map.mp hx
      rw [e]
      exact nl_cl c
    · rintro xs ys x y hx _ rfl ⟨cs, rfl, hcs⟩
      obtain ⟨c, hc, rfl⟩ := List.mem_map.mp hx
      refine ⟨cs ++ [c], by unfold cls; rw [List.map_append]; rfl, fun d hd => ?_⟩
      rcases List.mem_append.mp hd with hd | hd
      · exact hcs d hd
      · rw [List.mem_singleton.mp hd]
        exact hr c hc
    · rintro ys hy ⟨cs, rfl, hcs⟩
      rw [cls_len, cls_len] at hy
      exact ⟨cs, rfl, hcs, by omega⟩
    rintro _ ⟨cs, rfl, hcs, hcl⟩
    refine sm_ret (v_tup (A := fun ds => ∃ cs' : List C, ds = [.int n, .tuple (cls cs')] ∧ (∀ c ∈ cs', goodC n c = true) ∧ cs'.length ≤ 6) (va_cons (A := fun d => d = .int n) (B := fun _ ds => ∃ cs' : List C, ds = [.tuple (cls cs')] ∧ (∀ c ∈ cs', goodC n c = true) ∧ cs'.length ≤ 6) (e_var rfl) (fun _ _ => va_cons (A := fun d => ∃ ds, d = .tuple ds ∧ ∃ cs' : List C, ds = cls cs' ∧ (∀ c ∈ cs', goodC n c = true) ∧ cs'.length ≤ 6) (B := fun _ ds => ds = []) (v_toT ((v_sortS (e_var rfl) (by omega)).mono ?_)) (fun _ _ => a_nil) ?_) ?_) ?_)
    · rintro d ⟨cs', rfl, nd, _, hmem⟩
      refine ⟨_, rfl, cs', rfl, fun c hc => hcs c ((hmem c).mp hc), ?_⟩
      have key : ∀ (l m : List C), l.Nodup → (∀ x ∈ l, x ∈ m) → l.length ≤ m.length := by
        intro l
        induction l with
        | nil => intro m _ _; exact Nat.zero_le _
        | cons a l ih =>
          intro m hn hs
          have h1 := List.nodup_cons.mp hn
          have ha := hs a (List.mem_cons_self ..)
          have h2 := ih (m.erase a) h1.2 fun x hx => (List.mem_erase_of_ne (fun (e : x = a) => h1.1 (e ▸ hx))).mpr (hs x (List.mem_cons_of_mem _ hx))
          rw [List.length_erase_of_mem ha] at h2
          have := List.length_pos_of_mem ha
          rw [List.length_cons]
          omega
      have := key cs' cs nd fun x hx => (hmem x).mp hx
      omega
    · rintro d ds ⟨es, rfl, cs', rfl, h1, h2⟩ rfl
      exact ⟨cs', rfl, h1, h2⟩
    · rintro d ds rfl ⟨cs', rfl, h1, h2⟩
      exact ⟨cs', rfl, h1, h2⟩
    · rintro ds ⟨cs', rfl, h1, h2⟩
      exact ⟨by simp, n, cs', rfl, hn.1, hn.2, h1, h2⟩
end K19
end
section
set_option Elab.async false
set_option linter.all false
set_option maxRecDepth 100000
set_option maxHeartbeats 4000000
namespace K19
open PySem L2
local macro_rules | `(tactic| walk_at "ev1") => `(tactic| first
  | exact e_var rfl | exact e_int | exact e_bl | exact e_non | exact e_str | exact a_nil | exact t_yes
  | refine a_cons ?_ ?_
  | (refine e_un ?_ (u_neg rfl))
  | (refine e_op ?_ ?_ (o_bl rfl)) | (refine e_op ?_ ?_ (o_int rfl))
  | (refine e_op ?_ ?_ (o_eqI rfl)) | (refine e_op ?_ ?_ (o_neI rfl))
  | (refine t_test ?_) | (refine t_B ?_) | (refine t_not ?_) | (refine e_notV ?_)
  | (refine e_cb ?_ (c_abs rfl)) | (refine e_cb ?_ (c_int rfl)))
local macro_rules | `(tactic| walk_at "ev") => `(tactic| repeat' walk_at "ev1")
theorem v_ixD {W : Wd} {δ : Dn} {K : PySem.W.Frag} {ta tb : TE} {ds : List Pd} (ha : EvE W ta δ (.tuple ds)) (hb : Ev W tb δ fun d => ∃ z : Int, d = .int z ∧ 0 ≤ z ∧ z < (ds.length : Nat)) : Ev W (tOp (rIx K) ta tb) δ (fun d => d ∈ ds) :=
  v_op (A := fun d => d = .tuple ds) (B := fun d => ∃ z : Int, d = .int z ∧ 0 ≤ z ∧ z < (ds.length : Nat)) ha (fun _ _ => hb) fun a b ea ⟨z, eb, h0, h1⟩ => by
    subst ea eb
    have lt : z.toNat < ds.length := by omega
    exact o_ix (.inl rfl) (atI_ok h0 (List.getElem?_eq_getElem lt)) (List.getElem_mem lt)
theorem v_ixDL {W : Wd} {δ : Dn} {K : PySem.W.Frag} {ta tb : TE} {ds : List Pd} (ha : EvE W ta δ (.list ds)) (hb : Ev W tb δ fun d => ∃ z : Int, d = .int z ∧ 0 ≤ z ∧ z < (ds.length : Nat)) : Ev W (tOp (rIx K) ta tb) δ (fun d => d ∈ ds) :=
  v_op (A := fun d => d = .list ds) (B := fun d => ∃ z : Int, d = .int z ∧ 0 ≤ z ∧ z < (ds.length : Nat)) ha (fun _ _ => hb) fun a b ea ⟨z, eb, h0, h1⟩ => by
    subst ea eb
    have lt : z.toNat < ds.length := by omega
    exact o_ix (.inr rfl) (atI_ok h0 (List.getElem?_eq_getElem lt)) (List.getElem_mem lt)
/-- a drawn truth -/
theorem vt_draw {W : Wd} {δ : Dn} {ta : TE} {f : Int → Int → Bool} {B : Int → Prop} {k : Int} (h : Ev W ta δ fun d => ∃ z : Int, d = .int z ∧ B z) : EvT W (tTest (tOp (rI0 fun i j => .bl (f i j)) ta (tC (.int k)))) δ (fun _ => True) := vt_test (v_op (A := fun d => ∃ z : Int, d = .int z ∧ B z) (B := fun d => d = .int k) h (fun _ _ => e_int) fun a b ⟨z, ea, _⟩ eb => by
  subst ea eb
  exact o_bl ⟨_, rfl, True.intro⟩)
theorem vt_drawE {W : Wd} {δ : Dn} {ta : TE} {B : Int → Prop} {k : Int} (h : Ev W ta δ fun d => ∃ z : Int, d = .int z ∧ B z) : EvT W (tTest (tOp rEq ta (tC (.int k)))) δ (fun _ => True) := vt_test (v_op (A := fun d => ∃ z : Int, d = .int z ∧ B z) (B := fun d => d = .int k) h (fun _ _ => e_int) fun a b ⟨z, ea, _⟩ eb => by
  subst ea eb
  exact o_eqI ⟨_, rfl, True.intro⟩)
theorem u__law_model {W : Wd} {δ : Dn} {tr : TA} {E : XK} {n : Nat} {cs : List C} (h : AvE W tr δ [fm (n : Nat) cs]) (hn : n ≤ 4) (hl : cs.length ≤ 1000) (he : ∀ e ∈ cs, e.length < 60) : Ev W (tCall sp__law_model [] E tr) δ (fun r => (∃ c, r = cl c ∧ Mdl (n : Nat) cs c) ∨ (r = .none ∧ ∀ c, ¬ Mdl (n : Nat) cs c)) := (e_callR h ⟨n, cs, rfl, hn, hl, he⟩).mono fun r k => k n cs rfl
theorem subN {e c : C} (h : e.Sublist c) (hn : c.Nodup) : e.Nodup ∧ ∀ x ∈ e, x ∈ c := ⟨hn.sublist h, fun x hx => h.subset hx⟩
def pre__law_false_formula : List Pd → Prop := fun ds => ∃ m : Int, ds = [.int m] ∧ 1 ≤ m ∧ m ≤ 4
def f__law_false_formula : List Pd → Pd → Prop := fun ds r => ∀ m : Int, ds = [.int m] → ∃ (n : Int) (cs : List C), r = fm n cs ∧ 1 ≤ n ∧ n ≤ m ∧ (∀ c ∈ cs, goodC n c = true) ∧ cs.length ≤ 22
abbrev sp__law_false_formula : Sp := spP pre__law_false_formula f__law_false_formula
/-! ### _law_false_formula -/
abbrev N__law_false_formula : List Str := ["_law_pool_here", "_law_most", "_law_formula", "_law_k", "_law_model_here", "_law_clause", "_law_literal"]
theorem sc__law_false_formula : FnScope N__law_false_formula ["_law_pool_here", "_law_most"] (defScope s__law_false_formula) := ⟨rfl, rfl, rfl, by decide +kernel, rfl, by decide +kernel, by decide +kernel⟩
theorem ok__law_false_formula {P : Program} {w : World} {K : PySem.W.Frag} {mg : Str → Option Value} {base : Heap} (B : Bl mg) (D : DefH K mg "_law_false_formula" s__law_false_formula) (c__law_draw : C8.Cal P w K mg base 2 "_law_draw" sp__law_draw []) (c__law_drawn_formula : C8.Cal P w K mg base 4 "_law_drawn_formula" sp__law_drawn_formula []) (c__law_model : C8.Cal P w K mg base 4 "_law_model" sp__law_model []) : C8.Cal P w K mg base 5 "_law_false_formula" sp__law_false_formula [] := by
  refine cal_any D sc__law_false_formula (fun _ _ _ _ _ _ us hl => match us, hl with | [_, _], _ => rfl) (fun vs H Q E h => ?_) fun fa cdv A outer s H E hr => ⟨_, (pss_cons (ps_set (i := 2) sc__law_false_formula.nd rfl (Or.inl rfl) (C8.pe_c c__law_drawn_formula hr (by first | decide | omega) rfl (pa_cons (pv 0 rfl (Or.inr (Or.inl rfl))) (pa_cons (pv 1 rfl (Or.inl rfl)) pa_nil))))
    (pss_cons (ps_for PassesOwn.never rfl (pi_range1 rfl B.range_ (pa_cons (pe_op op_shl pe_int (pe_ix (r := rIx K) ix_seq (pv 2 rfl (Or.inl rfl)) pe_int (fun _ _ => rfl))) pa_nil)) (pg_name (i := 3) sc__law_false_formula.nd rfl (Or.inl rfl)) (pss_cons (ps_set (i := 4) sc__law_false_formula.nd rfl (Or.inl rfl) (C8.pe_c c__law_model hr (by first | decide | omega) rfl (pa_cons (pv 2 rfl (Or.inl rfl)) pa_nil)))
    (pss_one (ps_if (pt_cmpR op_notN (pv 4 rfl (Or.inl rfl)) pe_non (nomark _)) (pss_cons (ps_set (i := 5) sc__law_false_formula.nd rfl (Or.inl rfl) (pe_callTy (r := rTp K) call_tuple_of rfl B.tuple_ (by decide +kernel) (pa_cons (pe_lc (own := [("_law_literal", 6)]) (g := gName 6)  rfl sc__law_false_formula.nd (pi_tup (pv 4 rfl (Or.inl rfl))) (blkOk_by (N := N__law_false_formula) (sc := defScope s__law_false_formula) (by decide +kernel)) (fun _ _ _ _ _ => pg_name (i := 6) sc__law_false_formula.nd rfl (Or.inl rfl)) (fun _ _ _ _ _ => pts_one (pt_cmpR op_gt (C8.pe_c c__law_draw hr (by first | decide | omega) rfl (pa_cons (pv 0 rfl (Or.inr (Or.inl rfl))) (pa_cons pe_int pa_nil))) pe_int (nomark _))) (fun _ _ _ _ _ => (pe_un un_neg (pv 6 rfl (Or.inl rfl))))) pa_nil)))
    (pss_cons (ps_if (pt_cmpR op_eq (pe_callB (r := rLn K) call_len_seq rfl B.len_ (by decide +kernel) (pa_cons (pv 5 rfl (Or.inl rfl)) pa_nil)) pe_int (nomark _)) (pss_one (ps_set (i := 5) sc__law_false_formula.nd rfl (Or.inl rfl) (pe_tup (pa_cons (pe_un un_neg (pe_ix (r := rIx K) ix_seq (pv 4 rfl (Or.inl rfl)) (C8.pe_c c__law_draw hr (by first | decide | omega) rfl (pa_cons (pv 0 rfl (Or.inr (Or.inl rfl))) (pa_cons (pe_callB (r := rLn K) call_len_seq rfl B.len_ (by decide +kernel) (pa_cons (pv 4 rfl (Or.inl rfl)) pa_nil)) pa_nil))) (fun _ _ => rfl))) pa_nil)))) pss_nil)
    (pss_one (ps_set (i := 2) sc__law_false_formula.nd rfl (Or.inl rfl) (pe_tup (pa_cons (pe_ix (r := rIx K) ix_seq (pv 2 rfl (Or.inl rfl)) pe_int (fun _ _ => rfl)) (pa_cons (pe_callTy (r := rTp K) call_tuple_of rfl B.tuple_ (by decide +kernel) (pa_cons (pe_callB (r := rSortL K) (cr_sortL hr) rfl B.sorted_ (by decide +kernel) (pa_cons (pe_op op_cat (pe_callTy (r := rLs K) call_list_of rfl B.list_ (by decide +kernel) (pa_cons (pe_ix (r := rIx K) ix_seq (pv 2 rfl (Or.inl rfl)) pe_int (fun _ _ => rfl)) pa_nil)) (pe_lst (pa_cons (pe_callTy (r := rTp K) call_tuple_of rfl B.tuple_ (by decide +kernel) (pa_cons (pe_callB (r := rSortedTI K) cr_sortedTI rfl B.sorted_ (by decide +kernel) (pa_cons (pv 5 rfl (Or.inl rfl)) pa_nil)) pa_nil)) pa_nil))) pa_nil)) pa_nil)) pa_nil))))))) pss_nil))))
    (pss_one (ps_ret (pv 2 rfl (Or.inl rfl)))))), fun vs Q h => ?_⟩
  · exact spP_len (n := 2) (fun ds h => by
      unfold pre__law_false_formula at h
      obtain ⟨_, rfl, _⟩ := h
      rfl) _ _ _ _ h
  · refine pool_go (pre := pre__law_false_formula) (f := f__law_false_formula) (fun W q r is ds hq h => ?_) (by simp) h
    obtain ⟨m, rfl, hm⟩ := h
    suffices hh : Sm W _ (.v (.ref q) :: args (N__law_false_formula.length - 1) [.int m]) (fun _ => False) (fun r => ∃ (n : Int) (cs : List C), r = fm n cs ∧ 1 ≤ n ∧ n ≤ m ∧ (∀ c ∈ cs, goodC n c = true) ∧ cs.length ≤ 22) from sm_mono hh (by
      intro r h m' q
      have q1 : (PyData.int m) = .int m' := by injection q
      rw [← int_inj q1]
      exact h)
    refine q_asgP (A := fun d => ∃ (n : Int) (cs : List C), d = fm n cs ∧ 1 ≤ n ∧ n ≤ m ∧ (∀ c ∈ cs, goodC n c = true) ∧ cs.length ≤ 6) (v_callP hq rfl (a_cons (e_var rfl) a_nil) fun ds e => ⟨⟨m, e, by omega, by omega⟩, fun d fd => fd m e⟩) ?_
    rintro _ ⟨n0, cs0, rfl, h1, h2, hg0, hl0⟩
    obtain ⟨n, rfl⟩ : ∃ n : Nat, n0 = (n : Nat) := ⟨n0.toNat, by omega⟩
    have hp16 : (2 : Int) ^ (n : Int).toNat ≤ 16 := by
      have h4 : n = 1 ∨ n = 2 ∨ n = 3 ∨ n = 4 := by omega
      rcases h4 with h | h | h | h <;> subst h <;> decide
    have hp0 : (0 : Int) ≤ 2 ^ (n : Int).toNat := two_pow_nn _
    have hit : ItE W (iRng1 (tCons (tOp (rI CPow fun i j => .int (i * 2 ^ j.toNat)) (tC (.int 1)) (tOp (rIx K) (tVar 2) (tC (.int 0)))) tNil)) ((Kn.v (.ref q) :: args (N__law_false_formula.length - 1) [.int m]).set 2 (.d (fm (n : Nat) cs0))) ((rgV 0 (1 * 2 ^ (n : Int).toNat : Int).toNat).map .int) := i_rg1 (a_cons (e_opC e_int (e_ixT (e_var rfl) e_int rfl) ⟨by omega, by omega, by decide⟩) a_nil) (by omega) (by omega)
    have lr : ((rgV 0 (1 * 2 ^ (n : Int).toNat : Int).toNat).map PyData.int).length ≤ 16 := by
      unfold rgV
      rw [List.length_map, List.length_map, List.length_range]
      omega
    refine sm_seq (Mid := fun δ' => ∃ (cs : List C) (a b c : Kn), δ' = [.v (.ref q), .d (.int m), .d (fm (n : Nat) cs), a, b, c, .no] ∧ (∀ c ∈ cs, goodC (n : Nat) c = true) ∧ cs.length ≤ 22) (sm_for hit (fun i δ' => ∃ (cs : List C) (a b c : Kn), δ' = [.v (.ref q), .d (.int m), .d (fm (n : Nat) cs), a, b, c, .no] ∧ (∀ c ∈ cs, goodC (n : Nat) c = true) ∧ cs.length ≤ 6 + i) ⟨cs0, _, _, _, rfl, hg0, by omega⟩ ?_ ?_) ?_
    · rintro i x δ' hx ⟨cs, a, b, c, rfl, hg, hl⟩
      have hi := (List.getElem?_eq_some_iff.mp hx).1
      refine q_asgP (u__law_model (a_cons (e_var rfl) a_nil) (by omega) (by omega) (fun e he => by have := good_len (n := (n : Nat)) (by omega) (hg e he); omega)) ?_
      rintro _ (⟨c0, rfl, hM⟩ | ⟨rfl, _⟩)
      · have lc0 : c0.length ≤ 9 := good_len (by omega) hM.1
        have nd0 : c0.Nodup := nd_of_lt (good_iff.mp hM.1).1
        refine sm_if (b := true) ((t_test (e_notN (e_var rfl))).is rfl) (fun _ => ?_) (fun e => nomatch e)
        refine q_asgP (A := fun d => ∃ e : C, d = cl (e.map (- ·)) ∧ e.Nodup ∧ (∀ x ∈ e, x ∈ c0) ∧ e.length ≤ 9) ((v_toT (A := fun ds => ∃ e : C, ds = (e.map (- ·)).map .int ∧ e.Sublist c0) (v_lc (ds := c0.map .int) (Pt := fun _ _ => True) (Pe := fun x y => ∃ l : Int, x = .int l ∧ y = .int (-l)) (R := fun xs ys => ∃ d e : C, xs = d.map .int ∧ ys = (e.map (- ·)).map .int ∧ e.Sublist d) (i_cl (e_var rfl)) rfl (by decide) (fun x hx => vt_draw (v_draw hq rfl e_int)) (fun x hx _ => ?_) (fun x y hx _ ⟨l, _, e⟩ => by subst e; rfl) (by rw [List.length_map]; omega) ⟨[], [], rfl, rfl, .slnil⟩ ?_ ?_ ?_)).mono ?_) ?_
        · obtain ⟨l, _, rfl⟩ := List.mem_map.mp hx
          exact (e_neg (e_var rfl)).mono fun d ed => ⟨l, rfl, ed⟩
        · rintro xs ys x y _ _ ⟨l, rfl, rfl⟩ ⟨d, e, rfl, rfl, hs⟩
          exact ⟨d ++ [l], e ++ [l], by simp, by simp, hs.append (List.Sublist.refl _)⟩
        · rintro xs ys x hx _ ⟨d, e, rfl, rfl, hs⟩
          obtain ⟨l, _, rfl⟩ := List.mem_map.mp hx
          exact ⟨d ++ [l], e, by simp, rfl, hs.trans (List.sublist_append_left _ _)⟩
        · rintro ys _ ⟨d, e, hd, rfl, hs⟩
          have : c0 = d := by
            have h1 := congrArg intsL hd
            rw [intsL_map, intsL_map] at h1
            exact h1
          subst this
          exact ⟨_, rfl, e, rfl, hs⟩
        · rintro d ⟨ds, rfl, e, rfl, hs⟩
          have := subN hs nd0
          exact ⟨e, rfl, this.1, this.2, by have := hs.length_le; omega⟩
        rintro _ ⟨e, rfl, hn, hs, hle⟩
        refine sm_seq (Mid := fun δ' => ∃ e : C, δ' = [.v (.ref q), .d (.int m), .d (fm (n : Nat) cs), .d x, .d (cl c0), .d (cl (e.map (- ·))), .no] ∧ e.Nodup ∧ (∀ x ∈ e, x ∈ c0) ∧ e.length ≤ 9) (sm_if (t_test (e_eqI (e_lenT (e_var rfl)) e_int)) (fun _ => ?_) fun _ => sm_next ⟨e, rfl, hn, hs, hle⟩) ?_
        · refine sm_asgP (A := fun d => ∃ l, d = cl ([l].map (- ·)) ∧ l ∈ c0) (v_tup (A := fun ds => ∃ l, ds = ([l].map (- ·)).map .int ∧ l ∈ c0) (va_cons (A := fun d => ∃ l, d = .int (-l) ∧ l ∈ c0) (B := fun _ ds => ds = []) (v_un (A := fun d => d ∈ c0.map .int) (v_ixD (e_var rfl) (v_draw hq rfl (e_lenT (e_var rfl)) ?_)) fun a ha => ?_) (fun _ _ => a_nil) ?_) ?_) ?_
          · have := hM.2.1
            rw [List.length_map]
            omega
          · obtain ⟨l, hl, rfl⟩ := List.mem_map.mp ha
            exact u_neg ⟨l, rfl, hl⟩
          · rintro d ds ⟨l, rfl, hl⟩ rfl
            exact ⟨l, rfl, hl⟩
          · rintro ds ⟨l, rfl, hl⟩
            exact ⟨by simp, l, rfl, hl⟩
          · rintro d ⟨l, rfl, hl⟩
            exact ⟨[l], rfl, by simp, fun x hx => by rw [List.mem_singleton.mp hx]; exact hl, by simp⟩
        · rintro δ' ⟨e, rfl, hn, hs, hle⟩
          have gn := good_negsub hM.1 hn hs
          refine sm_asgP (A := fun d => ∃ cs' : List C, d = fm (n : Nat) cs' ∧ (∀ c ∈ cs', goodC (n : Nat) c = true) ∧ cs'.length = cs.length + 1) (v_tup (A := fun ds => ∃ cs' : List C, ds = [.int (n : Nat), .tuple (cls cs')] ∧ (∀ c ∈ cs', goodC (n : Nat) c = true) ∧ cs'.length = cs.length + 1) (va_cons (A := fun d => d = .int (n : Nat)) (B := fun _ ds => ∃ cs' : List C, ds = [.tuple (cls cs')] ∧ (∀ c ∈ cs', goodC (n : Nat) c = true) ∧ cs'.length = cs.length + 1) (e_ixT (e_var rfl) e_int rfl) (fun _ _ => va_cons (A := fun d => ∃ ds, d = .tuple ds ∧ ∃ cs' : List C, ds = cls cs' ∧ (∀ c ∈ cs', goodC (n : Nat) c = true) ∧ cs'.length = cs.length + 1) (B := fun _ ds => ds = []) (v_toT ((v_sortL (cs := cs ++ [srt (e.map (- ·))]) ((e_cat (e_toL (e_ixT (e_var rfl) e_int rfl)) (e_lst (ds := [cl (srt (e.map (- ·)))]) (a_cons (e_toT (e_sortedT (c := e.map (- ·)) (e_var rfl) (by rw [List.length_map]; omega))) a_nil) (by simp)) (by rw [cls_len, List.length_singleton]; omega)).is (by unfold cls; rw [List.map_append]; rfl))).mono ?_)) (fun _ _ => a_nil) ?_) ?_) ?_) ?_
          · rintro d ⟨cs', rfl, hp⟩
            refine ⟨_, rfl, cs', rfl, fun c hc => ?_, by rw [hp.length_eq, List.length_append]; rfl⟩
            rcases List.mem_append.mp (hp.mem_iff.mp hc) with h | h
            · exact hg c h
            · rw [List.mem_singleton.mp h]
              exact gn
          · rintro d ds ⟨es, rfl, cs', rfl, h1, h2⟩ rfl
            exact ⟨cs', rfl, h1, h2⟩
          · rintro d ds rfl ⟨cs', rfl, h1, h2⟩
            exact ⟨cs', rfl, h1, h2⟩
          · rintro ds ⟨cs', rfl, h1, h2⟩
            exact ⟨by simp, cs', rfl, h1, h2⟩
          · rintro d ⟨cs', rfl, h1, h2⟩
            exact ⟨cs', _, _, _, rfl, h1, by omega⟩
      · refine sm_if (b := false) ((t_test (e_notN (e_var rfl))).is rfl) (fun e => nomatch e) fun _ => sm_next ⟨cs, _, _, _, rfl, hg, by omega⟩
    · rintro δ' ⟨cs, a, b, c, rfl, hg, hl⟩
      exact ⟨cs, a, b, c, rfl, hg, by omega⟩
    · rintro δ' ⟨cs, a, b, c, rfl, hg, hl⟩
      exact sm_ret ((e_var rfl).mono fun d ed => ⟨_, cs, ed, h1, h2, hg, hl⟩)
/-! ## bent values -/
/-- without lists, small -/
def okB : Nat → Pd → Bool
  | 0, _ => false
  | _ + 1, .none => true
  | _ + 1, .bool _ => true
  | _ + 1, .int _ => true
  | _ + 1, .str x => PyData.canLay0 (.str x)
  | m + 1, .tuple ds => decide (ds.length ≤ 40) && ds.all (okB m)
  | _ + 1, .list _ => false
  | _ + 1, .dict _ => false
theorem okB_D : ∀ {m : Nat} {d : Pd}, okB m d = true → okD m d = true ∧ nl d = true
  | 0, d, h => by cases h
  | m + 1, .none, h => ⟨rfl, rfl⟩
  | m + 1, .bool _, h => ⟨rfl, rfl⟩
  | m + 1, .int _, h => ⟨rfl, rfl⟩
  | m + 1, .str x, h => ⟨h, rfl⟩
  | m + 1, .list _, h => by cases h
  | m + 1, .dict _, h => by cases h
  | m + 1, .tuple ds, h => by
    have h' : (decide (ds.length ≤ 40) && ds.all (okB m)) = true := h
    rw [Bool.and_eq_true, List.all_eq_true] at h'
    have hl := of_decide_eq_true h'.1
    have hs : ∀ d ∈ ds, okD m d = true ∧ nl d = true := fun d hd => okB_D (h'.2 d hd)
    refine ⟨?_, ?_⟩
    · show (decide (ds.length ≤ 50) && ds.all (okD m)) = true
      rw [decide_eq_true (show ds.length ≤ 50 by omega), List.all_eq_true.mpr fun d hd => (hs d hd).1]
      rfl
    · show nlA ds = true
      clear h h' hl
      induction ds with
      | nil => rfl
      | cons a ds ih =>
        show (nl a && nlA ds) = true
        rw [(hs a (List.mem_cons_self ..)).2, ih fun d hd => hs d (List.mem_cons_of_mem _ hd)]
        rfl
theorem nlA_of {ds : List Pd} (h : ∀ d ∈ ds, nl d = true) : nlA ds = true := by
  induction ds with
  | nil => rfl
  | cons a ds ih =>
    show (nl a && nlA ds) = true
    rw [h a (List.mem_cons_self ..), ih fun d hd => h d (List.mem_cons_of_mem _ hd)]
    rfl
theorem okD_tup {m : Nat} {ds : List Pd} (hl : ds.length ≤ 50) (h : ∀ d ∈ ds, okD m d = true) : okD (m + 1) (.tuple ds) = true := by
  show (decide (ds.length ≤ 50) && ds.all (okD m)) = true
  rw [decide_eq_true hl, List.all_eq_true.mpr h]
  rfl
theorem okD_lst {m : Nat} {ds : List Pd} (hl : ds.length ≤ 50) (h : ∀ d ∈ ds, okD m d = true) : okD (m + 1) (.list ds) = true := by
  show (decide (ds.length ≤ 50) && ds.all (okD m)) = true
  rw [decide_eq_true hl, List.all_eq_true.mpr h]
  rfl
/-- a tuple of so many that are so deep -/
def TPk (k n : Nat) (d : Pd) : Prop := ∃ es, d = .tuple es ∧ es.length ≤ n ∧ ∀ e ∈ es, okD k e = true
theorem v_catT {W : Wd} {δ : Dn} {K : PySem.W.Frag} {ta tb : TE} {k n1 n2 : Nat} (ha : Ev W ta δ (TPk k n1)) (hb : Ev W tb δ (TPk k n2)) (h : n1 + n2 ≤ 1000) : Ev W (tOp (rCatA K) ta tb) δ (TPk k (n1 + n2)) :=
  v_op ha (fun _ _ => hb) fun a b ⟨ds, ea, l1, h1⟩ ⟨es, eb, l2, h2⟩ => by
    subst ea eb
    refine o_catT (by omega) ⟨_, rfl, by rw [List.length_append]; omega, fun e he => ?_⟩
    rcases List.mem_append.mp he with he | he
    · exact h1 e he
    · exact h2 e he
theorem cut_mem {ds : List Pd} {lo hi : Option Int} {e : Pd} (h : e ∈ cutD ds lo hi) : e ∈ ds := List.mem_of_mem_drop (List.mem_of_mem_take h)
theorem v_slLo {W : Wd} {δ : Dn} {K : PySem.W.Frag} {ta tb : TE} {ds : List Pd} {z : Int} {k : Nat} (ha : EvE W ta δ (.tuple ds)) (hb : EvE W tb δ (.int z)) (h0 : 0 ≤ z) (h : ∀ e ∈ ds, okD k e = true) : Ev W (tSl (rSlA K) ta tNoPart (tPart tb)) δ (TPk k z.toNat) := e_slT ha x_none (x_some hb) ⟨_, rfl, by
  unfold cutD
  have e1 : HT.sIx ds.length 0 none = 0 := rfl
  have e2 : HT.sIx ds.length ds.length (some z) = min z.toNat ds.length := by
    show (if z < 0 then _ else min z.toNat ds.length) = _
    rw [if_neg (by omega)]
  rw [e1, e2, List.length_take]
  omega, fun e he => h e (cut_mem he)⟩
theorem v_slHi {W : Wd} {δ : Dn} {K : PySem.W.Frag} {ta tb : TE} {ds : List Pd} {z : Int} {k : Nat} (ha : EvE W ta δ (.tuple ds)) (hb : EvE W tb δ (.int z)) (h0 : 0 ≤ z) (h1 : z ≤ (ds.length : Nat)) (h : ∀ e ∈ ds, okD k e = true) : Ev W (tSl (rSlA K) ta (tPart tb) tNoPart) δ (TPk k (ds.length - z.toNat)) := e_slT ha (x_some hb) x_none ⟨_, rfl, by
  unfold cutD
  have e2 : HT.sIx ds.length 0 (some z) = min z.toNat ds.length := by
    show (if z < 0 then _ else min z.toNat ds.length) = _
    rw [if_neg (by omega)]
  rw [e2, List.length_take, List.length_drop]
  omega, fun e he => h e (cut_mem he)⟩
theorem v_tup1 {W : Wd} {δ : Dn} {ta : TE} {k : Nat} (h : Ev W ta δ fun d => okD k d = true) : Ev W (tTup (tCons ta tNil)) δ (TPk k 1) := v_tup (v_one h) fun ds ⟨d, e, hd⟩ => by
  subst e
  exact ⟨by simp, [d], rfl, by simp, fun e he => by rw [List.mem_singleton.mp he]; exact hd⟩
/-- x = list(a tuple), a local list from here on -/
theorem l_openL {W : Wd} {δ : Dn} {K : PySem.W.Frag} {ta : TE} {i : Nat} {u : TS} {P : Pd → Prop} {Nx : Dn → Prop} {ds : List Pd} (ht : EvE W ta δ (.tuple ds)) (hn : nlA ds = true) (h : ∀ p, SmL W p u (δ.set i (.v (.ref p))) ds (fun _ _ => False) P) : Sm W (tSeq (tAsg (tCB (rLs K) (tCons ta tNil)) (gName i)) u) δ Nx P := fun H0 σ g0 en0 D nx rt => by
  refine ht H0 σ g0 en0 _ fun v d H r0 g ed rs => ?_
  subst ed
  have en := en0.go g0 r0
  cases rs with
  | @tup pt xs _ hpt rxs =>
  refine ⟨pt, xs, rfl, .inr (SqT.of hpt), fun p hp => ?_⟩
  have s := same_new hp (.lst xs)
  have g1 : W.G (upd H p (.lst xs)) := Wd.ofSame g s
  have back : ∀ {H'}, RL W p (upd H p (.lst xs)) H' → W.R H H' := fun {H'} r a o n e => r a o n (fun z => by rw [z, hp] at e; cases e) (s a o e)
  refine h p (Wd.fr g hp) _ _ g1 ⟨xs, upd_same, RpA.nl_keep (fun a xs e => s a _ e) _ _ hn rxs⟩ (((en.map fun _ _ r => r.fresh hp).same s).setV) D (fun _ _ _ _ _ _ _ z _ => z.elim) fun v d H' r g' pd rd => rt v d H' (Wd.trans r0 (back r)) g' pd rd
/-- p[j] = e -/
theorem l_set {W : Wd} {p : Addr} {δ : Dn} {ds : List Pd} {te : TE} {i j : Nat} {z : Int} {Nx : Dn → List Pd → Prop} {P : Pd → Prop} {A : Pd → Prop} (hi : δ[i]? = some (.v (.ref p))) (hj : δ[j]? = some (.d (.int z))) (h0 : 0 ≤ z) (h1 : z < (ds.length : Nat)) (h : EvL W te (δ.set i (.d (.list ds))) A) (hn : ∀ d, A d → nl d = true)
    (k : ∀ d, A d → Nx δ (ds.set z.toNat d)) : SmL W p (tAsg te (gSub (tVar i) (tVar j) rSetL)) δ ds Nx P := fun hp H σ g L en D nx rt => by
  refine evL h hi hp g L en fun v d H' r g' a rd L' en' => ?_
  obtain ⟨vs', e1, h1'⟩ := id L'
  have rd' : Rp (Nn W p) H' v d := Rp.nlw (hn d a) rd
  obtain ⟨vj, ej, rj⟩ := en'.getD hj
  cases rj
  have lv := h1'.length
  have g2 : W.G (upd H' p (.lst (vs'.set z.toNat v))) := W.chg _ _ g' fun a s => L2.upd_ne (fun z => hp (z ▸ s))
  have r2 : RL W p H' (upd H' p (.lst (vs'.set z.toNat v))) := fun a o _ n e => by rw [L2.upd_ne n]; exact e
  have hix : L2.ixN vs'.length z = some z.toNat := by
    unfold L2.ixN
    rw [if_pos h0, if_pos (by omega)]
  refine ⟨_, en'.getV hi, _, ej, p, vs', z, z.toNat, rfl, rfl, e1, hix, ?_⟩
  exact nx σ δ (ds.set z.toNat d) _ ((RL.of r).trans r2) g2 ⟨_, upd_same, (RL.rpA g' L' r2 h1').set (RL.rp g' L' r2 rd') _⟩ (k d a) (RL.en g' L' r2 en')
theorem seven {k : Nat} {d : Pd} (h : d ∈ [PyData.str "x", .bool true, .tuple [], .int 0, .int (-1), .none, .bool false]) : okD (k + 1) d = true := by
  rcases List.mem_cons.mp h with rfl | h
  · show PyData.canLay0 (.str "x") = true
    decide +kernel
  rcases List.mem_cons.mp h with rfl | h
  · rfl
  rcases List.mem_cons.mp h with rfl | h
  · rfl
  rcases List.mem_cons.mp h with rfl | h
  · rfl
  rcases List.mem_cons.mp h with rfl | h
  · rfl
  rcases List.mem_cons.mp h with rfl | h
  · rfl
  rcases List.mem_cons.mp h with rfl | h
  · rfl
  cases h
def pre_bent (m : Nat) : List Pd → Prop := fun ds => ∃ d, ds = [d] ∧ okB m d = true
def f_bent (m : Nat) : List Pd → Pd → Prop := fun _ r => okD (m + 1) r = true
abbrev sp_bentM (m : Nat) : Sp := spP (pre_bent m) (f_bent m)
/-! ### _law_bent -/
abbrev N__law_bent : List Str := ["_law_pool_here", "_law_value", "_law_at", "_law_turn", "_law_other", "_law_items"]
theorem sc__law_bent : FnScope N__law_bent ["_law_pool_here", "_law_value"] (defScope s__law_bent) := ⟨rfl, rfl, rfl, by decide +kernel, rfl, by decide +kernel, by decide +kernel⟩
theorem ok__law_bent {P : Program} {w : World} {K : PySem.W.Frag} {mg : Str → Option Value} {base : Heap} (B : Bl mg) (D : DefH K mg "_law_bent" s__law_bent) {m : Nat} (c__law_bent : C8.Cal P w K mg base (2 + m) "_law_bent" (sp_bentM m) []) (c__law_draw : C8.Cal P w K mg base 2 "_law_draw" sp__law_draw []) (c__law_is_integer : C8.Cal P w K mg base 1 "_law_is_integer" sp__law_is_integer []) : C8.Cal P w K mg base (2 + m + 1) "_law_bent" (sp_bentM (m + 1)) [] := by
  refine cal_any D sc__law_bent (fun _ _ _ _ _ _ us hl => match us, hl with | [_, _], _ => rfl) (fun vs H Q E h => ?_) fun fa cdv A outer s H E hr => ⟨_, (pss_cons (ps_if (PW.pt (pw_and (pt_val (pe_callB (r := rIsi K) call_isi rfl B.isinstance_ (by decide +kernel) (pa_cons (pv 1 rfl (Or.inl rfl)) (pa_cons (pe_bltn (v := .ty "tuple") rfl B.tuple_ (by decide +kernel) rfl) pa_nil)))) (pw_and (pt_cmpR op_gt (pe_callB (r := rLn K) call_len_seq rfl B.len_ (by decide +kernel) (pa_cons (pv 1 rfl (Or.inl rfl)) pa_nil)) pe_int (nomark _)) (pw_and1 (pt_cmpR op_gt (C8.pe_c c__law_draw hr (by first | decide | omega) rfl (pa_cons (pv 0 rfl (Or.inl rfl)) (pa_cons pe_int pa_nil))) pe_int (nomark _)))))) (pss_cons (ps_set (i := 2) sc__law_bent.nd rfl (Or.inl rfl) (C8.pe_c c__law_draw hr (by first | decide | omega) rfl (pa_cons (pv 0 rfl (Or.inl rfl)) (pa_cons (pe_callB (r := rLn K) call_len_seq rfl B.len_ (by decide +kernel) (pa_cons (pv 1 rfl (Or.inl rfl)) pa_nil)) pa_nil))))
    (pss_one (ps_ret (pe_op (r := rCatA K) op_catA (pe_op (r := rCatA K) op_catA (pe_slice (r := rSlA K) sl_tupA (pv 1 rfl (Or.inl rfl)) po_none (po_some (pv 2 rfl (Or.inl rfl)))) (pe_tup (pa_cons (C8.pe_c c__law_bent hr (by first | decide | omega) rfl (pa_cons (pv 0 rfl (Or.inl rfl)) (pa_cons (pe_ix (r := rIx K) ix_seq (pv 1 rfl (Or.inl rfl)) (pv 2 rfl (Or.inl rfl)) (fun _ _ => rfl)) pa_nil))) pa_nil))) (pe_slice (r := rSlA K) sl_tupA (pv 1 rfl (Or.inl rfl)) (po_some (pe_op op_add (pv 2 rfl (Or.inl rfl)) pe_int)) po_none))))) pss_nil)
    (pss_cons (ps_set (i := 3) sc__law_bent.nd rfl (Or.inl rfl) (C8.pe_c c__law_draw hr (by first | decide | omega) rfl (pa_cons (pv 0 rfl (Or.inl rfl)) (pa_cons pe_int pa_nil))))
    (pss_cons (ps_if (pt_cmpR op_eq (pv 3 rfl (Or.inl rfl)) pe_int (nomark _)) (pss_one (ps_ret (pe_ix (r := rIx K) ix_seq (pe_tup (pa_cons pe_str (pa_cons pe_bl (pa_cons (pe_tup pa_nil) (pa_cons pe_int (pa_cons (pe_un un_neg pe_int) (pa_cons pe_non (pa_cons pe_bl pa_nil)))))))) (C8.pe_c c__law_draw hr (by first | decide | omega) rfl (pa_cons (pv 0 rfl (Or.inl rfl)) (pa_cons pe_int pa_nil))) (fun _ _ => rfl)))) pss_nil)
    (pss_cons (ps_if (pt_val (C8.pe_c c__law_is_integer hr (by first | decide | omega) rfl (pa_cons (pv 1 rfl (Or.inl rfl)) pa_nil))) (pss_one (ps_ret (pe_op op_add (pv 1 rfl (Or.inl rfl)) (pe_ix (r := rIx K) ix_seq (pe_tup (pa_cons pe_int (pa_cons (pe_un un_neg pe_int) (pa_cons pe_int (pa_cons pe_int pa_nil))))) (C8.pe_c c__law_draw hr (by first | decide | omega) rfl (pa_cons (pv 0 rfl (Or.inl rfl)) (pa_cons pe_int pa_nil))) (fun _ _ => rfl))))) pss_nil)
    (pss_cons (ps_if (PW.pt (pw_or (pt_not (pt_val (pe_callB (r := rIsi K) call_isi rfl B.isinstance_ (by decide +kernel) (pa_cons (pv 1 rfl (Or.inl rfl)) (pa_cons (pe_bltn (v := .ty "tuple") rfl B.tuple_ (by decide +kernel) rfl) pa_nil))))) (pw_or1 (pt_cmpR op_eq (pe_callB (r := rLn K) call_len_seq rfl B.len_ (by decide +kernel) (pa_cons (pv 1 rfl (Or.inl rfl)) pa_nil)) pe_int (nomark _))))) (pss_one (ps_ret (pe_ifExp (pt_cmpR op_lt (pv 3 rfl (Or.inl rfl)) pe_int (nomark _)) (pe_tup (pa_cons (pv 1 rfl (Or.inl rfl)) (pa_cons pe_int pa_nil))) (pe_tup pa_nil)))) pss_nil)
    (pss_cons (ps_set (i := 2) sc__law_bent.nd rfl (Or.inl rfl) (C8.pe_c c__law_draw hr (by first | decide | omega) rfl (pa_cons (pv 0 rfl (Or.inl rfl)) (pa_cons (pe_callB (r := rLn K) call_len_seq rfl B.len_ (by decide +kernel) (pa_cons (pv 1 rfl (Or.inl rfl)) pa_nil)) pa_nil))))
    (pss_cons (ps_if (pt_cmpR op_lt (pv 3 rfl (Or.inl rfl)) pe_int (nomark _)) (pss_one (ps_ret (pe_op (r := rCatA K) op_catA (pe_slice (r := rSlA K) sl_tupA (pv 1 rfl (Or.inl rfl)) po_none (po_some (pv 2 rfl (Or.inl rfl)))) (pe_slice (r := rSlA K) sl_tupA (pv 1 rfl (Or.inl rfl)) (po_some (pe_op op_add (pv 2 rfl (Or.inl rfl)) pe_int)) po_none)))) pss_nil)
    (pss_cons (ps_if (pt_cmpR op_lt (pv 3 rfl (Or.inl rfl)) pe_int (nomark _)) (pss_one (ps_ret (pe_op (r := rCatA K) op_catA (pe_op (r := rCatA K) op_catA (pe_slice (r := rSlA K) sl_tupA (pv 1 rfl (Or.inl rfl)) po_none (po_some (pv 2 rfl (Or.inl rfl)))) (pe_tup (pa_cons (pe_ix (r := rIx K) ix_seq (pv 1 rfl (Or.inl rfl)) (pv 2 rfl (Or.inl rfl)) (fun _ _ => rfl)) pa_nil))) (pe_slice (r := rSlA K) sl_tupA (pv 1 rfl (Or.inl rfl)) (po_some (pv 2 rfl (Or.inl rfl))) po_none)))) pss_nil)
    (pss_cons (ps_if (pt_cmpR op_eq (pv 3 rfl (Or.inl rfl)) pe_int (nomark _)) (pss_one (ps_ret (pe_callTy (r := rLs K) call_list_of rfl B.list_ (by decide +kernel) (pa_cons (pv 1 rfl (Or.inl rfl)) pa_nil)))) pss_nil)
    (pss_cons (ps_set (i := 4) sc__law_bent.nd rfl (Or.inl rfl) (C8.pe_c c__law_draw hr (by first | decide | omega) rfl (pa_cons (pv 0 rfl (Or.inl rfl)) (pa_cons (pe_callB (r := rLn K) call_len_seq rfl B.len_ (by decide +kernel) (pa_cons (pv 1 rfl (Or.inl rfl)) pa_nil)) pa_nil))))
    (pss_cons (ps_set (i := 5) sc__law_bent.nd rfl (Or.inl rfl) (pe_callTy (r := rLs K) call_list_of rfl B.list_ (by decide +kernel) (pa_cons (pv 1 rfl (Or.inl rfl)) pa_nil)))
    (pss_cons (ps_asg (pe_ix (r := rIx K) ix_seq (pv 1 rfl (Or.inl rfl)) (pv 4 rfl (Or.inl rfl)) (fun _ _ => rfl)) (pg_sub (pv 5 rfl (Or.inl rfl)) (pv 2 rfl (Or.inl rfl)) set_list))
    (pss_cons (ps_asg (pe_ix (r := rIx K) ix_seq (pv 1 rfl (Or.inl rfl)) (pv 2 rfl (Or.inl rfl)) (fun _ _ => rfl)) (pg_sub (pv 5 rfl (Or.inl rfl)) (pv 4 rfl (Or.inl rfl)) set_list))
    (pss_one (ps_ret (pe_callTy (r := rTp K) call_tuple_of rfl B.tuple_ (by decide +kernel) (pa_cons (pv 5 rfl (Or.inl rfl)) pa_nil))))))))))))))))), fun vs Q h => ?_⟩
  · exact spP_len (n := 2) (fun ds h => by
      obtain ⟨_, rfl, _⟩ := h
      rfl) _ _ _ _ h
  · refine pool_go (pre := pre_bent (m + 1)) (f := f_bent (m + 1)) (fun W q r is ds hq h => ?_) (by simp) h
    obtain ⟨d, rfl, hB⟩ := h
    change Sm W _ (.v (.ref q) :: args (N__law_bent.length - 1) [d]) (fun _ => False) (fun r => okD (m + 2) r = true)
    have hD := okB_D hB
    have key : (isT "tuple" d = false ∨ d = .tuple []) ∨ ∃ ds, d = .tuple ds ∧ ds ≠ [] := by
      cases ht : isT "tuple" d with
      | false => exact .inl (.inl rfl)
      | true =>
        obtain ⟨ds, rfl⟩ := isT_of ht
        by_cases hne : ds = []
        · exact .inl (.inr (by rw [hne]))
        · exact .inr ⟨ds, rfl, hne⟩
    rcases key with hd | ⟨ds, rfl, hne⟩
    · refine q_if (b := false) ?_ (fun e => nomatch e) fun _ => ?_
      · rcases hd with ht | rfl
        · exact t_and (x := false) (y := false) ((t_test (e_isi (e_var rfl))).is ht) (fun e => nomatch e)
        · exact t_and (x := true) (y := false) ((t_test (e_isi (e_var rfl))).is rfl) fun _ => t_and (x := false) (y := false) ((t_test (e_opB (e_lenT (e_var rfl)) e_int)).is rfl) (fun e => nomatch e)
      refine q_asgP (v_draw hq rfl e_int) ?_
      rintro _ ⟨z, rfl, hz⟩
      refine q_if (t_test (e_eqI (e_var rfl) e_int)) (fun _ => ?_) fun _ => ?_
      · exact sm_ret ((v_ixD (e_tup (a_cons e_str (a_cons e_bl (a_cons (e_tup a_nil) (a_cons e_int (a_cons (e_neg e_int) (a_cons e_non (a_cons e_bl a_nil))))))) (by simp)) (v_draw hq rfl e_int)).mono fun r hr => seven hr)
      refine q_if (t_test (u__law_is_integer (a_cons (e_var rfl) a_nil))) (fun e => ?_) fun e => ?_
      · obtain ⟨i, rfl⟩ := isInt_of e
        refine sm_ret (v_op (A := fun x => x = .int i) (B := fun x => x ∈ [PyData.int 1, .int (-1), .int 2, .int 0]) (e_var rfl) (fun _ _ => v_ixD (e_tup (a_cons e_int (a_cons (e_neg e_int) (a_cons e_int (a_cons e_int a_nil)))) (by simp)) (v_draw hq rfl e_int)) fun a b ea hb => ?_)
        subst ea
        obtain ⟨j, rfl⟩ : ∃ j, b = .int j := by
          rcases List.mem_cons.mp hb with rfl | hb
          · exact ⟨_, rfl⟩
          rcases List.mem_cons.mp hb with rfl | hb
          · exact ⟨_, rfl⟩
          rcases List.mem_cons.mp hb with rfl | hb
          · exact ⟨_, rfl⟩
          rcases List.mem_cons.mp hb with rfl | hb
          · exact ⟨_, rfl⟩
          cases hb
        exact o_int rfl
      have hfin : Sm W (tRet (tIf (tTest (tOp (rI0 fun i j => .bl (decide (i < j))) (tVar 3) (tC (.int 5)))) (tTup (tCons (tVar 1) (tCons (tC (.int 0)) tNil))) (tTup tNil))) [.v (.ref q), .d d, .no, .d (.int z), .no, .no] (fun _ => False) (fun r => okD (m + 2) r = true) := sm_ret (e_if (t_test (e_opB (e_var rfl) e_int)) (fun _ => (e_tup (a_cons (e_var rfl) (a_cons e_int a_nil)) (by simp)).mono fun r er => by
          subst er
          refine okD_tup (by simp) fun x hx => ?_
          rcases List.mem_cons.mp hx with rfl | hx
          · exact hD.1
          · rw [List.mem_singleton.mp hx]
            rfl) fun _ => (e_tup a_nil).mono fun r er => by subst er; rfl)
      rcases hd with ht | rfl
      · exact q_if (b := true) (t_or (x := true) (y := false) (t_not ((t_test (e_isi (e_var rfl))).is ht)) (fun e => nomatch e)) (fun _ => hfin) (fun e => nomatch e)
      · exact q_if (b := true) (t_or (x := false) (y := true) (t_not (x := true) ((t_test (e_isi (T := "tuple") (e_var rfl))).is rfl)) fun _ => (t_test (e_eqI (e_lenT (e_var rfl)) e_int)).is rfl) (fun _ => hfin) (fun e => nomatch e)
    have ht : isT "tuple" (.tuple ds) = true := rfl
    have hl0 : 0 < ds.length := List.length_pos_iff.mpr hne
    have hB' : (decide (ds.length ≤ 40) && ds.all (okB m)) = true := hB
    rw [Bool.and_eq_true, List.all_eq_true] at hB'
    have hl40 := of_decide_eq_true hB'.1
    have hE : ∀ e ∈ ds, okB m e = true := hB'.2
    have hEn : ∀ e ∈ ds, nl e = true := fun e he => (okB_D (hE e he)).2
    have hE1 : ∀ e ∈ ds, okD (m + 1) e = true := fun e he => okD_mono (okB_D (hE e he)).1 (by omega)
    have fin : ∀ {te : TE} {δ : Dn} {n : Nat} {Nx : Dn → Prop}, Ev W te δ (TPk (m + 1) n) → n ≤ 50 → Sm W (tRet te) δ Nx (fun r => okD (m + 2) r = true) := fun h hn => sm_ret (h.mono fun r ⟨es, er, hl, hs⟩ => by subst er; exact okD_tup (by omega) hs)
    refine q_ifP (A := fun _ => True) (vt_and (A := fun b => b = true) ((t_test (e_isi (e_var rfl))).is ht) (fun _ => vt_and (A := fun b => b = true) ((t_test (e_opB (e_lenT (e_var rfl)) e_int)).is (decide_eq_true (by show ((ds.length : Nat) : Int) > 0; omega))) (fun _ => vt_draw (v_draw hq rfl e_int)) fun _ => True.intro) fun _ => True.intro) (fun _ => ?_) fun _ => ?_
    · refine q_asgP (v_draw hq rfl (e_lenT (e_var rfl))) ?_
      rintro _ ⟨z, rfl, hz⟩
      have lt : z.toNat < ds.length := by omega
      refine fin (v_catT (v_catT (v_slLo (e_var rfl) (e_var rfl) hz.1 hE1) (v_tup1 (k := m + 1) (v_callP hq rfl (a_cons (e_ixT (e_var rfl) (e_var rfl) (List.getElem?_eq_getElem lt) hz.1) a_nil) fun es e => ⟨⟨_, e, hE _ (List.getElem_mem lt)⟩, fun d fd => fd⟩)) (by omega)) (v_slHi (e_var rfl) (e_opI (e_var rfl) e_int) (by omega) (by omega) hE1) (by omega)) (by omega)
    refine q_asgP (v_draw hq rfl e_int) ?_
    rintro _ ⟨t, rfl, ht9⟩
    refine q_if (t_test (e_eqI (e_var rfl) e_int)) (fun _ => ?_) fun _ => ?_
    · exact sm_ret ((v_ixD (e_tup (a_cons e_str (a_cons e_bl (a_cons (e_tup a_nil) (a_cons e_int (a_cons (e_neg e_int) (a_cons e_non (a_cons e_bl a_nil))))))) (by simp)) (v_draw hq rfl e_int)).mono fun r hr => seven hr)
    refine q_if (b := false) ((t_test (u__law_is_integer (a_cons (e_var rfl) a_nil))).is rfl) (fun e => nomatch e) fun _ => ?_
    refine q_if (b := false) (t_or (x := false) (y := false) (t_not ((t_test (e_isi (e_var rfl))).is ht)) fun _ => (t_test (e_eqI (e_lenT (e_var rfl)) e_int)).is (decide_eq_false (by omega))) (fun e => nomatch e) fun _ => ?_
    refine q_asgP (v_draw hq rfl (e_lenT (e_var rfl))) ?_
    rintro _ ⟨z, rfl, hz⟩
    have lt : z.toNat < ds.length := by omega
    refine q_if (t_test (e_opB (e_var rfl) e_int)) (fun _ => ?_) fun _ => ?_
    · exact fin (v_catT (v_slLo (e_var rfl) (e_var rfl) hz.1 hE1) (v_slHi (e_var rfl) (e_opI (e_var rfl) e_int) (by omega) (by omega) hE1) (by omega)) (by omega)
    refine q_if (t_test (e_opB (e_var rfl) e_int)) (fun _ => ?_) fun _ => ?_
    · exact fin (v_catT (v_catT (v_slLo (e_var rfl) (e_var rfl) hz.1 hE1) (v_tup1 ((e_ixT (e_var rfl) (e_var rfl) (List.getElem?_eq_getElem lt) hz.1).mono fun d ed => by rw [ed]; exact hE1 _ (List.getElem_mem lt))) (by omega)) (v_slHi (e_var rfl) (e_var rfl) hz.1 (by omega) hE1) (by omega)) (by omega)
    refine q_if (t_test (e_eqI (e_var rfl) e_int)) (fun _ => ?_) fun _ => ?_
    · exact sm_ret ((e_toL (e_var rfl)).mono fun r er => by subst er; exact okD_lst (by omega) hE1)
    refine q_asgP (v_draw hq rfl (e_lenT (e_var rfl))) ?_
    rintro _ ⟨y, rfl, hy⟩
    have lty : y.toNat < ds.length := by omega
    refine l_openL (e_var rfl) (nlA_of hEn) fun p => ?_
    refine l_seq (Mid := fun δ' ds' => δ' = [.v (.ref q), .d (.tuple ds), .d (.int z), .d (.int t), .d (.int y), .v (.ref p)] ∧ ds'.length = ds.length ∧ ∀ e ∈ ds', okD (m + 1) e = true) (l_set (i := 5) (j := 2) (A := fun d => d ∈ ds) rfl rfl hz.1 (by omega) (fun W' hW => (e_ixT (e_var rfl) (e_var rfl) (List.getElem?_eq_getElem lty) hy.1).mono fun d ed => by rw [ed]; exact List.getElem_mem lty) (fun d hd => hEn d hd) fun d hd => ⟨rfl, List.length_set .., fun e he => ?_⟩) ?_
    · rcases List.mem_or_eq_of_mem_set he with h | h
      · exact hE1 e h
      · rw [h]
        exact hE1 d hd
    rintro _ ds1 ⟨rfl, hl1, hs1⟩
    refine l_seq (Mid := fun δ' ds' => δ' = [.v (.ref q), .d (.tuple ds), .d (.int z), .d (.int t), .d (.int y), .v (.ref p)] ∧ ds'.length = ds.length ∧ ∀ e ∈ ds', okD (m + 1) e = true) (l_set (i := 5) (j := 4) (A := fun d => d ∈ ds) rfl rfl hy.1 (by omega) (fun W' hW => (e_ixT (e_var rfl) (e_var rfl) (List.getElem?_eq_getElem lt) hz.1).mono fun d ed => by rw [ed]; exact List.getElem_mem lt) (fun d hd => hEn d hd) fun d hd => ⟨rfl, by rw [List.length_set]; exact hl1, fun e he => ?_⟩) ?_
    · rcases List.mem_or_eq_of_mem_set he with h | h
      · exact hs1 e h
      · rw [h]
        exact hE1 d hd
    rintro _ ds2 ⟨rfl, hl2, hs2⟩
    exact l_ret (i := 5) rfl fun W' hW => (e_toT (e_var rfl)).mono fun r er => by subst er; exact okD_tup (by omega) hs2
theorem all__law_bent {P : Program} {w : World} {K : PySem.W.Frag} {mg : Str → Option Value} {base : Heap} (B : Bl mg) (D : DefH K mg "_law_bent" s__law_bent) (c__law_draw : C8.Cal P w K mg base 2 "_law_draw" sp__law_draw []) (c__law_is_integer : C8.Cal P w K mg base 1 "_law_is_integer" sp__law_is_integer []) : ∀ m : Nat, C8.Cal P w K mg base (2 + m) "_law_bent" (sp_bentM m) []
  | 0 => cal_no (ps := ["_law_pool_here", "_law_value"]) D (fun _ _ _ _ _ _ us hl => match us, hl with | [_, _], _ => rfl) fun vs H Q E h => by
    obtain ⟨_, _, _, _, _, _, _, _, _, _, _, ⟨_, _, h⟩, _⟩ := h
    cases h
  | m + 1 => ok__law_bent B D (all__law_bent B D c__law_draw c__law_is_integer m) c__law_draw c__law_is_integer
end K19
end
section
set_option Elab.async false
set_option linter.all false
set_option maxRecDepth 100000
set_option maxHeartbeats 4000000
namespace K19
open PySem L2
local macro_rules | `(tactic| walk_at "ev1") => `(tactic| first
  | exact e_var rfl | exact e_int | exact e_bl | exact e_non | exact e_str | exact a_nil | exact t_yes
  | refine a_cons ?_ ?_
  | (refine e_un ?_ (u_neg rfl))
  | (refine e_op ?_ ?_ (o_bl rfl)) | (refine e_op ?_ ?_ (o_int rfl))
  | (refine e_op ?_ ?_ (o_eqI rfl)) | (refine e_op ?_ ?_ (o_neI rfl))
  | (refine t_test ?_) | (refine t_B ?_) | (refine t_not ?_) | (refine e_notV ?_)
  | (refine e_cb ?_ (c_abs rfl)) | (refine e_cb ?_ (c_int rfl)))
local macro_rules | `(tactic| walk_at "ev") => `(tactic| repeat' walk_at "ev1")
def pre_tree (m : Nat) : List Pd → Prop := fun ds => ∃ (n : Int) (cs : List C) (c : C), ds = [fm n cs, cl c] ∧ okQ n cs ∧ cs.length ≤ 1000 ∧ goodC n c = true ∧ (freeV n c).length < m ∧ ∀ w, ¬ Mdl n cs w
def f_tree (m : Nat) : List Pd → Pd → Prop := fun ds r => ∀ (n : Int) (cs : List C) (c : C), ds = [fm n cs, cl c] → ∃ T, r = encT T ∧ RT n cs c T ∧ dep T < m
abbrev sp_treeM (m : Nat) : Sp := spP (pre_tree m) (f_tree m)
theorem fstF_neg {cs : List C} {c : C} (h : fstF cs c < 0) : ∀ e ∈ cs, fals c e = false := by
  rcases fstF_cases cs c with ⟨k, ee, h1, _, _⟩ | ⟨_, h2⟩
  · omega
  · exact h2
theorem fstF_pos {cs : List C} {c : C} (h : 0 ≤ fstF cs c) : ∃ (k : Nat) (e : C), cs[k]? = some e ∧ fals c e = true := by
  rcases fstF_cases cs c with ⟨k, ee, _, h1, h2⟩ | ⟨h1, _⟩
  · exact ⟨k, ee, h1, h2⟩
  · omega
/-! ### _law_some_tree -/
abbrev N__law_some_tree : List Str := ["_law_pool_here", "_law_formula", "_law_cube", "_law_leaf_here", "_law_fit", "_law_free_here", "_law_v", "_law_k"]
theorem sc__law_some_tree : FnScope N__law_some_tree ["_law_pool_here", "_law_formula", "_law_cube"] (defScope s__law_some_tree) := ⟨rfl, rfl, rfl, by decide +kernel, rfl, by decide +kernel, by decide +kernel⟩
theorem ok__law_some_tree {P : Program} {w : World} {K : PySem.W.Frag} {mg : Str → Option Value} {base : Heap} (B : Bl mg) (D : DefH K mg "_law_some_tree" s__law_some_tree) (c__law_draw : C8.Cal P w K mg base 2 "_law_draw" sp__law_draw []) (c__law_fails : C8.Cal P w K mg base 2 "_law_fails" sp__law_fails []) (c__law_free : C8.Cal P w K mg base 1 "_law_free" sp__law_free []) (c__law_leaf : C8.Cal P w K mg base 3 "_law_leaf" sp__law_leaf []) {m : Nat} (c__law_some_tree : C8.Cal P w K mg base (3 + m) "_law_some_tree" (sp_treeM m) []) (c__law_with : C8.Cal P w K mg base 1 "_law_with" sp__law_with []) : C8.Cal P w K mg base (3 + m + 1) "_law_some_tree" (sp_treeM (m + 1)) [] := by
  refine cal_any D sc__law_some_tree (fun _ _ _ _ _ _ us hl => match us, hl with | [_, _, _], _ => rfl) (fun vs H Q E h => ?_) fun fa cdv A outer s H E hr => ⟨_, (pss_cons (ps_set (i := 3) sc__law_some_tree.nd rfl (Or.inl rfl) (C8.pe_c c__law_leaf hr (by first | decide | omega) rfl (pa_cons (pv 1 rfl (Or.inr (Or.inl rfl))) (pa_cons (pv 2 rfl (Or.inr (Or.inl rfl))) pa_nil))))
    (pss_cons (ps_if (PW.pt (pw_and (pt_cmpR op_ge (pv 3 rfl (Or.inl rfl)) pe_int (nomark _)) (pw_and1 (PW.pt (pw_or (pt_cmpR op_eq (pe_callB (r := rLn K) call_len_seq rfl B.len_ (by decide +kernel) (pa_cons (C8.pe_c c__law_free hr (by first | decide | omega) rfl (pa_cons (pv 1 rfl (Or.inr (Or.inl rfl))) (pa_cons (pv 2 rfl (Or.inr (Or.inl rfl))) pa_nil))) pa_nil)) pe_int (nomark _)) (pw_or1 (pt_cmpR op_gt (C8.pe_c c__law_draw hr (by first | decide | omega) rfl (pa_cons (pv 0 rfl (Or.inl rfl)) (pa_cons pe_int pa_nil))) pe_int (nomark _)))))))) (pss_cons (ps_setLc (own := [("_law_k", 7)]) (g := gName 7)  (i := 4) rfl sc__law_some_tree.nd rfl rfl (sw_true rfl rfl rfl (by decide +kernel)) (pi_range1 rfl B.range_ (pa_cons (pe_callB (r := rLn K) call_len_seq rfl B.len_ (by decide +kernel) (pa_cons (pe_ix (r := rIx K) ix_seq (pv 1 rfl (Or.inr (Or.inl rfl))) pe_int (fun _ _ => rfl)) pa_nil)) pa_nil)) (blkOk_by (N := N__law_some_tree) (sc := defScope s__law_some_tree) (by decide +kernel)) (fun _ _ _ _ _ => pg_name (i := 7) sc__law_some_tree.nd rfl (Or.inl rfl)) (fun _ _ _ _ _ => pts_one (pt_val (C8.pe_c c__law_fails hr (by first | decide | omega) rfl (pa_cons (pv 2 rfl (Or.inr (Or.inl rfl))) (pa_cons (pe_ix (r := rIx K) ix_seq (pe_ix (r := rIx K) ix_seq (pv 1 rfl (Or.inr (Or.inl rfl))) pe_int (fun _ _ => rfl)) (pv 7 rfl (Or.inl rfl)) (fun _ _ => rfl)) pa_nil))))) (fun _ _ _ _ _ => (pv 7 rfl (Or.inl rfl))))
    (pss_one (ps_ret (pe_tup (pa_cons pe_str (pa_cons (pe_ix (r := rIx K) ix_seq (pv 4 rfl (Or.inl rfl)) (C8.pe_c c__law_draw hr (by first | decide | omega) rfl (pa_cons (pv 0 rfl (Or.inl rfl)) (pa_cons (pe_callB (r := rLn K) call_len_seq rfl B.len_ (by decide +kernel) (pa_cons (pv 4 rfl (Or.inl rfl)) pa_nil)) pa_nil))) (fun _ _ => rfl)) pa_nil)))))) pss_nil)
    (pss_cons (ps_set (i := 5) sc__law_some_tree.nd rfl (Or.inl rfl) (C8.pe_c c__law_free hr (by first | decide | omega) rfl (pa_cons (pv 1 rfl (Or.inr (Or.inl rfl))) (pa_cons (pv 2 rfl (Or.inr (Or.inl rfl))) pa_nil))))
    (pss_cons (ps_set (i := 6) sc__law_some_tree.nd rfl (Or.inl rfl) (pe_ix (r := rIx K) ix_seq (pv 5 rfl (Or.inl rfl)) (C8.pe_c c__law_draw hr (by first | decide | omega) rfl (pa_cons (pv 0 rfl (Or.inl rfl)) (pa_cons (pe_callB (r := rLn K) call_len_seq rfl B.len_ (by decide +kernel) (pa_cons (pv 5 rfl (Or.inl rfl)) pa_nil)) pa_nil))) (fun _ _ => rfl)))
    (pss_one (ps_ret (pe_tup (pa_cons pe_str (pa_cons (pv 6 rfl (Or.inl rfl)) (pa_cons (C8.pe_c c__law_some_tree hr (by first | decide | omega) rfl (pa_cons (pv 0 rfl (Or.inl rfl)) (pa_cons (pv 1 rfl (Or.inr (Or.inl rfl))) (pa_cons (C8.pe_c c__law_with hr (by first | decide | omega) rfl (pa_cons (pv 2 rfl (Or.inr (Or.inl rfl))) (pa_cons (pe_un un_neg (pv 6 rfl (Or.inl rfl))) pa_nil))) pa_nil)))) (pa_cons (C8.pe_c c__law_some_tree hr (by first | decide | omega) rfl (pa_cons (pv 0 rfl (Or.inl rfl)) (pa_cons (pv 1 rfl (Or.inr (Or.inl rfl))) (pa_cons (C8.pe_c c__law_with hr (by first | decide | omega) rfl (pa_cons (pv 2 rfl (Or.inr (Or.inl rfl))) (pa_cons (pv 6 rfl (Or.inl rfl)) pa_nil))) pa_nil)))) pa_nil))))))))))), fun vs Q h => ?_⟩
  · exact spP_len (n := 3) (fun ds h => by
      obtain ⟨_, _, _, rfl, _⟩ := h
      rfl) _ _ _ _ h
  · refine pool_go (pre := pre_tree (m + 1)) (f := f_tree (m + 1)) (fun W q r is ds hq h => ?_) (by simp) h
    obtain ⟨n, cs, c, rfl, hQ, hcl, hg, hm, hno⟩ := h
    suffices hh : Sm W _ (.v (.ref q) :: args (N__law_some_tree.length - 1) [fm n cs, cl c]) (fun _ => False) (fun r => ∃ T, r = encT T ∧ RT n cs c T ∧ dep T < m + 1) from sm_mono hh (by
      intro r h n' cs' c' q
      obtain ⟨q1, q2⟩ := args2 q
      obtain ⟨q3, q4⟩ := fm_inj q1
      rw [← q3, ← q4, ← cl_inj q2]
      exact h)
    have lc : c.length ≤ 9 := good_len hQ.2.1 hg
    have he60 : ∀ e ∈ cs, e.length < 60 := fun e he => by have := okQ_len hQ e he; omega
    have hfl := free_len hQ.1 hg
    refine q_asg (u__law_leaf (a_cons (e_var rfl) (a_cons (e_var rfl) a_nil)) hcl he60) ?_
    refine q_ifP (A := fun b => (b = true → 0 ≤ fstF cs c) ∧ (b = false → fstF cs c < 0 ∨ freeV n c ≠ [])) (vt_and (A := fun b => b = decide (fstF cs c ≥ 0)) (t_test (e_opB (e_var rfl) e_int)) (fun e => vt_or (A := fun b => b = decide ((((freeV n c).length : Nat) : Int) = 0)) ((t_test (e_eqI (e_lenL (u__law_free (a_cons (e_var rfl) (a_cons (e_var rfl) a_nil)) hQ.1 (by have := hQ.2.1; omega))) e_int)).is (by rw [List.length_map])) (fun e2 => (vt_draw (v_draw hq rfl e_int)).mono fun b _ => ⟨fun _ => of_decide_eq_true e.symm, fun _ => .inr fun z => ?_⟩) fun e2 => ⟨fun _ => of_decide_eq_true e.symm, fun z => nomatch z⟩) fun e => ⟨fun z => (nomatch z), fun _ => .inl ?_⟩) (fun hA => ?_) fun hA => ?_
    · rw [z] at e2
      cases e2
    · have := of_decide_eq_false e.symm
      omega
    · -- a leaf
      obtain ⟨k0, e0, hk0, hf0⟩ := fstF_pos (hA.1 rfl)
      have hk0l := (List.getElem?_eq_some_iff.mp hk0).1
      refine q_asg (e_lcI (is := rgV 0 ((cs.length : Nat) : Int).toNat) (fun k => fals c (cs.getD k.toNat [])) (i_rg1 (a_cons ((e_lenT (e_ixT (e_var rfl) e_int rfl)).is (by rw [cls_len])) a_nil) (by omega) (by omega)) (fun k hk => ?_) (fun k _ _ => e_var rfl) (by simp [rgV]; omega)) ?_
      · obtain ⟨i, hi, rfl⟩ := mem_rgV.mp hk
        have hi' : i < cs.length := by omega
        have e1 : (0 + (i : Int)).toNat = i := by omega
        have hci : cs[(0 + (i : Int)).toNat]? = some cs[i] := by rw [e1]; exact List.getElem?_eq_getElem hi'
        have hcd : cs.getD (0 + (i : Int)).toNat [] = cs[i] := by rw [List.getD_eq_getElem?_getD, hci]; rfl
        rw [hcd]
        exact t_test (u__law_fails (a_cons (e_var rfl) (a_cons (e_ixT (e_ixT (e_var rfl) e_int rfl) (e_var rfl) (cls_get hci) (by omega)) a_nil)) (he60 _ (List.getElem_mem hi')))
      have hmem : ∀ {k : Int}, k ∈ (rgV 0 ((cs.length : Nat) : Int).toNat).filter (fun k => fals c (cs.getD k.toNat [])) → ∃ (i : Nat) (e : C), k = (i : Nat) ∧ cs[i]? = some e ∧ fals c e = true := fun {k} hk => by
        obtain ⟨h1, h2⟩ := List.mem_filter.mp hk
        obtain ⟨i, hi, rfl⟩ := mem_rgV.mp h1
        have hi' : i < cs.length := by omega
        have e1 : (0 + (i : Int)).toNat = i := by omega
        rw [e1, List.getD_eq_getElem?_getD, List.getElem?_eq_getElem hi'] at h2
        exact ⟨i, cs[i], by omega, List.getElem?_eq_getElem hi', h2⟩
      have hpos : 0 < ((rgV 0 ((cs.length : Nat) : Int).toNat).filter (fun k => fals c (cs.getD k.toNat []))).length := by
        refine List.length_pos_of_mem (a := ((k0 : Nat) : Int)) (List.mem_filter.mpr ⟨mem_rgV.mpr ⟨k0, by omega, by omega⟩, ?_⟩)
        have e1 : ((k0 : Nat) : Int).toNat = k0 := by omega
        rw [e1, List.getD_eq_getElem?_getD, hk0]
        exact hf0
      have hsm : ((rgV 0 ((cs.length : Nat) : Int).toNat).filter (fun k => fals c (cs.getD k.toNat []))).length ≤ 1000 := by
        have := List.length_filter_le (fun k : Int => fals c (cs.getD k.toNat [])) (rgV 0 ((cs.length : Nat) : Int).toNat)
        simp [rgV] at this
        simp [rgV]
        omega
      refine sm_ret (v_tup (A := fun ds => ∃ (i : Nat) (e : C), ds = [.str "leaf", .int (i : Nat)] ∧ cs[i]? = some e ∧ fals c e = true) (va_cons (A := fun d => d = .str "leaf") (B := fun _ ds => ∃ (i : Nat) (e : C), ds = [.int (i : Nat)] ∧ cs[i]? = some e ∧ fals c e = true) e_str (fun _ _ => va_cons (A := fun d => ∃ (i : Nat) (e : C), d = .int (i : Nat) ∧ cs[i]? = some e ∧ fals c e = true) (B := fun _ ds => ds = []) ((v_ixDL (e_var rfl) (v_draw hq rfl (e_lenL (e_var rfl)) (by rw [List.length_map]; omega))).mono fun d hd => ?_) (fun _ _ => a_nil) fun d ds ⟨i, e, h1, h2⟩ h3 => ⟨i, e, by rw [h1, h3], h2⟩) fun d ds h1 ⟨i, e, h2, h3⟩ => ⟨i, e, by rw [h1, h2], h3⟩) fun ds ⟨i, e, h1, h2, h3⟩ => ?_)
      · obtain ⟨k, hk, rfl⟩ := List.mem_map.mp hd
        obtain ⟨i, e, rfl, h1, h2⟩ := hmem hk
        exact ⟨i, e, rfl, h1, h2⟩
      · subst h1
        exact ⟨by simp, .leaf i, rfl, ⟨e, h2, h3⟩, by show 0 < m + 1; omega⟩
    have hfr : freeV n c ≠ [] := by
      rcases hA.2 rfl with h | h
      · intro z
        rw [z] at hfl
        exact hno c ⟨hg, by simpa using hfl, fstF_neg h⟩
      · exact h
    refine q_asg (u__law_free (a_cons (e_var rfl) (a_cons (e_var rfl) a_nil)) hQ.1 (by have := hQ.2.1; omega)) ?_
    have hfp := List.length_pos_iff.mpr hfr
    refine q_asgP (A := fun d => ∃ v : Int, d = .int v ∧ v ∈ freeV n c) ((v_ixDL (e_var rfl) (v_draw hq rfl (e_lenL (e_var rfl)) (by rw [List.length_map]; have := hQ.2.1; omega))).mono fun d hd => ?_) ?_
    · obtain ⟨k, hk, rfl⟩ := List.mem_map.mp hd
      exact ⟨k, rfl, hk⟩
    rintro _ ⟨v, rfl, hvf⟩
    have hv := mem_freeV.mp hvf
    have g1 : goodC n (wLit c (-v)) = true := wLit_good hg (by omega) (by omega) (by omega) hv.2.2 (by rw [Int.neg_neg]; exact hv.2.1)
    have g2 : goodC n (wLit c v) = true := wLit_good hg (by omega) (by omega) (by omega) hv.2.1 hv.2.2
    have f1 := free_wLit hQ.1 hg g1
    have f2 := free_wLit hQ.1 hg g2
    refine sm_ret (v_tup (A := fun ds => ∃ T1 T2 : Tr, ds = [.str "ask", .int v, encT T1, encT T2] ∧ RT n cs (wLit c (-v)) T1 ∧ dep T1 < m ∧ RT n cs (wLit c v) T2 ∧ dep T2 < m) (va_cons (A := fun d => d = .str "ask") (B := fun _ ds => ∃ T1 T2 : Tr, ds = [.int v, encT T1, encT T2] ∧ RT n cs (wLit c (-v)) T1 ∧ dep T1 < m ∧ RT n cs (wLit c v) T2 ∧ dep T2 < m) e_str (fun _ _ => va_cons (A := fun d => d = .int v) (B := fun _ ds => ∃ T1 T2 : Tr, ds = [encT T1, encT T2] ∧ RT n cs (wLit c (-v)) T1 ∧ dep T1 < m ∧ RT n cs (wLit c v) T2 ∧ dep T2 < m) (e_var rfl) (fun _ _ => va_cons (A := fun d => ∃ T1, d = encT T1 ∧ RT n cs (wLit c (-v)) T1 ∧ dep T1 < m) (B := fun _ ds => ∃ T2 : Tr, ds = [encT T2] ∧ RT n cs (wLit c v) T2 ∧ dep T2 < m)
      (v_callP hq rfl (a_cons (e_var rfl) (a_cons (u__law_with (a_cons (e_var rfl) (a_cons (e_neg (e_var rfl)) a_nil)) (by omega)) a_nil)) fun ds e => ⟨⟨n, cs, _, e, hQ, hcl, g1, by omega, hno⟩, fun d fd => fd n cs _ e⟩)
      (fun _ _ => va_cons (A := fun d => ∃ T2, d = encT T2 ∧ RT n cs (wLit c v) T2 ∧ dep T2 < m) (B := fun _ ds => ds = []) (v_callP hq rfl (a_cons (e_var rfl) (a_cons (u__law_with (a_cons (e_var rfl) (a_cons (e_var rfl) a_nil)) (by omega)) a_nil)) fun ds e => ⟨⟨n, cs, _, e, hQ, hcl, g2, by omega, hno⟩, fun d fd => fd n cs _ e⟩) (fun _ _ => a_nil) fun d ds ⟨T2, h1, h2⟩ h3 => ⟨T2, by rw [h1, h3], h2⟩)
      fun d ds ⟨T1, h1, h2, h3⟩ ⟨T2, h4, h5⟩ => ⟨T1, T2, by rw [h1, h4], h2, h3, h5⟩) fun d ds h1 ⟨T1, T2, h2, h3⟩ => ⟨T1, T2, by rw [h1, h2], h3⟩) fun d ds h1 ⟨T1, T2, h2, h3⟩ => ⟨T1, T2, by rw [h1, h2], h3⟩) fun ds ⟨T1, T2, h1, h2, h3, h4, h5⟩ => ?_)
    subst h1
    exact ⟨by simp, .ask v T1 T2, rfl, ⟨hv.1, hv.2.1, hv.2.2, h2, h4⟩, by show max (dep T1) (dep T2) + 1 < m + 1; omega⟩
theorem all__law_some_tree {P : Program} {w : World} {K : PySem.W.Frag} {mg : Str → Option Value} {base : Heap} (B : Bl mg) (D : DefH K mg "_law_some_tree" s__law_some_tree) (c__law_draw : C8.Cal P w K mg base 2 "_law_draw" sp__law_draw []) (c__law_fails : C8.Cal P w K mg base 2 "_law_fails" sp__law_fails []) (c__law_free : C8.Cal P w K mg base 1 "_law_free" sp__law_free []) (c__law_leaf : C8.Cal P w K mg base 3 "_law_leaf" sp__law_leaf []) (c__law_with : C8.Cal P w K mg base 1 "_law_with" sp__law_with []) : ∀ m : Nat, C8.Cal P w K mg base (3 + m) "_law_some_tree" (sp_treeM m) []
  | 0 => cal_no (ps := ["_law_pool_here", "_law_formula", "_law_cube"]) D (fun _ _ _ _ _ _ us hl => match us, hl with | [_, _, _], _ => rfl) fun vs H Q E h => by
    obtain ⟨_, _, _, _, _, _, _, _, _, _, _, ⟨_, _, _, _, _, _, _, h, _⟩, _⟩ := h
    omega
  | m + 1 => ok__law_some_tree B D c__law_draw c__law_fails c__law_free c__law_leaf (all__law_some_tree B D c__law_draw c__law_fails c__law_free c__law_leaf c__law_with m) c__law_with
end K19
end
section
set_option Elab.async false
set_option linter.all false
set_option maxRecDepth 100000
set_option maxHeartbeats 4000000
namespace K19
open PySem L2
local macro_rules | `(tactic| walk_at "ev1") => `(tactic| first
  | exact e_var rfl | exact e_int | exact e_bl | exact e_non | exact e_str | exact a_nil | exact t_yes
  | refine a_cons ?_ ?_
  | (refine e_un ?_ (u_neg rfl))
  | (refine e_op ?_ ?_ (o_bl rfl)) | (refine e_op ?_ ?_ (o_int rfl))
  | (refine e_op ?_ ?_ (o_eqI rfl)) | (refine e_op ?_ ?_ (o_neI rfl))
  | (refine t_test ?_) | (refine t_B ?_) | (refine t_not ?_) | (refine e_notV ?_)
  | (refine e_cb ?_ (c_abs rfl)) | (refine e_cb ?_ (c_int rfl)))
local macro_rules | `(tactic| walk_at "ev") => `(tactic| repeat' walk_at "ev1")
/-- the steps that are written, and the pool -/
structure Lw (q r : Addr) (is : List Int) (p : Addr) (sts : List Pd) (H : Hp) : Prop where
  pool : Pool q r is H
  st : ∃ vs, H p = some (.lst vs) ∧ RpA No H vs sts
  pq : p ≠ q
  pr : p ≠ r
  nl : nlA sts = true
section
variable {q r p : Addr} {is : List Int} {sts : List Pd} {H H' : Hp}
theorem Lw.tups (w : Lw q r is p sts H) (k : RW q p H H') : ∀ a xs, H a = some (.tup xs) → H' a = some (.tup xs) := fun a xs e => by
  obtain ⟨_, _, _, _, e1, _⟩ := w.pool
  obtain ⟨v2, e2, _⟩ := w.st
  refine k a _ (fun z => ?_) (fun z => ?_) e
  · rw [z, e1] at e
    cases e
  · rw [z, e2] at e
    cases e
theorem Lw.rp (w : Lw q r is p sts H) (k : RW q p H H') {v : V} {d : Pd} (h : K19.nl d = true) (x : Rp No H v d) : Rp No H' v d := Rp.nl_keep (Lw.tups w k) d v h x
theorem Lw.same (w : Lw q r is p sts H) (s : Same H H') : Lw q r is p sts H' := by
  obtain ⟨i1, i2, i3, i4, e1, e2, h0⟩ := w.pool
  obtain ⟨vs, e, rs⟩ := w.st
  exact ⟨⟨i1, i2, i3, i4, s _ _ e1, s _ _ e2, h0⟩, ⟨vs, s _ _ e, rs.same s⟩, w.pq, w.pr, w.nl⟩
theorem Lw.keepq (w : Lw q r is p sts H) (k : ∀ a o, a ≠ q → H a = some o → H' a = some o) (hp : Pool q r is H') : Lw q r is p sts H' ∧ RW q p H H' := by
  have rw' : RW q p H H' := fun a o n _ e => k a o n e
  obtain ⟨vs, e, rs⟩ := w.st
  exact ⟨⟨hp, ⟨vs, k _ _ w.pq e, RpA.nl_keep (Lw.tups w rw') _ _ w.nl rs⟩, w.pq, w.pr, w.nl⟩, rw'⟩
theorem nlA_app {a b : List Pd} (ha : nlA a = true) (hb : nlA b = true) : nlA (a ++ b) = true := by
  induction a with
  | nil => exact hb
  | cons x a ih =>
    have h' : nl x = true ∧ nlA a = true := by simpa [nlA] using ha
    show (nl x && nlA (a ++ b)) = true
    rw [h'.1, ih h'.2]
    rfl
theorem Lw.push (w : Lw q r is p sts H) {vs : List V} {v : V} {d : Pd} (e : H p = some (.lst vs)) (rs : RpA No H vs sts) (rv : Rp No H v d) (hn : K19.nl d = true) : Lw q r is p (sts ++ [d]) (upd H p (.lst (vs ++ [v]))) ∧ RW q p H (upd H p (.lst (vs ++ [v]))) := by
  have k : RW q p H (upd H p (.lst (vs ++ [v]))) := fun a o _ n e => by rw [L2.upd_ne n]; exact e
  have tp := Lw.tups w k
  obtain ⟨i1, i2, i3, i4, e1, e2, h0⟩ := w.pool
  refine ⟨⟨⟨i1, i2, i3, i4, by rw [L2.upd_ne w.pq.symm]; exact e1, by rw [L2.upd_ne w.pr.symm]; exact e2, h0⟩, ⟨_, upd_same, (RpA.nl_keep tp _ _ w.nl rs).append (.cons (Rp.nl_keep tp _ _ hn rv) .nil)⟩, w.pq, w.pr, nlA_app w.nl (by simp [nlA, hn])⟩, k⟩
theorem Lw.steps (w : Lw q r is p sts H) : Rp No H (.ref p) (.list sts) := by
  obtain ⟨vs, e, rs⟩ := w.st
  exact .lst (fun z => z) e rs
theorem evq {te : TE} {δ : Dn} {P : Pd → Prop} {σ : Sl} {Q : VK} (hp : Pool q r is H) (h : ∀ W, HasPool W q r is → Ev W te δ P) (en : En (fun a => a = q) H σ δ) (k : ∀ v d H', (∀ a o, a ≠ q → H a = some o → H' a = some o) → Pool q r is H' → P d → Rp (fun a => a = q) H' v d → Q v H') : te σ H Q :=
  h (poolW (fun a => a = q) H q r is (fun a e => by
    obtain ⟨_, _, _, _, e1, _⟩ := hp
    rw [e, e1]
    exact fun z => nomatch z) rfl hp) poolW_pool H σ ⟨fun _ _ _ e => e, hp⟩ en Q fun v d H' _ g p s => k v d H' g.1 g.2 p s
theorem evqT {t : TT} {δ : Dn} {P : Bool → Prop} {σ : Sl} {Q : Bool → Hp → Prop} (hp : Pool q r is H) (h : ∀ W, HasPool W q r is → EvT W t δ P) (en : En (fun a => a = q) H σ δ) (k : ∀ b H', (∀ a o, a ≠ q → H a = some o → H' a = some o) → Pool q r is H' → P b → Q b H') : t σ H Q :=
  h (poolW (fun a => a = q) H q r is (fun a e => by
    obtain ⟨_, _, _, _, e1, _⟩ := hp
    rw [e, e1]
    exact fun z => nomatch z) rfl hp) poolW_pool H σ ⟨fun _ _ _ e => e, hp⟩ en Q fun b H' _ g p => k b H' g.1 g.2 p
end
theorem EvA.mono {W : Wd} {ta : TA} {δ : Dn} {P P' : List Pd → Prop} (h : EvA W ta δ P) (k : ∀ d, P d → P' d) : EvA W ta δ P' := fun H σ g en Q q => h H σ g en Q fun vs ds H' r g' p s => q vs ds H' r g' (k ds p) s
theorem seq_asg {te : TE} {i : Nat} {u : TS} {D : Ends} {σ : Sl} {H : Hp} (h : te σ H fun v H' => u D (σ.set i (some v)) H') : tSeq (tAsg te (gName i)) u D σ H := h
def goodE (e : Pd) : Prop := nl e = true ∧ okD 10 e = true
def cost : Tr → Nat
  | .leaf _ => 2
  | .ask _ l h => cost l + cost h + 1
theorem cost_le : ∀ (t : Tr) (m : Nat), dep t ≤ m → cost t + 1 ≤ 3 * 2 ^ m
  | .leaf _, m, _ => by
    have : 2 ^ 0 ≤ 2 ^ m := Nat.pow_le_pow_right (by omega) (by omega)
    show 2 + 1 ≤ _
    omega
  | .ask _ l h, m, hd => by
    have hd' : max (dep l) (dep h) + 1 ≤ m := hd
    obtain ⟨k, rfl⟩ : ∃ k, m = k + 1 := ⟨m - 1, by omega⟩
    have h1 := cost_le l k (by omega)
    have h2 := cost_le h k (by omega)
    show cost l + cost h + 1 + 1 ≤ 3 * 2 ^ (k + 1)
    rw [Nat.pow_succ]
    omega
def spLW (m : Nat) : Sp := fun vs H Q _ => ∃ (q r p : Addr) (is : List Int) (n : Int) (cs : List C) (sts : List Pd) (vf vt vc : V) (T : Tr) (cube : C), vs = [.ref q, vf, vt, vc, .ref p] ∧ Lw q r is p sts H ∧ Rp No H vf (fm n cs) ∧ Rp No H vt (encT T) ∧ Rp No H vc (cl cube) ∧
  dep T < m ∧ RT n cs cube T ∧ goodC n cube = true ∧ okQ n cs ∧ sts.length + cost T ≤ 500 ∧
  ∀ (H' : Hp) (s2 : List Pd) (lo : Addr) (u : V) (i : Int) (c : C), RW q p H H' → Lw q r is p (sts ++ s2) H' → (∀ e ∈ s2, goodE e) → s2.length ≤ cost T → lo ≠ q → lo ≠ p → H' lo = some (.lst [.int i, u]) → Rp No H' u (cl c) → cN n c → Q (.ref lo) H'
theorem okD_cl {n : Int} {c : C} {m : Nat} (hn : n ≤ 4) (h : cN n c) : okD (m + 1) (cl c) = true := by
  have hl := cN_len hn h
  refine okD_tup (by rw [List.length_map]; omega) fun d hd => ?_
  obtain ⟨i, _, rfl⟩ := List.mem_map.mp hd
  cases m <;> rfl
theorem good_ax {k : Nat} : goodE (.tuple [.str "axiom", .int (k : Nat)]) := by
  refine ⟨rfl, okD_tup (m := 9) (by simp) fun d hd => ?_⟩
  rcases List.mem_cons.mp hd with rfl | hd
  · show PyData.canLay0 (.str "axiom") = true
    decide +kernel
  · rw [List.mem_singleton.mp hd]
    rfl
theorem good_wk {n : Int} {c : C} {i : Int} (hn : n ≤ 4) (h : cN n c) : goodE (.tuple [.str "weaken", .int i, cl c]) := by
  refine ⟨by show (true && (true && (nl (cl c) && true))) = true; rw [nl_cl]; rfl, okD_tup (m := 9) (by simp) fun d hd => ?_⟩
  rcases List.mem_cons.mp hd with rfl | hd
  · show PyData.canLay0 (.str "weaken") = true
    decide +kernel
  rcases List.mem_cons.mp hd with rfl | hd
  · rfl
  · rw [List.mem_singleton.mp hd]
    exact okD_cl hn h
theorem good_rs {a b v : Int} : goodE (.tuple [.str "resolve", .int a, .int b, .int v]) := by
  refine ⟨rfl, okD_tup (m := 9) (by simp) fun d hd => ?_⟩
  rcases List.mem_cons.mp hd with rfl | hd
  · show PyData.canLay0 (.str "resolve") = true
    decide +kernel
  rcases List.mem_cons.mp hd with rfl | hd
  · rfl
  rcases List.mem_cons.mp hd with rfl | hd
  · rfl
  · rw [List.mem_singleton.mp hd]
    rfl
theorem cN_sub {n : Int} {e c : C} (h : e.Sublist c) (hc : cN n c) : cN n (srt e) := ⟨lt_of_le_nd (srt_le _) ((srt_perm _).nodup_iff.mpr ((nd_of_lt hc.1).sublist h)), fun l hl => hc.2 l (h.subset (mem_srt.mp hl))⟩
theorem cN_neg {n : Int} {c : C} (h : goodC n c = true) : cN n (srt (c.map (- ·))) := good_cN (good_negsub h (nd_of_lt (good_iff.mp h).1) fun x h => h)
theorem cN_ds {n : Int} {a b : C} {v : Int} (ha : cN n a) (hb : cN n b) : cN n (dsrt (a.filter (fun l => !decide (l = v)) ++ b.filter fun l => !decide (l = -v))) := ⟨dsrt_lt _, fun l hl => by
  rcases List.mem_append.mp (mem_dsrt.mp hl) with hl | hl
  · exact ha.2 l (List.mem_filter.mp hl).1
  · exact hb.2 l (List.mem_filter.mp hl).1⟩
/-! ### _law_write -/
abbrev N__law_write : List Str := ["_law_pool_here", "_law_formula", "_law_tree", "_law_cube", "_law_steps", "_law_clause", "_law_more", "_law_v", "_law_low", "_law_high", "_law_left", "_law_literal"]
theorem sc__law_write : FnScope N__law_write ["_law_pool_here", "_law_formula", "_law_tree", "_law_cube", "_law_steps"] (defScope s__law_write) := ⟨rfl, rfl, rfl, by decide +kernel, rfl, by decide +kernel, by decide +kernel⟩
theorem ok__law_write {P : Program} {w : World} {K : PySem.W.Frag} {mg : Str → Option Value} {base : Heap} (B : Bl mg) (D : DefH K mg "_law_write" s__law_write) (c__law_draw : C8.Cal P w K mg base 2 "_law_draw" sp__law_draw []) (c__law_negated : C8.Cal P w K mg base 1 "_law_negated" sp__law_negated []) (c__law_with : C8.Cal P w K mg base 1 "_law_with" sp__law_with []) {m : Nat} (c__law_write : C8.Cal P w K mg base (2 + m) "_law_write" (spLW m) []) : C8.Cal P w K mg base (2 + m + 1) "_law_write" (spLW (m + 1)) [] := by
  refine cal_any D sc__law_write (fun _ _ _ _ _ _ us hl => match us, hl with | [_, _, _, _, _], _ => rfl) (fun vs H Q E h => ?_) fun fa cdv A outer s H E hr => ⟨_, (pss_cons (ps_if (pt_cmpR (r := rEqD K) (op_eqD hr.units) (pe_ix (r := rIx K) ix_seq (pv 2 rfl (Or.inl rfl)) pe_int (fun _ _ => rfl)) pe_str (nomark _)) (pss_cons (ps_expr (pe_bm PySem.F.plainAttrs_list PySem.F.slot_list_append PySem.F.type_list_append mt_append (pv 4 rfl (Or.inl rfl)) (pa_cons (pe_tup (pa_cons pe_str (pa_cons (pe_ix (r := rIx K) ix_seq (pv 2 rfl (Or.inl rfl)) pe_int (fun _ _ => rfl)) pa_nil))) pa_nil)))
    (pss_cons (ps_set (i := 5) sc__law_write.nd rfl (Or.inr rfl) (pe_ix (r := rIx K) ix_seq (pe_ix (r := rIx K) ix_seq (pv 1 rfl (Or.inl rfl)) pe_int (fun _ _ => rfl)) (pe_ix (r := rIx K) ix_seq (pv 2 rfl (Or.inl rfl)) pe_int (fun _ _ => rfl)) (fun _ _ => rfl)))
    (pss_cons (ps_if (pt_cmpR op_eq (C8.pe_c c__law_draw hr (by first | decide | omega) rfl (pa_cons (pv 0 rfl (Or.inr (Or.inl rfl))) (pa_cons pe_int pa_nil))) pe_int (nomark _)) (pss_cons (ps_setLc (own := [("_law_literal", 11)]) (g := gName 11)  (i := 6) rfl sc__law_write.nd rfl rfl (sw_true rfl rfl rfl (by decide +kernel)) (pi_tup (C8.pe_c c__law_negated hr (by first | decide | omega) rfl (pa_cons (pv 3 rfl (Or.inl rfl)) pa_nil))) (blkOk_by (N := N__law_write) (sc := defScope s__law_write) (by decide +kernel)) (fun _ _ _ _ _ => pg_name (i := 11) sc__law_write.nd rfl (Or.inl rfl)) (fun _ _ _ _ _ => pts_one (PW.pt (pw_or (pt_cmpR (r := rIn K false) op_in_seq (pv 11 rfl (Or.inl rfl)) (pv 5 rfl (Or.inr (Or.inl rfl))) rfl) (pw_or1 (pt_cmpR op_eq (C8.pe_c c__law_draw hr (by first | decide | omega) rfl (pa_cons (pv 0 rfl (Or.inr (Or.inl rfl))) (pa_cons pe_int pa_nil))) pe_int (nomark _)))))) (fun _ _ _ _ _ => (pv 11 rfl (Or.inl rfl))))
    (pss_cons (ps_set (i := 5) sc__law_write.nd rfl (Or.inr rfl) (pe_callTy (r := rTp K) call_tuple_of rfl B.tuple_ (by decide +kernel) (pa_cons (pe_callB (r := rSorted K) cr_sorted rfl B.sorted_ (by decide +kernel) (pa_cons (pv 6 rfl (Or.inl rfl)) pa_nil)) pa_nil)))
    (pss_one (ps_expr (pe_bm PySem.F.plainAttrs_list PySem.F.slot_list_append PySem.F.type_list_append mt_append (pv 4 rfl (Or.inl rfl)) (pa_cons (pe_tup (pa_cons pe_str (pa_cons (pe_op op_sub (pe_callB (r := rLn K) call_len_seq rfl B.len_ (by decide +kernel) (pa_cons (pv 4 rfl (Or.inl rfl)) pa_nil)) pe_int) (pa_cons (pv 5 rfl (Or.inr (Or.inl rfl))) pa_nil)))) pa_nil)))))) pss_nil)
    (pss_one (ps_ret (pe_lst (pa_cons (pe_op op_sub (pe_callB (r := rLn K) call_len_seq rfl B.len_ (by decide +kernel) (pa_cons (pv 4 rfl (Or.inl rfl)) pa_nil)) pe_int) (pa_cons (pv 5 rfl (Or.inr (Or.inl rfl))) pa_nil)))))))) pss_nil)
    (pss_cons (ps_set (i := 7) sc__law_write.nd rfl (Or.inr rfl) (pe_ix (r := rIx K) ix_seq (pv 2 rfl (Or.inl rfl)) pe_int (fun _ _ => rfl)))
    (pss_cons (ps_set (i := 8) sc__law_write.nd rfl (Or.inl rfl) (C8.pe_c c__law_write hr (by first | decide | omega) rfl (pa_cons (pv 0 rfl (Or.inr (Or.inl rfl))) (pa_cons (pv 1 rfl (Or.inl rfl)) (pa_cons (pe_ix (r := rIx K) ix_seq (pv 2 rfl (Or.inl rfl)) pe_int (fun _ _ => rfl)) (pa_cons (C8.pe_c c__law_with hr (by first | decide | omega) rfl (pa_cons (pv 3 rfl (Or.inl rfl)) (pa_cons (pe_un un_neg (pv 7 rfl (Or.inr (Or.inl rfl)))) pa_nil))) (pa_cons (pv 4 rfl (Or.inl rfl)) pa_nil)))))))
    (pss_cons (ps_if (pt_cmpR (r := rIn K true) op_notIn_seq (pv 7 rfl (Or.inr (Or.inl rfl))) (pe_ix (r := rIx K) ix_seq (pv 8 rfl (Or.inl rfl)) pe_int (fun _ _ => rfl)) rfl) (pss_one (ps_ret (pv 8 rfl (Or.inl rfl)))) pss_nil)
    (pss_cons (ps_set (i := 9) sc__law_write.nd rfl (Or.inl rfl) (C8.pe_c c__law_write hr (by first | decide | omega) rfl (pa_cons (pv 0 rfl (Or.inr (Or.inl rfl))) (pa_cons (pv 1 rfl (Or.inl rfl)) (pa_cons (pe_ix (r := rIx K) ix_seq (pv 2 rfl (Or.inl rfl)) pe_int (fun _ _ => rfl)) (pa_cons (C8.pe_c c__law_with hr (by first | decide | omega) rfl (pa_cons (pv 3 rfl (Or.inl rfl)) (pa_cons (pv 7 rfl (Or.inr (Or.inl rfl))) pa_nil))) (pa_cons (pv 4 rfl (Or.inl rfl)) pa_nil)))))))
    (pss_cons (ps_if (pt_cmpR (r := rIn K true) op_notIn_seq (pe_un un_neg (pv 7 rfl (Or.inr (Or.inl rfl)))) (pe_ix (r := rIx K) ix_seq (pv 9 rfl (Or.inl rfl)) pe_int (fun _ _ => rfl)) rfl) (pss_one (ps_ret (pv 9 rfl (Or.inl rfl)))) pss_nil)
    (pss_cons (ps_expr (pe_bm PySem.F.plainAttrs_list PySem.F.slot_list_append PySem.F.type_list_append mt_append (pv 4 rfl (Or.inl rfl)) (pa_cons (pe_tup (pa_cons pe_str (pa_cons (pe_ix (r := rIx K) ix_seq (pv 8 rfl (Or.inl rfl)) pe_int (fun _ _ => rfl)) (pa_cons (pe_ix (r := rIx K) ix_seq (pv 9 rfl (Or.inl rfl)) pe_int (fun _ _ => rfl)) (pa_cons (pv 7 rfl (Or.inr (Or.inl rfl))) pa_nil))))) pa_nil)))
    (pss_cons (ps_set (i := 10) sc__law_write.nd rfl (Or.inl rfl) (pe_op op_cat (pe_lc (own := [("_law_literal", 11)]) (g := gName 11)  rfl sc__law_write.nd (pi_tup (pe_ix (r := rIx K) ix_seq (pv 8 rfl (Or.inl rfl)) pe_int (fun _ _ => rfl))) (blkOk_by (N := N__law_write) (sc := defScope s__law_write) (by decide +kernel)) (fun _ _ _ _ _ => pg_name (i := 11) sc__law_write.nd rfl (Or.inl rfl)) (fun _ _ _ _ _ => pts_one (pt_cmpR op_ne (pv 11 rfl (Or.inl rfl)) (pv 7 rfl (Or.inr (Or.inl rfl))) (nomark _))) (fun _ _ _ _ _ => (pv 11 rfl (Or.inl rfl)))) (pe_lc (own := [("_law_literal", 11)]) (g := gName 11)  rfl sc__law_write.nd (pi_tup (pe_ix (r := rIx K) ix_seq (pv 9 rfl (Or.inl rfl)) pe_int (fun _ _ => rfl))) (blkOk_by (N := N__law_write) (sc := defScope s__law_write) (by decide +kernel)) (fun _ _ _ _ _ => pg_name (i := 11) sc__law_write.nd rfl (Or.inl rfl)) (fun _ _ _ _ _ => pts_one (pt_cmpR op_ne (pv 11 rfl (Or.inl rfl)) (pe_un un_neg (pv 7 rfl (Or.inr (Or.inl rfl)))) (nomark _))) (fun _ _ _ _ _ => (pv 11 rfl (Or.inl rfl))))))
    (pss_one (ps_ret (pe_lst (pa_cons (pe_op op_sub (pe_callB (r := rLn K) call_len_seq rfl B.len_ (by decide +kernel) (pa_cons (pv 4 rfl (Or.inl rfl)) pa_nil)) pe_int) (pa_cons (pe_callTy (r := rTp K) call_tuple_of rfl B.tuple_ (by decide +kernel) (pa_cons (pe_callB (r := rSortedSet w) (cr_sortedSet rfl) rfl B.sorted_ (by decide +kernel) (pa_cons (pe_callTy (r := rSetI K w) (cr_setI rfl) rfl B.set_ (by decide +kernel) (pa_cons (pv 10 rfl (Or.inl rfl)) pa_nil)) pa_nil)) pa_nil)) pa_nil))))))))))))), fun vs Q h => ?_⟩
  · obtain ⟨_, _, _, _, _, _, _, _, _, _, _, _, rfl, _⟩ := h
    rfl
  · obtain ⟨q, r, p, is, n, cs, sts, vf, vt, vc, T, cube, rfl, w, rf, rt, rc, hd, hT, hg, hQ, hl, k⟩ := h
    have n4 := hQ.2.1
    have lcu : cube.length ≤ 9 := good_len n4 hg
    cases T with
    | leaf kk =>
      rw [encT_leaf] at rt
      have nlt : nl (.tuple [.str "leaf", .int (kk : Nat)]) = true := rfl
      obtain ⟨e0, he0, hf0⟩ := hT
      have ge0 := hQ.2.2 e0 (List.mem_of_getElem? he0)
      refine evpT (δ := [.v (.ref q), .d (fm n cs), .d (.tuple [.str "leaf", .int (kk : Nat)]), .d (cl cube), .v (.ref p), .no, .no, .no, .no, .no, .no, .no]) (P := fun b => b = true) ((t_test (e_eqD (a := .str "leaf") (e_ixT (e_var rfl) e_int rfl) e_str (by decide +kernel) (by decide +kernel))).is rfl) (en_cons sl_v (en_cons (sl_d rf) (en_cons (sl_d rt) (en_cons (sl_d rc) (en_cons sl_v (en_cons sl_no (en_cons sl_no (en_cons sl_no (en_cons sl_no (en_cons sl_no (en_cons sl_no (en_cons sl_no en_nil)))))))))))) fun b H1 s1 eb => ?_
      subst eb
      refine ifT (c := true) rfl ?_
      have w1 := w.same s1
      have rf1 := rf.same s1
      have rt1 := rt.same s1
      have rc1 := rc.same s1
      -- the axiom
      obtain ⟨vs1, e1, _⟩ := w1.st
      refine ⟨_, rfl, .inl ⟨rfl, vs1, SqL.of e1⟩, ?_⟩
      refine evpA (δ := [.v (.ref q), .d (fm n cs), .d (.tuple [.str "leaf", .int (kk : Nat)]), .d (cl cube), .v (.ref p), .no, .no, .no, .no, .no, .no, .no]) (P := fun ds => ds = [.tuple [.str "axiom", .int (kk : Nat)]]) (a_cons (e_tup (a_cons e_str (a_cons (e_ixT (e_var rfl) e_int rfl) a_nil)) (by simp)) a_nil) (en_cons sl_v (en_cons (sl_d rf1) (en_cons (sl_d rt1) (en_cons (sl_d rc1) (en_cons sl_v (en_cons sl_no (en_cons sl_no (en_cons sl_no (en_cons sl_no (en_cons sl_no (en_cons sl_no (en_cons sl_no en_nil)))))))))))) fun vs ds H2 s2 ed rs => ?_
      subst ed
      cases rs with
      | @cons ux _ _ _ ru rs =>
      cases rs
      have w2 := w1.same s2
      obtain ⟨vs2, e2, rs2⟩ := w2.st
      have lv2 := rs2.length
      have hcost : cost (.leaf kk) = 2 := rfl
      refine ⟨p, vs2, ux, rfl, rfl, e2, Nat.lt_of_lt_of_le (show vs2.length < 100000 by omega) (by decide), ?_⟩
      obtain ⟨w3, k3⟩ := w2.push e2 rs2 ru rfl
      have q03 : RW q p H _ := (RW.of fun a o e => s2 a o (s1 a o e)).trans k3
      generalize (upd H2 p (.lst (vs2 ++ [ux]))) = H3 at w3 k3 q03
      have rf3 := w.rp q03 nl_fm rf
      have rt3 := w.rp q03 nlt rt
      have rc3 := w.rp q03 (nl_cl _) rc
      -- the clause
      refine evp (δ := [.v (.ref q), .d (fm n cs), .d (.tuple [.str "leaf", .int (kk : Nat)]), .d (cl cube), .v (.ref p), .no, .no, .no, .no, .no, .no, .no]) (P := fun d => d = cl e0) (e_ixT (e_ixT (e_var rfl) e_int rfl) (e_ixT (e_var rfl) e_int rfl) (by rw [show ((kk : Nat) : Int).toNat = kk by omega]; exact cls_get he0)) (en_cons sl_v (en_cons (sl_d rf3) (en_cons (sl_d rt3) (en_cons (sl_d rc3) (en_cons sl_v (en_cons sl_no (en_cons sl_no (en_cons sl_no (en_cons sl_no (en_cons sl_no (en_cons sl_no (en_cons sl_no en_nil)))))))))))) fun vcl d H4 s4 ed rcl => ?_
      subst ed
      have w4 := w3.same s4
      have q04 := q03.trans (RW.of s4)
      -- the end, from any state
      have fin : ∀ (H5 : Hp) (s2 : List Pd) (vcl : V) (o6 : Option V) (cc : C), RW q p H H5 → Lw q r is p (sts ++ s2) H5 → (∀ e ∈ s2, goodE e) → s2.length ≤ 2 → Rp No H5 vcl (cl cc) → cN n cc →
          tRet (tLst (tCons (tOp (rI0 fun i j => .int (i - j)) (tCB (rLn K) (tCons (tVar 4) tNil)) (tC (.int 1))) (tCons (tVar 5) tNil))) { nx := fun _ H' => Q .non H', rt := Q } [some (.ref q), some vf, some vt, some vc, some (.ref p), some vcl, o6, none, none, none, none, none] H5 := by
        intro H5 s2 vcl o6 cc q05 w5 hs2 hl2 rcl hcc
        obtain ⟨vs5, e5, rs5⟩ := w5.st
        refine ⟨_, rfl, p, vs5, rfl, .inl (SqL.of e5), _, _, rfl, rfl, _, rfl, by show 2 ≤ sizeLine; decide, fun lo hlo => ?_⟩
        have sn := same_new hlo (.lst [.int (((vs5.length : Nat) : Int) - 1), vcl])
        obtain ⟨_, _, _, _, eq5, _⟩ := w5.pool
        exact k _ s2 lo vcl _ cc (q05.trans (RW.of sn)) (w5.same sn) hs2 hl2 (fun z => by rw [z, eq5] at hlo; cases hlo) (fun z => by rw [z, e5] at hlo; cases hlo) upd_same (rcl.same sn) hcc
      -- weaken?
      have qq : ∀ (σ : Sl), σ = [some (.ref q), some vf, some vt, some vc, some (.ref p), some vcl, none, none, none, none, none, none] → True := fun _ _ => True.intro
      have rf4 := rf3.same s4
      have rt4 := rt3.same s4
      have rc4 := rc3.same s4
      have vs4nl : nlA (sts ++ [.tuple [.str "axiom", .int (kk : Nat)]]) = true := w4.nl
      refine evqT (q := q) (r := r) (is := is) (δ := [.v (.ref q), .d (fm n cs), .d (.tuple [.str "leaf", .int (kk : Nat)]), .d (cl cube), .v (.ref p), .d (cl e0), .no, .no, .no, .no, .no, .no]) w4.pool (fun W hq => vt_drawE (v_draw hq rfl e_int)) (en_cons sl_v (en_cons (sl_d (Rp.nlw (N := No) nl_fm rf4)) (en_cons (sl_d (Rp.nlw (N := No) nlt rt4)) (en_cons (sl_d (Rp.nlw (N := No) (nl_cl _) rc4)) (en_cons sl_v (en_cons (sl_d (Rp.nlw (N := No) (nl_cl _) rcl)) (en_cons sl_no (en_cons sl_no (en_cons sl_no (en_cons sl_no (en_cons sl_no (en_cons sl_no en_nil)))))))))))) fun b H5 k5 p5 _ => ?_
      obtain ⟨w5, q45⟩ := w4.keepq k5 p5
      have q05 := q04.trans q45
      have rcl5 := w4.rp q45 (nl_cl _) rcl
      cases b with
      | false => exact fin H5 _ vcl none e0 q05 w5 (fun e he => by rw [List.mem_singleton.mp he]; exact good_ax) (by simp) rcl5 (good_cN ge0)
      | true =>
      refine ifT (c := true) rfl ?_
      have rf5 := w.rp q05 nl_fm rf
      have rt5 := w.rp q05 nlt rt
      have rc5 := w.rp q05 (nl_cl _) rc
      have lneg : (srt (cube.map (- ·))).length ≤ 9 := by rw [(srt_perm _).length_eq, List.length_map]; exact lcu
      refine seq_asg ?_
      refine evq (te := tLc (iTup K (tCall sp__law_negated [] C8.E0 (tCons (tVar 3) tNil))) (gName 11) (tOr (tTest (tOp (rIn K false) (tVar 11) (tVar 5))) (tTest (tOp rEq (tCall spDraw [] C8.E0 (tCons (tVar 0) (tCons (tC (.int 2)) tNil))) (tC (.int 0))))) (tVar 11) [11]) (q := q) (r := r) (is := is) (δ := [.v (.ref q), .d (fm n cs), .d (.tuple [.str "leaf", .int (kk : Nat)]), .d (cl cube), .v (.ref p), .d (cl e0), .no, .no, .no, .no, .no, .no]) (P := fun d => ∃ e : C, d = .list (e.map .int) ∧ e.Sublist (srt (cube.map (- ·)))) w5.pool (fun W hq => v_lc (ds := (srt (cube.map (- ·))).map .int) (Pt := fun _ _ => True) (Pe := fun x y => y = x) (R := fun xs ys => ∃ d e : C, xs = d.map .int ∧ ys = e.map .int ∧ e.Sublist d) (i_cl (u__law_negated (a_cons (e_var rfl) a_nil) (by omega))) rfl (by decide) (fun x hx => ?_) (fun x hx _ => e_var rfl) (fun x y hx _ e => ?_) (by rw [List.length_map]; omega) ⟨[], [], rfl, rfl, .slnil⟩ ?_ ?_ ?_) (en_cons sl_v (en_cons (sl_d (Rp.nlw (N := No) nl_fm rf5)) (en_cons (sl_d (Rp.nlw (N := No) nlt rt5)) (en_cons (sl_d (Rp.nlw (N := No) (nl_cl _) rc5)) (en_cons sl_v (en_cons (sl_d (Rp.nlw (N := No) (nl_cl _) rcl5)) (en_cons sl_no (en_cons sl_no (en_cons sl_no (en_cons sl_no (en_cons sl_no (en_cons sl_no en_nil)))))))))))) fun vm d H6 k6 p6 hm rm => ?_
      · obtain ⟨l, _, rfl⟩ := List.mem_map.mp hx
        exact vt_or (A := fun _ => True) ((t_test (e_inT (e_var rfl) (e_var rfl))).mono fun _ _ => True.intro) (fun _ => vt_drawE (v_draw hq rfl e_int)) fun _ => True.intro
      · obtain ⟨l, _, rfl⟩ := List.mem_map.mp hx
        rw [e]
        rfl
      · rintro xs ys x y hx _ rfl ⟨d, e, rfl, rfl, hs⟩
        obtain ⟨l, _, rfl⟩ := List.mem_map.mp hx
        exact ⟨d ++ [l], e ++ [l], by simp, by simp, hs.append (List.Sublist.refl _)⟩
      · rintro xs ys x hx _ ⟨d, e, rfl, rfl, hs⟩
        obtain ⟨l, _, rfl⟩ := List.mem_map.mp hx
        exact ⟨d ++ [l], e, by simp, rfl, hs.trans (List.sublist_append_left _ _)⟩
      · rintro ys _ ⟨d, e, hd, rfl, hs⟩
        have : srt (cube.map (- ·)) = d := by
          have h1 := congrArg intsL hd
          rw [intsL_map, intsL_map] at h1
          exact h1
        subst this
        exact ⟨e, rfl, hs⟩
      obtain ⟨ee, rfl, hsub⟩ := hm
      have lee : ee.length ≤ 9 := by have := hsub.length_le; omega
      have hcc := cN_sub hsub (cN_neg hg)
      obtain ⟨w6, q56⟩ := w5.keepq k6 p6
      have q06 := q05.trans q56
      have rf6 := w.rp q06 nl_fm rf
      have rt6 := w.rp q06 nlt rt
      have rc6 := w.rp q06 (nl_cl _) rc
      have rcl6 := w5.rp q56 (nl_cl _) rcl5
      refine evp (δ := [.v (.ref q), .d (fm n cs), .d (.tuple [.str "leaf", .int (kk : Nat)]), .d (cl cube), .v (.ref p), .d (cl e0), .d (.list (ee.map .int)), .no, .no, .no, .no, .no]) (P := fun d => d = cl (srt ee)) (e_toT (e_sorted (e_var rfl) (by omega))) (en_cons sl_v (en_cons (sl_d rf6) (en_cons (sl_d rt6) (en_cons (sl_d rc6) (en_cons sl_v (en_cons (sl_d rcl6) (en_cons (sl_d rm.no) (en_cons sl_no (en_cons sl_no (en_cons sl_no (en_cons sl_no (en_cons sl_no en_nil)))))))))))) fun vcl7 d H7 s7 ed rcl7 => ?_
      subst ed
      have w7 := w6.same s7
      have q07 := q06.trans (RW.of s7)
      obtain ⟨vs7, e7, rs7⟩ := w7.st
      refine ⟨_, rfl, .inl ⟨rfl, vs7, SqL.of e7⟩, ?_⟩
      refine evpA (δ := [.v (.ref q), .d (fm n cs), .no, .no, .d (.list (sts ++ [.tuple [.str "axiom", .int (kk : Nat)]])), .d (cl (srt ee)), .no, .no, .no, .no, .no, .no]) (P := fun ds => ∃ i : Int, ds = [.tuple [.str "weaken", .int i, cl (srt ee)]]) (EvA.mono (a_cons (e_tup (a_cons e_str (a_cons (e_opI (e_lenL (e_var rfl)) e_int) (a_cons (e_var rfl) a_nil))) (by simp)) a_nil) fun ds e => ⟨_, e⟩) (en_cons sl_v (en_cons (sl_d (rf6.same s7)) (en_cons sl_no (en_cons sl_no (en_cons (sl_d w7.steps) (en_cons (sl_d rcl7) (en_cons sl_no (en_cons sl_no (en_cons sl_no (en_cons sl_no (en_cons sl_no (en_cons sl_no en_nil)))))))))))) fun vs ds H8 s8 ed rs => ?_
      obtain ⟨iw, rfl⟩ := ed
      cases rs with
      | @cons uw _ _ _ ruw rs =>
      cases rs
      have w8 := w7.same s8
      obtain ⟨vs8, e8, rs8⟩ := w8.st
      have lv8 := rs8.length
      rw [List.length_append] at lv8
      refine ⟨p, vs8, uw, rfl, rfl, e8, Nat.lt_of_lt_of_le (show vs8.length < 100000 by simp at lv8; omega) (by decide), ?_⟩
      obtain ⟨w9, k9⟩ := w8.push e8 rs8 ruw (good_wk n4 hcc).1
      rw [List.append_assoc] at w9
      exact fin _ _ vcl7 _ (srt ee) (q07.trans ((RW.of s8).trans k9)) w9 (fun e he => by
        rcases List.mem_append.mp he with he | he
        · rw [List.mem_singleton.mp he]
          exact good_ax
        · rw [List.mem_singleton.mp he]
          exact good_wk n4 hcc) (by simp) (w8.rp k9 (nl_cl _) (rcl7.same s8)) hcc
    | ask v tl th =>
      rw [encT_ask] at rt
      obtain ⟨hv, hv1, hv2, hTl, hTh⟩ := hT
      have nlt : nl (.tuple [.str "ask", .int v, encT tl, encT th]) = true := nl_encT (.ask v tl th)
      have hgl : goodC n (wLit cube (-v)) = true := wLit_good hg (by omega) (by omega) (by omega) hv2 (by rw [Int.neg_neg]; exact hv1)
      have hgh : goodC n (wLit cube v) = true := wLit_good hg (by omega) (by omega) (by omega) hv1 hv2
      have hd' : max (dep tl) (dep th) + 1 < m + 1 := hd
      have hl' : sts.length + (cost tl + cost th + 1) ≤ 500 := hl
      have hce : cost (.ask v tl th) = cost tl + cost th + 1 := rfl
      refine evpT (δ := [.v (.ref q), .d (fm n cs), .d (.tuple [.str "ask", .int v, encT tl, encT th]), .d (cl cube), .v (.ref p), .no, .no, .no, .no, .no, .no, .no]) (P := fun b => b = false) ((t_test (e_eqD (a := .str "ask") (e_ixT (e_var rfl) e_int rfl) e_str (by decide +kernel) (by decide +kernel))).is (by decide +kernel)) (en_cons sl_v (en_cons (sl_d rf) (en_cons (sl_d rt) (en_cons (sl_d rc) (en_cons sl_v (en_cons sl_no (en_cons sl_no (en_cons sl_no (en_cons sl_no (en_cons sl_no (en_cons sl_no (en_cons sl_no en_nil)))))))))))) fun b H1 s1 eb => ?_
      subst eb
      show tNext _ _ _
      have w1 := w.same s1
      -- v
      refine evp (δ := [.v (.ref q), .d (fm n cs), .d (.tuple [.str "ask", .int v, encT tl, encT th]), .d (cl cube), .v (.ref p), .no, .no, .no, .no, .no, .no, .no]) (P := fun d => d = .int v) (e_ixT (e_var rfl) e_int rfl) (en_cons sl_v (en_cons (sl_d (rf.same s1)) (en_cons (sl_d (rt.same s1)) (en_cons (sl_d (rc.same s1)) (en_cons sl_v (en_cons sl_no (en_cons sl_no (en_cons sl_no (en_cons sl_no (en_cons sl_no (en_cons sl_no (en_cons sl_no en_nil)))))))))))) fun vv d H2 s2 ed rv => ?_
      subst ed
      cases rv
      have s12 : Same H H2 := fun a o e => s2 a o (s1 a o e)
      -- low
      refine ⟨_, rfl, _, rfl, ?_⟩
      refine evp (δ := [.v (.ref q), .d (fm n cs), .d (.tuple [.str "ask", .int v, encT tl, encT th]), .d (cl cube), .v (.ref p), .no, .no, .d (.int v), .no, .no, .no, .no]) (P := fun d => d = encT tl) (e_ixT (e_var rfl) e_int rfl) (en_cons sl_v (en_cons (sl_d (rf.same s12)) (en_cons (sl_d (rt.same s12)) (en_cons (sl_d (rc.same s12)) (en_cons sl_v (en_cons sl_no (en_cons sl_no (en_cons (sl_d (.int _)) (en_cons sl_no (en_cons sl_no (en_cons sl_no (en_cons sl_no en_nil)))))))))))) fun vl d H3 s3 ed rl => ?_
      subst ed
      have s13 : Same H H3 := fun a o e => s3 a o (s12 a o e)
      refine evp (δ := [.v (.ref q), .d (fm n cs), .d (.tuple [.str "ask", .int v, encT tl, encT th]), .d (cl cube), .v (.ref p), .no, .no, .d (.int v), .no, .no, .no, .no]) (P := fun d => d = cl (wLit cube (-v))) (u__law_with (a_cons (e_var rfl) (a_cons (e_neg (e_var rfl)) a_nil)) (by omega)) (en_cons sl_v (en_cons (sl_d (rf.same s13)) (en_cons (sl_d (rt.same s13)) (en_cons (sl_d (rc.same s13)) (en_cons sl_v (en_cons sl_no (en_cons sl_no (en_cons (sl_d (.int _)) (en_cons sl_no (en_cons sl_no (en_cons sl_no (en_cons sl_no en_nil)))))))))))) fun vcl d H4 s4 ed rcl => ?_
      subst ed
      have s14 : Same H H4 := fun a o e => s4 a o (s13 a o e)
      refine ⟨_, rfl, q, r, p, is, n, cs, sts, vf, vl, vcl, tl, _, rfl, w.same s14, rf.same s14, rl.same s4, rcl, by omega, hTl, hgl, hQ, by omega, fun H5 sl lo ul il cl' k5 w5 gsl lsl lq lp hlo rul hcl' => ?_⟩
      have q05 : RW q p H H5 := (RW.of s14).trans k5
      have rlo : ∀ {H'}, H' lo = some (.lst [.int il, ul]) → Rp No H' ul (cl cl') → Rp No H' (.ref lo) (.list [.int il, cl cl']) := fun e1 e2 => .lst (fun z => z) e1 (.cons (.int _) (.cons e2 .nil))
      have rf5 := w.rp q05 nl_fm rf
      have rt5 := w.rp q05 nlt rt
      have rc5 := w.rp q05 (nl_cl _) rc
      refine evpT (δ := [.v (.ref q), .d (fm n cs), .d (.tuple [.str "ask", .int v, encT tl, encT th]), .d (cl cube), .v (.ref p), .no, .no, .d (.int v), .d (.list [.int il, cl cl']), .no, .no, .no]) (t_test (e_niT (e_var rfl) (e_ixL (e_var rfl) e_int rfl))) (en_cons sl_v (en_cons (sl_d (rf5)) (en_cons (sl_d (rt5)) (en_cons (sl_d (rc5)) (en_cons sl_v (en_cons sl_no (en_cons sl_no (en_cons (sl_d (.int _)) (en_cons (sl_d (rlo hlo rul)) (en_cons sl_no (en_cons sl_no (en_cons sl_no en_nil)))))))))))) fun b H6 s6 eb => ?_
      subst eb
      have w6 := w5.same s6
      have q06 := q05.trans (RW.of s6)
      by_cases hvl : v ∈ cl'
      case neg =>
        rw [decide_eq_false hvl]
        refine ifT (c := !false) rfl ?_
        exact ⟨_, rfl, k H6 sl lo ul il cl' q06 w6 gsl (by omega) lq lp (s6 _ _ hlo) (rul.same s6) hcl'⟩
      rw [decide_eq_true hvl]
      show tNext _ _ _
      -- high
      refine ⟨_, rfl, _, rfl, ?_⟩
      refine evp (δ := [.v (.ref q), .d (fm n cs), .d (.tuple [.str "ask", .int v, encT tl, encT th]), .d (cl cube), .v (.ref p), .no, .no, .d (.int v), .no, .no, .no, .no]) (P := fun d => d = encT th) (e_ixT (e_var rfl) e_int rfl) (en_cons sl_v (en_cons (sl_d (rf5.same s6)) (en_cons (sl_d (rt5.same s6)) (en_cons (sl_d (rc5.same s6)) (en_cons sl_v (en_cons sl_no (en_cons sl_no (en_cons (sl_d (.int _)) (en_cons sl_no (en_cons sl_no (en_cons sl_no (en_cons sl_no en_nil)))))))))))) fun vh d H7 s7 ed rh => ?_
      subst ed
      have s67 : Same H5 H7 := fun a o e => s7 a o (s6 a o e)
      refine evp (δ := [.v (.ref q), .d (fm n cs), .d (.tuple [.str "ask", .int v, encT tl, encT th]), .d (cl cube), .v (.ref p), .no, .no, .d (.int v), .no, .no, .no, .no]) (P := fun d => d = cl (wLit cube v)) (u__law_with (a_cons (e_var rfl) (a_cons (e_var rfl) a_nil)) (by omega)) (en_cons sl_v (en_cons (sl_d (rf5.same s67)) (en_cons (sl_d (rt5.same s67)) (en_cons (sl_d (rc5.same s67)) (en_cons sl_v (en_cons sl_no (en_cons sl_no (en_cons (sl_d (.int _)) (en_cons sl_no (en_cons sl_no (en_cons sl_no (en_cons sl_no en_nil)))))))))))) fun vch d H8 s8 ed rch => ?_
      subst ed
      have s58 : Same H5 H8 := fun a o e => s8 a o (s67 a o e)
      refine ⟨_, rfl, q, r, p, is, n, cs, sts ++ sl, vf, vh, vch, th, _, rfl, w5.same s58, rf5.same s58, rh.same s8, rch, by omega, hTh, hgh, hQ, by rw [List.length_append]; omega, fun H9 sh ho uh ih ch k9 w9 gsh lsh hq9 hp9 hho ruh hch => ?_⟩
      have q59 : RW q p H5 H9 := (RW.of s58).trans k9
      have q09 : RW q p H H9 := q05.trans q59
      have rf9 := w.rp q09 nl_fm rf
      have rt9 := w.rp q09 nlt rt
      have rc9 := w.rp q09 (nl_cl _) rc
      have hlo9 := q59 lo _ lq lp hlo
      have rul9 := w5.rp q59 (nl_cl _) rul
      have rho : ∀ {H'}, H' ho = some (.lst [.int ih, uh]) → Rp No H' uh (cl ch) → Rp No H' (.ref ho) (.list [.int ih, cl ch]) := fun e1 e2 => .lst (fun z => z) e1 (.cons (.int _) (.cons e2 .nil))
      refine evpT (δ := [.v (.ref q), .d (fm n cs), .d (.tuple [.str "ask", .int v, encT tl, encT th]), .d (cl cube), .v (.ref p), .no, .no, .d (.int v), .d (.list [.int il, cl cl']), .d (.list [.int ih, cl ch]), .no, .no]) (t_test (e_niT (e_neg (e_var rfl)) (e_ixL (e_var rfl) e_int rfl))) (en_cons sl_v (en_cons (sl_d (rf9)) (en_cons (sl_d (rt9)) (en_cons (sl_d (rc9)) (en_cons sl_v (en_cons sl_no (en_cons sl_no (en_cons (sl_d (.int _)) (en_cons (sl_d (rlo hlo9 rul9)) (en_cons (sl_d (rho hho ruh)) (en_cons sl_no (en_cons sl_no en_nil)))))))))))) fun b HA sA eb => ?_
      subst eb
      have wA := w9.same sA
      have q0A := q09.trans (RW.of sA)
      rw [List.append_assoc] at wA
      have gall : ∀ e ∈ sl ++ sh, goodE e := fun e he => by
        rcases List.mem_append.mp he with he | he
        · exact gsl e he
        · exact gsh e he
      by_cases hvh : -v ∈ ch
      case neg =>
        rw [decide_eq_false hvh]
        refine ifT (c := !false) rfl ?_
        exact ⟨_, rfl, k HA (sl ++ sh) ho uh ih ch q0A wA gall (by rw [List.length_append]; omega) hq9 hp9 (sA _ _ hho) (ruh.same sA) hch⟩
      rw [decide_eq_true hvh]
      show tNext _ _ _
      -- resolve
      obtain ⟨vsA, eA, _⟩ := wA.st
      refine ⟨_, rfl, .inl ⟨rfl, vsA, SqL.of eA⟩, ?_⟩
      refine evpA (δ := [.v (.ref q), .no, .no, .no, .v (.ref p), .no, .no, .d (.int v), .d (.list [.int il, cl cl']), .d (.list [.int ih, cl ch]), .no, .no]) (P := fun ds => ds = [.tuple [.str "resolve", .int il, .int ih, .int v]]) (a_cons (e_tup (a_cons e_str (a_cons (e_ixL (e_var rfl) e_int rfl) (a_cons (e_ixL (e_var rfl) e_int rfl) (a_cons (e_var rfl) a_nil)))) (by simp)) a_nil) (en_cons sl_v (en_cons sl_no (en_cons sl_no (en_cons sl_no (en_cons sl_v (en_cons sl_no (en_cons sl_no (en_cons (sl_d (.int _)) (en_cons (sl_d (rlo (sA _ _ hlo9) (rul9.same sA))) (en_cons (sl_d (rho (sA _ _ hho) (ruh.same sA))) (en_cons sl_no (en_cons sl_no en_nil)))))))))))) fun vs ds HB sB ed rs => ?_
      subst ed
      cases rs with
      | @cons ur _ _ _ rur rs =>
      cases rs
      have wB := wA.same sB
      obtain ⟨vsB, eB, rsB⟩ := wB.st
      have lvB := rsB.length
      rw [List.length_append, List.length_append] at lvB
      refine ⟨p, vsB, ur, rfl, rfl, eB, Nat.lt_of_lt_of_le (show vsB.length < 100000 by omega) (by decide), ?_⟩
      obtain ⟨wC, kC⟩ := wB.push eB rsB rur rfl
      have sAB : Same H9 HB := fun a o e => sB a o (sA a o e)
      have q0C : RW q p H _ := q09.trans ((RW.of sAB).trans kC)
      have hloC := kC lo _ lq lp (sAB _ _ hlo9)
      have hhoC := kC ho _ hq9 hp9 (sAB _ _ hho)
      have rulC := wB.rp kC (nl_cl _) (rul9.same sAB)
      have ruhC := wB.rp kC (nl_cl _) (ruh.same sAB)
      generalize (upd HB p (.lst (vsB ++ [ur]))) = HC at wC kC q0C hloC hhoC rulC ruhC
      have lcl := cN_len n4 hcl'
      have lch := cN_len n4 hch
      have w1' := List.length_filter_le (fun l => !decide (l = v)) cl'
      have w2' := List.length_filter_le (fun l => !decide (l = -v)) ch
      dsimp only
      refine seq_asg ?_
      refine evp (δ := [.v (.ref q), .no, .no, .no, .v (.ref p), .no, .no, .d (.int v), .d (.list [.int il, cl cl']), .d (.list [.int ih, cl ch]), .no, .no]) (P := fun d => d = .list ((cl'.filter (fun l => !decide (l = v)) ++ ch.filter fun l => !decide (l = -v)).map .int)) (te := tOp rCat (tLc (iTup K (tOp (rIx K) (tVar 8) (tC (.int 1)))) (gName 11) (tTest (tOp rNe (tVar 11) (tVar 7))) (tVar 11) [11]) (tLc (iTup K (tOp (rIx K) (tVar 9) (tC (.int 1)))) (gName 11) (tTest (tOp rNe (tVar 11) (tUn (rU fun i => .int (-i)) (tVar 7)))) (tVar 11) [11])) ((e_cat (e_lcI (fun l => !decide (l = v)) (i_cl (e_ixL (e_var rfl) e_int rfl)) (fun l _ => t_test (e_neI (e_var rfl) (e_var rfl))) (fun l _ _ => e_var rfl) (by omega)) (e_lcI (fun l => !decide (l = -v)) (i_cl (e_ixL (e_var rfl) e_int rfl)) (fun l _ => t_test (e_neI (e_var rfl) (e_neg (e_var rfl)))) (fun l _ _ => e_var rfl) (by omega)) (by simp only [List.length_map]; omega)).is (by rw [List.map_append])) (en_cons sl_v (en_cons sl_no (en_cons sl_no (en_cons sl_no (en_cons sl_v (en_cons sl_no (en_cons sl_no (en_cons (sl_d (.int _)) (en_cons (sl_d (rlo hloC rulC)) (en_cons (sl_d (rho hhoC ruhC)) (en_cons sl_no (en_cons sl_no en_nil)))))))))))) fun vlf d HD sD ed rlf => ?_
      subst ed
      have wD := wC.same sD
      have q0D := q0C.trans (RW.of sD)
      have hcd := cN_ds (v := v) hcl' hch
      obtain ⟨vsD, eD, _⟩ := wD.st
      refine ⟨_, rfl, p, vsD, rfl, .inl (SqL.of eD), _, _, rfl, rfl, ?_⟩
      refine evp (δ := [.v (.ref q), .no, .no, .no, .v (.ref p), .no, .no, .d (.int v), .no, .no, .d (.list ((cl'.filter (fun l => !decide (l = v)) ++ ch.filter fun l => !decide (l = -v)).map .int)), .no]) (P := fun d => d = cl (dsrt (cl'.filter (fun l => !decide (l = v)) ++ ch.filter fun l => !decide (l = -v)))) (e_toT (e_sortI (e_var rfl) (by rw [List.length_append]; omega))) (en_cons sl_v (en_cons sl_no (en_cons sl_no (en_cons sl_no (en_cons sl_v (en_cons sl_no (en_cons sl_no (en_cons (sl_d (.int _)) (en_cons sl_no (en_cons sl_no (en_cons (sl_d (rlf)) (en_cons sl_no en_nil)))))))))))) fun ve d HE sE ed re => ?_
      subst ed
      have wE := wD.same sE
      have q0E := q0D.trans (RW.of sE)
      obtain ⟨vsE, eE, _⟩ := wE.st
      refine ⟨by show 2 ≤ sizeLine; decide, fun lo2 hlo2 => ?_⟩
      have sn := same_new hlo2 (.lst [.int (((vsD.length : Nat) : Int) - 1), ve])
      obtain ⟨_, _, _, _, eqE, _⟩ := wE.pool
      have wF := wE.same sn
      rw [List.append_assoc, List.append_assoc] at wF
      refine k _ (sl ++ (sh ++ [.tuple [.str "resolve", .int il, .int ih, .int v]])) lo2 ve _ _ (q0E.trans (RW.of sn)) wF (fun e he => ?_) (by simp only [List.length_append, List.length_singleton]; omega) (fun z => by rw [z, eqE] at hlo2; cases hlo2) (fun z => by rw [z, eE] at hlo2; cases hlo2) upd_same (re.same sn) hcd
      rcases List.mem_append.mp he with he | he
      · exact gsl e he
      rcases List.mem_append.mp he with he | he
      · exact gsh e he
      · rw [List.mem_singleton.mp he]
        exact good_rs
theorem all__law_write {P : Program} {w : World} {K : PySem.W.Frag} {mg : Str → Option Value} {base : Heap} (B : Bl mg) (D : DefH K mg "_law_write" s__law_write) (c__law_draw : C8.Cal P w K mg base 2 "_law_draw" sp__law_draw []) (c__law_negated : C8.Cal P w K mg base 1 "_law_negated" sp__law_negated []) (c__law_with : C8.Cal P w K mg base 1 "_law_with" sp__law_with []) : ∀ m : Nat, C8.Cal P w K mg base (2 + m) "_law_write" (spLW m) []
  | 0 => cal_no (ps := ["_law_pool_here", "_law_formula", "_law_tree", "_law_cube", "_law_steps"]) D (fun _ _ _ _ _ _ us hl => match us, hl with | [_, _, _, _, _], _ => rfl) fun vs H Q E h => by
    obtain ⟨_, _, _, _, _, _, _, _, _, _, _, _, _, _, _, _, _, h, _⟩ := h
    omega
  | m + 1 => ok__law_write B D c__law_draw c__law_negated c__law_with (all__law_write B D c__law_draw c__law_negated c__law_with m)
end K19
end
section
set_option Elab.async false
set_option linter.all false
set_option maxRecDepth 100000
set_option maxHeartbeats 4000000
namespace K19
open PySem L2
local macro_rules | `(tactic| walk_at "ev1") => `(tactic| first
  | exact e_var rfl | exact e_int | exact e_bl | exact e_non | exact e_str | exact a_nil | exact t_yes
  | refine a_cons ?_ ?_
  | (refine e_un ?_ (u_neg rfl))
  | (refine e_op ?_ ?_ (o_bl rfl)) | (refine e_op ?_ ?_ (o_int rfl))
  | (refine e_op ?_ ?_ (o_eqI rfl)) | (refine e_op ?_ ?_ (o_neI rfl))
  | (refine t_test ?_) | (refine t_B ?_) | (refine t_not ?_) | (refine e_notV ?_)
  | (refine e_cb ?_ (c_abs rfl)) | (refine e_cb ?_ (c_int rfl)))
local macro_rules | `(tactic| walk_at "ev") => `(tactic| repeat' walk_at "ev1")
def pre_steps : List Pd → Prop := fun ds => ∃ (n : Int) (cs : List C), ds = [fm n cs] ∧ okQ n cs ∧ cs.length ≤ 1000 ∧ ∀ w, ¬ Mdl n cs w
def f_steps : List Pd → Pd → Prop := fun _ r => ∃ es : List Pd, r = .tuple es ∧ es.length ≤ 48 ∧ ∀ e ∈ es, goodE e
abbrev sp__law_some_steps : Sp := spP pre_steps f_steps
/-! ### _law_some_steps -/
abbrev N__law_some_steps : List Str := ["_law_pool_here", "_law_formula", "_law_steps", "_law_last"]
theorem sc__law_some_steps : FnScope N__law_some_steps ["_law_pool_here", "_law_formula"] (defScope s__law_some_steps) := ⟨rfl, rfl, rfl, by decide +kernel, rfl, by decide +kernel, by decide +kernel⟩
theorem ok__law_some_steps {P : Program} {w : World} {K : PySem.W.Frag} {mg : Str → Option Value} {base : Heap} (B : Bl mg) (D : DefH K mg "_law_some_steps" s__law_some_steps) (c__law_draw : C8.Cal P w K mg base 2 "_law_draw" sp__law_draw []) (c__law_some_tree : C8.Cal P w K mg base 8 "_law_some_tree" (sp_treeM 5) []) (c__law_write : C8.Cal P w K mg base 7 "_law_write" (spLW 5) []) : C8.Cal P w K mg base 9 "_law_some_steps" sp__law_some_steps [] := by
  refine cal_any D sc__law_some_steps (fun _ _ _ _ _ _ us hl => match us, hl with | [_, _], _ => rfl) (fun vs H Q E h => ?_) fun fa cdv A outer s H E hr => ⟨_, (pss_cons (ps_set (i := 2) sc__law_some_steps.nd rfl (Or.inl rfl) (pe_lst pa_nil))
    (pss_cons (ps_set (i := 3) sc__law_some_steps.nd rfl (Or.inl rfl) (C8.pe_c c__law_write hr (by first | decide | omega) rfl (pa_cons (pv 0 rfl (Or.inl rfl)) (pa_cons (pv 1 rfl (Or.inl rfl)) (pa_cons (C8.pe_c c__law_some_tree hr (by first | decide | omega) rfl (pa_cons (pv 0 rfl (Or.inl rfl)) (pa_cons (pv 1 rfl (Or.inl rfl)) (pa_cons (pe_tup pa_nil) pa_nil)))) (pa_cons (pe_tup pa_nil) (pa_cons (pv 2 rfl (Or.inl rfl)) pa_nil)))))))
    (pss_cons (ps_if (PW.pt (pw_or (pt_cmpR op_ne (pe_ix (r := rIx K) ix_seq (pv 3 rfl (Or.inl rfl)) pe_int (fun _ _ => rfl)) (pe_op op_sub (pe_callB (r := rLn K) call_len_seq rfl B.len_ (by decide +kernel) (pa_cons (pv 2 rfl (Or.inl rfl)) pa_nil)) pe_int) (nomark _)) (pw_or1 (pt_cmpR op_eq (C8.pe_c c__law_draw hr (by first | decide | omega) rfl (pa_cons (pv 0 rfl (Or.inl rfl)) (pa_cons pe_int pa_nil))) pe_int (nomark _))))) (pss_one (ps_expr (pe_bm PySem.F.plainAttrs_list PySem.F.slot_list_append PySem.F.type_list_append mt_append (pv 2 rfl (Or.inl rfl)) (pa_cons (pe_tup (pa_cons pe_str (pa_cons (pe_ix (r := rIx K) ix_seq (pv 3 rfl (Or.inl rfl)) pe_int (fun _ _ => rfl)) (pa_cons (pe_tup pa_nil) pa_nil)))) pa_nil)))) pss_nil)
    (pss_one (ps_ret (pe_callTy (r := rTp K) call_tuple_of rfl B.tuple_ (by decide +kernel) (pa_cons (pv 2 rfl (Or.inl rfl)) pa_nil))))))), fun vs Q h => ?_⟩
  · exact spP_len (n := 2) (fun ds h => by
      obtain ⟨_, _, rfl, _⟩ := h
      rfl) _ _ _ _ h
  · obtain ⟨N, q, r, is, ws, ds, rfl, hN, hNq, hp, rw0, ⟨n, cs, rfl, hQ, hcl, hno⟩, k⟩ := h
    cases rw0 with
    | @cons vf _ _ _ rf rs =>
    cases rs
    have rf0 : Rp No H vf (fm n cs) := rf.no
    have hfl := free_len hQ.1 (c := []) (n := n) rfl
    have n4 := hQ.2.1
    have n0 := hQ.1
    -- steps = []
    refine seq_asg ?_
    refine ⟨by show 0 ≤ sizeLine; decide, fun p hpn => ?_⟩
    have s1 := same_new hpn (.lst [])
    have w1 : Lw q r is p [] (upd H p (.lst [])) := by
      obtain ⟨i1, i2, i3, i4, e1, e2, h0⟩ := hp
      exact ⟨⟨i1, i2, i3, i4, s1 _ _ e1, s1 _ _ e2, h0⟩, ⟨[], upd_same, .nil⟩, (fun z => by rw [z, e1] at hpn; cases hpn), (fun z => by rw [z, e2] at hpn; cases hpn), rfl⟩
    have old : ∀ a o, H a = some o → a ≠ p := fun a o e z => by rw [z, hpn] at e; cases e
    have rf1 := rf0.same s1
    generalize upd H p (.lst []) = H1 at s1 w1 rf1
    -- last
    refine seq_asg ?_
    refine ⟨_, rfl, _, rfl, ?_⟩
    refine evq (q := q) (r := r) (is := is) (δ := [.v (.ref q), .d (fm n cs), .no, .no]) w1.pool (fun W hq => v_callP hq rfl (A := fun ds => ds = [fm n cs, cl []]) (P := fun d => ∃ T, d = encT T ∧ RT n cs [] T ∧ dep T < 5) (a_cons (e_var rfl) (a_cons (e_tup a_nil) a_nil)) fun ds e => ⟨⟨n, cs, [], e, hQ, hcl, rfl, by simp at hfl; omega, hno⟩, fun d hd => hd n cs [] e⟩) (en_cons sl_v (en_cons (sl_d (Rp.nlw (N := No) nl_fm rf1)) (en_cons sl_no (en_cons sl_no en_nil)))) fun vt d H2 k2 p2 hT rt => ?_
    obtain ⟨T, rfl, hRT, hdep⟩ := hT
    obtain ⟨w2, q12⟩ := w1.keepq k2 p2
    have rf2 := w1.rp q12 nl_fm rf1
    refine evp (δ := [.v (.ref q), .d (fm n cs), .no, .no]) (P := fun d => d = cl []) (e_tup a_nil) (en_cons sl_v (en_cons (sl_d (rf2)) (en_cons sl_no (en_cons sl_no en_nil)))) fun vc d H3 s3 ed rc => ?_
    subst ed
    have hcost := cost_le T 4 (by omega)
    refine ⟨_, rfl, q, r, p, is, n, cs, [], vf, vt, vc, T, [], rfl, w2.same s3, rf2.same s3, rt.no.same s3, rc, hdep, hRT, rfl, hQ, by simp only [List.length_nil]; omega, fun H4 s2 lo u i c k4 w4 g4 l4 lq lp hlo rul hcc => ?_⟩
    have q14 : RW q p H1 H4 := q12.trans ((RW.of s3).trans k4)
    have rlo : ∀ {H'}, H' lo = some (.lst [.int i, u]) → Rp No H' u (cl c) → Rp No H' (.ref lo) (.list [.int i, cl c]) := fun e1 e2 => .lst (fun z => z) e1 (.cons (.int _) (.cons e2 .nil))
    have rloq : ∀ {H'}, H' lo = some (.lst [.int i, u]) → Rp No H' u (cl c) → Rp (fun a => a = q) H' (.ref lo) (.list [.int i, cl c]) := fun e1 e2 => .lst lq e1 (.cons (.int _) (.cons (Rp.nlw (nl_cl _) e2) .nil))
    rw [List.nil_append] at w4
    have rst : Rp (fun a => a = q) H4 (.ref p) (.list s2) := by
      obtain ⟨vs, e, rs⟩ := w4.st
      exact .lst w4.pq e (RpA.nl_keep (fun _ _ e => e) _ _ w4.nl rs)
    -- the end
    have fin : ∀ (o : Option V) (H5 : Hp) (s5 : List Pd), RW q p H1 H5 → Lw q r is p s5 H5 → (∀ e ∈ s5, goodE e) → s5.length ≤ 48 → tRet (tCB (rTp K) (tCons (tVar 2) tNil)) { nx := fun _ H' => Q .non H', rt := Q } [some (.ref q), some vf, some (.ref p), o] H5 := by
      intro o H5 s5 q15 w5 g5 l5
      refine evp (δ := [.v (.ref q), .no, .d (.list s5), .no]) (P := fun d => d = .tuple s5) (e_toT (e_var rfl)) (en_cons sl_v (en_cons sl_no (en_cons (sl_d (w5.steps)) (en_cons sl_no en_nil)))) fun v d H6 s6 ed rv => ?_
      subst ed
      refine k v _ H6 (fun a o n e => s6 _ _ (q15 a o n (old a o e) (s1 _ _ e))) (w5.same s6).pool ⟨s5, rfl, l5, g5⟩ (Rp.nlw ?_ rv)
      exact w5.nl
    refine evqT (q := q) (r := r) (is := is) (δ := [.v (.ref q), .no, .d (.list s2), .d (.list [.int i, cl c])]) w4.pool (fun W hq => vt_or (A := fun _ => True) ((t_test (e_neI (e_ixL (e_var rfl) e_int rfl) (e_opI (e_lenL (e_var rfl)) e_int))).mono fun _ _ => True.intro) (fun _ => vt_drawE (v_draw hq rfl e_int)) fun _ => True.intro) (en_cons sl_v (en_cons sl_no (en_cons (sl_d (rst)) (en_cons (sl_d (rloq hlo rul)) en_nil)))) fun b H5 k5 p5 _ => ?_
    obtain ⟨w5, q45⟩ := w4.keepq k5 p5
    have q15 := q14.trans q45
    cases b with
    | false => exact fin _ H5 s2 q15 w5 g4 (by omega)
    | true =>
    refine ifT (c := true) rfl ?_
    have hlo5 := q45 lo _ lq lp hlo
    have rul5 := w4.rp q45 (nl_cl _) rul
    obtain ⟨vs5, e5, rs5⟩ := w5.st
    refine ⟨_, rfl, .inl ⟨rfl, vs5, SqL.of e5⟩, ?_⟩
    refine evpA (δ := [.v (.ref q), .no, .v (.ref p), .d (.list [.int i, cl c])]) (P := fun ds => ds = [.tuple [.str "weaken", .int i, cl []]]) (a_cons (e_tup (a_cons e_str (a_cons (e_ixL (e_var rfl) e_int rfl) (a_cons (e_tup a_nil) a_nil))) (by simp)) a_nil) (en_cons sl_v (en_cons sl_no (en_cons sl_v (en_cons (sl_d (rlo hlo5 rul5)) en_nil)))) fun vs ds H6 s6 ed rs => ?_
    subst ed
    cases rs with
    | @cons ux _ _ _ ru rs =>
    cases rs
    have w6 := w5.same s6
    obtain ⟨vs6, e6, rs6⟩ := w6.st
    have lv6 := rs6.length
    have gw := good_wk (n := n) (c := []) (i := i) n4 ⟨by simp, fun l hl => by cases hl⟩
    refine ⟨p, vs6, ux, rfl, rfl, e6, Nat.lt_of_lt_of_le (show vs6.length < 100000 by omega) (by decide), ?_⟩
    obtain ⟨w7, k7⟩ := w6.push e6 rs6 ru gw.1
    exact fin _ _ _ (q15.trans ((RW.of s6).trans k7)) w7 (fun e he => by
      rcases List.mem_append.mp he with he | he
      · exact g4 e he
      · rw [List.mem_singleton.mp he]
        exact gw) (by rw [List.length_append, List.length_singleton]; omega)
end K19
end
section
set_option Elab.async false
set_option linter.all false
set_option maxRecDepth 100000
set_option maxHeartbeats 4000000
namespace K19
open PySem L2
local macro_rules | `(tactic| walk_at "ev1") => `(tactic| first
  | exact e_var rfl | exact e_int | exact e_bl | exact e_non | exact e_str | exact a_nil | exact t_yes
  | refine a_cons ?_ ?_
  | (refine e_un ?_ (u_neg rfl))
  | (refine e_op ?_ ?_ (o_bl rfl)) | (refine e_op ?_ ?_ (o_int rfl))
  | (refine e_op ?_ ?_ (o_eqI rfl)) | (refine e_op ?_ ?_ (o_neI rfl))
  | (refine t_test ?_) | (refine t_B ?_) | (refine t_not ?_) | (refine e_notV ?_)
  | (refine e_cb ?_ (c_abs rfl)) | (refine e_cb ?_ (c_int rfl)))
local macro_rules | `(tactic| walk_at "ev") => `(tactic| repeat' walk_at "ev1")
mutual
theorem Rp.det {N N' : Addr → Prop} {H : Hp} : ∀ (d : Pd) (v : V) (d' : Pd), Rp N H v d → Rp N' H v d' → d = d'
  | .none, _, _, h, h' => by cases h; cases h'; rfl
  | .bool _, _, _, h, h' => by cases h; cases h'; rfl
  | .int _, _, _, h, h' => by cases h; cases h'; rfl
  | .str _, _, _, h, h' => by cases h; cases h'; rfl
  | .dict _, _, _, h, _ => by cases h
  | .list ds, _, _, h, h' => by
    cases h with
    | lst hn ha hs =>
      cases h' with
      | lst hn' ha' hs' =>
        rw [ha] at ha'
        cases ha'
        rw [RpA.det ds _ _ hs hs']
      | tup ha' hs' =>
        rw [ha] at ha'
        cases ha'
  | .tuple ds, _, _, h, h' => by
    cases h with
    | tup ha hs =>
      cases h' with
      | lst hn' ha' hs' =>
        rw [ha] at ha'
        cases ha'
      | tup ha' hs' =>
        rw [ha] at ha'
        cases ha'
        rw [RpA.det ds _ _ hs hs']
theorem RpA.det {N N' : Addr → Prop} {H : Hp} : ∀ (d : List Pd) (v : List V) (d' : List Pd), RpA N H v d → RpA N' H v d' → d = d'
  | [], _, _, h, h' => by cases h; cases h'; rfl
  | d :: ds, _, _, h, h' => by
    cases h with
    | cons a b =>
      cases h' with
      | cons a' b' => rw [Rp.det d _ _ a a', RpA.det ds _ _ b b']
end
mutual
theorem Rp.avoid {N : Addr → Prop} {H : Hp} {p : Addr} {L : List Pd} (hp : Rp N H (.ref p) (.list L)) : ∀ (d : Pd) (v : V), sizeOf d < sizeOf (PyData.list L) → Rp N H v d → Rp (fun a => N a ∨ a = p) H v d
  | .none, _, _, h => by cases h; exact .non
  | .bool _, _, _, h => by cases h; exact .bl _
  | .int _, _, _, h => by cases h; exact .int _
  | .str _, _, _, h => by cases h; exact .str _
  | .dict _, _, _, h => by cases h
  | .list ds, _, hs, h => by
    cases h with
    | lst hn ha hr =>
      refine .lst (fun z => z.elim hn fun e => ?_) ha (RpA.avoid hp ds _ (by simp only [PyData.list.sizeOf_spec] at hs ⊢; omega) hr)
      subst e
      have e2 := Rp.det _ _ _ (Rp.lst hn ha hr) hp
      rw [e2] at hs
      exact Nat.lt_irrefl _ hs
  | .tuple ds, _, hs, h => by
    cases h with
    | tup ha hr => exact .tup ha (RpA.avoid hp ds _ (by simp only [PyData.tuple.sizeOf_spec] at hs; omega) hr)
theorem RpA.avoid {N : Addr → Prop} {H : Hp} {p : Addr} {L : List Pd} (hp : Rp N H (.ref p) (.list L)) : ∀ (d : List Pd) (v : List V), sizeOf d < sizeOf (PyData.list L) → RpA N H v d → RpA (fun a => N a ∨ a = p) H v d
  | [], _, _, h => by cases h; exact .nil
  | d :: ds, _, hs, h => by
    cases h with
    | cons a b =>
      simp only [List.cons.sizeOf_spec] at hs
      exact .cons (Rp.avoid hp d _ (by omega) a) (RpA.avoid hp ds _ (by omega) b)
end
section
variable {q r : Addr} {is : List Int} {H : Hp}
theorem smqs {t u : TS} {δ : Dn} {Nx : Dn → Prop} {σ : Sl} {D : Ends} (hp : Pool q r is H) (en : En (fun a => a = q) H σ δ) (h : ∀ W, HasPool W q r is → Sm W t δ Nx (fun _ => False)) (k : ∀ σ' δ' H', Pool q r is H' → Nx δ' → En (fun a => a = q) H' σ' δ' → u D σ' H') : tSeq t u D σ H :=
  h (poolW (fun a => a = q) H q r is (fun a e => by
    obtain ⟨_, _, _, _, e1, _⟩ := hp
    rw [e, e1]
    exact fun z => nomatch z) rfl hp) poolW_pool H σ ⟨fun _ _ _ e => e, hp⟩ en { D with nx := u D } (fun σ' δ' H' _ g m e => k σ' δ' H' g.2 m e) fun _ _ _ _ _ z _ => z.elim
theorem smqT {t : TT} {δ : Dn} {P : Bool → Prop} {σ : Sl} {Q : Bool → Hp → Prop} (hp : Pool q r is H) (en : En (fun a => a = q) H σ δ) (h : ∀ W, HasPool W q r is → EvT W t δ P) (k : ∀ b H', Pool q r is H' → P b → En (fun a => a = q) H' σ δ → Q b H') : t σ H Q := by
  have hl : ∀ a, a = q → H a ≠ none := fun a e => by
    obtain ⟨_, _, _, _, e1, _⟩ := hp
    rw [e, e1]
    exact fun z => nomatch z
  have g0 : (poolW (fun a => a = q) H q r is hl rfl hp).G H := ⟨fun _ _ _ e => e, hp⟩
  exact h (poolW (fun a => a = q) H q r is hl rfl hp) poolW_pool H σ g0 en Q fun b H' r1 g p => k b H' g.2 p (en.go (W := poolW (fun a => a = q) H q r is hl rfl hp) g0 r1)
theorem smqA {ta : TA} {δ : Dn} {P : List Pd → Prop} {σ : Sl} {Q : List V → Hp → Prop} (hp : Pool q r is H) (en : En (fun a => a = q) H σ δ) (h : ∀ W, HasPool W q r is → EvA W ta δ P) (k : ∀ vs ds H', Pool q r is H' → P ds → En (fun a => a = q) H' σ δ → RpA (fun a => a = q) H' vs ds → Q vs H') : ta σ H Q := by
  have hl : ∀ a, a = q → H a ≠ none := fun a e => by
    obtain ⟨_, _, _, _, e1, _⟩ := hp
    rw [e, e1]
    exact fun z => nomatch z
  have g0 : (poolW (fun a => a = q) H q r is hl rfl hp).G H := ⟨fun _ _ _ e => e, hp⟩
  exact h (poolW (fun a => a = q) H q r is hl rfl hp) poolW_pool H σ g0 en Q fun vs ds H' r1 g p s => k vs ds H' g.2 p (en.go (W := poolW (fun a => a = q) H q r is hl rfl hp) g0 r1) s
end
theorem va_nil {W : Wd} {δ : Dn} : EvA W tNil δ (fun ds => ds.length = 0 ∧ ∀ d ∈ ds, okV d) := EvA.mono a_nil fun ds e => by
  subst e
  exact ⟨rfl, fun d hd => nomatch hd⟩
theorem va_all {W : Wd} {δ : Dn} {te : TE} {tr : TA} {k : Nat} (h : Ev W te δ okV) (hr : EvA W tr δ (fun ds => ds.length = k ∧ ∀ d ∈ ds, okV d)) : EvA W (tCons te tr) δ (fun ds => ds.length = k + 1 ∧ ∀ d ∈ ds, okV d) :=
  va_cons (A := okV) (B := fun _ ds => ds.length = k ∧ ∀ d ∈ ds, okV d) h (fun _ _ => hr) fun d ds h1 ⟨h2, h3⟩ => ⟨by rw [List.length_cons, h2], fun x hx => by
    rcases List.mem_cons.mp hx with rfl | hx
    · exact h1
    · exact h3 x hx⟩
theorem okV_two {a b : Pd} (ha : okD 21 a = true) (hb : okD 21 b = true) : okV (.tuple [a, b]) := okD_tup (by simp) fun d hd => by
  rcases List.mem_cons.mp hd with rfl | hd
  · exact ha
  · rw [List.mem_singleton.mp hd]
    exact hb
theorem okB_tup {m : Nat} {ds : List Pd} (hl : ds.length ≤ 40) (h : ∀ d ∈ ds, okB m d = true) : okB (m + 1) (.tuple ds) = true := by
  show (decide (ds.length ≤ 40) && ds.all (okB m)) = true
  rw [decide_eq_true hl, List.all_eq_true.mpr h]
  rfl
theorem okB_cl {n : Int} {c : C} {m : Nat} (hn : n ≤ 4) (h : goodC n c = true) : okB (m + 2) (cl c) = true := by
  have hl := good_len hn h
  refine okB_tup (by rw [List.length_map]; omega) fun d hd => ?_
  obtain ⟨i, _, rfl⟩ := List.mem_map.mp hd
  rfl
theorem okB_encS {m : Nat} : ∀ s : Sx, okB (m + 2) (encS s) = true
  | .ax k => okB_tup (by simp) fun d hd => by
    rcases List.mem_cons.mp hd with rfl | hd
    · show PyData.canLay0 (.str "axiom") = true
      decide +kernel
    · rw [List.mem_singleton.mp hd]
      rfl
  | .rs a b v => okB_tup (by simp) fun d hd => by
    rcases List.mem_cons.mp hd with rfl | hd
    · show PyData.canLay0 (.str "resolve") = true
      decide +kernel
    rcases List.mem_cons.mp hd with rfl | hd
    · rfl
    rcases List.mem_cons.mp hd with rfl | hd
    · rfl
    · rw [List.mem_singleton.mp hd]
      rfl
theorem solP_pair {n : Int} {cs : List C} {t x : Pd} : solP n cs (.tuple [t, x]) = if isS "model" t then (match clOf n x with
    | some c => isMod n cs c
    | none => false) else isS "refutation" t && refP n cs x := rfl
/-- what solve tells -/
def toldF (n : Int) (cs : List C) (told mo : Pd) : Prop := ∃ (s : Str) (x : Pd), told = .tuple [.str s, x] ∧ (s = "model" ∨ s = "refutation") ∧ (∀ m, okB (m + 4) x = true) ∧ solP n cs told = true ∧ isS "model" (.str s) = !isN mo ∧ (isN mo = true → ∀ w, ¬ Mdl n cs w)
theorem toldF_of {n : Int} {cs : List C} (hQ : okQ n cs) {told mo : Pd} (ht : told_ok n cs told) (hm : (∃ c, mo = cl c ∧ Mdl n cs c) ∨ (mo = .none ∧ ∀ c, ¬ Mdl n cs c)) : toldF n cs told mo := by
  rcases ht with ⟨c, rfl, hc⟩ | ⟨d, rfl, hg, hno⟩
  · refine ⟨"model", _, rfl, .inl rfl, fun m => okB_cl (m := m + 2) hQ.2.1 hc.1, ?_, ?_, ?_⟩
    · obtain ⟨h1, h2, h3⟩ := hc
      rw [solP_pair, show isS "model" (.str "model") = true by decide +kernel, if_pos rfl, clOf_cl, if_pos h1]
      show (decide ((c.length : Int) = n) && cs.all fun e => sat c e) = true
      rw [decide_eq_true h2, Bool.true_and, List.all_eq_true]
      intro e he
      have := fals_sat h1 h2 (hQ.2.2 e he)
      rw [h3 e he] at this
      cases q : sat c e with
      | true => rfl
      | false =>
        rw [q] at this
        cases this
    · rcases hm with ⟨c', rfl, _⟩ | ⟨_, h⟩
      · show isS "model" (.str "model") = true
        decide +kernel
      · exact absurd hc (h c)
    · intro h
      rcases hm with ⟨c', rfl, _⟩ | ⟨_, h2⟩
      · cases h
      · exact h2
  · have no : ∀ w, ¬ Mdl n cs w := fun w ⟨h1, h2, h3⟩ => by
      obtain ⟨e, he, hf⟩ := hno w h1 h2
      rw [h3 e he] at hf
      cases hf
    obtain ⟨ss, ks, rfl, h2, h3, h4, h5⟩ := hg
    have hne : ss.map encS ≠ [] := fun z => h5 (List.map_eq_nil_iff.mp z)
    refine ⟨"refutation", _, rfl, .inr rfl, fun m => okB_tup (m := m + 3) (by rw [List.length_map]; exact h4) fun d hd => ?_, ?_, ?_, fun _ => no⟩
    · obtain ⟨s, _, rfl⟩ := List.mem_map.mp hd
      exact okB_encS s
    · rw [solP_pair, show isS "model" (.str "refutation") = false by decide +kernel, if_neg (by decide), show isS "refutation" (.str "refutation") = true by decide +kernel, refP_eq hne, h2]
      simp [h3]
    · rcases hm with ⟨c', rfl, h⟩ | ⟨rfl, _⟩
      · exact absurd h (no c')
      · show isS "model" (.str "refutation") = false
        decide +kernel
theorem nlA_all : ∀ {es : List Pd}, (∀ e ∈ es, goodE e) → nlA es = true
  | [], _ => rfl
  | e :: es, h => by
    have h1 := (h e (List.mem_cons_self ..)).1
    have h2 := nlA_all fun x hx => h x (List.mem_cons_of_mem _ hx)
    show (nl e && nlA es) = true
    rw [h1, h2]
    rfl
theorem okQ_F {n : Int} {cs : List C} (h : okQ n cs) : okF n cs := ⟨h.2.1, fun c hc => cN_cB h.2.1 (good_cN (h.2.2 c hc))⟩
theorem law_loop {W : Wd} {K : PySem.W.Frag} {n : Int} {cs : List C} (hQ : okQ n cs) (hl : cs.length ≤ 1000) {ds : List Pd} (hd : ∀ d ∈ ds, okV d) : Sm W (tSeq (tFor (iList K (tVar 5)) (gName 7) (tIfS (tNot (tB (tCall sp__law_same [] C8.E0 (tCons (tCall sp_is_solved [] C8.E0 (tCons (tVar 2) (tCons (tVar 7) tNil))) (tCons (tCall sp__law_right [] C8.E0 (tCons (tVar 2) (tCons (tVar 7) tNil))) tNil))))) (tRet (tC (.bl false))) tNext)) (tRet (tC (.bl true))))
    [.no, .no, .d (fm n cs), .no, .no, .d (.list ds), .no, .no] (fun _ => False) (fun r => r = .bool true) :=
  sm_seq (Mid := fun _ => True) (sm_for (i_lst (e_var rfl)) (fun _ δ' => ∃ k, δ' = [.no, .no, .d (fm n cs), .no, .no, .d (.list ds), .no, k]) ⟨_, rfl⟩ (fun i x δ' hx ⟨k, e⟩ => by
    subst e
    have ov := hd x (List.mem_of_getElem? hx)
    refine sm_if (b := false) ((t_not (t_B (u__law_same (a_cons (u_is_solved (a_cons (e_var rfl) (a_cons (e_var rfl) a_nil)) (okQ_F hQ) hl ov) (a_cons (u__law_right (a_cons (e_var rfl) (a_cons (e_var rfl) a_nil)) hQ hl ov) a_nil))))).is (by simp)) (fun z => nomatch z) fun _ => sm_next ⟨_, rfl⟩) fun _ _ => True.intro) fun _ _ => sm_ret e_bl
theorem en_pick {σ : Sl} {H : Hp} {a b : Pd} (hlen : σ.length = 8) (h2 : ∃ v, σ[2]? = some (some v) ∧ Rp No H v a) (h5 : ∃ v, σ[5]? = some (some v) ∧ Rp No H v b) : En No H σ [.no, .no, .d a, .no, .no, .d b, .no, .no] := ⟨hlen, fun i k e => by
  have t : ∀ j, j < 8 → ∃ o, σ[j]? = some o ∧ Slot No H o .no := fun j hj => ⟨_, List.getElem?_eq_getElem (by omega), True.intro⟩
  match i, e with
  | 0, e => cases e; exact t 0 (by omega)
  | 1, e => cases e; exact t 1 (by omega)
  | 2, e => cases e; obtain ⟨v, e, h⟩ := h2; exact ⟨_, e, v, rfl, h⟩
  | 3, e => cases e; exact t 3 (by omega)
  | 4, e => cases e; exact t 4 (by omega)
  | 5, e => cases e; obtain ⟨v, e, h⟩ := h5; exact ⟨_, e, v, rfl, h⟩
  | 6, e => cases e; exact t 6 (by omega)
  | 7, e => cases e; exact t 7 (by omega)
  | n + 8, e => cases e⟩
theorem fn_any {P : Program} {w : World} {K : PySem.W.Frag} {mg : Str → Option Value} {base : Heap} {x : Str} {st : Stmt} {N ps : List Str} {k : Nat} {sp : Sp} {f : Addr} {fd : FuncData} (F : FunD K x x (defArgs st) (defBody st) (defScope st) [] [] f fd) (S : FnScope N ps (defScope st)) (len : ∀ vs H Q E, sp vs H Q E → vs.length = ps.length)
    (hbody : ∀ (f : Addr) (cdv : Value) (A : Around) (outer : List Env) (s : Shared) (H : Hp) (E : XK), Room k (A.deeper (PyProof.Rows.envOfC x (defScope st) s.heap.objs.size f cdv)) →
      ∃ t, PSs (cxOf CX0 P w K mg base N x (defScope st) f cdv A outer s H E).nox (defBody st) t ∧ ∀ vs Q, sp vs H Q E → t { nx := fun _ H' => Q .non H', rt := Q } (L2.start N vs) H) : FnOk P w K mg base CX0 (k + 1) f fd ps sp := F.ok S len fun cdv A outer s H vs Q E hr h => by
  obtain ⟨t, h1, h2⟩ := hbody f cdv A outer s H E hr
  exact ⟨t, PSs.nox h1, h2 vs Q h⟩
def spLaw (K : PySem.W.Frag) : Sp := fun vs H Q _ => ∃ (a : Addr) (ns : List Int), vs = [.ref a] ∧ ns.length ≤ 63 ∧ SqL K H a (ns.map V.int) ∧ ∀ H', Q (.bl true) H'
/-! ### law -/
abbrev N_law : List Str := ["_law_script", "_law_pool_here", "_law_formula", "_law_told", "_law_model_here", "_law_values", "_law_turn", "_law_value"]
theorem sc_law : FnScope N_law ["_law_script"] (defScope s_law) := ⟨rfl, rfl, rfl, by decide +kernel, rfl, by decide +kernel, by decide +kernel⟩
theorem ok_law {P : Program} {w : World} {K : PySem.W.Frag} {mg : Str → Option Value} {base : Heap} (B : Bl mg) {f : Addr} {fd : FuncData} (F : FunD K "law" "law" (defArgs s_law) (defBody s_law) (defScope s_law) [] [] f fd) (c__law_bent : C8.Cal P w K mg base (2 + 5) "_law_bent" (sp_bentM 5) []) (c__law_draw : C8.Cal P w K mg base 2 "_law_draw" sp__law_draw []) (c__law_drawn_formula : C8.Cal P w K mg base 4 "_law_drawn_formula" sp__law_drawn_formula []) (c__law_false_formula : C8.Cal P w K mg base 5 "_law_false_formula" sp__law_false_formula []) (c__law_model : C8.Cal P w K mg base 4 "_law_model" sp__law_model []) (c__law_pool : C8.Cal P w K mg base 1 "_law_pool" (spPool K) []) (c__law_right : C8.Cal P w K mg base 6 "_law_right" sp__law_right []) (c__law_same : C8.Cal P w K mg base 1 "_law_same" sp__law_same []) (c__law_some_clause : C8.Cal P w K mg base 3 "_law_some_clause" sp__law_some_clause []) (c__law_some_steps : C8.Cal P w K mg base 9 "_law_some_steps" sp__law_some_steps []) (c_is_solved : C8.Cal P w K mg base 8 "is_solved" sp_is_solved []) (c_solve : C8.Cal P w K mg base 14 "solve" sp_solve []) : FnOk P w K mg base CX0 15 f fd ["_law_script"] (spLaw K) := by
  refine fn_any F sc_law (fun vs H Q E h => ?_) fun fa cdv A outer s H E hr => ⟨_, (pss_cons (ps_set (i := 1) sc_law.nd rfl (Or.inl rfl) (C8.pe_c c__law_pool hr (by first | decide | omega) rfl (pa_cons (pv 0 rfl (Or.inl rfl)) pa_nil)))
    (pss_cons (ps_set (i := 2) sc_law.nd rfl (Or.inl rfl) (pe_ifExp (pt_cmpR op_eq (C8.pe_c c__law_draw hr (by first | decide | omega) rfl (pa_cons (pv 1 rfl (Or.inl rfl)) (pa_cons pe_int pa_nil))) pe_int (nomark _)) (C8.pe_c c__law_drawn_formula hr (by first | decide | omega) rfl (pa_cons (pv 1 rfl (Or.inl rfl)) (pa_cons pe_int pa_nil))) (C8.pe_c c__law_false_formula hr (by first | decide | omega) rfl (pa_cons (pv 1 rfl (Or.inl rfl)) (pa_cons pe_int pa_nil)))))
    (pss_cons (ps_set (i := 3) sc_law.nd rfl (Or.inl rfl) (C8.pe_c c_solve hr (by first | decide | omega) rfl (pa_cons (pv 2 rfl (Or.inl rfl)) pa_nil)))
    (pss_cons (ps_set (i := 4) sc_law.nd rfl (Or.inl rfl) (C8.pe_c c__law_model hr (by first | decide | omega) rfl (pa_cons (pv 2 rfl (Or.inl rfl)) pa_nil)))
    (pss_cons (ps_if (PW.pt (pw_or (pt_not (pt_val (C8.pe_c c__law_right hr (by first | decide | omega) rfl (pa_cons (pv 2 rfl (Or.inl rfl)) (pa_cons (pv 3 rfl (Or.inl rfl)) pa_nil))))) (pw_or1 (pt_cmpR op_ne (pe_cmpR (r := rEqD K) (op_eqD hr.units) (pe_ix (r := rIx K) ix_seq (pv 3 rfl (Or.inl rfl)) pe_int (fun _ _ => rfl)) pe_str (nomark _)) (pe_cmpR op_notN (pv 4 rfl (Or.inl rfl)) pe_non (nomark _)) (nomark _))))) (pss_one (ps_ret pe_bl)) pss_nil)
    (pss_cons (ps_set (i := 5) sc_law.nd rfl (Or.inl rfl) (pe_lst (pa_cons (pv 3 rfl (Or.inl rfl)) (pa_cons (pe_tup (pa_cons pe_str (pa_cons (pe_ix (r := rIx K) ix_seq (pv 3 rfl (Or.inl rfl)) pe_int (fun _ _ => rfl)) pa_nil))) (pa_cons (pe_tup (pa_cons pe_str (pa_cons (pe_ix (r := rIx K) ix_seq (pv 3 rfl (Or.inl rfl)) pe_int (fun _ _ => rfl)) pa_nil))) (pa_cons (pe_tup (pa_cons pe_str (pa_cons (pe_tup pa_nil) pa_nil))) (pa_cons (pe_tup (pa_cons pe_str (pa_cons (pe_tup pa_nil) pa_nil))) pa_nil)))))))
    (pss_cons (ps_for PassesOwn.never rfl (pi_range1 rfl B.range_ (pa_cons pe_int pa_nil)) (pg_name (i := 6) sc_law.nd rfl (Or.inl rfl)) (pss_one (ps_set (i := 5) sc_law.nd rfl (Or.inl rfl) (pe_op op_cat (pv 5 rfl (Or.inl rfl)) (pe_lst (pa_cons (C8.pe_c c__law_bent hr (by first | decide | omega) rfl (pa_cons (pv 1 rfl (Or.inl rfl)) (pa_cons (pv 3 rfl (Or.inl rfl)) pa_nil))) (pa_cons (pe_tup (pa_cons (pe_ix (r := rIx K) ix_seq (pv 3 rfl (Or.inl rfl)) pe_int (fun _ _ => rfl)) (pa_cons (C8.pe_c c__law_bent hr (by first | decide | omega) rfl (pa_cons (pv 1 rfl (Or.inl rfl)) (pa_cons (pe_ix (r := rIx K) ix_seq (pv 3 rfl (Or.inl rfl)) pe_int (fun _ _ => rfl)) pa_nil))) pa_nil))) (pa_cons (pe_tup (pa_cons pe_str (pa_cons (C8.pe_c c__law_some_clause hr (by first | decide | omega) rfl (pa_cons (pv 1 rfl (Or.inl rfl)) (pa_cons (pe_ix (r := rIx K) ix_seq (pv 2 rfl (Or.inl rfl)) pe_int (fun _ _ => rfl)) (pa_cons pe_int pa_nil)))) pa_nil))) pa_nil))))))))
    (pss_cons (ps_if (pt_cmpR op_isN (pv 4 rfl (Or.inl rfl)) pe_non (nomark _)) (pss_one (ps_expr (pe_bm PySem.F.plainAttrs_list PySem.F.slot_list_append PySem.F.type_list_append mt_append (pv 5 rfl (Or.inl rfl)) (pa_cons (pe_tup (pa_cons pe_str (pa_cons (C8.pe_c c__law_some_steps hr (by first | decide | omega) rfl (pa_cons (pv 1 rfl (Or.inl rfl)) (pa_cons (pv 2 rfl (Or.inl rfl)) pa_nil))) pa_nil))) pa_nil)))) pss_nil)
    (pss_cons (ps_for PassesOwn.never rfl (pi_list (pv 5 rfl (Or.inl rfl))) (pg_name (i := 7) sc_law.nd rfl (Or.inl rfl)) (pss_one (ps_if (pt_not (pt_val (C8.pe_c c__law_same hr (by first | decide | omega) rfl (pa_cons (C8.pe_c c_is_solved hr (by first | decide | omega) rfl (pa_cons (pv 2 rfl (Or.inl rfl)) (pa_cons (pv 7 rfl (Or.inl rfl)) pa_nil))) (pa_cons (C8.pe_c c__law_right hr (by first | decide | omega) rfl (pa_cons (pv 2 rfl (Or.inl rfl)) (pa_cons (pv 7 rfl (Or.inl rfl)) pa_nil))) pa_nil))))) (pss_one (ps_ret pe_bl)) pss_nil)))
    (pss_one (ps_ret pe_bl))))))))))), fun vs Q h => ?_⟩
  · obtain ⟨_, _, rfl, _⟩ := h
    rfl
  · obtain ⟨a, is, rfl, hl63, hS, kQ⟩ := h
    refine seq_asg ?_
    refine ⟨_, rfl, a, is, rfl, hS, by omega, fun q r H1 _ _ _ hp => ?_⟩
    have en : En (fun a => a = q) H1 [some (.ref a), some (.ref q), none, none, none, none, none, none] [.v (.ref a), .v (.ref q), .no, .no, .no, .no, .no, .no] := (en_cons sl_v (en_cons sl_v (en_cons sl_no (en_cons sl_no (en_cons sl_no (en_cons sl_no (en_cons sl_no (en_cons sl_no en_nil))))))))
    dsimp only
    -- formula
    refine smqs (Nx := fun δ' => ∃ (n : Int) (cs : List C), δ' = [.v (.ref a), .v (.ref q), .d (fm n cs), .no, .no, .no, .no, .no] ∧ 1 ≤ n ∧ n ≤ 4 ∧ (∀ c ∈ cs, goodC n c = true) ∧ cs.length ≤ 22) hp en (fun W hq => sm_asgP (A := fun d => ∃ (n : Int) (cs : List C), d = fm n cs ∧ 1 ≤ n ∧ n ≤ 4 ∧ (∀ c ∈ cs, goodC n c = true) ∧ cs.length ≤ 22) (v_if (vt_drawE (v_draw hq rfl e_int)) (fun _ => v_callP hq rfl (A := fun ds => ds = [.int 4]) (a_cons e_int a_nil) fun ds e => ⟨⟨4, e, by omega, by omega⟩, fun d hd => ?_⟩) fun _ => v_callP hq rfl (A := fun ds => ds = [.int 4]) (a_cons e_int a_nil) fun ds e => ⟨⟨4, e, by omega, by omega⟩, fun d hd => hd 4 e⟩) fun d ⟨n, cs, e, h⟩ => ⟨n, cs, by rw [e]; rfl, h⟩) fun σ δ H2 hp ⟨n, cs, e, n1, n4, hg, hc⟩ en => ?_
    · obtain ⟨n, cs, e1, e2, e3, e4, e5⟩ := hd 4 e
      exact ⟨n, cs, e1, e2, e3, e4, by omega⟩
    subst e
    obtain ⟨k, rfl⟩ : ∃ k : Nat, n = k := ⟨n.toNat, by omega⟩
    have hQ : okQ (k : Nat) cs := ⟨by omega, n4, hg⟩
    -- told
    refine smqs (Nx := fun δ' => ∃ told, δ' = [.v (.ref a), .v (.ref q), .d (fm (k : Nat) cs), .d told, .no, .no, .no, .no] ∧ told_ok (k : Nat) cs told) hp en (fun W hq => sm_asgP (u_solve (a_cons (e_var rfl) a_nil) hQ) fun d h => ⟨d, rfl, h⟩) fun σ δ H3 hp ⟨told, e, ht⟩ en => ?_
    subst e
    -- model
    refine smqs (Nx := fun δ' => ∃ mo, δ' = [.v (.ref a), .v (.ref q), .d (fm (k : Nat) cs), .d told, .d mo, .no, .no, .no] ∧ ((∃ c, mo = cl c ∧ Mdl (k : Nat) cs c) ∨ (mo = .none ∧ ∀ c, ¬ Mdl (k : Nat) cs c))) hp en (fun W hq => sm_asgP (u__law_model (a_cons (e_var rfl) a_nil) (by omega) (by omega) fun e he => by have := good_len n4 (hg e he); omega) fun d h => ⟨d, rfl, h⟩) fun σ δ H4 hp ⟨mo, e, hm⟩ en => ?_
    subst e
    obtain ⟨s, x, rfl, hs, hx, hsol, hmo, hno⟩ := toldF_of hQ ht hm
    have hsl : okD 21 (.str s) = true ∧ SeqAt.shaped (.str s) = true ∧ okB 4 (.str s) = true := by
      rcases hs with rfl | rfl
      · exact ⟨by show PyData.canLay0 (.str "model") = true; decide +kernel, by decide +kernel, by show PyData.canLay0 (.str "model") = true; decide +kernel⟩
      · exact ⟨by show PyData.canLay0 (.str "refutation") = true; decide +kernel, by decide +kernel, by show PyData.canLay0 (.str "refutation") = true; decide +kernel⟩
    have hB : okB 5 (.tuple [.str s, x]) = true := okB_tup (by simp) fun d hd => by
      rcases List.mem_cons.mp hd with rfl | hd
      · exact hsl.2.2
      · rw [List.mem_singleton.mp hd]
        exact hx 0
    have hxD : okD 21 x = true := okD_mono (okB_D (hx 0)).1 (by omega)
    have hsM : okD 21 (.str "model") = true := by show PyData.canLay0 (.str "model") = true; decide +kernel
    have hsR : okD 21 (.str "refutation") = true := by show PyData.canLay0 (.str "refutation") = true; decide +kernel
    -- the check
    refine smqs (Nx := fun δ' => δ' = [.v (.ref a), .v (.ref q), .d (fm (k : Nat) cs), .d (.tuple [.str s, x]), .d mo, .no, .no, .no]) hp en (fun W hq => sm_if (b := false) ((t_or (t_not (t_B (u__law_right (a_cons (e_var rfl) (a_cons (e_var rfl) a_nil)) hQ (by omega) (okV_two hsl.1 hxD)))) fun _ => t_test (e_neB (e_eqD (e_ixT (e_var rfl) e_int rfl) e_str hsl.2.1 (by decide +kernel)) (e_notN (e_var rfl)))).is (by rw [hsol, eqv_str, hmo]; simp)) (fun z => nomatch z) fun _ => sm_next rfl) fun σ δ H5 hp e en => ?_
    subst e
    -- the values
    refine smqs (Nx := fun δ' => ∃ ds, δ' = [.v (.ref a), .v (.ref q), .d (fm (k : Nat) cs), .d (.tuple [.str s, x]), .d mo, .d (.list ds), .no, .no] ∧ ds.length = 5 ∧ ∀ d ∈ ds, okV d) hp en (fun W hq => sm_asgP (A := fun d => ∃ ds, d = .list ds ∧ ds.length = 5 ∧ ∀ d ∈ ds, okV d) (v_lst (va_all ((e_var rfl).mono fun d e => ?_) (va_all ((e_tup (a_cons e_str (a_cons (e_ixT (e_var rfl) e_int rfl) a_nil)) (by simp)).mono fun d e => ?_) (va_all ((e_tup (a_cons e_str (a_cons (e_ixT (e_var rfl) e_int rfl) a_nil)) (by simp)).mono fun d e => ?_) (va_all ((e_tup (a_cons e_str (a_cons (e_tup a_nil) a_nil)) (by simp)).mono fun d e => ?_) (va_all ((e_tup (a_cons e_str (a_cons (e_tup a_nil) a_nil)) (by simp)).mono fun d e => ?_) va_nil))))) fun ds h => ⟨by omega, ds, rfl, h⟩) fun d ⟨ds, e, h⟩ => ⟨ds, by rw [e]; rfl, h⟩) fun σ δ H6 hp ⟨ds, e, hlen, hds⟩ en => ?_
    · subst e
      exact okV_two hsl.1 hxD
    · subst e
      exact okV_two hsM hxD
    · subst e
      exact okV_two hsR hxD
    · subst e
      exact okV_two hsM rfl
    · subst e
      exact okV_two hsR rfl
    subst e
    -- four turns
    refine smqs (Nx := fun δ' => ∃ ds k6, δ' = [.v (.ref a), .v (.ref q), .d (fm (k : Nat) cs), .d (.tuple [.str s, x]), .d mo, .d (.list ds), k6, .no] ∧ ds.length ≤ 17 ∧ ∀ d ∈ ds, okV d) hp en (fun W hq => sm_for (i_rg1 (a_cons e_int a_nil) (by decide) (by decide)) (fun i δ' => ∃ ds k6, δ' = [.v (.ref a), .v (.ref q), .d (fm (k : Nat) cs), .d (.tuple [.str s, x]), .d mo, .d (.list ds), k6, .no] ∧ ds.length = 5 + 3 * i ∧ ∀ d ∈ ds, okV d) ⟨ds, _, rfl, hlen, hds⟩ (fun i y δ' hy ⟨ds, k6, e, hlen, hds⟩ => ?_) fun δ' ⟨ds, k6, e, hlen, hds⟩ => ⟨ds, k6, e, by simp [rgV] at hlen; omega, hds⟩) fun σ δ H7 hp ⟨ds, k6, e, hlen, hds⟩ en => ?_
    · subst e
      have hi := (List.getElem?_eq_some_iff.mp hy).1
      have hi4 : i < 4 := by simpa [rgV] using hi
      refine sm_asgP (A := fun d => ∃ es, d = .list es ∧ es.length = 5 + 3 * (i + 1) ∧ ∀ d ∈ es, okV d) (v_op (A := fun d => d = .list ds) (B := fun d => ∃ es, d = .list es ∧ es.length = 3 ∧ ∀ e ∈ es, okV e) (e_var rfl) (fun _ _ => v_lst (va_all (v_callP hq rfl (A := fun ds => ds = [.tuple [.str s, x]]) (a_cons (e_var rfl) a_nil) fun ds e => ⟨⟨_, e, hB⟩, fun d hd => okD_mono hd (by omega)⟩) (va_all (v_tup (va_cons (A := fun d => d = .str s) (B := fun _ ds => ∃ r, ds = [r] ∧ okD 6 r = true) (Pl := fun ds => ∃ r, ds = [.str s, r] ∧ okD 6 r = true) (e_ixT (e_var rfl) e_int rfl) (fun _ _ => v_one (v_callP hq rfl (A := fun ds => ds = [x]) (a_cons (e_ixT (e_var rfl) e_int rfl) a_nil) fun ds e => ⟨⟨_, e, hx 1⟩, fun d hd => hd⟩)) fun d ds e ⟨r, e2, h⟩ => ⟨r, by rw [e, e2], h⟩) fun ds ⟨r, e, h⟩ => ?_) (va_all (v_tup (va_cons (A := fun d => d = .str "model") (B := fun _ ds => ∃ r, ds = [r] ∧ ∃ c, r = cl c ∧ goodC (k : Nat) c = true) (Pl := fun ds => ∃ c, ds = [.str "model", cl c] ∧ goodC (k : Nat) c = true) e_str (fun _ _ => v_one (v_callP hq rfl (A := fun ds => ds = [.int (k : Nat), .int 5]) (a_cons (e_ixT (e_var rfl) e_int rfl) (a_cons e_int a_nil)) fun ds e => ⟨⟨_, _, e, ⟨by omega, by omega⟩, by omega, by omega⟩, fun d hd => hd _ _ e⟩)) fun d ds e ⟨r, e2, c, e3, h⟩ => ⟨c, by rw [e, e2, e3], h⟩) fun ds ⟨c, e, h⟩ => ?_) va_nil))) fun ds h => ⟨by omega, ds, rfl, h⟩) fun a b ea ⟨es, eb, l, h⟩ => ?_) fun d ⟨es, e, h⟩ => ⟨es, .d y, by rw [e]; rfl, h⟩
      · subst e
        exact ⟨by simp, okV_two hsl.1 (okD_mono h (by omega))⟩
      · subst e
        exact ⟨by simp, okV_two hsM (okD_cl (m := 20) n4 (good_cN h))⟩
      · subst ea eb
        exact o_cat (by omega) ⟨_, rfl, by rw [List.length_append]; omega, fun e he => (List.mem_append.mp he).elim (hds e) (h e)⟩
    subst e
    -- the last loop
    have fin : ∀ (H' : Hp) (es : List Pd), (∃ v, σ[2]? = some (some v) ∧ Rp No H' v (fm (k : Nat) cs)) → (∃ v, σ[5]? = some (some v) ∧ Rp No H' v (.list es)) → (∀ d ∈ es, okV d) → _ := fun H' es h2 h5 hes => sm_go (W := pureW No H' fun _ z => z.elim) (Q := Q) (fun _ _ e => e) (en_pick (by rw [en.len]; rfl) h2 h5) (law_loop (K := K) hQ (by omega) hes) fun v d H'' _ _ ed rv => by
      subst ed
      cases rv
      exact kQ _
    refine smqT (P := fun b => b = isN mo) hp en (fun W hq => (t_test (e_isN (e_var rfl)))) fun b H8 hp eb en => ?_
    cases hb : isN mo with
    | false =>
      rw [eb, hb]
      obtain ⟨v2, e2, r2⟩ := en.getD (i := 2) rfl
      obtain ⟨v5, e5, r5⟩ := en.getD (i := 5) rfl
      exact fin H8 ds ⟨v2, e2, r2.no⟩ ⟨v5, e5, r5.no⟩ hds
    | true =>
    rw [eb, hb]
    refine ifT (c := true) rfl ?_
    obtain ⟨v5, e5, r5⟩ := en.getD (i := 5) rfl
    cases r5 with
    | @lst p xs _ hnp hxs rxs =>
    refine ⟨_, e5, .inl ⟨rfl, xs, SqL.of hxs⟩, ?_⟩
    refine smqA (P := fun ds => ∃ es, ds = [.tuple [.str "refutation", .tuple es]] ∧ es.length ≤ 48 ∧ ∀ e ∈ es, goodE e) hp en (fun W hq => EvA.mono (v_one (B := fun d => ∃ es, d = .tuple [.str "refutation", .tuple es] ∧ es.length ≤ 48 ∧ ∀ e ∈ es, goodE e) (v_tup (va_cons (A := fun d => d = .str "refutation") (B := fun _ ds => ∃ r, ds = [r] ∧ ∃ es, r = .tuple es ∧ es.length ≤ 48 ∧ ∀ e ∈ es, goodE e) (Pl := fun ds => ∃ es, ds = [.str "refutation", .tuple es] ∧ es.length ≤ 48 ∧ ∀ e ∈ es, goodE e) e_str (fun _ _ => v_one (v_callP hq rfl (A := fun ds => ds = [fm (k : Nat) cs]) (a_cons (e_var rfl) a_nil) fun ds e => ⟨⟨_, _, e, hQ, by omega, hno hb⟩, fun d hd => hd⟩)) fun d ds e ⟨r, e2, es, e3, h⟩ => ⟨es, by rw [e, e2, e3], h⟩) fun ds ⟨es, e, h⟩ => ⟨by rw [e]; simp, es, by rw [e], h⟩)) fun ds ⟨d, e, es, e2, h⟩ => ⟨es, by rw [e, e2], h⟩) fun vs dsx H9 hp ⟨es, e, hes, hge⟩ en rsx => ?_
    subst e
    cases rsx with
    | @cons v _ _ _ rv rsx =>
    cases rsx
    obtain ⟨v2, e2, r2⟩ := en.getD (i := 2) rfl
    obtain ⟨v5, e5', r5⟩ := en.getD (i := 5) rfl
    rw [e5] at e5'
    cases e5'
    cases r5 with
    | @lst _ xs2 _ _ hxs2 rxs2 =>
    have lx := rxs2.length
    refine ⟨p, xs2, v, rfl, rfl, hxs2, Nat.lt_of_lt_of_le (show xs2.length < 100000 by omega) (by decide), ?_⟩
    have av := RpA.avoid (N := fun a => a = q) (L := ds) (p := p) (Rp.lst (N := fun a => a = q) hnp hxs2 rxs2) ds xs2 (by simp only [PyData.list.sizeOf_spec]; omega) rxs2
    have tp : ∀ b ys, H9 b = some (.tup ys) → upd H9 p (.lst (xs2 ++ [v])) b = some (.tup ys) := fun b ys e => by
      rw [L2.upd_ne]
      · exact e
      · intro z
        rw [z, hxs2] at e
        cases e
    have hnl : nl (.tuple [.str "refutation", .tuple es]) = true := by
      have := nlA_all hge
      show (true && (nlA es && true)) = true
      rw [this]
      rfl
    refine fin _ (ds ++ [.tuple [.str "refutation", .tuple es]]) ⟨v2, e2, Rp.nl_keep tp _ _ nl_fm r2⟩ ⟨_, e5, .lst (fun z => z) upd_same (((RpA.keep tp (fun b ys hb e => by rw [L2.upd_ne fun z => hb (.inr z)]; exact e) (fun _ _ _ z => z.elim) ds xs2 av) : RpA No _ xs2 ds).append (.cons (Rp.nl_keep tp _ _ hnl rv) .nil))⟩ fun d hd => ?_
    rcases List.mem_append.mp hd with hd | hd
    · exact hds d hd
    · rw [List.mem_singleton.mp hd]
      exact okV_two hsR (okD_tup (m := 20) (by omega) fun e he => okD_mono (hge e he).2 (by omega))
end K19
end
section
set_option Elab.async false
set_option linter.all false
set_option maxRecDepth 100000
set_option maxHeartbeats 0
namespace K19
open PySem PySem.Spec PyProof.Rows L2
def d_is_integer : He.DefD := ⟨("is_integer", none), "is_integer", "is_integer", defArgs s_is_integer, defBody s_is_integer, defScope s_is_integer, [], []⟩
def d_is_number : He.DefD := ⟨("is_number", none), "is_number", "is_number", defArgs s_is_number, defBody s_is_number, defScope s_is_number, [], []⟩
def d_is_ascending : He.DefD := ⟨("is_ascending", none), "is_ascending", "is_ascending", defArgs s_is_ascending, defBody s_is_ascending, defScope s_is_ascending, [], []⟩
def d_is_clause : He.DefD := ⟨("is_clause", none), "is_clause", "is_clause", defArgs s_is_clause, defBody s_is_clause, defScope s_is_clause, [], []⟩
def d_made_clause : He.DefD := ⟨("made_clause", none), "made_clause", "made_clause", defArgs s_made_clause, defBody s_made_clause, defScope s_made_clause, [], []⟩
def d_falsifies : He.DefD := ⟨("falsifies", none), "falsifies", "falsifies", defArgs s_falsifies, defBody s_falsifies, defScope s_falsifies, [], []⟩
def d_satisfies : He.DefD := ⟨("satisfies", none), "satisfies", "satisfies", defArgs s_satisfies, defBody s_satisfies, defScope s_satisfies, [], []⟩
def d_falsified : He.DefD := ⟨("falsified", none), "falsified", "falsified", defArgs s_falsified, defBody s_falsified, defScope s_falsified, [], []⟩
def d_is_model : He.DefD := ⟨("is_model", none), "is_model", "is_model", defArgs s_is_model, defBody s_is_model, defScope s_is_model, [], []⟩
def d_with_literal : He.DefD := ⟨("with_literal", none), "with_literal", "with_literal", defArgs s_with_literal, defBody s_with_literal, defScope s_with_literal, [], []⟩
def d_free_variables : He.DefD := ⟨("free_variables", none), "free_variables", "free_variables", defArgs s_free_variables, defBody s_free_variables, defScope s_free_variables, [], []⟩
def d_is_earlier : He.DefD := ⟨("is_earlier", none), "is_earlier", "is_earlier", defArgs s_is_earlier, defBody s_is_earlier, defScope s_is_earlier, [], []⟩
def d_resolvent : He.DefD := ⟨("resolvent", none), "resolvent", "resolvent", defArgs s_resolvent, defBody s_resolvent, defScope s_resolvent, [], []⟩
def d_axiom_clause : He.DefD := ⟨("axiom_clause", none), "axiom_clause", "axiom_clause", defArgs s_axiom_clause, defBody s_axiom_clause, defScope s_axiom_clause, [], []⟩
def d_resolved_clause : He.DefD := ⟨("resolved_clause", none), "resolved_clause", "resolved_clause", defArgs s_resolved_clause, defBody s_resolved_clause, defScope s_resolved_clause, [], []⟩
def d_weakened_clause : He.DefD := ⟨("weakened_clause", none), "weakened_clause", "weakened_clause", defArgs s_weakened_clause, defBody s_weakened_clause, defScope s_weakened_clause, [], []⟩
def d_next_clause : He.DefD := ⟨("next_clause", none), "next_clause", "next_clause", defArgs s_next_clause, defBody s_next_clause, defScope s_next_clause, [], []⟩
def d_clauses_of : He.DefD := ⟨("clauses_of", none), "clauses_of", "clauses_of", defArgs s_clauses_of, defBody s_clauses_of, defScope s_clauses_of, [], []⟩
def d_are_tuples : He.DefD := ⟨("are_tuples", none), "are_tuples", "are_tuples", defArgs s_are_tuples, defBody s_are_tuples, defScope s_are_tuples, [], []⟩
def d_is_refutation : He.DefD := ⟨("is_refutation", none), "is_refutation", "is_refutation", defArgs s_is_refutation, defBody s_is_refutation, defScope s_is_refutation, [], []⟩
def d_sources : He.DefD := ⟨("sources", none), "sources", "sources", defArgs s_sources, defBody s_sources, defScope s_sources, [], []⟩
def d_moved : He.DefD := ⟨("moved", none), "moved", "moved", defArgs s_moved, defBody s_moved, defScope s_moved, [], []⟩
def d_pruned_to : He.DefD := ⟨("pruned_to", none), "pruned_to", "pruned_to", defArgs s_pruned_to, defBody s_pruned_to, defScope s_pruned_to, [], []⟩
def d_Shortener_init : He.DefD := ⟨("Shortener", some "__init__"), "__init__", "Shortener.__init__", defArgs s_Shortener_init, defBody s_Shortener_init, defScope s_Shortener_init, [], []⟩
def d_Shortener_add : He.DefD := ⟨("Shortener", some "add"), "add", "Shortener.add", defArgs s_Shortener_add, defBody s_Shortener_add, defScope s_Shortener_add, [], []⟩
def d_Shortener_resolve : He.DefD := ⟨("Shortener", some "resolve"), "resolve", "Shortener.resolve", defArgs s_Shortener_resolve, defBody s_Shortener_resolve, defScope s_Shortener_resolve, [], []⟩
def d_write_tree : He.DefD := ⟨("write_tree", none), "write_tree", "write_tree", defArgs s_write_tree, defBody s_write_tree, defScope s_write_tree, [], []⟩
def d_steps_of_tree : He.DefD := ⟨("steps_of_tree", none), "steps_of_tree", "steps_of_tree", defArgs s_steps_of_tree, defBody s_steps_of_tree, defScope s_steps_of_tree, [], []⟩
def d_search : He.DefD := ⟨("search", none), "search", "search", defArgs s_search, defBody s_search, defScope s_search, [], []⟩
def d_solve : He.DefD := ⟨("solve", none), "solve", "solve", defArgs s_solve, defBody s_solve, defScope s_solve, [], []⟩
def d_is_solved : He.DefD := ⟨("is_solved", none), "is_solved", "is_solved", defArgs s_is_solved, defBody s_is_solved, defScope s_is_solved, [], []⟩
def d__law_same : He.DefD := ⟨("_law_same", none), "_law_same", "_law_same", defArgs s__law_same, defBody s__law_same, defScope s__law_same, [], []⟩
def d__law_is_integer : He.DefD := ⟨("_law_is_integer", none), "_law_is_integer", "_law_is_integer", defArgs s__law_is_integer, defBody s__law_is_integer, defScope s__law_is_integer, [], []⟩
def d__law_pool : He.DefD := ⟨("_law_pool", none), "_law_pool", "_law_pool", defArgs s__law_pool, defBody s__law_pool, defScope s__law_pool, [], []⟩
def d__law_spread : He.DefD := ⟨("_law_spread", none), "_law_spread", "_law_spread", defArgs s__law_spread, defBody s__law_spread, defScope s__law_spread, [], []⟩
def d__law_draw : He.DefD := ⟨("_law_draw", none), "_law_draw", "_law_draw", defArgs s__law_draw, defBody s__law_draw, defScope s__law_draw, [], []⟩
def d__law_rising : He.DefD := ⟨("_law_rising", none), "_law_rising", "_law_rising", defArgs s__law_rising, defBody s__law_rising, defScope s__law_rising, [], []⟩
def d__law_is_clause : He.DefD := ⟨("_law_is_clause", none), "_law_is_clause", "_law_is_clause", defArgs s__law_is_clause, defBody s__law_is_clause, defScope s__law_is_clause, [], []⟩
def d__law_with : He.DefD := ⟨("_law_with", none), "_law_with", "_law_with", defArgs s__law_with, defBody s__law_with, defScope s__law_with, [], []⟩
def d__law_negated : He.DefD := ⟨("_law_negated", none), "_law_negated", "_law_negated", defArgs s__law_negated, defBody s__law_negated, defScope s__law_negated, [], []⟩
def d__law_within : He.DefD := ⟨("_law_within", none), "_law_within", "_law_within", defArgs s__law_within, defBody s__law_within, defScope s__law_within, [], []⟩
def d__law_fails : He.DefD := ⟨("_law_fails", none), "_law_fails", "_law_fails", defArgs s__law_fails, defBody s__law_fails, defScope s__law_fails, [], []⟩
def d__law_leaf : He.DefD := ⟨("_law_leaf", none), "_law_leaf", "_law_leaf", defArgs s__law_leaf, defBody s__law_leaf, defScope s__law_leaf, [], []⟩
def d__law_free : He.DefD := ⟨("_law_free", none), "_law_free", "_law_free", defArgs s__law_free, defBody s__law_free, defScope s__law_free, [], []⟩
def d__law_cubes : He.DefD := ⟨("_law_cubes", none), "_law_cubes", "_law_cubes", defArgs s__law_cubes, defBody s__law_cubes, defScope s__law_cubes, [], []⟩
def d__law_model : He.DefD := ⟨("_law_model", none), "_law_model", "_law_model", defArgs s__law_model, defBody s__law_model, defScope s__law_model, [], []⟩
def d__law_some_clause : He.DefD := ⟨("_law_some_clause", none), "_law_some_clause", "_law_some_clause", defArgs s__law_some_clause, defBody s__law_some_clause, defScope s__law_some_clause, [], []⟩
def d__law_drawn_formula : He.DefD := ⟨("_law_drawn_formula", none), "_law_drawn_formula", "_law_drawn_formula", defArgs s__law_drawn_formula, defBody s__law_drawn_formula, defScope s__law_drawn_formula, [], []⟩
def d__law_false_formula : He.DefD := ⟨("_law_false_formula", none), "_law_false_formula", "_law_false_formula", defArgs s__law_false_formula, defBody s__law_false_formula, defScope s__law_false_formula, [], []⟩
def d__law_bent : He.DefD := ⟨("_law_bent", none), "_law_bent", "_law_bent", defArgs s__law_bent, defBody s__law_bent, defScope s__law_bent, [], []⟩
def d__law_some_tree : He.DefD := ⟨("_law_some_tree", none), "_law_some_tree", "_law_some_tree", defArgs s__law_some_tree, defBody s__law_some_tree, defScope s__law_some_tree, [], []⟩
def d__law_write : He.DefD := ⟨("_law_write", none), "_law_write", "_law_write", defArgs s__law_write, defBody s__law_write, defScope s__law_write, [], []⟩
def d__law_some_steps : He.DefD := ⟨("_law_some_steps", none), "_law_some_steps", "_law_some_steps", defArgs s__law_some_steps, defBody s__law_some_steps, defScope s__law_some_steps, [], []⟩
def d__law_next : He.DefD := ⟨("_law_next", none), "_law_next", "_law_next", defArgs s__law_next, defBody s__law_next, defScope s__law_next, [], []⟩
def d__law_clauses : He.DefD := ⟨("_law_clauses", none), "_law_clauses", "_law_clauses", defArgs s__law_clauses, defBody s__law_clauses, defScope s__law_clauses, [], []⟩
def d__law_is_refutation : He.DefD := ⟨("_law_is_refutation", none), "_law_is_refutation", "_law_is_refutation", defArgs s__law_is_refutation, defBody s__law_is_refutation, defScope s__law_is_refutation, [], []⟩
def d__law_right : He.DefD := ⟨("_law_right", none), "_law_right", "_law_right", defArgs s__law_right, defBody s__law_right, defScope s__law_right, [], []⟩
def d_law : He.DefD := ⟨("law", none), "law", "law", defArgs s_law, defBody s_law, defScope s_law, [], []⟩
def fns : List He.DefD := [d_is_integer, d_is_number, d_is_ascending, d_is_clause, d_made_clause, d_falsifies, d_satisfies, d_falsified, d_is_model, d_with_literal, d_free_variables, d_is_earlier, d_resolvent, d_axiom_clause, d_resolved_clause, d_weakened_clause, d_next_clause, d_clauses_of, d_are_tuples, d_is_refutation, d_sources, d_moved, d_pruned_to, d_Shortener_init, d_Shortener_add, d_Shortener_resolve, d_write_tree, d_steps_of_tree, d_search, d_solve, d_is_solved, d__law_same, d__law_is_integer, d__law_pool, d__law_spread, d__law_draw, d__law_rising, d__law_is_clause, d__law_with, d__law_negated, d__law_within, d__law_fails, d__law_leaf, d__law_free, d__law_cubes, d__law_model, d__law_some_clause, d__law_drawn_formula, d__law_false_formula, d__law_bent, d__law_some_tree, d__law_write, d__law_some_steps, d__law_next, d__law_clauses, d__law_is_refutation, d__law_right, d_law]
def fas1 : List He.Fa := [.glo "law", .glo "is_integer", .glo "is_number", .glo "is_ascending", .glo "is_clause", .glo "made_clause", .glo "falsifies", .glo "satisfies", .glo "falsified", .glo "is_model", .glo "with_literal", .glo "free_variables", .glo "is_earlier", .glo "resolvent", .glo "axiom_clause", .glo "resolved_clause", .glo "weakened_clause", .glo "next_clause", .glo "clauses_of", .glo "are_tuples", .glo "is_refutation", .glo "sources", .glo "moved", .glo "pruned_to", .glo "write_tree", .glo "steps_of_tree", .glo "search", .glo "solve", .glo "is_solved", .glo "_law_same"]
def fas2 : List He.Fa := [.glo "_law_is_integer", .glo "_law_pool", .glo "_law_spread", .glo "_law_draw", .glo "_law_rising", .glo "_law_is_clause", .glo "_law_with", .glo "_law_negated", .glo "_law_within", .glo "_law_fails", .glo "_law_leaf", .glo "_law_free", .glo "_law_cubes", .glo "_law_model", .glo "_law_some_clause", .glo "_law_drawn_formula", .glo "_law_false_formula", .glo "_law_bent", .glo "_law_some_tree", .glo "_law_write", .glo "_law_some_steps", .glo "_law_next", .glo "_law_clauses", .glo "_law_is_refutation", .glo "_law_right", .glo "Shortener", .glo "WrongStep"]
def fas3 : List He.Fa := [.free "isinstance", .free "int", .free "bool", .free "tuple", .free "list", .free "str", .free "all", .free "zip", .free "abs", .free "sorted", .free "set", .free "len", .free "enumerate", .free "range", .free "super"]
def fas4 : List He.Fa := [.cls "Shortener", .mkr "Shortener", .meth "Shortener" "add", .meth "Shortener" "resolve", .noat "Shortener" "formula", .noat "Shortener" "steps", .noat "Shortener" "clauses"]
def fas : List He.Fa := fas1 ++ (fas2 ++ (fas3 ++ fas4))
/-! ### WrongStep -/
abbrev wsC (K : PySem.W.Frag) : Addr := He.ga K "WrongStep"
abbrev wsF (K : PySem.W.Frag) : Addr := He.ma K (wsC K) "__init__"
abbrev WsO : Type := Option (Str × Str × Arguments × FuncBody × Scope × Addr × List Str × Addr)
def wsO (K : PySem.W.Frag) : WsO := match K.lookup (wsF K) with
  | some ⟨_, _, .func fd, _⟩ => some (fd.name, fd.qualname, fd.params, fd.body, fd.scope, fd.globals, fd.closure.map (·.1), fd.builtins)
  | _ => none
def wsV : WsO := some ("__init__", "WrongStep.__init__", PySem.WsX.wA, .stmts PySem.WsX.wB, PySem.WsX.wS, mainGlobals, ["__class__"], builtinsNs)
def wsCl (K : PySem.W.Frag) : Bool := match K.lookup (wsC K) with
  | some ⟨_, _, .cls cd, _⟩ => cd.hasDict && (match cd.mro with
    | _ :: bm => PySem.HandSPX.refsVE bm
    | _ => false)
  | _ => false
def fileIs (vs : Array Value) : Bool := match vs[2]? with
  | some (Value.str file _) => (PySem.Challenge.pw_rebut_k19_whole_every_formula_is_solved.main.file : Str) == file
  | _ => false
def codeB (K : PySem.W.Frag) (cda : Addr) : Bool := PySem.W.codeIn K (.ref cda) "WrongStep.__init__" && (match K.lookup cda with
  | some ⟨_, _, .fields vs, _⟩ => fileIs vs
  | _ => false)
def cellB (K : PySem.W.Frag) (cc : Addr) : Bool := match K.lookup cc with
  | some ⟨_, _, .cell (some (.ref C)), _⟩ => decide (C = wsC K)
  | _ => false
def wsFn (K : PySem.W.Frag) : Bool := match K.lookup (wsF K) with
  | some ⟨_, _, .func fd, _⟩ => (match fd.defaults with
    | .none => true
    | _ => false) && ((match fd.code with
    | .ref cda => codeB K cda
    | _ => false) && (match fd.closure with
    | [(_, cc)] => cellB K cc
    | _ => false))
  | _ => false
def wsEs (K : PySem.W.Frag) : Bool :=
  He.eqO (PySem.W.findIn K (.ref (wsC K)) "__setattr__") (some (some (.builtin "object.__setattr__"))) && (He.eqO (PySem.W.findIn K (.ref (wsC K)) "index") (some none) && (He.eqO (PySem.W.findIn K (.ref (wsC K)) "__init__") (some (some (.ref (wsF K)))) &&
  (decide (PySem.W.typeIn K (.ref (wsF K)) = some (.type "function")) && (PySem.W.keepIn K (.ref (wsC K)) && (decide (PySem.W.subIn K (.ref (wsC K)) (.type "BaseException") = some true) && (decide (PySem.W.typeIn K (.ref (wsC K)) = some (.type "type")) &&
  (decide (PySem.W.exmOne K (.ref (wsC K)) (.ref (wsC K)) = some true) && (decide (PySem.W.mroIn K (wsC K) (.ref (wsC K)) = some true) && (He.eqO (PySem.W.ks_superIn K (wsC K) (wsC K) "__init__") (some (some (.builtin "ValueError.__init__"))) &&
  (decide (PySem.W.subIn K (.ref (wsC K)) (.type "ValueError") = some true) && (He.eqO (PySem.W.nsIn K cStatics "thirdparty.any") (some none) && PySem.W.excInitIn K (wsC K) PySem.WsX.veTail "ValueError.__new__")))))))))))
abbrev WsA : Type := Bool × WsO
def wsObs (K : PySem.W.Frag) : WsA := (wsCl K && (wsFn K && wsEs K), wsO K)
abbrev AlX : Type := He.AlD × WsA
def obsX (K : PySem.W.Frag) : AlX := (He.obsD fas fns K, wsObs K)
def valX : AlX := (He.valD fns, (true, wsV))
def SaysX (K : PySem.W.Frag) : Prop := He.SaysD fas fns K ∧ wsObs K = (true, wsV)
def frX (g : Addr → Option Obj) : PySem.W.Frag := He.frG g (cStatics :: He.asD g 4)
def hk : PySem.W.Hook where
  α := AlX
  obs := fun s => obsX (frX s.heap.get?)
  val := fun _ => valX
  says := fun _ h => ∃ K : PySem.W.Frag, K.In h ∧ SaysX K
  of := fun _ _ e => ⟨_, He.frG_in, congrArg (fun z : AlX => z.1) e, congrArg (fun z : AlX => z.2) e⟩
  keeps := fun _ _ _ ⟨K, hK, c⟩ k => ⟨K, PySem.W.Frag.In.keeps hK k, c⟩
theorem wsx {K : PySem.W.Frag} {mg : Str → Option Value} (c : wsObs K = (true, wsV)) (gC : mg "WrongStep" = some (.ref (wsC K))) (ns : mg "super" = none) : PySem.WsX.WsTxt PySem.Challenge.pw_rebut_k19_whole_every_formula_is_solved K mg (wsC K) (wsF K) := by
  have c1 : (wsCl K && (wsFn K && wsEs K)) = true := congrArg (fun z : WsA => z.1) c
  have c2 : wsO K = wsV := congrArg (fun z : WsA => z.2) c
  obtain ⟨h1, c1⟩ := He.ba c1
  obtain ⟨h2, h3⟩ := He.ba c1
  unfold wsEs at h3
  obtain ⟨a1, h3⟩ := He.ba h3
  obtain ⟨a2, h3⟩ := He.ba h3
  obtain ⟨a3, h3⟩ := He.ba h3
  obtain ⟨a4, h3⟩ := He.ba h3
  obtain ⟨a5, h3⟩ := He.ba h3
  obtain ⟨a6, h3⟩ := He.ba h3
  obtain ⟨a7, h3⟩ := He.ba h3
  obtain ⟨a8, h3⟩ := He.ba h3
  obtain ⟨a9, h3⟩ := He.ba h3
  obtain ⟨a10, h3⟩ := He.ba h3
  obtain ⟨a11, h3⟩ := He.ba h3
  obtain ⟨a12, a13⟩ := He.ba h3
  refine ⟨gC, ?cls, He.eqO_ok a1, He.eqO_ok a2, He.eqO_ok a3, of_decide_eq_true a4, a5, of_decide_eq_true a6, of_decide_eq_true a7, of_decide_eq_true a8, of_decide_eq_true a9, He.eqO_ok a10, of_decide_eq_true a11, He.eqO_ok a12, a13, ns, ?fn⟩
  case cls =>
    have q := a13
    unfold PySem.W.excInitIn at q
    unfold wsCl at h1
    split at q
    · rename_i dd cd sl ho
      split at q
      · rename_i C' bm k0 k1 k2 k3 n k5 hm hs
        simp only [Bool.and_eq_true, beq_iff_eq, Bool.not_eq_true'] at q
        obtain ⟨⟨⟨e1, rfl⟩, hdel⟩, ht⟩ := q
        obtain ⟨nm, bs, mro, ns, qn, hd, sn, sub, ab, col, del⟩ := cd
        dsimp only at hm hdel
        subst hm hdel
        rw [ho] at h1
        obtain ⟨g1, g2⟩ := He.ba h1
        have g1' : hd = true := g1
        subst g1'
        have hsl : sl = #[k0, k1, k2, k3, some (.builtin "ValueError.__new__"), k5] := by
          obtain ⟨l⟩ := sl
          simp only at hs
          rw [hs]
        subst hsl
        rw [e1] at ho
        exact ⟨nm, qn, ns, bs, bm, sn, sub, ab, col, dd, k0, k1, k2, k3, k5, ho, g2⟩
      · cases q
    · cases q
  case fn =>
    unfold wsO at c2
    unfold wsFn at h2
    cases q : K.lookup (wsF K) with
    | none =>
      rw [q] at h2
      cases h2
    | some o =>
      obtain ⟨oc, od, dt, osl⟩ := o
      rw [q] at h2 c2
      cases dt with
      | func fd =>
        obtain ⟨n1, n2, n3, n4, n5, n6, n7, n8, n9, n10, n11, n12, n13, n14, n15⟩ := fd
        have e2 : (some (n1, n2, n3, n4, n5, n6, n7.map (·.1), n15) : WsO) = wsV := c2
        unfold wsV at e2
        simp only [Option.some.injEq, Prod.mk.injEq] at e2
        obtain ⟨i1, i2, i3, i4, i5, i6, i7, i8⟩ := e2
        subst i1 i2 i3 i4 i5 i6 i8
        obtain ⟨j1, h2⟩ := He.ba h2
        obtain ⟨j2, j3⟩ := He.ba h2
        cases n8 with
        | none =>
          cases n13 with
          | ref cda =>
            have j2' : codeB K cda = true := j2
            unfold codeB at j2'
            obtain ⟨j4, j5⟩ := He.ba j2'
            match n7, i7, j3, q with
            | [(_, cc)], i7, j3, q =>
              cases (List.cons.inj i7).1
              refine ⟨oc, od, n9, n10, n11, n12, cda, n14, osl, cc, rfl, j4, ?_, ?_⟩
              · split at j5
                · rename_i ccl cdd vs ccs ho
                  unfold fileIs at j5
                  split at j5
                  · rename_i file tf hv
                    exact ⟨ccl, cdd, vs, ccs, file, tf, ho, hv, j5⟩
                  · cases j5
                · cases j5
              · have j6 : cellB K cc = true := j3
                unfold cellB at j6
                split at j6
                · rename_i cl cld C csl ho
                  rw [of_decide_eq_true j6] at ho
                  exact ⟨cl, cld, csl, ho⟩
                · cases j6
          | _ => cases j2
        | _ => cases j1
      | _ => cases h2
section
variable {K : PySem.W.Frag} {h : Heap} {mg : Str → Option Value}
theorem hD_is_integer (X : K.In h) (G : h.Ns mainGlobals mg) (c : SaysX K) : DefH K mg "is_integer" s_is_integer := by
  obtain ⟨fd, F⟩ := c.1.def_ 0 (d := d_is_integer) rfl
  exact ⟨_, fd, F, He.glo_ok X G (c.1.fact 1 (f := .glo "is_integer") rfl)⟩
theorem hD_is_number (X : K.In h) (G : h.Ns mainGlobals mg) (c : SaysX K) : DefH K mg "is_number" s_is_number := by
  obtain ⟨fd, F⟩ := c.1.def_ 1 (d := d_is_number) rfl
  exact ⟨_, fd, F, He.glo_ok X G (c.1.fact 2 (f := .glo "is_number") rfl)⟩
theorem hD_is_ascending (X : K.In h) (G : h.Ns mainGlobals mg) (c : SaysX K) : DefH K mg "is_ascending" s_is_ascending := by
  obtain ⟨fd, F⟩ := c.1.def_ 2 (d := d_is_ascending) rfl
  exact ⟨_, fd, F, He.glo_ok X G (c.1.fact 3 (f := .glo "is_ascending") rfl)⟩
theorem hD_is_clause (X : K.In h) (G : h.Ns mainGlobals mg) (c : SaysX K) : DefH K mg "is_clause" s_is_clause := by
  obtain ⟨fd, F⟩ := c.1.def_ 3 (d := d_is_clause) rfl
  exact ⟨_, fd, F, He.glo_ok X G (c.1.fact 4 (f := .glo "is_clause") rfl)⟩
theorem hD_made_clause (X : K.In h) (G : h.Ns mainGlobals mg) (c : SaysX K) : DefH K mg "made_clause" s_made_clause := by
  obtain ⟨fd, F⟩ := c.1.def_ 4 (d := d_made_clause) rfl
  exact ⟨_, fd, F, He.glo_ok X G (c.1.fact 5 (f := .glo "made_clause") rfl)⟩
theorem hD_falsifies (X : K.In h) (G : h.Ns mainGlobals mg) (c : SaysX K) : DefH K mg "falsifies" s_falsifies := by
  obtain ⟨fd, F⟩ := c.1.def_ 5 (d := d_falsifies) rfl
  exact ⟨_, fd, F, He.glo_ok X G (c.1.fact 6 (f := .glo "falsifies") rfl)⟩
theorem hD_satisfies (X : K.In h) (G : h.Ns mainGlobals mg) (c : SaysX K) : DefH K mg "satisfies" s_satisfies := by
  obtain ⟨fd, F⟩ := c.1.def_ 6 (d := d_satisfies) rfl
  exact ⟨_, fd, F, He.glo_ok X G (c.1.fact 7 (f := .glo "satisfies") rfl)⟩
theorem hD_falsified (X : K.In h) (G : h.Ns mainGlobals mg) (c : SaysX K) : DefH K mg "falsified" s_falsified := by
  obtain ⟨fd, F⟩ := c.1.def_ 7 (d := d_falsified) rfl
  exact ⟨_, fd, F, He.glo_ok X G (c.1.fact 8 (f := .glo "falsified") rfl)⟩
theorem hD_is_model (X : K.In h) (G : h.Ns mainGlobals mg) (c : SaysX K) : DefH K mg "is_model" s_is_model := by
  obtain ⟨fd, F⟩ := c.1.def_ 8 (d := d_is_model) rfl
  exact ⟨_, fd, F, He.glo_ok X G (c.1.fact 9 (f := .glo "is_model") rfl)⟩
theorem hD_with_literal (X : K.In h) (G : h.Ns mainGlobals mg) (c : SaysX K) : DefH K mg "with_literal" s_with_literal := by
  obtain ⟨fd, F⟩ := c.1.def_ 9 (d := d_with_literal) rfl
  exact ⟨_, fd, F, He.glo_ok X G (c.1.fact 10 (f := .glo "with_literal") rfl)⟩
theorem hD_free_variables (X : K.In h) (G : h.Ns mainGlobals mg) (c : SaysX K) : DefH K mg "free_variables" s_free_variables := by
  obtain ⟨fd, F⟩ := c.1.def_ 10 (d := d_free_variables) rfl
  exact ⟨_, fd, F, He.glo_ok X G (c.1.fact 11 (f := .glo "free_variables") rfl)⟩
theorem hD_is_earlier (X : K.In h) (G : h.Ns mainGlobals mg) (c : SaysX K) : DefH K mg "is_earlier" s_is_earlier := by
  obtain ⟨fd, F⟩ := c.1.def_ 11 (d := d_is_earlier) rfl
  exact ⟨_, fd, F, He.glo_ok X G (c.1.fact 12 (f := .glo "is_earlier") rfl)⟩
theorem hD_resolvent (X : K.In h) (G : h.Ns mainGlobals mg) (c : SaysX K) : DefH K mg "resolvent" s_resolvent := by
  obtain ⟨fd, F⟩ := c.1.def_ 12 (d := d_resolvent) rfl
  exact ⟨_, fd, F, He.glo_ok X G (c.1.fact 13 (f := .glo "resolvent") rfl)⟩
theorem hD_axiom_clause (X : K.In h) (G : h.Ns mainGlobals mg) (c : SaysX K) : DefH K mg "axiom_clause" s_axiom_clause := by
  obtain ⟨fd, F⟩ := c.1.def_ 13 (d := d_axiom_clause) rfl
  exact ⟨_, fd, F, He.glo_ok X G (c.1.fact 14 (f := .glo "axiom_clause") rfl)⟩
theorem hD_resolved_clause (X : K.In h) (G : h.Ns mainGlobals mg) (c : SaysX K) : DefH K mg "resolved_clause" s_resolved_clause := by
  obtain ⟨fd, F⟩ := c.1.def_ 14 (d := d_resolved_clause) rfl
  exact ⟨_, fd, F, He.glo_ok X G (c.1.fact 15 (f := .glo "resolved_clause") rfl)⟩
theorem hD_weakened_clause (X : K.In h) (G : h.Ns mainGlobals mg) (c : SaysX K) : DefH K mg "weakened_clause" s_weakened_clause := by
  obtain ⟨fd, F⟩ := c.1.def_ 15 (d := d_weakened_clause) rfl
  exact ⟨_, fd, F, He.glo_ok X G (c.1.fact 16 (f := .glo "weakened_clause") rfl)⟩
theorem hD_next_clause (X : K.In h) (G : h.Ns mainGlobals mg) (c : SaysX K) : DefH K mg "next_clause" s_next_clause := by
  obtain ⟨fd, F⟩ := c.1.def_ 16 (d := d_next_clause) rfl
  exact ⟨_, fd, F, He.glo_ok X G (c.1.fact 17 (f := .glo "next_clause") rfl)⟩
theorem hD_clauses_of (X : K.In h) (G : h.Ns mainGlobals mg) (c : SaysX K) : DefH K mg "clauses_of" s_clauses_of := by
  obtain ⟨fd, F⟩ := c.1.def_ 17 (d := d_clauses_of) rfl
  exact ⟨_, fd, F, He.glo_ok X G (c.1.fact 18 (f := .glo "clauses_of") rfl)⟩
theorem hD_are_tuples (X : K.In h) (G : h.Ns mainGlobals mg) (c : SaysX K) : DefH K mg "are_tuples" s_are_tuples := by
  obtain ⟨fd, F⟩ := c.1.def_ 18 (d := d_are_tuples) rfl
  exact ⟨_, fd, F, He.glo_ok X G (c.1.fact 19 (f := .glo "are_tuples") rfl)⟩
theorem hD_is_refutation (X : K.In h) (G : h.Ns mainGlobals mg) (c : SaysX K) : DefH K mg "is_refutation" s_is_refutation := by
  obtain ⟨fd, F⟩ := c.1.def_ 19 (d := d_is_refutation) rfl
  exact ⟨_, fd, F, He.glo_ok X G (c.1.fact 20 (f := .glo "is_refutation") rfl)⟩
theorem hD_sources (X : K.In h) (G : h.Ns mainGlobals mg) (c : SaysX K) : DefH K mg "sources" s_sources := by
  obtain ⟨fd, F⟩ := c.1.def_ 20 (d := d_sources) rfl
  exact ⟨_, fd, F, He.glo_ok X G (c.1.fact 21 (f := .glo "sources") rfl)⟩
theorem hD_moved (X : K.In h) (G : h.Ns mainGlobals mg) (c : SaysX K) : DefH K mg "moved" s_moved := by
  obtain ⟨fd, F⟩ := c.1.def_ 21 (d := d_moved) rfl
  exact ⟨_, fd, F, He.glo_ok X G (c.1.fact 22 (f := .glo "moved") rfl)⟩
theorem hD_pruned_to (X : K.In h) (G : h.Ns mainGlobals mg) (c : SaysX K) : DefH K mg "pruned_to" s_pruned_to := by
  obtain ⟨fd, F⟩ := c.1.def_ 22 (d := d_pruned_to) rfl
  exact ⟨_, fd, F, He.glo_ok X G (c.1.fact 23 (f := .glo "pruned_to") rfl)⟩
theorem hD_write_tree (X : K.In h) (G : h.Ns mainGlobals mg) (c : SaysX K) : DefH K mg "write_tree" s_write_tree := by
  obtain ⟨fd, F⟩ := c.1.def_ 26 (d := d_write_tree) rfl
  exact ⟨_, fd, F, He.glo_ok X G (c.1.fact 24 (f := .glo "write_tree") rfl)⟩
theorem hD_steps_of_tree (X : K.In h) (G : h.Ns mainGlobals mg) (c : SaysX K) : DefH K mg "steps_of_tree" s_steps_of_tree := by
  obtain ⟨fd, F⟩ := c.1.def_ 27 (d := d_steps_of_tree) rfl
  exact ⟨_, fd, F, He.glo_ok X G (c.1.fact 25 (f := .glo "steps_of_tree") rfl)⟩
theorem hD_search (X : K.In h) (G : h.Ns mainGlobals mg) (c : SaysX K) : DefH K mg "search" s_search := by
  obtain ⟨fd, F⟩ := c.1.def_ 28 (d := d_search) rfl
  exact ⟨_, fd, F, He.glo_ok X G (c.1.fact 26 (f := .glo "search") rfl)⟩
theorem hD_solve (X : K.In h) (G : h.Ns mainGlobals mg) (c : SaysX K) : DefH K mg "solve" s_solve := by
  obtain ⟨fd, F⟩ := c.1.def_ 29 (d := d_solve) rfl
  exact ⟨_, fd, F, He.glo_ok X G (c.1.fact 27 (f := .glo "solve") rfl)⟩
theorem hD_is_solved (X : K.In h) (G : h.Ns mainGlobals mg) (c : SaysX K) : DefH K mg "is_solved" s_is_solved := by
  obtain ⟨fd, F⟩ := c.1.def_ 30 (d := d_is_solved) rfl
  exact ⟨_, fd, F, He.glo_ok X G (c.1.fact 28 (f := .glo "is_solved") rfl)⟩
theorem hD__law_same (X : K.In h) (G : h.Ns mainGlobals mg) (c : SaysX K) : DefH K mg "_law_same" s__law_same := by
  obtain ⟨fd, F⟩ := c.1.def_ 31 (d := d__law_same) rfl
  exact ⟨_, fd, F, He.glo_ok X G (c.1.fact 29 (f := .glo "_law_same") rfl)⟩
theorem hD__law_is_integer (X : K.In h) (G : h.Ns mainGlobals mg) (c : SaysX K) : DefH K mg "_law_is_integer" s__law_is_integer := by
  obtain ⟨fd, F⟩ := c.1.def_ 32 (d := d__law_is_integer) rfl
  exact ⟨_, fd, F, He.glo_ok X G (c.1.fact 30 (f := .glo "_law_is_integer") rfl)⟩
theorem hD__law_pool (X : K.In h) (G : h.Ns mainGlobals mg) (c : SaysX K) : DefH K mg "_law_pool" s__law_pool := by
  obtain ⟨fd, F⟩ := c.1.def_ 33 (d := d__law_pool) rfl
  exact ⟨_, fd, F, He.glo_ok X G (c.1.fact 31 (f := .glo "_law_pool") rfl)⟩
theorem hD__law_spread (X : K.In h) (G : h.Ns mainGlobals mg) (c : SaysX K) : DefH K mg "_law_spread" s__law_spread := by
  obtain ⟨fd, F⟩ := c.1.def_ 34 (d := d__law_spread) rfl
  exact ⟨_, fd, F, He.glo_ok X G (c.1.fact 32 (f := .glo "_law_spread") rfl)⟩
theorem hD__law_draw (X : K.In h) (G : h.Ns mainGlobals mg) (c : SaysX K) : DefH K mg "_law_draw" s__law_draw := by
  obtain ⟨fd, F⟩ := c.1.def_ 35 (d := d__law_draw) rfl
  exact ⟨_, fd, F, He.glo_ok X G (c.1.fact 33 (f := .glo "_law_draw") rfl)⟩
theorem hD__law_rising (X : K.In h) (G : h.Ns mainGlobals mg) (c : SaysX K) : DefH K mg "_law_rising" s__law_rising := by
  obtain ⟨fd, F⟩ := c.1.def_ 36 (d := d__law_rising) rfl
  exact ⟨_, fd, F, He.glo_ok X G (c.1.fact 34 (f := .glo "_law_rising") rfl)⟩
theorem hD__law_is_clause (X : K.In h) (G : h.Ns mainGlobals mg) (c : SaysX K) : DefH K mg "_law_is_clause" s__law_is_clause := by
  obtain ⟨fd, F⟩ := c.1.def_ 37 (d := d__law_is_clause) rfl
  exact ⟨_, fd, F, He.glo_ok X G (c.1.fact 35 (f := .glo "_law_is_clause") rfl)⟩
theorem hD__law_with (X : K.In h) (G : h.Ns mainGlobals mg) (c : SaysX K) : DefH K mg "_law_with" s__law_with := by
  obtain ⟨fd, F⟩ := c.1.def_ 38 (d := d__law_with) rfl
  exact ⟨_, fd, F, He.glo_ok X G (c.1.fact 36 (f := .glo "_law_with") rfl)⟩
theorem hD__law_negated (X : K.In h) (G : h.Ns mainGlobals mg) (c : SaysX K) : DefH K mg "_law_negated" s__law_negated := by
  obtain ⟨fd, F⟩ := c.1.def_ 39 (d := d__law_negated) rfl
  exact ⟨_, fd, F, He.glo_ok X G (c.1.fact 37 (f := .glo "_law_negated") rfl)⟩
theorem hD__law_within (X : K.In h) (G : h.Ns mainGlobals mg) (c : SaysX K) : DefH K mg "_law_within" s__law_within := by
  obtain ⟨fd, F⟩ := c.1.def_ 40 (d := d__law_within) rfl
  exact ⟨_, fd, F, He.glo_ok X G (c.1.fact 38 (f := .glo "_law_within") rfl)⟩
theorem hD__law_fails (X : K.In h) (G : h.Ns mainGlobals mg) (c : SaysX K) : DefH K mg "_law_fails" s__law_fails := by
  obtain ⟨fd, F⟩ := c.1.def_ 41 (d := d__law_fails) rfl
  exact ⟨_, fd, F, He.glo_ok X G (c.1.fact 39 (f := .glo "_law_fails") rfl)⟩
theorem hD__law_leaf (X : K.In h) (G : h.Ns mainGlobals mg) (c : SaysX K) : DefH K mg "_law_leaf" s__law_leaf := by
  obtain ⟨fd, F⟩ := c.1.def_ 42 (d := d__law_leaf) rfl
  exact ⟨_, fd, F, He.glo_ok X G (c.1.fact 40 (f := .glo "_law_leaf") rfl)⟩
theorem hD__law_free (X : K.In h) (G : h.Ns mainGlobals mg) (c : SaysX K) : DefH K mg "_law_free" s__law_free := by
  obtain ⟨fd, F⟩ := c.1.def_ 43 (d := d__law_free) rfl
  exact ⟨_, fd, F, He.glo_ok X G (c.1.fact 41 (f := .glo "_law_free") rfl)⟩
theorem hD__law_cubes (X : K.In h) (G : h.Ns mainGlobals mg) (c : SaysX K) : DefH K mg "_law_cubes" s__law_cubes := by
  obtain ⟨fd, F⟩ := c.1.def_ 44 (d := d__law_cubes) rfl
  exact ⟨_, fd, F, He.glo_ok X G (c.1.fact 42 (f := .glo "_law_cubes") rfl)⟩
theorem hD__law_model (X : K.In h) (G : h.Ns mainGlobals mg) (c : SaysX K) : DefH K mg "_law_model" s__law_model := by
  obtain ⟨fd, F⟩ := c.1.def_ 45 (d := d__law_model) rfl
  exact ⟨_, fd, F, He.glo_ok X G (c.1.fact 43 (f := .glo "_law_model") rfl)⟩
theorem hD__law_some_clause (X : K.In h) (G : h.Ns mainGlobals mg) (c : SaysX K) : DefH K mg "_law_some_clause" s__law_some_clause := by
  obtain ⟨fd, F⟩ := c.1.def_ 46 (d := d__law_some_clause) rfl
  exact ⟨_, fd, F, He.glo_ok X G (c.1.fact 44 (f := .glo "_law_some_clause") rfl)⟩
theorem hD__law_drawn_formula (X : K.In h) (G : h.Ns mainGlobals mg) (c : SaysX K) : DefH K mg "_law_drawn_formula" s__law_drawn_formula := by
  obtain ⟨fd, F⟩ := c.1.def_ 47 (d := d__law_drawn_formula) rfl
  exact ⟨_, fd, F, He.glo_ok X G (c.1.fact 45 (f := .glo "_law_drawn_formula") rfl)⟩
theorem hD__law_false_formula (X : K.In h) (G : h.Ns mainGlobals mg) (c : SaysX K) : DefH K mg "_law_false_formula" s__law_false_formula := by
  obtain ⟨fd, F⟩ := c.1.def_ 48 (d := d__law_false_formula) rfl
  exact ⟨_, fd, F, He.glo_ok X G (c.1.fact 46 (f := .glo "_law_false_formula") rfl)⟩
theorem hD__law_bent (X : K.In h) (G : h.Ns mainGlobals mg) (c : SaysX K) : DefH K mg "_law_bent" s__law_bent := by
  obtain ⟨fd, F⟩ := c.1.def_ 49 (d := d__law_bent) rfl
  exact ⟨_, fd, F, He.glo_ok X G (c.1.fact 47 (f := .glo "_law_bent") rfl)⟩
theorem hD__law_some_tree (X : K.In h) (G : h.Ns mainGlobals mg) (c : SaysX K) : DefH K mg "_law_some_tree" s__law_some_tree := by
  obtain ⟨fd, F⟩ := c.1.def_ 50 (d := d__law_some_tree) rfl
  exact ⟨_, fd, F, He.glo_ok X G (c.1.fact 48 (f := .glo "_law_some_tree") rfl)⟩
theorem hD__law_write (X : K.In h) (G : h.Ns mainGlobals mg) (c : SaysX K) : DefH K mg "_law_write" s__law_write := by
  obtain ⟨fd, F⟩ := c.1.def_ 51 (d := d__law_write) rfl
  exact ⟨_, fd, F, He.glo_ok X G (c.1.fact 49 (f := .glo "_law_write") rfl)⟩
theorem hD__law_some_steps (X : K.In h) (G : h.Ns mainGlobals mg) (c : SaysX K) : DefH K mg "_law_some_steps" s__law_some_steps := by
  obtain ⟨fd, F⟩ := c.1.def_ 52 (d := d__law_some_steps) rfl
  exact ⟨_, fd, F, He.glo_ok X G (c.1.fact 50 (f := .glo "_law_some_steps") rfl)⟩
theorem hD__law_next (X : K.In h) (G : h.Ns mainGlobals mg) (c : SaysX K) : DefH K mg "_law_next" s__law_next := by
  obtain ⟨fd, F⟩ := c.1.def_ 53 (d := d__law_next) rfl
  exact ⟨_, fd, F, He.glo_ok X G (c.1.fact 51 (f := .glo "_law_next") rfl)⟩
theorem hD__law_clauses (X : K.In h) (G : h.Ns mainGlobals mg) (c : SaysX K) : DefH K mg "_law_clauses" s__law_clauses := by
  obtain ⟨fd, F⟩ := c.1.def_ 54 (d := d__law_clauses) rfl
  exact ⟨_, fd, F, He.glo_ok X G (c.1.fact 52 (f := .glo "_law_clauses") rfl)⟩
theorem hD__law_is_refutation (X : K.In h) (G : h.Ns mainGlobals mg) (c : SaysX K) : DefH K mg "_law_is_refutation" s__law_is_refutation := by
  obtain ⟨fd, F⟩ := c.1.def_ 55 (d := d__law_is_refutation) rfl
  exact ⟨_, fd, F, He.glo_ok X G (c.1.fact 53 (f := .glo "_law_is_refutation") rfl)⟩
theorem hD__law_right (X : K.In h) (G : h.Ns mainGlobals mg) (c : SaysX K) : DefH K mg "_law_right" s__law_right := by
  obtain ⟨fd, F⟩ := c.1.def_ 56 (d := d__law_right) rfl
  exact ⟨_, fd, F, He.glo_ok X G (c.1.fact 54 (f := .glo "_law_right") rfl)⟩
theorem hD_law (X : K.In h) (G : h.Ns mainGlobals mg) (c : SaysX K) : DefH K mg "law" s_law := by
  obtain ⟨fd, F⟩ := c.1.def_ 57 (d := d_law) rfl
  exact ⟨_, fd, F, He.glo_ok X G (c.1.fact 0 (f := .glo "law") rfl)⟩
theorem hBl (X : K.In h) (G : h.Ns mainGlobals mg) (c : SaysX K) : Bl mg := ⟨He.free_ok X G (c.1.fact 57 (f := .free "isinstance") rfl), He.free_ok X G (c.1.fact 58 (f := .free "int") rfl), He.free_ok X G (c.1.fact 59 (f := .free "bool") rfl), He.free_ok X G (c.1.fact 60 (f := .free "tuple") rfl), He.free_ok X G (c.1.fact 61 (f := .free "list") rfl), He.free_ok X G (c.1.fact 62 (f := .free "str") rfl), He.free_ok X G (c.1.fact 63 (f := .free "all") rfl), He.free_ok X G (c.1.fact 64 (f := .free "zip") rfl), He.free_ok X G (c.1.fact 65 (f := .free "abs") rfl), He.free_ok X G (c.1.fact 66 (f := .free "sorted") rfl), He.free_ok X G (c.1.fact 67 (f := .free "set") rfl), He.free_ok X G (c.1.fact 68 (f := .free "len") rfl), He.free_ok X G (c.1.fact 69 (f := .free "enumerate") rfl), He.free_ok X G (c.1.fact 70 (f := .free "range") rfl)⟩
theorem hSh (X : K.In h) (G : h.Ns mainGlobals mg) (c : SaysX K) : ShH K mg (He.ga K "Shortener") := by
  obtain ⟨fd1, F1⟩ := c.1.def_ 23 (d := d_Shortener_init) rfl
  obtain ⟨fd2, F2⟩ := c.1.def_ 24 (d := d_Shortener_add) rfl
  obtain ⟨fd3, F3⟩ := c.1.def_ 25 (d := d_Shortener_resolve) rfl
  exact ⟨He.cls_ok (c.1.fact 72 (f := .cls "Shortener") rfl), He.noat_ok (c.1.fact 76 (f := .noat "Shortener" "formula") rfl), He.noat_ok (c.1.fact 77 (f := .noat "Shortener" "steps") rfl), He.noat_ok (c.1.fact 78 (f := .noat "Shortener" "clauses") rfl), He.glo_ok X G (c.1.fact 55 (f := .glo "Shortener") rfl),
    ⟨_, fd1, F1, He.mkr_ok (c.1.fact 73 (f := .mkr "Shortener") rfl)⟩, ⟨_, fd2, F2, He.meth_ok (c.1.fact 74 (f := .meth "Shortener" "add") rfl)⟩, ⟨_, fd3, F3, He.meth_ok (c.1.fact 75 (f := .meth "Shortener" "resolve") rfl)⟩⟩
theorem hWs (X : K.In h) (G : h.Ns mainGlobals mg) (c : SaysX K) : PySem.WsX.WsTxt PySem.Challenge.pw_rebut_k19_whole_every_formula_is_solved K mg (wsC K) (wsF K) := wsx c.2 (He.glo_ok X G (c.1.fact 56 (f := .glo "WrongStep") rfl)) (He.free_ok X G (c.1.fact 71 (f := .free "super") rfl))
end
end K19
end
section
set_option Elab.async false
set_option linter.all false
set_option maxRecDepth 100000
set_option maxHeartbeats 0
namespace K19
open PySem PySem.Spec PyProof.Rows L2
def loose0 : List Str := ["RebutError", "WrongStep", "is_integer", "is_number", "is_ascending", "is_clause", "made_clause", "falsifies", "satisfies", "falsified", "is_model", "with_literal", "free_variables", "is_earlier", "resolvent", "axiom_clause", "resolved_clause", "weakened_clause", "next_clause", "clauses_of", "are_tuples", "is_refutation", "sources", "moved", "pruned_to", "Shortener", "write_tree", "steps_of_tree", "search", "solve"]
def loose1 : List Str := ["is_solved", "_law_same", "_law_is_integer", "_law_pool", "_law_spread", "_law_draw", "_law_rising", "_law_is_clause", "_law_with", "_law_negated", "_law_within", "_law_fails", "_law_leaf", "_law_free", "_law_cubes", "_law_model", "_law_some_clause", "_law_drawn_formula", "_law_false_formula", "_law_bent", "_law_papers", "_law_some_tree", "_law_depth", "_law_leaves", "_law_rank", "_law_is_tree", "_law_write", "_law_some_steps", "_law_next", "_law_clauses"]
def loose2 : List Str := ["_law_is_refutation", "_law_width", "_law_used", "_law_right"]
def loose : List Str := loose0 ++ loose1 ++ loose2
abbrev R : PySem.W.OpenRow := PySem.W.OpenLaw.row PySem.Challenge.rw_rebut_k19_whole_every_formula_is_solved
def ob (s : PySem.W.SharedT) : AlX := obsX (frX (HandSHeadRun.getT s))
theorem ob_eq (s : PySem.W.SharedT) : ob s = hk.obs s.abs := by
  have e : HandSHeadRun.getT s = s.abs.heap.get? := funext (HandSHeadRun.getT_eq s)
  unfold ob
  rw [e] <;> rfl
theorem run (w : World) : HandSHeadRun.RunEq R (PySem.W.view R.prog [70]) hk ob 6000 loose w := by
  intro os
  kernel_rfl
end K19
end
set_option Elab.async false
set_option linter.all false
set_option maxRecDepth 100000
set_option maxHeartbeats 0
namespace K19
open PySem PySem.Spec PyProof.Rows L2
abbrev PP : Program := PySem.Challenge.pw_rebut_k19_whole_every_formula_is_solved
theorem htop : (PP.main.scope.names.lookup ("super" : Str)).isSome = false := by decide +kernel
theorem chain {w : World} {K : PySem.W.Frag} {h : Heap} {mg : Str → Option Value} {base : Heap} {f : Addr} {fd : FuncData} (X : K.In h) (G : h.Ns mainGlobals mg) (c : SaysX K) (F : FunD K "law" "law" (defArgs s_law) (defBody s_law) (defScope s_law) [] [] f fd) : FnOk PP w K mg base CX0 15 f fd ["_law_script"] (spLaw K) := by
  have B := hBl X G c
  have c_is_integer := ok_is_integer (P := PP) (w := w) (base := base) B (hD_is_integer X G c) 
  have c_is_number := ok_is_number (P := PP) (w := w) (base := base) B (hD_is_number X G c) (c_is_integer := c_is_integer)
  have c_falsifies := ok_falsifies (P := PP) (w := w) (base := base) B (hD_falsifies X G c) 
  have c_satisfies := ok_satisfies (P := PP) (w := w) (base := base) B (hD_satisfies X G c) 
  have c_is_model := ok_is_model (P := PP) (w := w) (base := base) B (hD_is_model X G c) (c_satisfies := c_satisfies)
  have c_with_literal := ok_with_literal (P := PP) (w := w) (base := base) B (hD_with_literal X G c) 
  have c_free_variables := ok_free_variables (P := PP) (w := w) (base := base) B (hD_free_variables X G c) 
  have c_is_earlier := ok_is_earlier (P := PP) (w := w) (base := base) B (hD_is_earlier X G c) (c_is_number := c_is_number)
  have c_is_ascending := ok_is_ascending (P := PP) (w := w) (base := base) B (hD_is_ascending X G c) 
  have c_is_clause := ok_is_clause (P := PP) (w := w) (base := base) B (hD_is_clause X G c) (c_is_ascending := c_is_ascending) (c_is_integer := c_is_integer)
  have c_falsified := ok_falsified (P := PP) (w := w) (base := base) B (hD_falsified X G c) (c_falsifies := c_falsifies)
  have c_made_clause := ok_made_clause (P := PP) (w := w) (base := base) B (hD_made_clause X G c) 
  have c_resolvent := ok_resolvent (P := PP) (w := w) (base := base) B (hD_resolvent X G c) (c_made_clause := c_made_clause)
  have c_axiom_clause := ok_axiom_clause (P := PP) (w := w) (base := base) B (hD_axiom_clause X G c) (c_is_number := c_is_number)
  have c_resolved_clause := ok_resolved_clause (P := PP) (w := w) (base := base) B (hD_resolved_clause X G c) (c_is_earlier := c_is_earlier) (c_is_number := c_is_number) (c_resolvent := c_resolvent)
  have c_weakened_clause := ok_weakened_clause (P := PP) (w := w) (base := base) B (hD_weakened_clause X G c) (c_is_clause := c_is_clause) (c_is_earlier := c_is_earlier)
  have c_next_clause := ok_next_clause (P := PP) (w := w) (base := base) B (hD_next_clause X G c) (c_axiom_clause := c_axiom_clause) (c_resolved_clause := c_resolved_clause) (c_weakened_clause := c_weakened_clause)
  have c_are_tuples := ok_are_tuples (P := PP) (w := w) (base := base) B (hD_are_tuples X G c) 
  have c__law_is_integer := ok__law_is_integer (P := PP) (w := w) (base := base) B (hD__law_is_integer X G c) 
  have c__law_rising := ok__law_rising (P := PP) (w := w) (base := base) B (hD__law_rising X G c) 
  have c__law_is_clause := ok__law_is_clause (P := PP) (w := w) (base := base) B (hD__law_is_clause X G c) (c__law_is_integer := c__law_is_integer) (c__law_rising := c__law_rising)
  have c__law_with := ok__law_with (P := PP) (w := w) (base := base) B (hD__law_with X G c) 
  have c__law_negated := ok__law_negated (P := PP) (w := w) (base := base) B (hD__law_negated X G c) 
  have c__law_within := ok__law_within (P := PP) (w := w) (base := base) B (hD__law_within X G c) 
  have c__law_fails := ok__law_fails (P := PP) (w := w) (base := base) B (hD__law_fails X G c) (c__law_negated := c__law_negated) (c__law_within := c__law_within)
  have c__law_free := ok__law_free (P := PP) (w := w) (base := base) B (hD__law_free X G c) 
  have c__law_leaf := ok__law_leaf (P := PP) (w := w) (base := base) B (hD__law_leaf X G c) (c__law_fails := c__law_fails)
  have c__law_next := ok__law_next (P := PP) (w := w) (base := base) B (hD__law_next X G c) (c__law_is_clause := c__law_is_clause) (c__law_is_integer := c__law_is_integer) (c__law_within := c__law_within)
  have c__law_clauses := ok__law_clauses (P := PP) (w := w) (base := base) B (hD__law_clauses X G c) (c__law_next := c__law_next)
  have c__law_is_refutation := ok__law_is_refutation (P := PP) (w := w) (base := base) B (hD__law_is_refutation X G c) (c__law_clauses := c__law_clauses)
  have c__law_right := ok__law_right (P := PP) (w := w) (base := base) B (hD__law_right X G c) (c__law_fails := c__law_fails) (c__law_is_clause := c__law_is_clause) (c__law_is_refutation := c__law_is_refutation)
  have c_sources := ok_sources (P := PP) (w := w) (base := base) B (hD_sources X G c) 
  have c_moved := ok_moved (P := PP) (w := w) (base := base) B (hD_moved X G c) 
  have c_pruned_to := ok_pruned_to (P := PP) (w := w) (base := base) B (hD_pruned_to X G c) (c_moved := c_moved) (c_sources := c_sources)
  have c__law_spread := ok__law_spread (P := PP) (w := w) (base := base) B (hD__law_spread X G c) 
  have c__law_draw := ok__law_draw (P := PP) (w := w) (base := base) B (hD__law_draw X G c) (c__law_spread := c__law_spread)
  have c__law_pool := ok__law_pool (P := PP) (w := w) (base := base) B (hD__law_pool X G c) 
  have c__law_cubes := ok__law_cubes (P := PP) (w := w) (base := base) B (hD__law_cubes X G c) (c__law_with := c__law_with)
  have c__law_model := ok__law_model (P := PP) (w := w) (base := base) B (hD__law_model X G c) (c__law_cubes := c__law_cubes) (c__law_leaf := c__law_leaf)
  have c__law_some_clause := ok__law_some_clause (P := PP) (w := w) (base := base) B (hD__law_some_clause X G c) (c__law_draw := c__law_draw)
  have c__law_drawn_formula := ok__law_drawn_formula (P := PP) (w := w) (base := base) B (hD__law_drawn_formula X G c) (c__law_draw := c__law_draw) (c__law_some_clause := c__law_some_clause)
  have c__law_false_formula := ok__law_false_formula (P := PP) (w := w) (base := base) B (hD__law_false_formula X G c) (c__law_draw := c__law_draw) (c__law_drawn_formula := c__law_drawn_formula) (c__law_model := c__law_model)
  have c_clauses_of := ok_clauses_of (P := PP) (w := w) (base := base) B (hD_clauses_of X G c) (hWs X G c) htop c_next_clause
  have c_is_refutation := ok_is_refutation (P := PP) (w := w) (base := base) B (hD_is_refutation X G c) (hWs X G c) c_are_tuples c_clauses_of
  have c_is_solved := ok_is_solved (P := PP) (w := w) (base := base) B (hD_is_solved X G c) (c_is_clause := c_is_clause) (c_is_model := c_is_model) (c_is_refutation := c_is_refutation)
  have S := hSh X G c
  have mk_S := ok_Shortener_init (P := PP) (w := w) (base := base) B S
  have m_add := ok_Shortener_add (P := PP) (w := w) (base := base) B S c_next_clause
  have m_resolve := ok_Shortener_resolve (P := PP) (w := w) (base := base) B S m_add
  have w_tree := all_write_tree (P := PP) (w := w) (base := base) B (hD_write_tree X G c) S m_add m_resolve 5
  have c_steps_of_tree := ok_steps_of_tree (P := PP) (w := w) (base := base) B (hD_steps_of_tree X G c) c_pruned_to S mk_S w_tree
  have c_search := all_search (P := PP) (w := w) (base := base) B (hD_search X G c) c_falsified c_free_variables c_with_literal 5
  have c_solve := ok_solve (P := PP) (w := w) (base := base) B (hD_solve X G c) c_search c_steps_of_tree
  have c__law_same := ok__law_same (P := PP) (w := w) (base := base) B (hD__law_same X G c) (cal_no (ps := ["_law_actual", "_law_due"]) (hD__law_same X G c) (fun _ _ _ _ _ _ us hl => match us, hl with | [_, _], _ => rfl) fun _ _ _ _ z => z)
  have c__law_bent := all__law_bent (P := PP) (w := w) (base := base) B (hD__law_bent X G c) c__law_draw c__law_is_integer 5
  have c__law_some_tree := all__law_some_tree (P := PP) (w := w) (base := base) B (hD__law_some_tree X G c) c__law_draw c__law_fails c__law_free c__law_leaf c__law_with 5
  have c__law_write := all__law_write (P := PP) (w := w) (base := base) B (hD__law_write X G c) c__law_draw c__law_negated c__law_with 5
  have c__law_some_steps := ok__law_some_steps (P := PP) (w := w) (base := base) B (hD__law_some_steps X G c) c__law_draw c__law_some_tree c__law_write
  exact ok_law B F (c__law_bent := c__law_bent) (c__law_draw := c__law_draw) (c__law_drawn_formula := c__law_drawn_formula) (c__law_false_formula := c__law_false_formula) (c__law_model := c__law_model) (c__law_pool := c__law_pool) (c__law_right := c__law_right) (c__law_same := c__law_same) (c__law_some_clause := c__law_some_clause) (c__law_some_steps := c__law_some_steps) (c_is_solved := c_is_solved) (c_solve := c_solve)
theorem facts {w : World} {K : PySem.W.Frag} {h : Heap} {mg : Str → Option Value} {f : Addr} (X : K.In h) (G : h.Ns mainGlobals mg) (hfa : mg ("law" : Str) = some (.ref f)) (c : SaysX K) :
    ∃ fd : FuncData, (∀ (s : Shared) (v : Value), BindsTo s fd ⟨[v], []⟩ [("_law_script", v)]) ∧ ∀ base : Heap, K.In base → base.Ns mainGlobals mg → FnOk PP w K mg base CX0 15 f fd ["_law_script"] (spLaw K) := by
  obtain ⟨fd, F⟩ := c.1.def_ 57 (d := d_law) rfl
  have e := hfa.symm.trans (He.glo_ok X G (c.1.fact 0 (f := .glo "law") rfl))
  cases e
  have b := FunD.bindsA (ps := ["_law_script"]) F fun _ _ _ _ _ _ us hl => match us, hl with | [_], _ => rfl
  exact ⟨fd, fun s v => b s [v] rfl, fun base _ _ => chain X G c F⟩
end K19
open PySem PySem.W PySem.Calls PyProof.Rows
theorem PySem.Challenge.cw_rebut_k19_whole_every_formula_is_solved_holds : PySem.Challenge.rw_rebut_k19_whole_every_formula_is_solved.Holds := by
  w_on; o_law
  refine HandSHeadRun.head_any (r := OpenLaw.row PySem.Challenge.rw_rebut_k19_whole_every_formula_is_solved) (q := view (OpenLaw.row PySem.Challenge.rw_rebut_k19_whole_every_formula_is_solved).prog [70]) (H := K19.hk) (ob := K19.ob) (M := 6000) (loose := K19.loose) (d := HandSHeadRun.topDef (OpenLaw.row PySem.Challenge.rw_rebut_k19_whole_every_formula_is_solved).prog 70) (kwd := []) K19.ob_eq
    (by kernel_rfl) (fun s => by kernel_rfl) K19.run (by kernel_rfl) (by kernel_rfl) (by kernel_rfl) (by rfl) (by first | assumption | decide +kernel) (by decide +kernel) ⟨rfl, rfl, rfl, rfl, rfl, by decide +kernel⟩ ?hw ?hc
  case hw => w_witness2
  case hc =>
    refine L2.walk_ofE (l := PySem.Challenge.rw_rebut_k19_whole_every_formula_is_solved) (n := 63) (k := 15) (x := "_law_script") (CX := L2.CX0) rfl (by decide) (by kernel_rfl) ⟨rfl, by decide, by decide⟩ ?F (fun _ _ _ _ z => z)
    intro w mg fa h Y G hmg0
    obtain ⟨K, KX, c⟩ := Y
    have hmg : mg ("law" : PySem.Str) = some (.ref fa) := by
      have e : (HandSHeadRun.topDef (OpenLaw.row PySem.Challenge.rw_rebut_k19_whole_every_formula_is_solved).prog 70).name = ("law" : PySem.Str) := by kernel_rfl
      rw [← e]
      exact hmg0
    obtain ⟨fd, hb, hF⟩ := K19.facts (w := w) KX G hmg c
    exact ⟨K, fd, K19.spLaw K, KX, hb, fun H a ns hl _ hS => ⟨a, ns, rfl, hl, hS, fun _ => rfl⟩, hF⟩
