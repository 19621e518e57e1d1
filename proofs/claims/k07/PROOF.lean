import PyProof.Rows.All
import HandS.Deep
import HandS.Defaults
import HandS.Exc
import HandS.ExcIs
import HandS.ExcOwn
import HandS.ForMost
import HandS.Head0
import HandS.Head1
import HandS.Head2
import HandS.HeadEnd
import HandS.HeadHook1
import HandS.HeadHook2
import HandS.HeadHook4
import HandS.IsInst
import HandS.SetFor
import HandS.SortInts
import HandS.SortRule
import HandS.Strs
import HandS.Style
import HandS.TryOnly
import HandS.TupAny
import HandS.WordsExc
import OpenK.AllK
import Wide.All
import Wide.FinOn
import PySem.Challenge.RW_alarmcurves_k07_whole_pools
set_option Elab.async false
set_option linter.all false
set_option maxRecDepth 100000
set_option maxHeartbeats 4000000
set_option autoImplicit false
/-! DL1: data over a ghost heap, the world, the readings -/
namespace DL
open PySem PySem.Spec PyProof.Rows L2

abbrev PD := PyData
abbrev St := L2.St
/-- an outcome: a value, an exception by its number, nothing known -/
inductive R (a : Type) where
  | ok (x : a) | exc (c : Nat) | bad
def R.map {a b : Type} (f : a → b) : R a → R b
  | .ok x => .ok (f x)
  | .exc c => .exc c
  | .bad => .bad
/-- with a state behind it -/
def bnd {a b d : Type} (r : R (a × d)) (k : a → d → R (b × d)) : R (b × d) :=
  match r with
  | .ok (x, s) => k x s
  | .exc c => .exc c
  | .bad => .bad
/-- a pure outcome in a state -/
def lft {a d : Type} (r : R a) (s : d) : R (a × d) :=
  match r with
  | .ok x => .ok (x, s)
  | .exc c => .exc c
  | .bad => .bad
def rbd {a b : Type} (r : R a) (k : a → R b) : R b :=
  match r with
  | .ok x => k x
  | .exc c => .exc c
  | .bad => .bad
@[simp] theorem bnd_ok {a b d : Type} (x : a) (s : d) (k : a → d → R (b × d)) : bnd (.ok (x, s)) k = k x s := rfl
@[simp] theorem bnd_exc {a b d : Type} (c : Nat) (k : a → d → R (b × d)) : bnd (.exc c) k = .exc c := rfl
@[simp] theorem bnd_bad {a b d : Type} (k : a → d → R (b × d)) : bnd .bad k = .bad := rfl
@[simp] theorem lft_ok {a d : Type} (x : a) (s : d) : lft (.ok x) s = .ok (x, s) := rfl
@[simp] theorem lft_exc {a d : Type} (c : Nat) (s : d) : lft (.exc c : R a) s = .exc c := rfl
@[simp] theorem lft_bad {a d : Type} (s : d) : lft (.bad : R a) s = .bad := rfl
@[simp] theorem rbd_ok {a b : Type} (x : a) (k : a → R b) : rbd (.ok x) k = k x := rfl
@[simp] theorem rbd_exc {a b : Type} (c : Nat) (k : a → R b) : rbd (.exc c) k = .exc c := rfl
@[simp] theorem rbd_bad {a b : Type} (k : a → R b) : rbd .bad k = .bad := rfl
abbrev Env := List (Option PD)

/-! ### data in a ghost heap -/
mutual
inductive Dg (G : Hp) : V → PD → Prop
  | non : Dg G .non .none
  | bl (b : Bool) : Dg G (.bl b) (.bool b)
  | int (i : Int) : Dg G (.int i) (.int i)
  | str (x : Str) : Dg G (.str x) (.str x)
  | lst {a : Addr} {xs : List V} {ds : List PD} : G a = some (.lst xs) → DgAll G xs ds → Dg G (.ref a) (.list ds)
  | tup {a : Addr} {xs : List V} {ds : List PD} : G a = some (.tup xs) → DgAll G xs ds → Dg G (.ref a) (.tuple ds)
inductive DgAll (G : Hp) : List V → List PD → Prop
  | nil : DgAll G [] []
  | cons {v : V} {vs : List V} {d : PD} {ds : List PD} : Dg G v d → DgAll G vs ds → DgAll G (v :: vs) (d :: ds)
end
abbrev Sub (G G' : Hp) : Prop := ∀ a o, G a = some o → G' a = some o
section
variable {G G' H : Hp} {v : V} {vs ws : List V} {d : PD} {ds es : List PD}
mutual
theorem Dg.mono (h : Sub G G') : ∀ {v : V} {d : PD}, Dg G v d → Dg G' v d
  | _, _, .non => .non
  | _, _, .bl b => .bl b
  | _, _, .int i => .int i
  | _, _, .str x => .str x
  | _, _, .lst e a => .lst (h _ _ e) (DgAll.mono h a)
  | _, _, .tup e a => .tup (h _ _ e) (DgAll.mono h a)
theorem DgAll.mono (h : Sub G G') : ∀ {vs : List V} {ds : List PD}, DgAll G vs ds → DgAll G' vs ds
  | _, _, .nil => .nil
  | _, _, .cons a b => .cons (Dg.mono h a) (DgAll.mono h b)
end
mutual
theorem Dg.dp {K : PySem.W.Frag} (h : Sub G H) : ∀ {v : V} {d : PD}, Dg G v d → Dp K H v d
  | _, _, .non => .non
  | _, _, .bl b => .bl b
  | _, _, .int i => .int i
  | _, _, .str x => .str x
  | _, _, .lst e a => .lst (SqL.of (h _ _ e)) (DgAll.dp h a)
  | _, _, .tup e a => .tup (SqT.of (h _ _ e)) (DgAll.dp h a)
theorem DgAll.dp {K : PySem.W.Frag} (h : Sub G H) : ∀ {vs : List V} {ds : List PD}, DgAll G vs ds → DpAll K H vs ds
  | _, _, .nil => .nil
  | _, _, .cons a b => .cons (Dg.dp h a) (DgAll.dp h b)
end
theorem DgAll.len : ∀ {vs : List V} {ds : List PD}, DgAll G vs ds → vs.length = ds.length
  | _, _, .nil => rfl
  | _, _, .cons _ b => by simp [b.len]
theorem DgAll.get : ∀ {vs : List V} {ds : List PD} {i : Nat} {d : PD}, DgAll G vs ds → ds[i]? = some d → ∃ v, vs[i]? = some v ∧ Dg G v d
  | _, _, _, _, .nil, e => by simp at e
  | _, _, 0, _, .cons a _, e => by simp at e; subst e; exact ⟨_, rfl, a⟩
  | _, _, i + 1, d, .cons _ b, e => by
    obtain ⟨v, h1, h2⟩ := DgAll.get (i := i) (d := d) b (by simpa using e)
    exact ⟨v, by simpa using h1, h2⟩
theorem DgAll.app : ∀ {vs ws : List V} {ds es : List PD}, DgAll G vs ds → DgAll G ws es → DgAll G (vs ++ ws) (ds ++ es)
  | _, _, _, _, .nil, s => s
  | _, _, _, _, .cons r t, s => .cons r (DgAll.app t s)
theorem DgAll.take : ∀ {vs : List V} {ds : List PD} (n : Nat), DgAll G vs ds → DgAll G (vs.take n) (ds.take n)
  | _, _, 0, _ => .nil
  | _, _, _ + 1, .nil => .nil
  | _, _, n + 1, .cons r t => .cons r (DgAll.take n t)
theorem DgAll.drop : ∀ {vs : List V} {ds : List PD} (n : Nat), DgAll G vs ds → DgAll G (vs.drop n) (ds.drop n)
  | _, _, 0, r => r
  | _, _, _ + 1, .nil => .nil
  | _, _, n + 1, .cons _ t => DgAll.drop n t
theorem DgAll.rev : ∀ {vs : List V} {ds : List PD}, DgAll G vs ds → DgAll G vs.reverse ds.reverse
  | _, _, .nil => .nil
  | _, _, .cons r t => by
    rw [List.reverse_cons, List.reverse_cons]
    exact DgAll.app (DgAll.rev t) (.cons r .nil)
theorem Dg.of_int {i : Int} (h : Dg G v (.int i)) : v = .int i := by cases h; rfl
theorem Dg.of_bl {b : Bool} (h : Dg G v (.bool b)) : v = .bl b := by cases h; rfl
theorem Dg.of_str {x : Str} (h : Dg G v (.str x)) : v = .str x := by cases h; rfl
theorem Dg.of_non (h : Dg G v .none) : v = .non := by cases h; rfl
theorem Dg.of_lst (h : Dg G v (.list ds)) : ∃ a xs, v = .ref a ∧ G a = some (.lst xs) ∧ DgAll G xs ds := by
  cases h with
  | lst e a => exact ⟨_, _, rfl, e, a⟩
theorem Dg.of_tup (h : Dg G v (.tuple ds)) : ∃ a xs, v = .ref a ∧ G a = some (.tup xs) ∧ DgAll G xs ds := by
  cases h with
  | tup e a => exact ⟨_, _, rfl, e, a⟩
theorem DgAll.ints : ∀ {vs : List V} {ns : List Int}, DgAll G vs (ns.map PyData.int) → vs = ns.map V.int
  | _, [], h => by cases h; rfl
  | _, _ :: _, h => by
    cases h with
    | cons a b => rw [a.of_int, DgAll.ints b]; rfl
theorem DgAll.of_ints : ∀ (ns : List Int), DgAll G (ns.map V.int) (ns.map PyData.int)
  | [] => .nil
  | n :: ns => .cons (.int n) (DgAll.of_ints ns)
theorem DgAll.bools : ∀ {vs : List V} {ns : List Bool}, DgAll G vs (ns.map PyData.bool) → vs = ns.map V.bl
  | _, [], h => by cases h; rfl
  | _, _ :: _, h => by
    cases h with
    | cons a b => rw [a.of_bl, DgAll.bools b]; rfl
end

/-! ### the world: tokens, classes of errors, what may change -/
structure Wd where
  d : Type
  fp : Addr → Prop
  rep : d → Hp → Hp → Prop
  tk : Nat → V
  cls : Nat → Addr
  keep : ∀ {s : d} {G H G' H' : Hp}, rep s G H → Sub G G' → (∀ a o, fp a → H a = some o → H' a = some o) → rep s G' H'
def tokD (n : Nat) : PD := .dict [(.int n, .none)]
/-- a value: data, or a token -/
def Rp (tk : Nat → V) (G : Hp) (v : V) (d : PD) : Prop := Dg G v d ∨ ∃ n, d = tokD n ∧ v = tk n
theorem Rp.mono {tk : Nat → V} {G G' : Hp} {v : V} {d : PD} (h : Sub G G') : Rp tk G v d → Rp tk G' v d
  | .inl a => .inl (a.mono h)
  | .inr a => .inr a
/-- what is no token is data -/
theorem Rp.dg {tk : Nat → V} {G : Hp} {v : V} {d : PD} (h : Rp tk G v d) (n : ∀ k, d ≠ tokD k) : Dg G v d := by
  rcases h with h | ⟨k, e, _⟩
  · exact h
  · exact absurd e (n k)
inductive RpAll (tk : Nat → V) (G : Hp) : List V → List PD → Prop
  | nil : RpAll tk G [] []
  | cons {v : V} {vs : List V} {d : PD} {ds : List PD} : Rp tk G v d → RpAll tk G vs ds → RpAll tk G (v :: vs) (d :: ds)
theorem RpAll.mono {tk : Nat → V} {G G' : Hp} (h : Sub G G') : ∀ {vs : List V} {ds : List PD}, RpAll tk G vs ds → RpAll tk G' vs ds
  | _, _, .nil => .nil
  | _, _, .cons a b => .cons (a.mono h) (b.mono h)
theorem RpAll.len {tk : Nat → V} {G : Hp} : ∀ {vs : List V} {ds : List PD}, RpAll tk G vs ds → vs.length = ds.length
  | _, _, .nil => rfl
  | _, _, .cons _ b => by simp [b.len]
theorem RpAll.get {tk : Nat → V} {G : Hp} : ∀ {vs : List V} {ds : List PD} {i : Nat} {d : PD}, RpAll tk G vs ds → ds[i]? = some d → ∃ v, vs[i]? = some v ∧ Rp tk G v d
  | _, _, _, _, .nil, e => by simp at e
  | _, _, 0, _, .cons a _, e => by simp at e; subst e; exact ⟨_, rfl, a⟩
  | _, _, i + 1, d, .cons _ b, e => by
    obtain ⟨v, h1, h2⟩ := RpAll.get (i := i) (d := d) b (by simpa using e)
    exact ⟨v, by simpa using h1, h2⟩
/-- no dict: no token -/
def isD : PD → Bool
  | .dict _ => false
  | _ => true
theorem isD_tok {d : PD} (h : isD d = true) : ∀ k, d ≠ tokD k := fun k e => by subst e; cases h
def allD (ds : List PD) : Bool := ds.all isD
theorem RpAll.dg {tk : Nat → V} {G : Hp} : ∀ {vs : List V} {ds : List PD}, RpAll tk G vs ds → allD ds = true → DgAll G vs ds
  | _, _, .nil, _ => .nil
  | _, _, .cons a b, h => by
    have h' := h
    simp only [allD, List.all_cons, Bool.and_eq_true] at h'
    exact .cons (a.dg (isD_tok h'.1)) (RpAll.dg b h'.2)
theorem DgAll.rp {tk : Nat → V} {G : Hp} : ∀ {vs : List V} {ds : List PD}, DgAll G vs ds → RpAll tk G vs ds
  | _, _, .nil => .nil
  | _, _, .cons a b => .cons (.inl a) (DgAll.rp b)

structure Sit (W : Wd) (G H : Hp) (s : W.d) : Prop where
  sub : Sub G H
  fpG : ∀ a, W.fp a → G a = none
  fpH : ∀ a, W.fp a → H a ≠ none
  rep : W.rep s G H
structure Gr (fp : Addr → Prop) (G H G' H' : Hp) : Prop where
  g : Sub G G'
  h : ∀ a o, ¬ fp a → H a = some o → H' a = some o
  dom : ∀ a, H' a = none → H a = none
  new : ∀ a o, G' a = some o → G a = some o ∨ H a = none
theorem Gr.refl {fp : Addr → Prop} {G H : Hp} : Gr fp G H G H := ⟨fun _ _ h => h, fun _ _ _ h => h, fun _ h => h, fun _ _ h => .inl h⟩
theorem Gr.trans {fp : Addr → Prop} {G H G1 H1 G2 H2 : Hp} (a : Gr fp G H G1 H1) (b : Gr fp G1 H1 G2 H2) : Gr fp G H G2 H2 :=
  ⟨fun x o h => b.g x o (a.g x o h), fun x o n h => b.h x o n (a.h x o n h), fun x h => a.dom x (b.dom x h), fun x o h => by
    rcases b.new x o h with z | z
    · exact a.new x o z
    · exact .inr (a.dom x z)⟩
theorem Gr.weak {fp fp' : Addr → Prop} {G H G1 H1 : Hp} (a : Gr fp G H G1 H1) (h : ∀ x, fp x → fp' x) : Gr fp' G H G1 H1 :=
  ⟨a.g, fun x o n e => a.h x o (fun z => n (h x z)) e, a.dom, a.new⟩
theorem sub_upd {G : Hp} {p : Addr} {o : HO} (h : G p = none) : Sub G (upd G p o) := fun a u e => by
  rw [upd_ne (ne_of_none e h)]; exact e
/-- a new object, in the ghost heap too -/
theorem Gr.alloc {fp : Addr → Prop} {G H : Hp} {p : Addr} {o : HO} (s : Sub G H) (h : H p = none) : Gr fp G H (upd G p o) (upd H p o) := by
  have hg : G p = none := by
    cases e : G p with
    | none => rfl
    | some u => rw [s _ _ e] at h; cases h
  refine ⟨sub_upd hg, fun a u _ e => sub_upd h a u e, fun a e => ?_, fun a u e => ?_⟩
  · by_cases z : a = p
    · subst z; exact h
    · rwa [upd_ne z] at e
  · by_cases z : a = p
    · subst z; exact .inr h
    · rw [upd_ne z] at e; exact .inl e
/-- a new object that only the heap knows -/
theorem Gr.allocH {fp : Addr → Prop} {G H : Hp} {p : Addr} {o : HO} (h : H p = none) : Gr fp G H G (upd H p o) := by
  refine ⟨fun _ _ e => e, fun a u _ e => sub_upd h a u e, fun a e => ?_, fun a u e => .inl e⟩
  by_cases z : a = p
  · subst z; exact h
  · rwa [upd_ne z] at e
theorem Sit.alloc {W : Wd} {G H : Hp} {s : W.d} {p : Addr} {o : HO} (S : Sit W G H s) (h : H p = none) : Sit W (upd G p o) (upd H p o) s := by
  have g := Gr.alloc (fp := W.fp) (o := o) S.sub h
  refine ⟨fun a u e => ?_, fun a f => ?_, fun a f z => S.fpH a f (g.dom a z), W.keep S.rep g.g fun a o _ e => sub_upd h a o e⟩
  · by_cases z : a = p
    · subst z; rw [upd_same] at e ⊢; exact e
    · rw [upd_ne z] at e ⊢; exact S.sub a u e
  · have z : a ≠ p := fun z => S.fpH a f (by rw [z]; exact h)
    rw [upd_ne z]; exact S.fpG a f
theorem Sit.allocH {W : Wd} {G H : Hp} {s : W.d} {p : Addr} {o : HO} (S : Sit W G H s) (h : H p = none) : Sit W G (upd H p o) s := by
  refine ⟨fun a u e => sub_upd h a u (S.sub a u e), S.fpG, fun a f z => S.fpH a f ?_, W.keep S.rep (fun _ _ e => e) fun a o _ e => sub_upd h a o e⟩
  by_cases q : a = p
  · subst q; exact h
  · rwa [upd_ne q] at z
/-- what a pure callee leaves -/
theorem Sit.pure {W : Wd} {G H G' H' : Hp} {s : W.d} (S : Sit W G H s) (g : Gr (fun _ => False) G H G' H') (sb : Sub G' H') : Sit W G' H' s := by
  refine ⟨sb, fun a f => ?_, fun a f z => S.fpH a f (g.dom a z), W.keep S.rep g.g fun a o _ e => g.h a o (fun z => z) e⟩
  cases e : G' a with
  | none => rfl
  | some o =>
    rcases g.new a o e with z | z
    · rw [S.fpG a f] at z; cases z
    · exact absurd z (S.fpH a f)

/-! ### slots -/
structure RS (W : Wd) (G H H0 : Hp) (O : List Nat) (σ : St) (ρ : Env) : Prop where
  len : σ.length = ρ.length
  plain : ∀ i d, ρ[i]? = some (some d) → i ∉ O → ∃ v, σ[i]? = some (some v) ∧ Rp W.tk G v d
  own : ∀ i d, ρ[i]? = some (some d) → i ∈ O → ∃ p vs ds, σ[i]? = some (some (.ref p)) ∧ d = .list ds ∧ H p = some (.lst vs) ∧ DgAll G vs ds ∧ G p = none ∧ H0 p = none ∧ ¬ W.fp p
  apart : ∀ i j p d e, i ∈ O → j ∈ O → ρ[i]? = some (some d) → ρ[j]? = some (some e) → σ[i]? = some (some (.ref p)) → σ[j]? = some (some (.ref p)) → i = j
theorem RS.step {W : Wd} {G H H0 G' H' : Hp} {O : List Nat} {σ : St} {ρ : Env} (r : RS W G H H0 O σ ρ) (g : Gr W.fp G H G' H') : RS W G' H' H0 O σ ρ := by
  refine ⟨r.len, fun i d e n => ?_, fun i d e m => ?_, r.apart⟩
  · obtain ⟨v, h1, h2⟩ := r.plain i d e n
    exact ⟨v, h1, h2.mono g.g⟩
  · obtain ⟨p, vs, ds, h1, h2, h3, h4, h5, h6, h7⟩ := r.own i d e m
    refine ⟨p, vs, ds, h1, h2, g.h p _ h7 h3, h4.mono g.g, ?_, h6, h7⟩
    cases q : G' p with
    | none => rfl
    | some o =>
      rcases g.new p o q with z | z
      · rw [h5] at z; cases z
      · rw [h3] at z; cases z

/-- the base of a body: the world, the entry's heaps, what is wanted of an exception -/
structure Bs where
  W : Wd
  G0 : Hp
  H0 : Hp
  E : XK
structure At (B : Bs) (O : List Nat) (σ : St) (H G : Hp) (ρ : Env) (s : B.W.d) : Prop where
  sit : Sit B.W G H s
  gr : Gr B.W.fp B.G0 B.H0 G H
  rs : RS B.W G H B.H0 O σ ρ
theorem At.step {B : Bs} {O : List Nat} {σ : St} {H G G' H' : Hp} {ρ : Env} {s s' : B.W.d} (a : At B O σ H G ρ s) (g : Gr B.W.fp G H G' H') (S : Sit B.W G' H' s') : At B O σ H' G' ρ s' :=
  ⟨S, a.gr.trans g, a.rs.step g⟩

/-! ### readings -/
abbrev Mx (B : Bs) (a : Type) := Env → B.W.d → R (a × B.W.d)
def PostE (B : Bs) (G H : Hp) (r : R (PD × B.W.d)) (Q : VK) : Prop :=
  match r with
  | .ok (d, s') => ∀ v G' H', Gr B.W.fp G H G' H' → Sit B.W G' H' s' → Rp B.W.tk G' v d → Q v H'
  | .exc c => ∀ G' H', Gr B.W.fp G H G' H' → B.E (.ref (B.W.cls c)) none H'
  | .bad => False
def PostT (B : Bs) (G H : Hp) (r : R (Bool × B.W.d)) (Q : Bool → Hp → Prop) : Prop :=
  match r with
  | .ok (b, s') => ∀ G' H', Gr B.W.fp G H G' H' → Sit B.W G' H' s' → Q b H'
  | .exc c => ∀ G' H', Gr B.W.fp G H G' H' → B.E (.ref (B.W.cls c)) none H'
  | .bad => False
def PostA (B : Bs) (G H : Hp) (r : R (List PD × B.W.d)) (Q : List V → Hp → Prop) : Prop :=
  match r with
  | .ok (ds, s') => ∀ vs G' H', Gr B.W.fp G H G' H' → Sit B.W G' H' s' → RpAll B.W.tk G' vs ds → Q vs H'
  | .exc c => ∀ G' H', Gr B.W.fp G H G' H' → B.E (.ref (B.W.cls c)) none H'
  | .bad => False
theorem PostE.mono {B : Bs} {G H G1 H1 : Hp} {r : R (PD × B.W.d)} {Q : VK} (g : Gr B.W.fp G H G1 H1) (h : PostE B G H r Q) : PostE B G1 H1 r Q := by
  cases r with
  | ok x => exact fun v G' H' g' S' R' => h v G' H' (g.trans g') S' R'
  | exc c => exact fun G' H' g' => h G' H' (g.trans g')
  | bad => exact h
theorem PostT.mono {B : Bs} {G H G1 H1 : Hp} {r : R (Bool × B.W.d)} {Q : Bool → Hp → Prop} (g : Gr B.W.fp G H G1 H1) (h : PostT B G H r Q) : PostT B G1 H1 r Q := by
  cases r with
  | ok x => exact fun G' H' g' S' => h G' H' (g.trans g') S'
  | exc c => exact fun G' H' g' => h G' H' (g.trans g')
  | bad => exact h
theorem PostA.mono {B : Bs} {G H G1 H1 : Hp} {r : R (List PD × B.W.d)} {Q : List V → Hp → Prop} (g : Gr B.W.fp G H G1 H1) (h : PostA B G H r Q) : PostA B G1 H1 r Q := by
  cases r with
  | ok x => exact fun v G' H' g' S' R' => h v G' H' (g.trans g') S' R'
  | exc c => exact fun G' H' g' => h G' H' (g.trans g')
  | bad => exact h
def rdE (B : Bs) (O : List Nat) (f : Mx B PD) : TE := fun σ H Q => ∃ G ρ s, At B O σ H G ρ s ∧ PostE B G H (f ρ s) Q
def rdT (B : Bs) (O : List Nat) (f : Mx B Bool) : TT := fun σ H Q => ∃ G ρ s, At B O σ H G ρ s ∧ PostT B G H (f ρ s) Q
def rdA (B : Bs) (O : List Nat) (f : Mx B (List PD)) : TA := fun σ H Q => ∃ G ρ s, At B O σ H G ρ s ∧ PostA B G H (f ρ s) Q
abbrev DE (X : Cx) (B : Bs) (O : List Nat) (e : Expr) (f : Mx B PD) : Prop := PE X e (rdE B O f)
abbrev DT (X : Cx) (B : Bs) (O : List Nat) (e : Expr) (f : Mx B Bool) : Prop := PT X e (rdT B O f)
abbrev DA (X : Cx) (B : Bs) (O : List Nat) (es : List Expr) (f : Mx B (List PD)) : Prop := PA X es (rdA B O f)
theorem PE.imp {X : Cx} {e : Expr} {t t' : TE} (h : PE X e t) (i : ∀ σ H Q, t' σ H Q → t σ H Q) : PE X e t' := ⟨fun pins s σ H Q I q => h.run pins s σ H Q I (i σ H Q q)⟩
theorem PT.imp {X : Cx} {e : Expr} {t t' : TT} (h : PT X e t) (i : ∀ σ H Q, t' σ H Q → t σ H Q) : PT X e t' := ⟨fun pins s σ H Q I q => h.run pins s σ H Q I (i σ H Q q)⟩
theorem PA.imp {X : Cx} {es : List Expr} {t t' : TA} (h : PA X es t) (i : ∀ σ H Q, t' σ H Q → t σ H Q) : PA X es t' := ⟨fun pos pins s σ H Q I q => h.run pos pins s σ H Q I (i σ H Q q)⟩
theorem PS.imp {X : Cx} {st : Stmt} {t t' : TS} (h : PS X st t) (i : ∀ D σ H, t' D σ H → t D σ H) : PS X st t' := ⟨fun pins s σ H D I q => h.run pins s σ H D I (i D σ H q)⟩
theorem PSs.imp {X : Cx} {st : List Stmt} {t t' : TS} (h : PSs X st t) (i : ∀ D σ H, t' D σ H → t D σ H) : PSs X st t' := ⟨fun pins s σ H D I q => h.run pins s σ H D I (i D σ H q)⟩
theorem PI.imp {X : Cx} {tg e : Expr} {t t' : TI} (h : PI X tg e t) (i : ∀ σ H R, t' σ H R → t σ H R) : PI X tg e t' := ⟨fun pins s σ H R I q => h.run pins s σ H R I (i σ H R q)⟩

/-! ### one step after another -/
/-- an expression first -/
theorem rdE.fst {B : Bs} {O : List Nat} {f : Mx B PD} {σ : St} {H : Hp} {Q : VK} {G : Hp} {ρ : Env} {s : B.W.d} {b : Type} {k : PD → B.W.d → R (b × B.W.d)}
    (a : At B O σ H G ρ s) (P : Hp → Hp → R (b × B.W.d) → Prop) (hm : ∀ {G1 H1 r}, Gr B.W.fp G H G1 H1 → P G H r → P G1 H1 r) (he : ∀ {c}, P G H (.exc c) → ∀ G' H', Gr B.W.fp G H G' H' → B.E (.ref (B.W.cls c)) none H') (hb : ¬ P G H .bad)
    (p : P G H (bnd (f ρ s) k)) (h : ∀ v G1 H1 d s1, At B O σ H1 G1 ρ s1 → Gr B.W.fp G H G1 H1 → Rp B.W.tk G1 v d → P G1 H1 (k d s1) → Q v H1) : rdE B O f σ H Q := by
  refine ⟨G, ρ, s, a, ?_⟩
  cases e : f ρ s with
  | ok x =>
    obtain ⟨d, s1⟩ := x
    rw [e] at p
    exact fun v G1 H1 g S r => h v G1 H1 d s1 (a.step g S) g r (hm g p)
  | exc c => rw [e] at p; exact he p
  | bad => rw [e] at p; exact (hb p).elim
theorem rdE.then {B : Bs} {O : List Nat} {f : Mx B PD} {σ : St} {H : Hp} {Q Q' : VK} {G : Hp} {ρ : Env} {s : B.W.d} {k : PD → B.W.d → R (PD × B.W.d)}
    (a : At B O σ H G ρ s) (p : PostE B G H (bnd (f ρ s) k) Q') (h : ∀ v G1 H1 d s1, At B O σ H1 G1 ρ s1 → Gr B.W.fp G H G1 H1 → Rp B.W.tk G1 v d → PostE B G1 H1 (k d s1) Q' → Q v H1) : rdE B O f σ H Q :=
  rdE.fst a (fun G H r => PostE B G H r Q') (fun g p => p.mono g) (fun p => p) (fun p => p) p h
theorem rdE.thenT {B : Bs} {O : List Nat} {f : Mx B PD} {σ : St} {H : Hp} {Q : VK} {Q' : Bool → Hp → Prop} {G : Hp} {ρ : Env} {s : B.W.d} {k : PD → B.W.d → R (Bool × B.W.d)}
    (a : At B O σ H G ρ s) (p : PostT B G H (bnd (f ρ s) k) Q') (h : ∀ v G1 H1 d s1, At B O σ H1 G1 ρ s1 → Gr B.W.fp G H G1 H1 → Rp B.W.tk G1 v d → PostT B G1 H1 (k d s1) Q' → Q v H1) : rdE B O f σ H Q :=
  rdE.fst a (fun G H r => PostT B G H r Q') (fun g p => p.mono g) (fun p => p) (fun p => p) p h
theorem rdE.thenA {B : Bs} {O : List Nat} {f : Mx B PD} {σ : St} {H : Hp} {Q : VK} {Q' : List V → Hp → Prop} {G : Hp} {ρ : Env} {s : B.W.d} {k : PD → B.W.d → R (List PD × B.W.d)}
    (a : At B O σ H G ρ s) (p : PostA B G H (bnd (f ρ s) k) Q') (h : ∀ v G1 H1 d s1, At B O σ H1 G1 ρ s1 → Gr B.W.fp G H G1 H1 → Rp B.W.tk G1 v d → PostA B G1 H1 (k d s1) Q' → Q v H1) : rdE B O f σ H Q :=
  rdE.fst a (fun G H r => PostA B G H r Q') (fun g p => p.mono g) (fun p => p) (fun p => p) p h
/-- a test first -/
theorem rdT.fst {B : Bs} {O : List Nat} {f : Mx B Bool} {σ : St} {H : Hp} {Q : Bool → Hp → Prop} {G : Hp} {ρ : Env} {s : B.W.d} {b : Type} {k : Bool → B.W.d → R (b × B.W.d)}
    (a : At B O σ H G ρ s) (P : Hp → Hp → R (b × B.W.d) → Prop) (hm : ∀ {G1 H1 r}, Gr B.W.fp G H G1 H1 → P G H r → P G1 H1 r) (he : ∀ {c}, P G H (.exc c) → ∀ G' H', Gr B.W.fp G H G' H' → B.E (.ref (B.W.cls c)) none H') (hb : ¬ P G H .bad)
    (p : P G H (bnd (f ρ s) k)) (h : ∀ x G1 H1 s1, At B O σ H1 G1 ρ s1 → Gr B.W.fp G H G1 H1 → P G1 H1 (k x s1) → Q x H1) : rdT B O f σ H Q := by
  refine ⟨G, ρ, s, a, ?_⟩
  cases e : f ρ s with
  | ok x =>
    obtain ⟨d, s1⟩ := x
    rw [e] at p
    exact fun G1 H1 g S => h d G1 H1 s1 (a.step g S) g (hm g p)
  | exc c => rw [e] at p; exact he p
  | bad => rw [e] at p; exact (hb p).elim
theorem rdT.then {B : Bs} {O : List Nat} {f : Mx B Bool} {σ : St} {H : Hp} {Q : Bool → Hp → Prop} {Q' : VK} {G : Hp} {ρ : Env} {s : B.W.d} {k : Bool → B.W.d → R (PD × B.W.d)}
    (a : At B O σ H G ρ s) (p : PostE B G H (bnd (f ρ s) k) Q') (h : ∀ x G1 H1 s1, At B O σ H1 G1 ρ s1 → Gr B.W.fp G H G1 H1 → PostE B G1 H1 (k x s1) Q' → Q x H1) : rdT B O f σ H Q :=
  rdT.fst a (fun G H r => PostE B G H r Q') (fun g p => p.mono g) (fun p => p) (fun p => p) p h
theorem rdT.thenT {B : Bs} {O : List Nat} {f : Mx B Bool} {σ : St} {H : Hp} {Q : Bool → Hp → Prop} {Q' : Bool → Hp → Prop} {G : Hp} {ρ : Env} {s : B.W.d} {k : Bool → B.W.d → R (Bool × B.W.d)}
    (a : At B O σ H G ρ s) (p : PostT B G H (bnd (f ρ s) k) Q') (h : ∀ x G1 H1 s1, At B O σ H1 G1 ρ s1 → Gr B.W.fp G H G1 H1 → PostT B G1 H1 (k x s1) Q' → Q x H1) : rdT B O f σ H Q :=
  rdT.fst a (fun G H r => PostT B G H r Q') (fun g p => p.mono g) (fun p => p) (fun p => p) p h
/-- arguments first -/
theorem rdA.fst {B : Bs} {O : List Nat} {f : Mx B (List PD)} {σ : St} {H : Hp} {Q : List V → Hp → Prop} {G : Hp} {ρ : Env} {s : B.W.d} {b : Type} {k : List PD → B.W.d → R (b × B.W.d)}
    (a : At B O σ H G ρ s) (P : Hp → Hp → R (b × B.W.d) → Prop) (hm : ∀ {G1 H1 r}, Gr B.W.fp G H G1 H1 → P G H r → P G1 H1 r) (he : ∀ {c}, P G H (.exc c) → ∀ G' H', Gr B.W.fp G H G' H' → B.E (.ref (B.W.cls c)) none H') (hb : ¬ P G H .bad)
    (p : P G H (bnd (f ρ s) k)) (h : ∀ vs G1 H1 ds s1, At B O σ H1 G1 ρ s1 → Gr B.W.fp G H G1 H1 → RpAll B.W.tk G1 vs ds → P G1 H1 (k ds s1) → Q vs H1) : rdA B O f σ H Q := by
  refine ⟨G, ρ, s, a, ?_⟩
  cases e : f ρ s with
  | ok x =>
    obtain ⟨d, s1⟩ := x
    rw [e] at p
    exact fun v G1 H1 g S r => h v G1 H1 d s1 (a.step g S) g r (hm g p)
  | exc c => rw [e] at p; exact he p
  | bad => rw [e] at p; exact (hb p).elim
theorem rdA.then {B : Bs} {O : List Nat} {f : Mx B (List PD)} {σ : St} {H : Hp} {Q : List V → Hp → Prop} {Q' : VK} {G : Hp} {ρ : Env} {s : B.W.d} {k : List PD → B.W.d → R (PD × B.W.d)}
    (a : At B O σ H G ρ s) (p : PostE B G H (bnd (f ρ s) k) Q') (h : ∀ vs G1 H1 ds s1, At B O σ H1 G1 ρ s1 → Gr B.W.fp G H G1 H1 → RpAll B.W.tk G1 vs ds → PostE B G1 H1 (k ds s1) Q' → Q vs H1) : rdA B O f σ H Q :=
  rdA.fst a (fun G H r => PostE B G H r Q') (fun g p => p.mono g) (fun p => p) (fun p => p) p h
theorem rdA.thenA {B : Bs} {O : List Nat} {f : Mx B (List PD)} {σ : St} {H : Hp} {Q : List V → Hp → Prop} {Q' : List V → Hp → Prop} {G : Hp} {ρ : Env} {s : B.W.d} {k : List PD → B.W.d → R (List PD × B.W.d)}
    (a : At B O σ H G ρ s) (p : PostA B G H (bnd (f ρ s) k) Q') (h : ∀ vs G1 H1 ds s1, At B O σ H1 G1 ρ s1 → Gr B.W.fp G H G1 H1 → RpAll B.W.tk G1 vs ds → PostA B G1 H1 (k ds s1) Q' → Q vs H1) : rdA B O f σ H Q :=
  rdA.fst a (fun G H r => PostA B G H r Q') (fun g p => p.mono g) (fun p => p) (fun p => p) p h
/-- a pure end: nothing has changed -/
theorem PostE.done {B : Bs} {G H : Hp} {v : V} {d : PD} {s : B.W.d} {Q : VK} (S : Sit B.W G H s) (r : Rp B.W.tk G v d) (p : PostE B G H (.ok (d, s)) Q) : Q v H := p v G H .refl S r
/-- a new list, a new tuple -/
theorem PostE.lst {B : Bs} {G H : Hp} {vs : List V} {ds : List PD} {s : B.W.d} {Q : VK} {p : Addr} (S : Sit B.W G H s) (r : DgAll G vs ds) (q : PostE B G H (.ok (.list ds, s)) Q) (hp : H p = none) : Q (.ref p) (upd H p (.lst vs)) :=
  have g := Gr.alloc (fp := B.W.fp) (o := .lst vs) S.sub hp
  q (.ref p) _ _ g (S.alloc hp) (.inl (.lst upd_same (r.mono g.g)))
theorem PostE.tup {B : Bs} {G H : Hp} {vs : List V} {ds : List PD} {s : B.W.d} {Q : VK} {p : Addr} (S : Sit B.W G H s) (r : DgAll G vs ds) (q : PostE B G H (.ok (.tuple ds, s)) Q) (hp : H p = none) : Q (.ref p) (upd H p (.tup vs)) :=
  have g := Gr.alloc (fp := B.W.fp) (o := .tup vs) S.sub hp
  q (.ref p) _ _ g (S.alloc hp) (.inl (.tup upd_same (r.mono g.g)))
end DL

/-! DL2: expressions -/
namespace DL
open PySem PySem.Spec PyProof.Rows L2

section
variable {X : Cx} {B : Bs} {O : List Nat}

/-! ### names, constants -/
def cVar {d : Type} (i : Nat) : Env → d → R (PD × d) := fun ρ s =>
  match ρ[i]? with
  | some (some d) => .ok (d, s)
  | _ => .bad
theorem de_var (i : Nat) {x : Str} {pos : Pos} (hN : X.N[i]? = some x := by rfl) (hO : i ∉ O := by decide) (hv : Vis X.env.scope x := by first | exact Or.inl rfl | exact Or.inr (Or.inl rfl) | exact Or.inr (Or.inr rfl)) (hd : (x == ("__debug__" : Str)) = false := by decide)
    (hcd : (x == ("__classdict__" : Str)) = false := by decide) : DE X B O (.Name x pos) (cVar i) := by
  refine PE.imp (pe_var hN hv hd hcd) fun σ H Q h => ?_
  obtain ⟨G, ρ, s, a, p⟩ := h
  unfold cVar at p
  cases e : ρ[i]? with
  | none => rw [e] at p; exact p.elim
  | some y =>
    cases y with
    | none => rw [e] at p; exact p.elim
    | some d =>
      rw [e] at p
      obtain ⟨v, h1, h2⟩ := a.rs.plain i d e hO
      exact ⟨v, h1, p.done a.sit h2⟩
def cC {d : Type} (x : PD) : Env → d → R (PD × d) := fun _ s => .ok (x, s)
theorem de_c {e : Expr} {v : V} {d : PD} (h : PE X e (tC v)) (r : ∀ G, Dg G v d) : DE X B O e (cC d) := by
  refine PE.imp h fun σ H Q h => ?_
  obtain ⟨G, ρ, s, a, p⟩ := h
  exact p.done a.sit (.inl (r G))
theorem de_int {i : Int} {j : Nat} {pos : Pos} : DE X B O (.Constant (.int i) j pos) (cC (.int i)) := de_c pe_int fun _ => .int i
theorem de_bl {b : Bool} {j : Nat} {pos : Pos} : DE X B O (.Constant (.bool b) j pos) (cC (.bool b)) := de_c pe_bl fun _ => .bl b
theorem de_non {j : Nat} {pos : Pos} : DE X B O (.Constant .none j pos) (cC .none) := de_c pe_non fun _ => .non
theorem de_str {x : Str} {j : Nat} {pos : Pos} : DE X B O (.Constant (.str x) j pos) (cC (.str x)) := de_c pe_str fun _ => .str x
/-- a module's constant -/
theorem de_gint {x : Str} {i : Int} {t : Tok} {pos : Pos} (hm : X.mg x = some (.int i t)) (hg : Gl X x := by rfl) (hd : (x == ("__debug__" : Str)) = false := by decide) : DE X B O (.Name x pos) (cC (.int i)) := de_c (pe_glob (v := .int i) hg hm ⟨t, rfl⟩ hd) fun _ => .int i
theorem de_gstr {x z : Str} {t : Tok} {pos : Pos} (hm : X.mg x = some (.str z t)) (hg : Gl X x := by rfl) (hd : (x == ("__debug__" : Str)) = false := by decide) : DE X B O (.Name x pos) (cC (.str z)) := de_c (pe_glob (v := .str z) hg hm ⟨t, rfl⟩ hd) fun _ => .str z

/-! ### operators by values -/
/-- what an operator does with data -/
def PostD (G H : Hp) (r : R PD) (Q : VK) : Prop :=
  match r with
  | .ok d => ∀ v G' H', Gr (fun _ => False) G H G' H' → Sub G' H' → Dg G' v d → Q v H'
  | _ => False
def rdO (f : PD → PD → R PD) : R2 := fun x y H Q => ∃ G d e, Sub G H ∧ Dg G x d ∧ Dg G y e ∧ PostD G H (f d e) Q
def DOp (X : Cx) (g : Value → Value → Sem Value) (f : PD → PD → R PD) : Prop := OpR X g (rdO f)
theorem OpR.imp {X : Cx} {g : Value → Value → Sem Value} {r r' : R2} (h : OpR X g r) (i : ∀ x y H Q, r' x y H Q → r x y H Q) : OpR X g r' :=
  fun pins s σ H x y v u Q I rx ry q => h pins s σ H x y v u Q I rx ry (i x y H Q q)
/-- several rules for one operator, by the data at hand -/
theorem OpR.by {X : Cx} {g : Value → Value → Sem Value} {r' : R2} (h : ∀ x y H Q, r' x y H Q → ∃ r, OpR X g r ∧ r x y H Q) : OpR X g r' :=
  fun pins s σ H x y v u Q I rx ry q => by
    obtain ⟨r, hr, q'⟩ := h x y H Q q
    exact hr pins s σ H x y v u Q I rx ry q'
theorem PostD.val {G H : Hp} {d : PD} {v : V} {Q : VK} (p : PostD G H (.ok d) Q) (sb : Sub G H) (r : Dg G v d) : Q v H := p v G H .refl sb r
theorem subA {G H : Hp} {p : Addr} {o : HO} (s : Sub G H) (h : H p = none) : Sub (upd G p o) (upd H p o) := fun a u e => by
  by_cases z : a = p
  · subst z; rw [upd_same] at e ⊢; exact e
  · rw [upd_ne z] at e ⊢; exact s a u e
theorem PostD.lst {G H : Hp} {ds : List PD} {vs : List V} {Q : VK} {p : Addr} (q : PostD G H (.ok (.list ds)) Q) (sb : Sub G H) (r : DgAll G vs ds) (hp : H p = none) : Q (.ref p) (upd H p (.lst vs)) :=
  have g := Gr.alloc (fp := fun _ => False) (o := .lst vs) sb hp
  q (.ref p) _ _ g (subA sb hp) (.lst upd_same (r.mono g.g))
theorem PostD.tup {G H : Hp} {ds : List PD} {vs : List V} {Q : VK} {p : Addr} (q : PostD G H (.ok (.tuple ds)) Q) (sb : Sub G H) (r : DgAll G vs ds) (hp : H p = none) : Q (.ref p) (upd H p (.tup vs)) :=
  have g := Gr.alloc (fp := fun _ => False) (o := .tup vs) sb hp
  q (.ref p) _ _ g (subA sb hp) (.tup upd_same (r.mono g.g))
/-- from data to the world around -/
theorem PostD.of {G H : Hp} {r : R PD} {Q : VK} {s : B.W.d} (S : Sit B.W G H s) (p : PostE B G H (lft r s) Q) (hx : ∀ c, r ≠ .exc c) : PostD G H r Q := by
  cases r with
  | ok d => exact fun v G' H' g sb rp => p v G' H' (g.weak fun _ z => z.elim) (S.pure g sb) (.inl rp)
  | exc c => exact (hx c rfl).elim
  | bad => exact p
def isOk (r : R PD) : R PD := match r with
  | .ok d => .ok d
  | _ => .bad
/-- two data, one operation; tokens are none -/
def cOp {d : Type} (f : PD → PD → R PD) (a b : Env → d → R (PD × d)) : Env → d → R (PD × d) := fun ρ s =>
  bnd (a ρ s) fun x s1 => bnd (b ρ s1) fun y s2 => if isD x && isD y then lft (isOk (f x y)) s2 else .bad
theorem isOk_nx (r : R PD) (c : Nat) : isOk r ≠ .exc c := by cases r <;> simp [isOk]
theorem PostD.isOk {G H : Hp} {r : R PD} {Q : VK} (p : PostD G H (isOk r) Q) : PostD G H r Q := by
  cases r with
  | ok d => exact p
  | exc c => exact p
  | bad => exact p
theorem rd_op {f : PD → PD → R PD} {fa fb : Mx B PD} {σ : St} {H : Hp} {Q : VK} (h : rdE B O (cOp f fa fb) σ H Q) : tOp (rdO f) (rdE B O fa) (rdE B O fb) σ H Q := by
  obtain ⟨G, ρ, s, a, p⟩ := h
  refine rdE.then a p fun x G1 H1 dx s1 a1 g1 rx p1 => ?_
  refine rdE.then a1 p1 fun y G2 H2 dy s2 a2 g2 ry p2 => ?_
  by_cases hd : (isD dx && isD dy) = true
  · rw [if_pos hd] at p2
    have h' := hd
    rw [Bool.and_eq_true] at h'
    exact ⟨G2, dx, dy, a2.sit.sub, (rx.mono g2.g).dg (isD_tok h'.1), ry.dg (isD_tok h'.2), (PostD.of a2.sit p2 (isOk_nx _)).isOk⟩
  · rw [if_neg hd] at p2; exact p2.elim
theorem de_op {op : Operator} {f : PD → PD → R PD} {a b : Expr} {fa fb : Mx B PD} {pos : Pos} (ho : DOp X (binaryOp op) f) (ha : DE X B O a fa) (hb : DE X B O b fb) : DE X B O (.BinOp a op b pos) (cOp f fa fb) :=
  PE.imp (pe_op ho ha hb) fun σ H Q h => rd_op h
theorem de_cmp {op : CmpOp} {f : PD → PD → R PD} {a b : Expr} {fa fb : Mx B PD} {pos : Pos} (ho : DOp X (compareOp op) f) (ha : DE X B O a fa) (hb : DE X B O b fb) (hm : behindInMarks op b = false := by first | exact nobehind _ (by decide) (by decide) | rfl) : DE X B O (.Compare a [op] [b] pos) (cOp f fa fb) :=
  PE.imp (pe_cmpR ho ha hb hm) fun σ H Q h => rd_op h
/-- one operand -/
def rdU (f : PD → R PD) : V → Hp → VK → Prop := fun x H Q => ∃ G d, Sub G H ∧ Dg G x d ∧ PostD G H (f d) Q
def cUn {d : Type} (f : PD → R PD) (a : Env → d → R (PD × d)) : Env → d → R (PD × d) := fun ρ s =>
  bnd (a ρ s) fun x s1 => if isD x then lft (isOk (f x)) s1 else .bad
theorem rd_un {f : PD → R PD} {fa : Mx B PD} {σ : St} {H : Hp} {Q : VK} (h : rdE B O (cUn f fa) σ H Q) : tUn (rdU f) (rdE B O fa) σ H Q := by
  obtain ⟨G, ρ, s, a, p⟩ := h
  refine rdE.then a p fun x G1 H1 dx s1 a1 g1 rx p1 => ?_
  by_cases hd : isD dx = true
  · rw [if_pos hd] at p1
    exact ⟨G1, dx, a1.sit.sub, rx.dg (isD_tok hd), (PostD.of a1.sit p1 (isOk_nx _)).isOk⟩
  · rw [if_neg hd] at p1; exact p1.elim
theorem de_un {op : UnaryOp} {f : PD → R PD} {a : Expr} {fa : Mx B PD} {pos : Pos} (ho : UnR X (unaryOp op) (rdU f)) (ha : DE X B O a fa) : DE X B O (.UnaryOp op a pos) (cUn f fa) :=
  PE.imp (pe_un ho ha) fun σ H Q h => rd_un h

/-! ### the operators -/
def pAdd : PD → PD → R PD
  | .int i, .int j => .ok (.int (i + j))
  | .list xs, .list ys => if xs.length + ys.length ≤ sizeLine then .ok (.list (xs ++ ys)) else .bad
  | .str x, .str y => if x.length + y.length ≤ sizeLine then .ok (.str (x ++ y)) else .bad
  | .tuple xs, .tuple ys => if xs.length + ys.length ≤ sizeLine ∧ 0 < xs.length ∧ 0 < ys.length then .ok (.tuple (xs ++ ys)) else .bad
  | _, _ => .bad
theorem dop_add : DOp X (binaryOp .Add) pAdd := by
  refine OpR.by fun x y H Q h => ?_
  obtain ⟨G, d, e, sb, rx, ry, p⟩ := h
  unfold pAdd at p
  split at p
  · exact ⟨_, op_add, _, _, rx.of_int, ry.of_int, p.val sb (.int _)⟩
  · rename_i xs ys
    split at p
    · rename_i hl
      obtain ⟨a, vs, rfl, ga, da⟩ := rx.of_lst
      obtain ⟨b, ws, rfl, gb, db⟩ := ry.of_lst
      exact ⟨_, op_cat, _, _, _, _, rfl, rfl, sb _ _ ga, sb _ _ gb, by rw [da.len, db.len]; exact hl, fun q hq => p.lst sb (da.app db) hq⟩
    · exact p.elim
  · rename_i xs ys
    split at p
    · rename_i hl
      exact ⟨_, op_add_str, _, _, rx.of_str, ry.of_str, hl, p.val sb (.str _)⟩
    · exact p.elim
  · rename_i xs ys
    split at p
    · rename_i hl
      obtain ⟨a, vs, rfl, ga, da⟩ := rx.of_tup
      obtain ⟨b, ws, rfl, gb, db⟩ := ry.of_tup
      refine ⟨_, op_catT, _, _, _, _, rfl, rfl, SqT.of (sb _ _ ga), SqT.of (sb _ _ gb), ?_, by rw [da.len, db.len]; exact hl.1, ?_, fun q hq => ?_⟩
      · intro z; have := da.len; rw [z] at this; simp at this; omega
      · intro z; have := db.len; rw [z] at this; simp at this; omega
      · exact fun hq2 => p.tup sb (da.app db) hq2
    · exact p.elim
  · exact p.elim
def pSub : PD → PD → R PD
  | .int i, .int j => .ok (.int (i - j))
  | _, _ => .bad
theorem dop_sub : DOp X (binaryOp .Sub) pSub := by
  refine OpR.by fun x y H Q h => ?_
  obtain ⟨G, d, e, sb, rx, ry, p⟩ := h
  unfold pSub at p
  split at p
  · exact ⟨_, op_sub, _, _, rx.of_int, ry.of_int, p.val sb (.int _)⟩
  · exact p.elim
def mulOk (i j : Int) : Bool := (decide (-(2 ^ 64) < i) && decide (i < 2 ^ 64)) || (decide (-(2 ^ 64) < j) && decide (j < 2 ^ 64))
def pMul : PD → PD → R PD
  | .int i, .int j => if mulOk i j then .ok (.int (i * j)) else .bad
  | .list xs, .int k => if (decide (-(2 ^ 63) ≤ k) && decide (k < 2 ^ 63) && decide (xs.length * k.toNat ≤ sizeLine)) then .ok (.list (List.replicate k.toNat xs).flatten) else .bad
  | _, _ => .bad
theorem DgAll.rep {G : Hp} {vs : List V} {ds : List PD} (h : DgAll G vs ds) : ∀ n : Nat, DgAll G (List.replicate n vs).flatten (List.replicate n ds).flatten
  | 0 => .nil
  | n + 1 => by
    rw [List.replicate_succ, List.replicate_succ, List.flatten_cons, List.flatten_cons]
    exact h.app (DgAll.rep h n)
theorem dop_mul : DOp X (binaryOp .Mult) pMul := by
  refine OpR.by fun x y H Q h => ?_
  obtain ⟨G, d, e, sb, rx, ry, p⟩ := h
  unfold pMul at p
  split at p
  · rename_i i j
    split at p
    · rename_i hm
      refine ⟨_, op_mul, _, _, rx.of_int, ry.of_int, ?_, p.val sb (.int _)⟩
      unfold mulOk at hm
      simp only [Bool.or_eq_true, Bool.and_eq_true, decide_eq_true_eq] at hm
      exact hm
    · exact p.elim
  · rename_i xs k
    split at p
    · rename_i hm
      simp only [Bool.and_eq_true, decide_eq_true_eq] at hm
      obtain ⟨a, vs, rfl, ga, da⟩ := rx.of_lst
      exact ⟨_, op_rep, _, _, _, rfl, ry.of_int, sb _ _ ga, hm.1.1, hm.1.2, by rw [da.len]; exact hm.2, fun q hq => p.lst sb (da.rep _) hq⟩
    · exact p.elim
  · exact p.elim
def pDiv : PD → PD → R PD
  | .int i, .int j => if decide (0 < j) && decide (j < 1073741824) then .ok (.int (i / j)) else .bad
  | _, _ => .bad
theorem dop_div : DOp X (binaryOp .FloorDiv) pDiv := by
  refine OpR.by fun x y H Q h => ?_
  obtain ⟨G, d, e, sb, rx, ry, p⟩ := h
  unfold pDiv at p
  split at p
  · split at p
    · rename_i hm
      simp only [Bool.and_eq_true, decide_eq_true_eq] at hm
      exact ⟨_, op_fdiv, _, _, rx.of_int, ry.of_int, hm, p.val sb (.int _)⟩
    · exact p.elim
  · exact p.elim
def pMod : PD → PD → R PD
  | .int i, .int j => if 0 < j then .ok (.int (i % j)) else .bad
  | _, _ => .bad
theorem dop_mod : DOp X (binaryOp .Mod) pMod := by
  refine OpR.by fun x y H Q h => ?_
  obtain ⟨G, d, e, sb, rx, ry, p⟩ := h
  unfold pMod at p
  split at p
  · split at p
    · rename_i hm
      exact ⟨_, op_mod, _, _, rx.of_int, ry.of_int, hm, p.val sb (.int _)⟩
    · exact p.elim
  · exact p.elim
def pPow : PD → PD → R PD
  | .int i, .int j => if decide (0 ≤ j) && decide (j ≤ 1000000) && decide (i.natAbs < 2 ^ 64) then .ok (.int (i ^ j.toNat)) else .bad
  | _, _ => .bad
theorem dop_pow : DOp X (binaryOp .Pow) pPow := by
  refine OpR.by fun x y H Q h => ?_
  obtain ⟨G, d, e, sb, rx, ry, p⟩ := h
  unfold pPow at p
  split at p
  · split at p
    · rename_i hm
      simp only [Bool.and_eq_true, decide_eq_true_eq] at hm
      exact ⟨_, op_pow, _, _, rx.of_int, ry.of_int, ⟨hm.1.1, hm.1.2, hm.2⟩, p.val sb (.int _)⟩
    · exact p.elim
  · exact p.elim
def pNeg : PD → R PD
  | .int i => .ok (.int (-i))
  | _ => .bad
theorem dun_neg : UnR X (unaryOp .USub) (rdU pNeg) := by
  intro pins s σ H x v Q I rx h
  obtain ⟨G, d, sb, rx', p⟩ := h
  unfold pNeg at p
  split at p
  · exact un_neg pins s σ H x v Q I rx ⟨_, rx'.of_int, p.val sb (.int _)⟩
  · exact p.elim
/-- comparisons of ints -/
def pCmp (c : Int → Int → Bool) : PD → PD → R PD
  | .int i, .int j => .ok (.bool (c i j))
  | _, _ => .bad
theorem dop_cmp {g : Value → Value → Sem Value} {c : Int → Int → Bool} (ho : OpR X g (rI0 fun i j => .bl (c i j))) : DOp X g (pCmp c) := by
  refine OpR.by fun x y H Q h => ?_
  obtain ⟨G, d, e, sb, rx, ry, p⟩ := h
  unfold pCmp at p
  split at p
  · exact ⟨_, ho, _, _, rx.of_int, ry.of_int, p.val sb (.bl _)⟩
  · exact p.elim
abbrev pLt := pCmp fun i j => decide (i < j)
abbrev pLe := pCmp fun i j => decide (i ≤ j)
abbrev pGt := pCmp fun i j => decide (j < i)
abbrev pGe := pCmp fun i j => decide (j ≤ i)
theorem dop_lt : DOp X (compareOp .Lt) pLt := dop_cmp op_lt
theorem dop_le : DOp X (compareOp .LtE) pLe := dop_cmp op_le
theorem dop_gt : DOp X (compareOp .Gt) pGt := dop_cmp op_gt
theorem dop_ge : DOp X (compareOp .GtE) pGe := dop_cmp op_ge
/-- ==, != of data -/
def pEq : PD → PD → R PD := fun d e => if SeqAt.shaped d && SeqAt.shaped e then .ok (.bool (PyData.eqv d e)) else .bad
def pNe : PD → PD → R PD := fun d e => if SeqAt.shaped d && SeqAt.shaped e then .ok (.bool (!PyData.eqv d e)) else .bad
theorem dop_eq (hu : X.A.units + 64 < cLine) : DOp X (compareOp .Eq) pEq := by
  refine OpR.by fun x y H Q h => ?_
  obtain ⟨G, d, e, sb, rx, ry, p⟩ := h
  unfold pEq at p
  split at p
  · rename_i hm
    rw [Bool.and_eq_true] at hm
    exact ⟨_, op_eqD hu, d, e, rx.dp sb, ry.dp sb, hm.1, hm.2, p.val sb (.bl _)⟩
  · exact p.elim
theorem dop_ne (hu : X.A.units + 64 < cLine) : DOp X (compareOp .NotEq) pNe := by
  refine OpR.by fun x y H Q h => ?_
  obtain ⟨G, d, e, sb, rx, ry, p⟩ := h
  unfold pNe at p
  split at p
  · rename_i hm
    rw [Bool.and_eq_true] at hm
    exact ⟨_, op_neD hu, d, e, rx.dp sb, ry.dp sb, hm.1, hm.2, p.val sb (.bl _)⟩
  · exact p.elim
/-- in, not in a list -/
def pIn : PD → PD → R PD
  | d, .list ds => if SeqAt.shaped d && SeqAt.shaped (.list ds) then .ok (.bool (ds.any fun z => PyData.eqv z d)) else .bad
  | _, _ => .bad
def pNotIn : PD → PD → R PD
  | d, .list ds => if SeqAt.shaped d && SeqAt.shaped (.list ds) then .ok (.bool (!ds.any fun z => PyData.eqv z d)) else .bad
  | _, _ => .bad
theorem dop_in (hu : X.A.units + 65 < cLine) : DOp X (compareOp .In) pIn := by
  refine OpR.by fun x y H Q h => ?_
  obtain ⟨G, d, e, sb, rx, ry, p⟩ := h
  unfold pIn at p
  split at p
  · split at p
    · rename_i hm
      rw [Bool.and_eq_true] at hm
      exact ⟨_, op_inD hu, d, _, rx.dp sb, ry.dp sb, hm.1, hm.2, p.val sb (.bl _)⟩
    · exact p.elim
  · exact p.elim
theorem dop_notIn (hu : X.A.units + 65 < cLine) : DOp X (compareOp .NotIn) pNotIn := by
  refine OpR.by fun x y H Q h => ?_
  obtain ⟨G, d, e, sb, rx, ry, p⟩ := h
  unfold pNotIn at p
  split at p
  · split at p
    · rename_i hm
      rw [Bool.and_eq_true] at hm
      exact ⟨_, op_notInD hu, d, _, rx.dp sb, ry.dp sb, hm.1, hm.2, p.val sb (.bl _)⟩
    · exact p.elim
  · exact p.elim
/-- is, is not: of bools, of None on the right -/
def isNone : PD → Bool
  | .none => true
  | _ => false
def pIs : PD → PD → R PD
  | .bool a, .bool b => .ok (.bool (decide (a = b)))
  | d, .none => .ok (.bool (isNone d))
  | _, _ => .bad
def pIsNot : PD → PD → R PD
  | .bool a, .bool b => .ok (.bool (!decide (a = b)))
  | d, .none => .ok (.bool (!isNone d))
  | _, _ => .bad
theorem isNone_of {G : Hp} {v : V} {d : PD} (h : Dg G v d) : decide (v = .non) = isNone d := by
  cases h <;> first | rfl | exact decide_eq_false fun z => nomatch z
theorem dop_is : DOp X (compareOp .Is) pIs := by
  refine OpR.by fun x y H Q h => ?_
  obtain ⟨G, d, e, sb, rx, ry, p⟩ := h
  unfold pIs at p
  split at p
  · exact ⟨_, op_isBl, _, _, rx.of_bl, ry.of_bl, p.val sb (.bl _)⟩
  · refine ⟨_, op_isN, ry.of_non, ?_⟩
    rw [isNone_of rx]
    exact p.val sb (.bl _)
  · exact p.elim
theorem dop_isNot : DOp X (compareOp .IsNot) pIsNot := by
  refine OpR.by fun x y H Q h => ?_
  obtain ⟨G, d, e, sb, rx, ry, p⟩ := h
  unfold pIsNot at p
  split at p
  · exact ⟨_, op_notBl, _, _, rx.of_bl, ry.of_bl, p.val sb (.bl _)⟩
  · refine ⟨_, op_notN, ry.of_non, ?_⟩
    rw [isNone_of rx]
    exact p.val sb (.bl _)
  · exact p.elim

/-! ### tests -/
def cTest {d : Type} (a : Env → d → R (PD × d)) : Env → d → R (Bool × d) := fun ρ s =>
  bnd (a ρ s) fun x s1 => match x with
    | .bool b => .ok (b, s1)
    | _ => .bad
theorem PostT.done {G H : Hp} {b : Bool} {s : B.W.d} {Q : Bool → Hp → Prop} (S : Sit B.W G H s) (p : PostT B G H (.ok (b, s)) Q) : Q b H := p G H .refl S
theorem rd_test {fa : Mx B PD} {σ : St} {H : Hp} {Q : Bool → Hp → Prop} (h : rdT B O (cTest fa) σ H Q) : rdE B O fa σ H fun x H1 => ∃ c, x = .bl c ∧ Q c H1 := by
  obtain ⟨G, ρ, s, a, p⟩ := h
  refine rdE.thenT a p fun x G1 H1 dx s1 a1 g1 rx p1 => ?_
  cases dx with
  | bool b => exact ⟨b, (rx.dg (isD_tok rfl)).of_bl, p1.done a1.sit⟩
  | _ => exact p1.elim
/-- an expression whose value is a bool -/
theorem dt_val {e : Expr} {f : Mx B PD} (h : DE X B O e f) (he : ∀ whole, isTrue e X.env whole = (do let v ← whole; standAt e.pos; holding [v] (truthy v)) := by intro _; rfl) : DT X B O e (cTest f) :=
  PT.imp (pt_val h he) fun σ H Q h => rd_test h
theorem dt_cmp {op : CmpOp} {f : PD → PD → R PD} {a b : Expr} {fa fb : Mx B PD} {pos : Pos} (ho : DOp X (compareOp op) f) (ha : DE X B O a fa) (hb : DE X B O b fb) (hm : behindInMarks op b = false := by first | exact nobehind _ (by decide) (by decide) | rfl) : DT X B O (.Compare a [op] [b] pos) (cTest (cOp f fa fb)) :=
  PT.imp (pt_cmpR ho ha hb hm) fun σ H Q h => by
    obtain ⟨G, ρ, s, a, p⟩ := rd_test h
    exact rd_op ⟨G, ρ, s, a, p⟩
end
end DL

/-! DL3: and, or, not, chains, arguments, displays, subscripts -/
namespace DL
open PySem PySem.Spec PyProof.Rows L2
section
variable {X : Cx} {B : Bs} {O : List Nat}
abbrev DW (X : Cx) (B : Bs) (O : List Nat) (e : Expr) (f : Mx B Bool) : Prop := PW X e (rdT B O f)
theorem PW.imp {e : Expr} {t t' : TT} (h : PW X e t) (i : ∀ σ H Q, t' σ H Q → t σ H Q) : PW X e t' := ⟨fun wh pins s σ H Q I q => h.run wh pins s σ H Q I (i σ H Q q)⟩
def cAndT {d : Type} (a b : Env → d → R (Bool × d)) : Env → d → R (Bool × d) := fun ρ s => bnd (a ρ s) fun x s1 => if x = true then b ρ s1 else .ok (false, s1)
def cOrT {d : Type} (a b : Env → d → R (Bool × d)) : Env → d → R (Bool × d) := fun ρ s => bnd (a ρ s) fun x s1 => if x = true then .ok (true, s1) else b ρ s1
def cNotT {d : Type} (a : Env → d → R (Bool × d)) : Env → d → R (Bool × d) := fun ρ s => bnd (a ρ s) fun x s1 => .ok (!x, s1)
theorem dw_and1 {a : Expr} {fa : Mx B Bool} {pos : Pos} (ha : DT X B O a fa) : DW X B O (.BoolOp .And [a] pos) fa := pw_and1 ha
theorem dw_or1 {a : Expr} {fa : Mx B Bool} {pos : Pos} (ha : DT X B O a fa) : DW X B O (.BoolOp .Or [a] pos) fa := pw_or1 ha
theorem dw_and {a b : Expr} {rest : List Expr} {fa fb : Mx B Bool} {pos : Pos} (ha : DT X B O a fa) (hb : DW X B O (.BoolOp .And (b :: rest) pos) fb) : DW X B O (.BoolOp .And (a :: b :: rest) pos) (cAndT fa fb) :=
  PW.imp (pw_and ha hb) fun σ H Q h => by
    obtain ⟨G, ρ, s, a, p⟩ := h
    refine rdT.thenT a p fun x G1 H1 s1 a1 g1 p1 => ?_
    cases x with
    | true => exact ⟨G1, ρ, s1, a1, p1⟩
    | false => exact p1.done a1.sit
theorem dw_or {a b : Expr} {rest : List Expr} {fa fb : Mx B Bool} {pos : Pos} (ha : DT X B O a fa) (hb : DW X B O (.BoolOp .Or (b :: rest) pos) fb) : DW X B O (.BoolOp .Or (a :: b :: rest) pos) (cOrT fa fb) :=
  PW.imp (pw_or ha hb) fun σ H Q h => by
    obtain ⟨G, ρ, s, a, p⟩ := h
    refine rdT.thenT a p fun x G1 H1 s1 a1 g1 p1 => ?_
    cases x with
    | true => exact p1.done a1.sit
    | false => exact ⟨G1, ρ, s1, a1, p1⟩
theorem dt_bool {e : Expr} {f : Mx B Bool} (h : DW X B O e f) : DT X B O e f := h.pt
theorem dt_not {a : Expr} {fa : Mx B Bool} {pos : Pos} (ha : DT X B O a fa) : DT X B O (.UnaryOp .Not a pos) (cNotT fa) :=
  PT.imp (pt_not ha) fun σ H Q h => by
    obtain ⟨G, ρ, s, a, p⟩ := h
    exact rdT.thenT a p fun x G1 H1 s1 a1 g1 p1 => p1.done a1.sit
/-! as values -/
def cAndV {d : Type} (a b : Env → d → R (PD × d)) : Env → d → R (PD × d) := fun ρ s => bnd (a ρ s) fun x s1 => match x with
  | .bool true => b ρ s1
  | .bool false => .ok (.bool false, s1)
  | _ => .bad
def cOrV {d : Type} (a b : Env → d → R (PD × d)) : Env → d → R (PD × d) := fun ρ s => bnd (a ρ s) fun x s1 => match x with
  | .bool true => .ok (.bool true, s1)
  | .bool false => b ρ s1
  | _ => .bad
def pNot : PD → R PD
  | .bool b => .ok (.bool (!b))
  | _ => .bad
theorem de_one {op : BoolOp} {a : Expr} {fa : Mx B PD} {pos : Pos} (ha : DE X B O a fa) : DE X B O (.BoolOp op [a] pos) fa := pe_one ha
theorem de_and {a b : Expr} {rest : List Expr} {fa fb : Mx B PD} {pos : Pos} (ha : DE X B O a fa) (hb : DE X B O (.BoolOp .And (b :: rest) pos) fb) : DE X B O (.BoolOp .And (a :: b :: rest) pos) (cAndV fa fb) :=
  PE.imp (pe_and ha hb) fun σ H Q h => by
    obtain ⟨G, ρ, s, a, p⟩ := h
    refine rdE.then a p fun x G1 H1 dx s1 a1 g1 rx p1 => ?_
    cases dx with
    | bool b =>
      refine ⟨b, (rx.dg (isD_tok rfl)).of_bl, ?_⟩
      cases b with
      | true => exact ⟨G1, ρ, s1, a1, p1⟩
      | false => exact p1.done a1.sit (.inl (.bl false))
    | _ => exact p1.elim
theorem de_or {a b : Expr} {rest : List Expr} {fa fb : Mx B PD} {pos : Pos} (ha : DE X B O a fa) (hb : DE X B O (.BoolOp .Or (b :: rest) pos) fb) : DE X B O (.BoolOp .Or (a :: b :: rest) pos) (cOrV fa fb) :=
  PE.imp (pe_or ha hb) fun σ H Q h => by
    obtain ⟨G, ρ, s, a, p⟩ := h
    refine rdE.then a p fun x G1 H1 dx s1 a1 g1 rx p1 => ?_
    cases dx with
    | bool b =>
      refine ⟨b, (rx.dg (isD_tok rfl)).of_bl, ?_⟩
      cases b with
      | true => exact p1.done a1.sit (.inl (.bl true))
      | false => exact ⟨G1, ρ, s1, a1, p1⟩
    | _ => exact p1.elim
theorem de_not {a : Expr} {fa : Mx B PD} {pos : Pos} (ha : DE X B O a fa) : DE X B O (.UnaryOp .Not a pos) (cUn pNot fa) :=
  PE.imp (pe_not ha) fun σ H Q h => by
    obtain ⟨G, ρ, s, a, p⟩ := h
    refine rdE.then a p fun x G1 H1 dx s1 a1 g1 rx p1 => ?_
    cases dx with
    | bool b => exact ⟨b, (rx.dg (isD_tok rfl)).of_bl, p1.done a1.sit (.inl (.bl _))⟩
    | dict _ => exact p1.elim
    | _ => exact p1.elim
def cIf {d : Type} (t : Env → d → R (Bool × d)) (a b : Env → d → R (PD × d)) : Env → d → R (PD × d) := fun ρ s => bnd (t ρ s) fun x s1 => if x = true then a ρ s1 else b ρ s1
theorem de_if {c a b : Expr} {fc : Mx B Bool} {fa fb : Mx B PD} {pos : Pos} (hc : DT X B O c fc) (ha : DE X B O a fa) (hb : DE X B O b fb) : DE X B O (.IfExp c a b pos) (cIf fc fa fb) :=
  PE.imp (pe_ifExp hc ha hb) fun σ H Q h => by
    obtain ⟨G, ρ, s, a, p⟩ := h
    refine rdT.then a p fun x G1 H1 s1 a1 g1 p1 => ?_
    cases x with
    | true => exact ⟨G1, ρ, s1, a1, p1⟩
    | false => exact ⟨G1, ρ, s1, a1, p1⟩
/-! a chain of two comparisons -/
def cChain {d : Type} (f g : PD → PD → R PD) (a b c : Env → d → R (PD × d)) : Env → d → R (PD × d) := fun ρ s =>
  bnd (a ρ s) fun x s1 => bnd (b ρ s1) fun y s2 => if isD x && isD y then
    bnd (lft (isOk (f x y)) s2) fun z s3 => match z with
      | .bool true => bnd (c ρ s3) fun w s4 => if isD w then lft (isOk (g y w)) s4 else .bad
      | .bool false => .ok (.bool false, s3)
      | _ => .bad
    else .bad
theorem PostD.ofK {G H : Hp} {r : R PD} {Q : VK} {s : B.W.d} (S : Sit B.W G H s) (hx : ∀ c, r ≠ .exc c) (hb : r ≠ .bad) (p : ∀ d, r = .ok d → ∀ v G' H', Gr B.W.fp G H G' H' → Sit B.W G' H' s → Dg G' v d → Q v H') : PostD G H r Q := by
  cases r with
  | ok d => exact fun v G' H' g sb rp => p d rfl v G' H' (g.weak fun _ z => z.elim) (S.pure g sb) rp
  | exc c => exact (hx c rfl).elim
  | bad => exact hb rfl
theorem rd_chain {f g : PD → PD → R PD} {fa fb fc : Mx B PD} {σ : St} {H : Hp} {Q : VK} (h : rdE B O (cChain f g fa fb fc) σ H Q) : tChain (rdO f) (rdO g) (rdE B O fa) (rdE B O fb) (rdE B O fc) σ H Q := by
  obtain ⟨G, ρ, s, a, p⟩ := h
  refine rdE.then a p fun x G1 H1 dx s1 a1 g1 rx p1 => ?_
  refine rdE.then a1 p1 fun y G2 H2 dy s2 a2 g2 ry p2 => ?_
  by_cases hd : (isD dx && isD dy) = true
  · rw [if_pos hd] at p2
    have h' := hd
    rw [Bool.and_eq_true] at h'
    have hy := ry.dg (isD_tok h'.2)
    refine ⟨G2, dx, dy, a2.sit.sub, (rx.mono g2.g).dg (isD_tok h'.1), hy, PostD.isOk (PostD.ofK (r := isOk (f dx dy)) a2.sit (isOk_nx _) ?_ fun d e v G3 H3 g3 S3 rv => ?_)⟩
    · intro z; rw [z] at p2; exact p2
    · rw [e] at p2
      cases d with
      | bool b =>
        refine ⟨b, rv.of_bl, ?_⟩
        cases b with
        | true =>
          refine rdE.then (a2.step g3 S3) (PostE.mono g3 p2) fun w G4 H4 dw s4 a4 g4 rw' p4 => ?_
          by_cases hw : isD dw = true
          · rw [if_pos hw] at p4
            exact ⟨G4, dy, dw, a4.sit.sub, (hy.mono g3.g).mono g4.g, rw'.dg (isD_tok hw), (PostD.of a4.sit p4 (isOk_nx _)).isOk⟩
          · rw [if_neg hw] at p4; exact p4.elim
        | false => exact p2 _ G3 H3 g3 S3 (.inl (.bl false))
      | _ => exact p2.elim
  · rw [if_neg hd] at p2; exact p2.elim
theorem de_chain {op op' : CmpOp} {f g : PD → PD → R PD} {a b c : Expr} {fa fb fc : Mx B PD} {pos : Pos} (ho : DOp X (compareOp op) f) (ho' : DOp X (compareOp op') g) (ha : DE X B O a fa) (hb : DE X B O b fb) (hc : DE X B O c fc)
    (hm : lastMarks [op, op'] [b, c] = false := by with_unfolding_all rfl) : DE X B O (.Compare a [op, op'] [b, c] pos) (cChain f g fa fb fc) :=
  PE.imp (pe_chain ho ho' ha hb hc hm) fun σ H Q h => rd_chain h
theorem dt_chain {op op' : CmpOp} {f g : PD → PD → R PD} {a b c : Expr} {fa fb fc : Mx B PD} {pos : Pos} (ho : DOp X (compareOp op) f) (ho' : DOp X (compareOp op') g) (ha : DE X B O a fa) (hb : DE X B O b fb) (hc : DE X B O c fc)
    (hm : lastMarks [op, op'] [b, c] = false := by with_unfolding_all rfl) : DT X B O (.Compare a [op, op'] [b, c] pos) (cTest (cChain f g fa fb fc)) :=
  PT.imp (pt_chain ho ho' ha hb hc hm) fun σ H Q h => by
    obtain ⟨G, ρ, s, a, p⟩ := rd_test h
    exact rd_chain ⟨G, ρ, s, a, p⟩

/-! ### arguments, displays -/
def aNil {d : Type} : Env → d → R (List PD × d) := fun _ s => .ok ([], s)
def aCons {d : Type} (a : Env → d → R (PD × d)) (r : Env → d → R (List PD × d)) : Env → d → R (List PD × d) := fun ρ s => bnd (a ρ s) fun x s1 => bnd (r ρ s1) fun xs s2 => .ok (x :: xs, s2)
theorem PostA.done {G H : Hp} {vs : List V} {ds : List PD} {s : B.W.d} {Q : List V → Hp → Prop} (S : Sit B.W G H s) (r : RpAll B.W.tk G vs ds) (p : PostA B G H (.ok (ds, s)) Q) : Q vs H := p vs G H .refl S r
theorem da_nil : DA X B O [] aNil := PA.imp pa_nil fun σ H Q h => by
  obtain ⟨G, ρ, s, a, p⟩ := h
  exact p.done a.sit .nil
theorem da_cons {e : Expr} {es : List Expr} {fe : Mx B PD} {fr : Mx B (List PD)} (he : DE X B O e fe) (hr : DA X B O es fr) (hs : starEach (e :: es) X.env = (false, eval e X.env) :: starEach es X.env := by rfl) : DA X B O (e :: es) (aCons fe fr) :=
  PA.imp (pa_cons he hr hs) fun σ H Q h => by
    obtain ⟨G, ρ, s, a, p⟩ := h
    refine rdE.thenA a p fun x G1 H1 dx s1 a1 g1 rx p1 => ?_
    refine rdA.thenA a1 p1 fun xs G2 H2 ds s2 a2 g2 rs p2 => ?_
    exact p2.done a2.sit (.cons (rx.mono g2.g) rs)
def cTup {d : Type} (r : Env → d → R (List PD × d)) : Env → d → R (PD × d) := fun ρ s => bnd (r ρ s) fun xs s1 => if allD xs && decide (xs.length ≤ sizeLine) then .ok (.tuple xs, s1) else .bad
def cLst {d : Type} (r : Env → d → R (List PD × d)) : Env → d → R (PD × d) := fun ρ s => bnd (r ρ s) fun xs s1 => if allD xs && decide (xs.length ≤ sizeLine) then .ok (.list xs, s1) else .bad
theorem de_tup {es : List Expr} {k : Nat} {f : Mx B (List PD)} {pos : Pos} (h : DA X B O es f) : DE X B O (.Tuple es k pos) (cTup f) :=
  PE.imp (pe_tup h) fun σ H Q h => by
    obtain ⟨G, ρ, s, a, p⟩ := h
    refine rdA.then a p fun xs G1 H1 ds s1 a1 g1 rs p1 => ?_
    by_cases hd : (allD ds && decide (ds.length ≤ sizeLine)) = true
    · rw [if_pos hd] at p1
      rw [Bool.and_eq_true, decide_eq_true_eq] at hd
      exact ⟨by rw [rs.len]; exact hd.2, fun q hq => p1.tup a1.sit (rs.dg hd.1) hq⟩
    · rw [if_neg hd] at p1; exact p1.elim
theorem de_lst {es : List Expr} {f : Mx B (List PD)} {pos : Pos} (h : DA X B O es f) : DE X B O (.List es pos) (cLst f) :=
  PE.imp (pe_lst h) fun σ H Q h => by
    obtain ⟨G, ρ, s, a, p⟩ := h
    refine rdA.then a p fun xs G1 H1 ds s1 a1 g1 rs p1 => ?_
    by_cases hd : (allD ds && decide (ds.length ≤ sizeLine)) = true
    · rw [if_pos hd] at p1
      rw [Bool.and_eq_true, decide_eq_true_eq] at hd
      exact ⟨by rw [rs.len]; exact hd.2, fun q hq => p1.lst a1.sit (rs.dg hd.1) hq⟩
    · rw [if_neg hd] at p1; exact p1.elim

/-! ### subscripts -/
def pIx : PD → PD → R PD
  | .list xs, .int i => match atI xs i with
    | some d => .ok d
    | none => .bad
  | .tuple xs, .int i => match atI xs i with
    | some d => .ok d
    | none => .bad
  | .str z, .int i => if z.length ≤ sizeLine then match atI z.cps.toList i with
    | some c => .ok (.str ⟨#[c]⟩)
    | none => .bad
    else .bad
  | _, _ => .bad
theorem DgAll.atI {G : Hp} {vs : List V} {ds : List PD} {i : Int} {d : PD} (h : DgAll G vs ds) (e : atI ds i = some d) : ∃ v, L2.atI vs i = some v ∧ Dg G v d := by
  unfold L2.atI at e ⊢
  rw [h.len]
  cases q : ixN ds.length i with
  | none => rw [q] at e; cases e
  | some j =>
    rw [q] at e
    exact h.get e
theorem dix_seq : IxR X (rdO pIx) := by
  intro b hb pins s σ H x y v u Q I rx ry h
  obtain ⟨G, d, e, sb, rx', ry', p⟩ := h
  refine ix_seq b hb pins s σ H x y v u Q I rx ry ?_
  unfold pIx at p
  split at p
  · split at p
    · rename_i i d' e'
      obtain ⟨a, vs, rfl, ga, da⟩ := rx'.of_lst
      obtain ⟨w, h1, h2⟩ := da.atI e'
      exact .inl ⟨_, _, _, w, rfl, ry'.of_int, SqL.of (sb _ _ ga), h1, p.val sb h2⟩
    · exact p.elim
  · split at p
    · rename_i i d' e'
      obtain ⟨a, vs, rfl, ga, da⟩ := rx'.of_tup
      obtain ⟨w, h1, h2⟩ := da.atI e'
      exact .inr (.inl ⟨_, _, _, w, rfl, ry'.of_int, SqT.of (sb _ _ ga), h1, p.val sb h2⟩)
    · exact p.elim
  · split at p
    · rename_i hz
      split at p
      · rename_i c e'
        exact .inr (.inr ⟨_, _, c, rx'.of_str, ry'.of_int, hz, e', p.val sb (.str _)⟩)
      · exact p.elim
    · exact p.elim
  · exact p.elim
theorem de_ix {a b : Expr} {fa fb : Mx B PD} {pos : Pos} (ha : DE X B O a fa) (hb : DE X B O b fb) (hs : PlainIx b := by intro _ _; rfl) : DE X B O (.Subscript a b pos) (cOp pIx fa fb) :=
  PE.imp (pe_ix dix_seq ha hb hs) fun σ H Q h => rd_op h
end
end DL

/-! DL4: slices, built-ins -/
namespace DL
open PySem PySem.Spec PyProof.Rows L2
section
variable {X : Cx} {B : Bs} {O : List Nat}
/-! ### slices -/
def cutD {a : Type} (xs : List a) (lo hi : Option Int) : List a := (xs.drop (HT.sIx xs.length 0 lo)).take (HT.sIx xs.length xs.length hi - HT.sIx xs.length 0 lo)
def pSl : PD → Option Int → Option Int → R PD
  | .list xs, lo, hi => .ok (.list (cutD xs lo hi))
  | .tuple xs, lo, hi => if HT.sIx xs.length 0 lo = 0 ∧ HT.sIx xs.length xs.length hi = xs.length then .ok (.tuple xs) else .ok (.tuple (cutD xs lo hi))
  | .str z, lo, hi => if z.length ≤ sizeLine then .ok (.str (cutS z lo hi)) else .bad
  | _, _, _ => .bad
theorem DgAll.cut {G : Hp} {vs : List V} {ds : List PD} (h : DgAll G vs ds) (lo hi : Option Int) : DgAll G (cutV vs lo hi) (cutD ds lo hi) := by
  unfold cutV cutD
  rw [h.len]
  exact (h.drop _).take _
def rdSl (f : PD → Option Int → Option Int → R PD) : V → Option Int → Option Int → Hp → VK → Prop := fun x lo hi H Q => ∃ G d, Sub G H ∧ Dg G x d ∧ PostD G H (f d lo hi) Q
theorem SlR.by {r' : V → Option Int → Option Int → Hp → VK → Prop} (h : ∀ x lo hi H Q, r' x lo hi H Q → ∃ r, SlR X r ∧ r x lo hi H Q) : SlR X r' := fun pins s σ H x v vl vu lo hi sl Q I rx hs pl pu q => by
  obtain ⟨r, hr, q'⟩ := h x lo hi H Q q
  exact hr pins s σ H x v vl vu lo hi sl Q I rx hs pl pu q'
theorem dsl : SlR X (rdSl pSl) := by
  refine SlR.by fun x lo hi H Q h => ?_
  obtain ⟨G, d, sb, rx, p⟩ := h
  unfold pSl at p
  split at p
  · obtain ⟨a, vs, rfl, ga, da⟩ := rx.of_lst
    exact ⟨_, sl_list, _, _, rfl, SqL.of (sb _ _ ga), fun q hq => p.lst sb (da.cut _ _) hq⟩
  · obtain ⟨a, vs, rfl, ga, da⟩ := rx.of_tup
    have hl := da.len
    split at p
    · rename_i hw
      refine ⟨_, sl_tupA, _, _, rfl, SqT.of (sb _ _ ga), ?_⟩
      rw [hl]
      exact ⟨fun _ => p.val sb (.tup ga da), fun n => absurd hw n⟩
    · rename_i hw
      refine ⟨_, sl_tupA, _, _, rfl, SqT.of (sb _ _ ga), ?_⟩
      rw [hl]
      exact ⟨fun z => absurd z hw, fun _ q hq => p.tup sb (da.cut _ _) hq⟩
  · split at p
    · rename_i hz
      exact ⟨_, sl_str, _, rx.of_str, hz, p.val sb (.str _)⟩
    · exact p.elim
  · exact p.elim
/-- a part of a slice -/
def PostO (B : Bs) (G H : Hp) (r : R (Option Int × B.W.d)) (Q : Option Int → Hp → Prop) : Prop :=
  match r with
  | .ok (b, s') => ∀ G' H', Gr B.W.fp G H G' H' → Sit B.W G' H' s' → Q b H'
  | .exc c => ∀ G' H', Gr B.W.fp G H G' H' → B.E (.ref (B.W.cls c)) none H'
  | .bad => False
def rdPt (B : Bs) (O : List Nat) (f : Mx B (Option Int)) : TO := fun σ H Q => ∃ G ρ s, At B O σ H G ρ s ∧ PostO B G H (f ρ s) Q
abbrev DO (X : Cx) (B : Bs) (O : List Nat) (e : Option Expr) (f : Mx B (Option Int)) : Prop := PO X e (rdPt B O f)
theorem PO.imp {e : Option Expr} {t t' : TO} (h : PO X e t) (i : ∀ σ H Q, t' σ H Q → t σ H Q) : PO X e t' := ⟨fun pins s σ H Q I q => h.run pins s σ H Q I (i σ H Q q)⟩
theorem PostO.mono {G H G1 H1 : Hp} {r : R (Option Int × B.W.d)} {Q : Option Int → Hp → Prop} (g : Gr B.W.fp G H G1 H1) (h : PostO B G H r Q) : PostO B G1 H1 r Q := by
  cases r with
  | ok x => exact fun G' H' g' S' => h G' H' (g.trans g') S'
  | exc c => exact fun G' H' g' => h G' H' (g.trans g')
  | bad => exact h
def oNone {d : Type} : Env → d → R (Option Int × d) := fun _ s => .ok (none, s)
def oSome {d : Type} (a : Env → d → R (PD × d)) : Env → d → R (Option Int × d) := fun ρ s => bnd (a ρ s) fun x s1 => match x with
  | .int i => .ok (some i, s1)
  | _ => .bad
theorem do_none : DO X B O none oNone := PO.imp po_none fun σ H Q h => by
  obtain ⟨G, ρ, s, a, p⟩ := h
  exact p G H .refl a.sit
theorem do_some {e : Expr} {fe : Mx B PD} (he : DE X B O e fe) : DO X B O (some e) (oSome fe) := PO.imp (po_some he) fun σ H Q h => by
  obtain ⟨G, ρ, s, a, p⟩ := h
  refine rdE.fst (k := fun x s1 => match x with | .int i => .ok (some i, s1) | _ => .bad) a (fun G H r => PostO B G H r Q) (fun g p => p.mono g) (fun p => p) (fun p => p) p fun x G1 H1 dx s1 a1 g1 rx p1 => ?_
  cases dx with
  | int i => exact ⟨i, (rx.dg (isD_tok rfl)).of_int, p1 G1 H1 .refl a1.sit⟩
  | _ => exact p1.elim
theorem rdPt.then {f : Mx B (Option Int)} {σ : St} {H : Hp} {Q : Option Int → Hp → Prop} {Q' : VK} {G : Hp} {ρ : Env} {s : B.W.d} {k : Option Int → B.W.d → R (PD × B.W.d)}
    (a : At B O σ H G ρ s) (p : PostE B G H (bnd (f ρ s) k) Q') (h : ∀ x G1 H1 s1, At B O σ H1 G1 ρ s1 → Gr B.W.fp G H G1 H1 → PostE B G1 H1 (k x s1) Q' → Q x H1) : rdPt B O f σ H Q := by
  refine ⟨G, ρ, s, a, ?_⟩
  cases e : f ρ s with
  | ok x =>
    obtain ⟨d, s1⟩ := x
    rw [e] at p
    exact fun G1 H1 g S => h d G1 H1 s1 (a.step g S) g (PostE.mono g p)
  | exc c => rw [e] at p; exact p
  | bad => rw [e] at p; exact p
def cSl {d : Type} (f : PD → Option Int → Option Int → R PD) (a : Env → d → R (PD × d)) (l h : Env → d → R (Option Int × d)) : Env → d → R (PD × d) := fun ρ s =>
  bnd (a ρ s) fun x s1 => bnd (l ρ s1) fun lo s2 => bnd (h ρ s2) fun hi s3 => if isD x then lft (isOk (f x lo hi)) s3 else .bad
theorem de_slice {e : Expr} {lo hi : Option Expr} {fe : Mx B PD} {fl fh : Mx B (Option Int)} {p2 pos : Pos} (he : DE X B O e fe) (hl : DO X B O lo fl) (hh : DO X B O hi fh) : DE X B O (.Subscript e (.Slice lo hi none p2) pos) (cSl pSl fe fl fh) :=
  PE.imp (pe_slice dsl he hl hh) fun σ H Q h => by
    obtain ⟨G, ρ, s, a, p⟩ := h
    refine rdE.then a p fun x G1 H1 dx s1 a1 g1 rx p1 => ?_
    refine rdPt.then a1 p1 fun l G2 H2 s2 a2 g2 p2 => ?_
    refine rdPt.then a2 p2 fun u G3 H3 s3 a3 g3 p3 => ?_
    by_cases hd : isD dx = true
    · rw [if_pos hd] at p3
      exact ⟨G3, dx, a3.sit.sub, ((rx.mono g2.g).mono g3.g).dg (isD_tok hd), (PostD.of a3.sit p3 (isOk_nx _)).isOk⟩
    · rw [if_neg hd] at p3; exact p3.elim
/-- xs[::-1] -/
def pRev : PD → R PD
  | .list xs => .ok (.list xs.reverse)
  | _ => .bad
theorem de_rev {e : Expr} {fe : Mx B PD} {k : Nat} {p1 p2 p3 pos : Pos} (he : DE X B O e fe) : DE X B O (.Subscript e (.Slice none none (some (.UnaryOp .USub (.Constant (.int 1) k p1) p2)) p3) pos) (cUn pRev fe) :=
  PE.imp (pe_revL he) fun σ H Q h => by
    obtain ⟨G, ρ, s, a, p⟩ := h
    refine rdE.then a p fun x G1 H1 dx s1 a1 g1 rx p1 => ?_
    cases dx with
    | list ds =>
      obtain ⟨l, vs, rfl, gl, dl⟩ := (rx.dg (isD_tok rfl)).of_lst
      exact ⟨_, _, rfl, SqL.of (a1.sit.sub _ _ gl), fun q hq => PostE.lst (ds := ds.reverse) a1.sit dl.rev p1 hq⟩
    | dict _ => exact p1.elim
    | _ => exact p1.elim

/-! ### calls of built-ins -/
def rdC (f : List PD → R PD) : List V → Hp → VK → Prop := fun vs H Q => ∃ G ds, Sub G H ∧ DgAll G vs ds ∧ PostD G H (f ds) Q
def cCall {d : Type} (f : List PD → R PD) (a : Env → d → R (List PD × d)) : Env → d → R (PD × d) := fun ρ s =>
  bnd (a ρ s) fun xs s1 => if allD xs then lft (isOk (f xs)) s1 else .bad
theorem CallR.by {fv : Value} {r' : List V → Hp → VK → Prop} (h : ∀ vs H Q, r' vs H Q → ∃ r, CallR X fv r ∧ r vs H Q) : CallR X fv r' := fun pins s σ H vs us Q I rv q => by
  obtain ⟨r, hr, q'⟩ := h vs H Q q
  exact hr pins s σ H vs us Q I rv q'
theorem rd_call {f : List PD → R PD} {fa : Mx B (List PD)} {σ : St} {H : Hp} {Q : VK} (h : rdE B O (cCall f fa) σ H Q) : tCB (rdC f) (rdA B O fa) σ H Q := by
  obtain ⟨G, ρ, s, a, p⟩ := h
  refine rdA.then a p fun vs G1 H1 ds s1 a1 g1 rs p1 => ?_
  by_cases hd : allD ds = true
  · rw [if_pos hd] at p1
    exact ⟨G1, ds, a1.sit.sub, rs.dg hd, (PostD.of a1.sit p1 (isOk_nx _)).isOk⟩
  · rw [if_neg hd] at p1; exact p1.elim
theorem de_callB {x : Str} {id : String} {f : List PD → R PD} {e : Expr} {es : List Expr} {fa : Mx B (List PD)} {p pos : Pos} (hc : CallR X (.builtin id) (rdC f)) (hm : X.mg x = none) (ha : DA X B O (e :: es) fa) (hv : bootBuiltins x = some (.builtin id) := by decide +kernel) (hg : Gl X x := by rfl)
    (hn : x ≠ "__name__" := by decide) (hdb : (x == ("__debug__" : Str)) = false := by decide) (he : starEach (e :: es) X.env = (false, eval e X.env) :: starEach es X.env := by rfl) (hpl : (backTo pos (starEach es X.env)).any (·.1) = false := by rfl) : DE X B O (.Call (.Name x p) (e :: es) [] pos) (cCall f fa) :=
  PE.imp (pe_callB hc hg hm hv ha hn hdb he hpl) fun σ H Q h => rd_call h
theorem de_callTy {x : Str} {T : String} {f : List PD → R PD} {e : Expr} {es : List Expr} {fa : Mx B (List PD)} {p pos : Pos} (hc : CallR X (.type T) (rdC f)) (hm : X.mg x = none) (ha : DA X B O (e :: es) fa) (hv : bootBuiltins x = some (.type T) := by decide +kernel) (hg : Gl X x := by rfl)
    (hn : x ≠ "__name__" := by decide) (hdb : (x == ("__debug__" : Str)) = false := by decide) (he : starEach (e :: es) X.env = (false, eval e X.env) :: starEach es X.env := by rfl) (hpl : (backTo pos (starEach es X.env)).any (·.1) = false := by rfl) : DE X B O (.Call (.Name x p) (e :: es) [] pos) (cCall f fa) :=
  PE.imp (pe_callTy hc hg hm hv ha hn hdb he hpl) fun σ H Q h => rd_call h
theorem DgAll.one {G : Hp} {vs : List V} {d : PD} (h : DgAll G vs [d]) : ∃ v, vs = [v] ∧ Dg G v d := by
  cases h with
  | cons a b => cases b; exact ⟨_, rfl, a⟩
theorem DgAll.two {G : Hp} {vs : List V} {d e : PD} (h : DgAll G vs [d, e]) : ∃ v w, vs = [v, w] ∧ Dg G v d ∧ Dg G w e := by
  cases h with
  | cons a b =>
    cases b with
    | cons b c => cases c; exact ⟨_, _, rfl, a, b⟩
/-- len -/
def pLen : List PD → R PD
  | [.list xs] => .ok (.int xs.length)
  | [.tuple xs] => .ok (.int xs.length)
  | [.str z] => if z.length ≤ sizeLine then .ok (.int z.length) else .bad
  | _ => .bad
theorem dc_len : CallR X (.builtin "len") (rdC pLen) := by
  refine CallR.by fun vs H Q h => ?_
  obtain ⟨G, ds, sb, rs, p⟩ := h
  unfold pLen at p
  split at p
  · obtain ⟨v, rfl, rv⟩ := rs.one
    obtain ⟨a, xs, rfl, ga, da⟩ := rv.of_lst
    refine ⟨_, call_len_seq, _, _, rfl, .inl (SqL.of (sb _ _ ga)), ?_⟩
    rw [da.len]
    exact p.val sb (.int _)
  · obtain ⟨v, rfl, rv⟩ := rs.one
    obtain ⟨a, xs, rfl, ga, da⟩ := rv.of_tup
    refine ⟨_, call_len_seq, _, _, rfl, .inr (SqT.of (sb _ _ ga)), ?_⟩
    rw [da.len]
    exact p.val sb (.int _)
  · obtain ⟨v, rfl, rv⟩ := rs.one
    split at p
    · rename_i hz
      exact ⟨_, call_len_str, _, by rw [rv.of_str], hz, p.val sb (.int _)⟩
    · exact p.elim
  · exact p.elim
/-- lists of ints, of bools -/
def toInts : List PD → Option (List Int)
  | [] => some []
  | .int i :: r => (toInts r).map (i :: ·)
  | _ => none
def toBools : List PD → Option (List Bool)
  | [] => some []
  | .bool i :: r => (toBools r).map (i :: ·)
  | _ => none
theorem toInts_eq : ∀ {ds : List PD} {ns : List Int}, toInts ds = some ns → ds = ns.map PyData.int
  | [], ns, h => by simp only [toInts, Option.some.injEq] at h; subst h; rfl
  | d :: r, ns, h => by
    cases d with
    | int i =>
      simp only [toInts, Option.map_eq_some_iff] at h
      obtain ⟨ms, h1, h2⟩ := h
      subst h2
      rw [toInts_eq h1]; rfl
    | _ => simp [toInts] at h
theorem toBools_eq : ∀ {ds : List PD} {ns : List Bool}, toBools ds = some ns → ds = ns.map PyData.bool
  | [], ns, h => by simp only [toBools, Option.some.injEq] at h; subst h; rfl
  | d :: r, ns, h => by
    cases d with
    | bool i =>
      simp only [toBools, Option.map_eq_some_iff] at h
      obtain ⟨ms, h1, h2⟩ := h
      subst h2
      rw [toBools_eq h1]; rfl
    | _ => simp [toBools] at h
@[simp] theorem toInts_map : ∀ ns : List Int, toInts (ns.map PyData.int) = some ns
  | [] => rfl
  | n :: ns => by simp only [List.map_cons, toInts, toInts_map ns, Option.map_some]
@[simp] theorem toBools_map : ∀ ns : List Bool, toBools (ns.map PyData.bool) = some ns
  | [] => rfl
  | n :: ns => by simp only [List.map_cons, toBools, toBools_map ns, Option.map_some]
/-- all -/
def pAll : List PD → R PD
  | [.list xs] => match toBools xs with
    | some bs => .ok (.bool (bs.all id))
    | none => .bad
  | _ => .bad
theorem dc_all (hc : X.calm = true) : CallR X (.builtin "all") (rdC pAll) := by
  refine CallR.by fun vs H Q h => ?_
  obtain ⟨G, ds, sb, rs, p⟩ := h
  unfold pAll at p
  split at p
  · obtain ⟨v, rfl, rv⟩ := rs.one
    obtain ⟨a, xs, rfl, ga, da⟩ := rv.of_lst
    split at p
    · rename_i bs e
      rw [toBools_eq e] at da
      have e2 := da.bools
      subst e2
      exact ⟨_, cr_all hc, _, bs, rfl, SqL.of (sb _ _ ga), p.val sb (.bl _)⟩
    · exact p.elim
  · exact p.elim
/-- sum of a list, of a tuple -/
theorem sum_tupleRaw {prog : Program} {w : World} {A : Around} {E : Value → Shared → Prop} {s : Shared} {l : Addr} {its : List Value} {ns : List Int} {Q : Value → Shared → Prop} (hh : A.handled = none) (hl : s.heap.IsTuple l its.toArray) (hi : IntsAre its ns)
    (h : ∀ h' tk t', (∀ b o, s.heap.get? b = some o → h'.get? b = some o) → Q (.int ns.sum t') { s with heap := h', toks := tk }) : wpAny (model prog w) A (call (.builtin "sum") [.ref l]) Q E s := by
  obtain ⟨xs, e⟩ := hi.allInts.items
  have hn : numsOf (intItems xs).toList = ns := by rw [← e]; exact hi.numsOf
  rw [nums_intItems] at hn
  rw [e] at hl
  refine call_sum_walkG (wpAny_pyIter_tuple hl ?_)
  have hlt : l < s.heap.objs.size := by
    obtain ⟨o, ho, _⟩ := hl
    exact Heap.lt_size ho
  refine ⟨_, _, _, _, _, _, numAt xs, rfl, Walks.tuple (A := A.in1) hh _ l (Nat.ne_of_lt hlt) (intItems xs), ⟨⟨_, Heap.get?_push_size _ rfl, rfl, rfl⟩, hl.push _⟩, ?_, (fun _ _ => intItems_at), fun h' tk t' hk => ?_⟩
  · intro b hb
    rw [Heap.size_push]
    simp only [List.mem_cons, List.not_mem_nil, or_false] at hb
    rcases hb with rfl | rfl
    · exact Nat.lt_succ_self _
    · exact Nat.lt_succ_of_lt hlt
  · have q := h h' tk t' fun b o eb => hk b o (by
      simp only [List.mem_singleton]
      exact Nat.ne_of_lt (Heap.lt_size eb)) (Heap.get?_push_of_some _ eb)
    have e3 : preSum (numAt xs) (intItems xs).size = ns.sum := by
      rw [preSum_eq, List.take_of_length_le (by simp [intItems]), hn]
    rw [e3]
    exact q
theorem cr_sumT (hc : X.calm = true) : CallR X (.builtin "sum") (fun vs H Q => ∃ (a : Addr) (ns : List Int), vs = [V.ref a] ∧ SqT X.K H a (ns.map V.int) ∧ Q (.int ns.sum) H) := by
  intro pins s σ H vs us Q I r h
  obtain ⟨a, ns, rfl, hs, q⟩ := h
  obtain ⟨its, rv, hl, _⟩ := I.tuple hs
  rw [Vals.ref1 r]
  exact sum_tupleRaw (I.ok.hd hc) hl rv.ints fun h' tk t' hk => ⟨.int _, H, I.kept hk, ⟨_, rfl⟩, q⟩
def pSum : List PD → R PD
  | [.list xs] => match toInts xs with
    | some bs => .ok (.int bs.sum)
    | none => .bad
  | [.tuple xs] => match toInts xs with
    | some bs => .ok (.int bs.sum)
    | none => .bad
  | _ => .bad
theorem dc_sum (hc : X.calm = true) : CallR X (.builtin "sum") (rdC pSum) := by
  refine CallR.by fun vs H Q h => ?_
  obtain ⟨G, ds, sb, rs, p⟩ := h
  unfold pSum at p
  split at p
  · obtain ⟨v, rfl, rv⟩ := rs.one
    obtain ⟨a, xs, rfl, ga, da⟩ := rv.of_lst
    split at p
    · rename_i bs e
      rw [toInts_eq e] at da
      have e2 := da.ints
      subst e2
      exact ⟨_, cr_sum hc, _, bs, rfl, SqL.of (sb _ _ ga), p.val sb (.int _)⟩
    · exact p.elim
  · obtain ⟨v, rfl, rv⟩ := rs.one
    obtain ⟨a, xs, rfl, ga, da⟩ := rv.of_tup
    split at p
    · rename_i bs e
      rw [toInts_eq e] at da
      have e2 := da.ints
      subst e2
      exact ⟨_, cr_sumT hc, _, bs, rfl, SqT.of (sb _ _ ga), p.val sb (.int _)⟩
    · exact p.elim
  · exact p.elim
/-- max, min -/
def maxL : Int → List Int → Int
  | m, [] => m
  | m, x :: r => maxL (if x > m then x else m) r
def minL : Int → List Int → Int
  | m, [] => m
  | m, x :: r => minL (if x < m then x else m) r
theorem maxL_ge : ∀ (r : List Int) (m : Int), m ≤ maxL m r ∧ (∀ y ∈ r, y ≤ maxL m r) ∧ (maxL m r = m ∨ maxL m r ∈ r)
  | [], m => ⟨Int.le_refl _, fun y h => by simp at h, .inl rfl⟩
  | x :: r, m => by
    have h := maxL_ge r (if x > m then x else m)
    unfold maxL
    split at h
    · rename_i c
      rw [if_pos c]
      refine ⟨by omega, fun y hy => ?_, ?_⟩
      · rcases List.mem_cons.mp hy with rfl | hy
        · exact h.1
        · exact h.2.1 y hy
      · rcases h.2.2 with e | e
        · exact .inr (by rw [e]; simp)
        · exact .inr (List.mem_cons_of_mem _ e)
    · rename_i c
      rw [if_neg c]
      refine ⟨h.1, fun y hy => ?_, ?_⟩
      · rcases List.mem_cons.mp hy with rfl | hy
        · omega
        · exact h.2.1 y hy
      · rcases h.2.2 with e | e
        · exact .inl e
        · exact .inr (List.mem_cons_of_mem _ e)
theorem minL_le : ∀ (r : List Int) (m : Int), minL m r ≤ m ∧ (∀ y ∈ r, minL m r ≤ y) ∧ (minL m r = m ∨ minL m r ∈ r)
  | [], m => ⟨Int.le_refl _, fun y h => by simp at h, .inl rfl⟩
  | x :: r, m => by
    have h := minL_le r (if x < m then x else m)
    unfold minL
    split at h
    · rename_i c
      rw [if_pos c]
      refine ⟨by omega, fun y hy => ?_, ?_⟩
      · rcases List.mem_cons.mp hy with rfl | hy
        · exact h.1
        · exact h.2.1 y hy
      · rcases h.2.2 with e | e
        · exact .inr (by rw [e]; simp)
        · exact .inr (List.mem_cons_of_mem _ e)
    · rename_i c
      rw [if_neg c]
      refine ⟨h.1, fun y hy => ?_, ?_⟩
      · rcases List.mem_cons.mp hy with rfl | hy
        · omega
        · exact h.2.1 y hy
      · rcases h.2.2 with e | e
        · exact .inl e
        · exact .inr (List.mem_cons_of_mem _ e)
theorem maxL_eq {m : Int} {x : Int} {r : List Int} (h1 : m ∈ x :: r) (h2 : ∀ y ∈ x :: r, y ≤ m) : m = maxL x r := by
  have h := maxL_ge r x
  have a : maxL x r ≤ m := by
    rcases h.2.2 with e | e
    · rw [e]; exact h2 x (by simp)
    · exact h2 _ (List.mem_cons_of_mem _ e)
  have b : m ≤ maxL x r := by
    rcases List.mem_cons.mp h1 with e | e
    · rw [e]; exact h.1
    · exact h.2.1 m e
  omega
theorem minL_eq {m : Int} {x : Int} {r : List Int} (h1 : m ∈ x :: r) (h2 : ∀ y ∈ x :: r, m ≤ y) : m = minL x r := by
  have h := minL_le r x
  have a : m ≤ minL x r := by
    rcases h.2.2 with e | e
    · rw [e]; exact h2 x (by simp)
    · exact h2 _ (List.mem_cons_of_mem _ e)
  have b : minL x r ≤ m := by
    rcases List.mem_cons.mp h1 with e | e
    · rw [e]; exact h.1
    · exact h.2.1 m e
  omega
def pMax : List PD → R PD
  | [.list xs] => match toInts xs with
    | some (x :: r) => .ok (.int (maxL x r))
    | _ => .bad
  | [.int i, .int j] => .ok (.int (if j > i then j else i))
  | _ => .bad
def pMin : List PD → R PD
  | [.list xs] => match toInts xs with
    | some (x :: r) => .ok (.int (minL x r))
    | _ => .bad
  | [.int i, .int j] => .ok (.int (if j < i then j else i))
  | _ => .bad
theorem dc_max (hc : X.calm = true) : CallR X (.builtin "max") (rdC pMax) := by
  refine CallR.by fun vs H Q h => ?_
  obtain ⟨G, ds, sb, rs, p⟩ := h
  unfold pMax at p
  split at p
  · obtain ⟨v, rfl, rv⟩ := rs.one
    obtain ⟨a, xs, rfl, ga, da⟩ := rv.of_lst
    split at p
    · rename_i x r e
      rw [toInts_eq e] at da
      have e2 := da.ints
      subst e2
      refine ⟨_, cr_max hc, _, x :: r, rfl, SqL.of (sb _ _ ga), Nat.succ_pos _, fun m h1 h2 => ?_⟩
      rw [maxL_eq h1 h2]
      exact p.val sb (.int _)
    · exact p.elim
  · obtain ⟨v, w, rfl, rv, rw'⟩ := rs.two
    exact ⟨_, call_max2 hc, _, _, by rw [rv.of_int, rw'.of_int], p.val sb (.int _)⟩
  · exact p.elim
theorem dc_min (hc : X.calm = true) : CallR X (.builtin "min") (rdC pMin) := by
  refine CallR.by fun vs H Q h => ?_
  obtain ⟨G, ds, sb, rs, p⟩ := h
  unfold pMin at p
  split at p
  · obtain ⟨v, rfl, rv⟩ := rs.one
    obtain ⟨a, xs, rfl, ga, da⟩ := rv.of_lst
    split at p
    · rename_i x r e
      rw [toInts_eq e] at da
      have e2 := da.ints
      subst e2
      refine ⟨_, cr_min hc, _, x :: r, rfl, SqL.of (sb _ _ ga), Nat.succ_pos _, fun m h1 h2 => ?_⟩
      rw [minL_eq h1 h2]
      exact p.val sb (.int _)
    · exact p.elim
  · obtain ⟨v, w, rfl, rv, rw'⟩ := rs.two
    exact ⟨_, call_min2 hc, _, _, by rw [rv.of_int, rw'.of_int], p.val sb (.int _)⟩
  · exact p.elim
/-- abs -/
def pAbs : List PD → R PD
  | [.int i] => .ok (.int (if i < 0 then -i else i))
  | _ => .bad
theorem dc_abs : CallR X (.builtin "abs") (rdC pAbs) := by
  refine CallR.by fun vs H Q h => ?_
  obtain ⟨G, ds, sb, rs, p⟩ := h
  unfold pAbs at p
  split at p
  · obtain ⟨v, rfl, rv⟩ := rs.one
    exact ⟨_, call_abs, _, by rw [rv.of_int], p.val sb (.int _)⟩
  · exact p.elim
/-- list(x), tuple(x) -/
def pList : List PD → R PD
  | [.list xs] => .ok (.list xs)
  | [.tuple xs] => .ok (.list xs)
  | _ => .bad
def pTuple : List PD → R PD
  | [.list xs] => .ok (.tuple xs)
  | [.tuple xs] => .ok (.tuple xs)
  | _ => .bad
theorem dc_list : CallR X (.type "list") (rdC pList) := by
  refine CallR.by fun vs H Q h => ?_
  obtain ⟨G, ds, sb, rs, p⟩ := h
  unfold pList at p
  split at p
  · obtain ⟨v, rfl, rv⟩ := rs.one
    obtain ⟨a, xs, rfl, ga, da⟩ := rv.of_lst
    exact ⟨_, call_list_of, _, _, rfl, .inl (SqL.of (sb _ _ ga)), fun q hq => p.lst sb da hq⟩
  · obtain ⟨v, rfl, rv⟩ := rs.one
    obtain ⟨a, xs, rfl, ga, da⟩ := rv.of_tup
    exact ⟨_, call_list_of, _, _, rfl, .inr (SqT.of (sb _ _ ga)), fun q hq => p.lst sb da hq⟩
  · exact p.elim
theorem dc_tuple : CallR X (.type "tuple") (rdC pTuple) := by
  refine CallR.by fun vs H Q h => ?_
  obtain ⟨G, ds, sb, rs, p⟩ := h
  unfold pTuple at p
  split at p
  · obtain ⟨v, rfl, rv⟩ := rs.one
    obtain ⟨a, xs, rfl, ga, da⟩ := rv.of_lst
    exact ⟨_, call_tuple_of, _, _, rfl, .inl ⟨SqL.of (sb _ _ ga), fun q hq => p.tup sb da hq⟩⟩
  · obtain ⟨v, rfl, rv⟩ := rs.one
    obtain ⟨a, xs, rfl, ga, da⟩ := rv.of_tup
    exact ⟨_, call_tuple_of, _, _, rfl, .inr ⟨SqT.of (sb _ _ ga), p.val sb (.tup ga da)⟩⟩
  · exact p.elim
/-- isinstance(x, T) of a built-in T -/
def tyN : PD → String
  | .none => "NoneType"
  | .bool _ => "bool"
  | .int _ => "int"
  | .str _ => "str"
  | .list _ => "list"
  | .tuple _ => "tuple"
  | .dict _ => "dict"
def isiT (T : String) : PD → Bool
  | .bool _ => T == "bool" || T == "int"
  | d => tyN d == T
def pIsi (T : String) : PD → R PD := fun d => .ok (.bool (isiT T d))
def TyOkB (T : String) : Bool := ["NoneType", "bool", "int", "str", "list", "tuple"].all fun a => kitB a T == some (if a == "bool" then T == "bool" || T == "int" else a == T)
theorem isi_kit {T a : String} (h : TyOkB T = true) (m : a ∈ ["NoneType", "bool", "int", "str", "list", "tuple"]) : kitB a T = some (if a == "bool" then T == "bool" || T == "int" else a == T) := by
  unfold TyOkB at h
  rw [List.all_eq_true] at h
  exact eq_of_beq (h a m)
theorem ty_of {K : PySem.W.Frag} {G H : Hp} {v : V} {d : PD} (sb : Sub G H) (r : Dg G v d) : TyX K H v (.type (tyN d)) := by
  cases r with
  | non => exact .base .non
  | bl b => exact .base (.bl b)
  | int i => exact .base (.int i)
  | str x => exact .base (.str x)
  | lst e a => exact .base (.lst (sb _ _ e))
  | tup e a => exact .base (.tup (sb _ _ e))
theorem isiT_of {T : String} {d : PD} (h : TyOkB T = true) (hd : isD d = true) : kitB (tyN d) T = some (isiT T d) := by
  cases d with
  | dict _ => cases hd
  | none => exact isi_kit h (a := "NoneType") (by simp)
  | bool _ => exact isi_kit h (a := "bool") (by simp)
  | int _ => exact isi_kit h (a := "int") (by simp)
  | str _ => exact isi_kit h (a := "str") (by simp)
  | list _ => exact isi_kit h (a := "list") (by simp)
  | tuple _ => exact isi_kit h (a := "tuple") (by simp)
theorem de_isi {T : String} {x : Str} {a : Expr} {fa : Mx B PD} {p p2 pos : Pos} (hT : TyOkB T = true) (hm : X.mg "isinstance" = none) (hm2 : X.mg x = none) (ha : DE X B O a fa) (hv2 : bootBuiltins x = some (.type T) := by decide +kernel) (hg : Gl X "isinstance" := by rfl) (hg2 : Gl X x := by rfl)
    (hv : bootBuiltins "isinstance" = some (.builtin "isinstance") := by decide +kernel) (hn2 : x ≠ "__name__" := by decide) (hd2 : (x == ("__debug__" : Str)) = false := by decide) (he : starEach [a, .Name x p2] X.env = (false, eval a X.env) :: starEach [.Name x p2] X.env := by rfl)
    (hpl : (backTo pos (starEach [.Name x p2] X.env)).any (·.1) = false := by rfl) : DE X B O (.Call (.Name "isinstance" p) [a, .Name x p2] [] pos) (cUn (pIsi T) fa) :=
  PE.imp (pe_callB call_isi hg hm hv (pa_cons ha (pa_cons (pe_bltn (v := .ty T) hg2 hm2 hv2 rfl hn2 hd2) pa_nil) he) (by decide) (by decide) he hpl) fun σ H Q h => by
    obtain ⟨G, ρ, s, a, p⟩ := h
    refine rdE.then a p fun v G1 H1 dx s1 a1 g1 rx p1 => ?_
    by_cases hd : isD dx = true
    · rw [if_pos hd] at p1
      have r := rx.dg (isD_tok hd)
      exact ⟨v, .ty T, _, _, isiT T dx, rfl, .ty T, ty_of a1.sit.sub r, kit_ty (isiT_of hT hd), p1.done a1.sit (.inl (.bl _))⟩
    · rw [if_neg hd] at p1; exact p1.elim
theorem tyOk_int : TyOkB "int" = true := by decide +kernel
theorem tyOk_bool : TyOkB "bool" = true := by decide +kernel
theorem tyOk_tuple : TyOkB "tuple" = true := by decide +kernel
theorem tyOk_list : TyOkB "list" = true := by decide +kernel
theorem tyOk_str : TyOkB "str" = true := by decide +kernel
end
end DL

/-! DL5: targets, statements -/
namespace DL
open PySem PySem.Spec PyProof.Rows L2
inductive Fl where
  | nx (ρ : Env) | rt (d : PD) | bk (ρ : Env) | ct (ρ : Env)
section
variable {X : Cx} {B : Bs} {O O' : List Nat}

/-! ### slots set -/
theorem RS.set {W : Wd} {G H H0 : Hp} {σ : St} {ρ : Env} {i : Nat} {v : V} {d : PD} (r : RS W G H H0 O σ ρ) (rv : Rp W.tk G v d) (hi : i ∉ O) : RS W G H H0 O (σ.set i (some v)) (ρ.set i (some d)) := by
  refine ⟨by rw [List.length_set, List.length_set]; exact r.len, fun j e h n => ?_, fun j e h m => ?_, fun j k p e f m1 m2 h1 h2 h3 h4 => ?_⟩
  · by_cases z : i = j
    · subst z
      by_cases hl : i < ρ.length
      · rw [List.getElem?_set_self hl] at h
        cases h
        exact ⟨v, List.getElem?_set_self (by rw [r.len]; exact hl), rv⟩
      · rw [List.getElem?_eq_none (by rw [List.length_set]; omega)] at h; cases h
    · rw [List.getElem?_set_ne z] at h
      obtain ⟨w, h1, h2⟩ := r.plain j e h n
      exact ⟨w, by rw [List.getElem?_set_ne z]; exact h1, h2⟩
  · have z : i ≠ j := fun z => hi (by rw [z]; exact m)
    rw [List.getElem?_set_ne z] at h
    obtain ⟨p, vs, ds, h1, h2⟩ := r.own j e h m
    exact ⟨p, vs, ds, by rw [List.getElem?_set_ne z]; exact h1, h2⟩
  · have z1 : i ≠ j := fun z => hi (by rw [z]; exact m1)
    have z2 : i ≠ k := fun z => hi (by rw [z]; exact m2)
    rw [List.getElem?_set_ne z1] at h1 h3
    rw [List.getElem?_set_ne z2] at h2 h4
    exact r.apart j k p e f m1 m2 h1 h2 h3 h4
theorem wipe_set_in {σ : St} {i : Nat} {x : Option V} : ∀ {vs : List Nat}, i ∈ vs → wipe (σ.set i x) vs = wipe σ vs
  | [], h => by simp at h
  | v :: vs, h => by
    show (wipe (σ.set i x) vs).set v none = (wipe σ vs).set v none
    by_cases m : i ∈ vs
    · rw [wipe_set_in m]
    · have e : v = i := by
        rcases List.mem_cons.mp h with z | z
        · exact z.symm
        · exact absurd z m
      subst e
      rw [wipe_set_out m, List.set_set]
where
  wipe_set_out {σ : St} {i : Nat} {x : Option V} : ∀ {vs : List Nat}, i ∉ vs → wipe (σ.set i x) vs = (wipe σ vs).set i x
  | [], _ => rfl
  | v :: vs, h => by
    show (wipe (σ.set i x) vs).set v none = ((wipe σ vs).set v none).set i x
    have h1 : i ∉ vs := fun z => h (List.mem_cons_of_mem _ z)
    have h2 : i ≠ v := fun z => h (by rw [z]; simp)
    rw [wipe_set_out h1, List.set_comm _ _ h2]

/-! ### targets -/
abbrev Bd := PD → Env → Option Env
abbrev Bds := List PD → Env → Option Env
def gRd (B : Bs) (O : List Nat) (b : Bd) (sl : List Nat) : TG := fun v σ H Q => ∃ G ρ d ρ', Sub G H ∧ RS B.W G H B.H0 O σ ρ ∧ Rp B.W.tk G v d ∧ b d ρ = some ρ' ∧
  ∀ σ', RS B.W G H B.H0 O σ' ρ' → (∀ vs : List Nat, (∀ i ∈ sl, i ∈ vs) → wipe σ' vs = wipe σ vs) → Q σ' H
def gRds (B : Bs) (O : List Nat) (b : Bds) (sl : List Nat) : TGs := fun v σ H Q => ∃ G ρ d ρ', Sub G H ∧ RS B.W G H B.H0 O σ ρ ∧ DgAll G v d ∧ b d ρ = some ρ' ∧
  ∀ σ', RS B.W G H B.H0 O σ' ρ' → (∀ vs : List Nat, (∀ i ∈ sl, i ∈ vs) → wipe σ' vs = wipe σ vs) → Q σ' H
abbrev DG (X : Cx) (B : Bs) (O : List Nat) (tg : Expr) (b : Bd) (sl : List Nat) : Prop := PG X tg (gRd B O b sl)
abbrev DGs (X : Cx) (B : Bs) (O : List Nat) (ts : List Expr) (b : Bds) (sl : List Nat) : Prop := PGs X ts (gRds B O b sl)
theorem PG.imp {tg : Expr} {t t' : TG} (h : PG X tg t) (i : ∀ v σ H Q, t' v σ H Q → t v σ H Q) : PG X tg t' := ⟨fun pins s σ H v u Q I r q => h.run pins s σ H v u Q I r (i v σ H Q q)⟩
theorem PGs.imp {ts : List Expr} {t t' : TGs} (h : PGs X ts t) (i : ∀ v σ H Q, t' v σ H Q → t v σ H Q) : PGs X ts t' := ⟨fun pins s σ H v u Q I r q => h.run pins s σ H v u Q I r (i v σ H Q q)⟩
def bNm (i : Nat) : Bd := fun d ρ => some (ρ.set i (some d))
def bTup (b : Bds) : Bd := fun d ρ => match d with
  | .tuple xs => b xs ρ
  | .list xs => b xs ρ
  | _ => none
def bNil : Bds := fun ds ρ => match ds with
  | [] => some ρ
  | _ => none
def bCons (b : Bd) (c : Bds) : Bds := fun ds ρ => match ds with
  | d :: r => match b d ρ with
    | some ρ' => c r ρ'
    | none => none
  | [] => none
theorem dg_name (i : Nat) {x : Str} {pos : Pos} (hN : X.N.Nodup) (hi : X.N[i]? = some x := by rfl) (hx : Loc X.env.scope x := by first | exact Or.inl rfl | exact Or.inr rfl) (hO : i ∉ O := by decide) (hf : X.fn x = true ∨ X.env.scope.names.lookup x = some .local := by first | exact .inl rfl | exact .inr rfl) : DG X B O (.Name x pos) (bNm i) [i] :=
  PG.imp (pg_name hN hi hx hf) fun v σ H Q h => by
    obtain ⟨G, ρ, d, ρ', sb, rs, rv, e, k⟩ := h
    cases e
    exact k _ (rs.set rv hO) fun vs hv => wipe_set_in (hv i (by simp))
theorem dgs_nil : DGs X B O [] bNil [] := PGs.imp pgs_nil fun v σ H Q h => by
  obtain ⟨G, ρ, d, ρ', sb, rs, rv, e, k⟩ := h
  cases d with
  | nil =>
    cases rv
    cases e
    exact ⟨rfl, k σ rs fun _ _ => rfl⟩
  | cons _ _ => cases e
theorem dgs_cons {t : Expr} {ts : List Expr} {b : Bd} {c : Bds} {sl sm : List Nat} (h1 : DG X B O t b sl) (h2 : DGs X B O ts c sm) (hs : (assignEach (t :: ts) X.env).map (·.2) = assign t X.env :: (assignEach ts X.env).map (·.2) := by rfl) : DGs X B O (t :: ts) (bCons b c) (sl ++ sm) :=
  PGs.imp (pgs_cons h1 h2 hs) fun v σ H Q h => by
    obtain ⟨G, ρ, d, ρ', sb, rs, rv, e, k⟩ := h
    cases rv with
    | nil => cases e
    | cons r1 r2 =>
      rename_i v vs d ds
      unfold bCons at e
      dsimp only at e
      cases e1 : b d ρ with
      | none => rw [e1] at e; cases e
      | some ρ1 =>
        rw [e1] at e
        refine ⟨v, vs, rfl, G, ρ, d, ρ1, sb, rs, .inl r1, e1, fun σ1 rs1 w1 => ?_⟩
        exact ⟨G, ρ1, ds, ρ', sb, rs1, r2, e, fun σ2 rs2 w2 => k σ2 rs2 fun vs hv => (w2 vs fun i hi => hv i (List.mem_append_right _ hi)).trans (w1 vs fun i hi => hv i (List.mem_append_left _ hi))⟩
theorem dgs_len {ts : List Expr} {c : Bds} {n : Nat} (h : ∀ ds ρ ρ', c ds ρ = some ρ' → ds.length = n) (ds : List PD) (ρ ρ' : Env) (e : c ds ρ = some ρ') : ds.length = n := h ds ρ ρ' e
def bLen (c : Bds) (n : Nat) : Prop := ∀ ds ρ ρ', c ds ρ = some ρ' → ds.length = n
theorem bLen_nil : bLen bNil 0 := fun ds ρ ρ' e => by
  cases ds with
  | nil => rfl
  | cons _ _ => cases e
theorem bLen_cons {b : Bd} {c : Bds} {n : Nat} (h : bLen c n) : bLen (bCons b c) (n + 1) := fun ds ρ ρ' e => by
  cases ds with
  | nil => cases e
  | cons d r =>
    unfold bCons at e
    dsimp only at e
    cases e1 : b d ρ with
    | none => rw [e1] at e; cases e
    | some ρ1 =>
      rw [e1] at e
      rw [List.length_cons, h r ρ1 ρ' e]
theorem PG.by {tg : Expr} {t' : TG} (h : ∀ v σ H Q, t' v σ H Q → ∃ t, PG X tg t ∧ t v σ H Q) : PG X tg t' := ⟨fun pins s σ H v u Q I r q => by
  obtain ⟨t, ht, q'⟩ := h v σ H Q q
  exact ht.run pins s σ H v u Q I r q'⟩
theorem dg_tup {es : List Expr} {k : Nat} {pos : Pos} {b : Bds} {sl : List Nat} {n : Nat} (hl : bLen b n) (h : DGs X B O es b sl) (hc : X.calm = true := by rfl) (hn : (assignEach es X.env).length = n := by rfl) (hst : (assignEach es X.env).findIdx? (·.1) = none := by rfl) : DG X B O (.Tuple es k pos) (bTup b) sl :=
  PG.by fun v σ H Q h => by
    obtain ⟨G, ρ, d, ρ', sb, rs, rv, e, kk⟩ := h
    unfold bTup at e
    split at e
    · rename_i xs
      obtain ⟨a, vs, rfl, ga, da⟩ := (rv.dg (isD_tok rfl)).of_tup
      exact ⟨_, pg_tup hc h hn hst, a, vs, rfl, SqT.of (sb _ _ ga), by rw [da.len]; exact hl _ _ _ e, G, ρ, xs, ρ', sb, rs, da, e, kk⟩
    · rename_i xs
      obtain ⟨a, vs, rfl, ga, da⟩ := (rv.dg (isD_tok rfl)).of_lst
      exact ⟨_, pg_lst hc h hn hst, a, vs, rfl, SqL.of (sb _ _ ga), by rw [da.len]; exact hl _ _ _ e, G, ρ, xs, ρ', sb, rs, da, e, kk⟩
    · cases e

/-! ### statements -/
abbrev Ms (B : Bs) := Env → B.W.d → R (Fl × B.W.d)
def PostS (B : Bs) (O' : List Nat) (D : Ends) (r : R (Fl × B.W.d)) : Prop :=
  match r with
  | .ok (.nx ρ', s') => ∀ σ' G' H', At B O' σ' H' G' ρ' s' → D.nx σ' H'
  | .ok (.bk ρ', s') => ∀ σ' G' H', At B O' σ' H' G' ρ' s' → D.bk σ' H'
  | .ok (.ct ρ', s') => ∀ σ' G' H', At B O' σ' H' G' ρ' s' → D.ct σ' H'
  | .ok (.rt d, s') => ∀ v G' H', Gr B.W.fp B.G0 B.H0 G' H' → Sit B.W G' H' s' → Rp B.W.tk G' v d → D.rt v H'
  | .exc c => ∀ G' H', Gr B.W.fp B.G0 B.H0 G' H' → B.E (.ref (B.W.cls c)) none H'
  | .bad => False
def rdS (B : Bs) (O O' : List Nat) (f : Ms B) : TS := fun D σ H => ∃ G ρ s, At B O σ H G ρ s ∧ PostS B O' D (f ρ s)
abbrev DS (X : Cx) (B : Bs) (O O' : List Nat) (st : Stmt) (f : Ms B) : Prop := PS X st (rdS B O O' f)
abbrev DSs (X : Cx) (B : Bs) (O O' : List Nat) (st : List Stmt) (f : Ms B) : Prop := PSs X st (rdS B O O' f)
def sNil {d : Type} : Env → d → R (Fl × d) := fun ρ s => .ok (.nx ρ, s)
def sSeq {d : Type} (f g : Env → d → R (Fl × d)) : Env → d → R (Fl × d) := fun ρ s => match f ρ s with
  | .ok (.nx ρ', s') => g ρ' s'
  | r => r
theorem dss_nil : DSs X B O O [] sNil := PSs.imp pss_nil fun D σ H h => by
  obtain ⟨G, ρ, s, a, p⟩ := h
  exact p σ G H a
/-- what owns less -/
theorem At.less {σ : St} {H G : Hp} {ρ : Env} {s : B.W.d} (a : At B O σ H G ρ s) (h : ∀ i ∈ O', i ∈ O) : ∃ G', At B O' σ H G' ρ s := by
  suffices hs : ∀ (l : List Nat) (O : List Nat) (G : Hp), At B O σ H G ρ s → ∃ G', At B (O.filter fun i => !l.contains i) σ H G' ρ s by
    obtain ⟨G', a'⟩ := hs (O.filter fun i => !O'.contains i) O G a
    refine ⟨G', a'.sit, a'.gr, a'.rs.len, fun i d e n => ?_, fun i d e m => ?_, fun i j p d e m1 m2 => ?_⟩
    · refine a'.rs.plain i d e fun z => ?_
      rw [List.mem_filter] at z
      have z2 := z.2
      rw [Bool.not_eq_true', List.contains_eq_mem, decide_eq_false_iff_not, List.mem_filter] at z2
      apply z2
      refine ⟨z.1, ?_⟩
      rw [Bool.not_eq_true', List.contains_eq_mem, decide_eq_false_iff_not]
      exact n
    · refine a'.rs.own i d e ?_
      rw [List.mem_filter]
      refine ⟨h i m, ?_⟩
      rw [Bool.not_eq_true', List.contains_eq_mem, decide_eq_false_iff_not, List.mem_filter]
      intro z
      have z2 := z.2
      rw [Bool.not_eq_true', List.contains_eq_mem, decide_eq_false_iff_not] at z2
      exact z2 m
    · refine a'.rs.apart i j p d e ?_ ?_
      · rw [List.mem_filter]
        refine ⟨h i m1, ?_⟩
        rw [Bool.not_eq_true', List.contains_eq_mem, decide_eq_false_iff_not, List.mem_filter]
        intro z
        have z2 := z.2
        rw [Bool.not_eq_true', List.contains_eq_mem, decide_eq_false_iff_not] at z2
        exact z2 m1
      · rw [List.mem_filter]
        refine ⟨h j m2, ?_⟩
        rw [Bool.not_eq_true', List.contains_eq_mem, decide_eq_false_iff_not, List.mem_filter]
        intro z
        have z2 := z.2
        rw [Bool.not_eq_true', List.contains_eq_mem, decide_eq_false_iff_not] at z2
        exact z2 m2
  intro l
  induction l with
  | nil =>
    intro O G a
    refine ⟨G, ?_⟩
    have e : (O.filter fun i => !([] : List Nat).contains i) = O := by simp
    rw [e]
    exact a
  | cons k l ih =>
    intro O G a
    -- freeze k
    have one : ∃ G', At B (O.filter fun i => decide (i ≠ k)) σ H G' ρ s := by
      by_cases mk : k ∈ O
      · cases ek : ρ[k]? with
        | none =>
          refine ⟨G, a.sit, a.gr, a.rs.len, fun i d e n => ?_, fun i d e m => a.rs.own i d e (List.mem_filter.mp m).1, fun i j p d e m1 m2 => a.rs.apart i j p d e (List.mem_filter.mp m1).1 (List.mem_filter.mp m2).1⟩
          refine a.rs.plain i d e fun z => n (List.mem_filter.mpr ⟨z, decide_eq_true fun q => ?_⟩)
          rw [q, ek] at e; cases e
        | some od =>
          cases od with
          | none =>
            refine ⟨G, a.sit, a.gr, a.rs.len, fun i d e n => ?_, fun i d e m => a.rs.own i d e (List.mem_filter.mp m).1, fun i j p d e m1 m2 => a.rs.apart i j p d e (List.mem_filter.mp m1).1 (List.mem_filter.mp m2).1⟩
            refine a.rs.plain i d e fun z => n (List.mem_filter.mpr ⟨z, decide_eq_true fun q => ?_⟩)
            rw [q, ek] at e; cases e
          | some dk =>
            obtain ⟨p, vs, ds, h1, h2, h3, h4, h5, h6, h7⟩ := a.rs.own k dk ek mk
            have sg : Sub G (upd G p (.lst vs)) := sub_upd h5
            have sh : Sub (upd G p (.lst vs)) H := fun x o e => by
              by_cases z : x = p
              · subst z; rw [upd_same] at e; cases e; exact h3
              · rw [upd_ne z] at e; exact a.sit.sub x o e
            have gr : Gr B.W.fp B.G0 B.H0 (upd G p (.lst vs)) H := ⟨fun x o e => sg x o (a.gr.g x o e), a.gr.h, a.gr.dom, fun x o e => by
              by_cases z : x = p
              · subst z; exact .inr h6
              · rw [upd_ne z] at e; exact a.gr.new x o e⟩
            have st : Sit B.W (upd G p (.lst vs)) H s := ⟨sh, fun x f => by
              have z : x ≠ p := fun z => h7 (by rw [← z]; exact f)
              rw [upd_ne z]; exact a.sit.fpG x f, a.sit.fpH, B.W.keep a.sit.rep sg fun _ _ _ e => e⟩
            refine ⟨upd G p (.lst vs), st, gr, a.rs.len, fun i d e n => ?_, fun i d e m => ?_, fun i j q d e m1 m2 => a.rs.apart i j q d e (List.mem_filter.mp m1).1 (List.mem_filter.mp m2).1⟩
            · by_cases z : i = k
              · subst z
                rw [ek] at e; cases e
                subst h2
                exact ⟨.ref p, h1, .inl (.lst upd_same (h4.mono sg))⟩
              · obtain ⟨v, q1, q2⟩ := a.rs.plain i d e fun w => n (List.mem_filter.mpr ⟨w, decide_eq_true z⟩)
                exact ⟨v, q1, q2.mono sg⟩
            · have m' := List.mem_filter.mp m
              have nk : i ≠ k := of_decide_eq_true m'.2
              obtain ⟨p', vs', ds', q1, q2, q3, q4, q5, q6, q7⟩ := a.rs.own i d e m'.1
              have np : p' ≠ p := fun z => nk (a.rs.apart i k p d dk m'.1 mk e ek (by rw [← z]; exact q1) h1)
              exact ⟨p', vs', ds', q1, q2, q3, q4.mono sg, by rw [upd_ne np]; exact q5, q6, q7⟩
      · refine ⟨G, ?_⟩
        have e : (O.filter fun i => decide (i ≠ k)) = O := List.filter_eq_self.mpr fun x hx => decide_eq_true fun z => mk (by rw [← z]; exact hx)
        rw [e]; exact a
    obtain ⟨G1, a1⟩ := one
    obtain ⟨G2, a2⟩ := ih _ G1 a1
    refine ⟨G2, ?_⟩
    have e : ((O.filter fun i => decide (i ≠ k)).filter fun i => !l.contains i) = O.filter fun i => !(k :: l).contains i := by
      rw [List.filter_filter]
      congr 1
      funext i
      simp only [List.contains_cons, ne_eq, decide_not]
      by_cases z : i = k
      · simp [z]
      · simp [z]
    rw [← e]
    exact a2
theorem PostS.less {D : Ends} {r : R (Fl × B.W.d)} (h : ∀ i ∈ O', i ∈ O) (p : PostS B O' D r) : PostS B O D r := by
  cases r with
  | ok x =>
    obtain ⟨f, s'⟩ := x
    cases f with
    | nx ρ => exact fun σ' G' H' a => let ⟨G2, a2⟩ := a.less h; p σ' G2 H' a2
    | bk ρ => exact fun σ' G' H' a => let ⟨G2, a2⟩ := a.less h; p σ' G2 H' a2
    | ct ρ => exact fun σ' G' H' a => let ⟨G2, a2⟩ := a.less h; p σ' G2 H' a2
    | rt d => exact p
  | exc c => exact p
  | bad => exact p
/-- owned before, read only from here on -/
theorem dss_less {O1 : List Nat} {sts : List Stmt} {f : Ms B} (h : ∀ i ∈ O1, i ∈ O) (hs : DSs X B O1 O' sts f) : DSs X B O O' sts f := PSs.imp hs fun D σ H q => by
  obtain ⟨G, ρ, s, a, p⟩ := q
  obtain ⟨G2, a2⟩ := a.less h
  exact ⟨G2, ρ, s, a2, p⟩
/-- owned behind, forgotten -/
theorem dss_post {O1 : List Nat} {sts : List Stmt} {f : Ms B} (h : ∀ i ∈ O', i ∈ O1) (hs : DSs X B O O1 sts f) : DSs X B O O' sts f := PSs.imp hs fun D σ H q => by
  obtain ⟨G, ρ, s, a, p⟩ := q
  exact ⟨G, ρ, s, a, p.less h⟩
theorem rd_seq {O1 : List Nat} {f g : Ms B} {D : Ends} {σ : St} {H : Hp} (h : rdS B O O' (sSeq f g) D σ H) (hO : ∀ i ∈ O', i ∈ O1) : tSeq (rdS B O O1 f) (rdS B O1 O' g) D σ H := by
  obtain ⟨G, ρ, s, a, p⟩ := h
  refine ⟨G, ρ, s, a, ?_⟩
  unfold sSeq at p
  cases e : f ρ s with
  | ok x =>
    obtain ⟨fl, s'⟩ := x
    rw [e] at p
    cases fl with
    | nx ρ' => exact fun σ' G' H' a' => ⟨G', ρ', s', a', p⟩
    | bk ρ' => exact fun σ' G' H' a' => let ⟨G2, a2⟩ := a'.less hO; p σ' G2 H' a2
    | ct ρ' => exact fun σ' G' H' a' => let ⟨G2, a2⟩ := a'.less hO; p σ' G2 H' a2
    | rt d => exact p
  | exc c => rw [e] at p; exact p
  | bad => rw [e] at p; exact p
theorem dss_cons {O1 : List Nat} {st : Stmt} {rest : List Stmt} {f g : Ms B} (h1 : DS X B O O1 st f) (h2 : DSs X B O1 O' rest g) (hO : ∀ i ∈ O', i ∈ O1 := by decide) : DSs X B O O' (st :: rest) (sSeq f g) := PSs.imp (pss_cons h1 h2) fun D σ H q => rd_seq q hO
theorem dss_one {st : Stmt} {f : Ms B} (h1 : DS X B O O' st f) : DSs X B O O' [st] f := pss_one h1
end
end DL

/-! DL6: the statements -/
namespace DL
open PySem PySem.Spec PyProof.Rows L2
section
variable {X : Cx} {B : Bs} {O O' : List Nat}
theorem rdE.thenS {f : Mx B PD} {σ : St} {H : Hp} {Q : VK} {D : Ends} {G : Hp} {ρ : Env} {s : B.W.d} {k : PD → B.W.d → R (Fl × B.W.d)}
    (a : At B O σ H G ρ s) (p : PostS B O' D (bnd (f ρ s) k)) (h : ∀ v G1 H1 d s1, At B O σ H1 G1 ρ s1 → Gr B.W.fp G H G1 H1 → Rp B.W.tk G1 v d → PostS B O' D (k d s1) → Q v H1) : rdE B O f σ H Q :=
  rdE.fst a (fun _ _ r => PostS B O' D r) (fun _ p => p) (fun p G' H' g => p G' H' (a.gr.trans g)) (fun p => p) p h
theorem rdT.thenS {f : Mx B Bool} {σ : St} {H : Hp} {Q : Bool → Hp → Prop} {D : Ends} {G : Hp} {ρ : Env} {s : B.W.d} {k : Bool → B.W.d → R (Fl × B.W.d)}
    (a : At B O σ H G ρ s) (p : PostS B O' D (bnd (f ρ s) k)) (h : ∀ x G1 H1 s1, At B O σ H1 G1 ρ s1 → Gr B.W.fp G H G1 H1 → PostS B O' D (k x s1) → Q x H1) : rdT B O f σ H Q :=
  rdT.fst a (fun _ _ r => PostS B O' D r) (fun _ p => p) (fun p G' H' g => p G' H' (a.gr.trans g)) (fun p => p) p h
theorem rdA.thenS {f : Mx B (List PD)} {σ : St} {H : Hp} {Q : List V → Hp → Prop} {D : Ends} {G : Hp} {ρ : Env} {s : B.W.d} {k : List PD → B.W.d → R (Fl × B.W.d)}
    (a : At B O σ H G ρ s) (p : PostS B O' D (bnd (f ρ s) k)) (h : ∀ vs G1 H1 ds s1, At B O σ H1 G1 ρ s1 → Gr B.W.fp G H G1 H1 → RpAll B.W.tk G1 vs ds → PostS B O' D (k ds s1) → Q vs H1) : rdA B O f σ H Q :=
  rdA.fst a (fun _ _ r => PostS B O' D r) (fun _ p => p) (fun p G' H' g => p G' H' (a.gr.trans g)) (fun p => p) p h

/-! ### x = e, targets = e -/
def sSet {d : Type} (i : Nat) (f : Env → d → R (PD × d)) : Env → d → R (Fl × d) := fun ρ s => bnd (f ρ s) fun x s1 => .ok (.nx (ρ.set i (some x)), s1)
theorem ds_set (i : Nat) {x : Str} {e : Expr} {fe : Mx B PD} {pos pos' : Pos} (hN : X.N.Nodup) (he : DE X B O e fe) (hi : X.N[i]? = some x := by rfl) (hx : Loc X.env.scope x := by first | exact Or.inl rfl | exact Or.inr rfl) (hO : i ∉ O := by decide)
    (hs : swapsWith e (some (.Name x pos')) pos.line X.env = pure false := by rfl) (hf : X.fn x = true ∨ X.env.scope.names.lookup x = some .local := by first | exact .inl rfl | exact .inr rfl) : DS X B O O (.Assign [.Name x pos'] e pos) (sSet i fe) :=
  PS.imp (ps_set hN hi hx he hs hf) fun D σ H h => by
    obtain ⟨G, ρ, s, a, p⟩ := h
    refine rdE.thenS a p fun v G1 H1 d s1 a1 g1 rv p1 => ?_
    exact p1 _ G1 H1 ⟨a1.sit, a1.gr, a1.rs.set rv hO⟩
def sAsg {d : Type} (b : Bd) (f : Env → d → R (PD × d)) : Env → d → R (Fl × d) := fun ρ s => bnd (f ρ s) fun x s1 => match b x ρ with
  | some ρ' => .ok (.nx ρ', s1)
  | none => .bad
theorem ds_asg {tg e : Expr} {b : Bd} {sl : List Nat} {fe : Mx B PD} {pos : Pos} (he : DE X B O e fe) (hg : DG X B O tg b sl) (hs : swapsWithSole [tg] e pos.line X.env = pure false := by rfl) (hw : swappedStores [tg] e X.env = pure none := by rfl)
    (h1 : (assignEach [tg] X.env).map (·.2) = [assign tg X.env] := by rfl) : DS X B O O (.Assign [tg] e pos) (sAsg b fe) :=
  PS.imp (ps_asg he hg hs hw h1) fun D σ H h => by
    obtain ⟨G, ρ, s, a, p⟩ := h
    refine rdE.thenS a p fun v G1 H1 d s1 a1 g1 rv p1 => ?_
    cases e1 : b d ρ with
    | none => rw [e1] at p1; exact p1.elim
    | some ρ' =>
      rw [e1] at p1
      exact ⟨G1, ρ, d, ρ', a1.sit.sub, a1.rs, rv, e1, fun σ' rs' _ => p1 σ' G1 H1 ⟨a1.sit, a1.gr, rs'⟩⟩
/-- a, b = x, y -/
def sPar {d : Type} (i j : Nat) (f : Env → d → R (List PD × d)) : Env → d → R (Fl × d) := fun ρ s => bnd (f ρ s) fun xs s1 => match xs with
  | [x, y] => .ok (.nx ((ρ.set i (some x)).set j (some y)), s1)
  | _ => .bad
theorem ds_par (i j : Nat) {x y : Str} {a b : Expr} {fa : Mx B (List PD)} {px py pt pos : Pos} {kt k2 : Nat} {pt2 : Pos} (hN : X.N.Nodup) (ha : DA X B O [a, b] fa) (hc : X.calm = true := by rfl) (hi : X.N[i]? = some x := by rfl) (hj : X.N[j]? = some y := by rfl) (hij : i ≠ j := by decide) (hOi : i ∉ O := by decide) (hOj : j ∉ O := by decide)
    (hx : X.env.scope.names.lookup x = some .local := by rfl) (hy : X.env.scope.names.lookup y = some .local := by rfl)
    (hw : swappedStores [.Tuple [.Name x px, .Name y py] kt pt] (.Tuple [a, b] k2 pt2) X.env = pure (some [x, y]) := by rfl)
    (hs : swapsWithSole [.Tuple [.Name x px, .Name y py] kt pt] (.Tuple [a, b] k2 pt2) pos.line X.env = pure false := by rfl) : DS X B O O (.Assign [.Tuple [.Name x px, .Name y py] kt pt] (.Tuple [a, b] k2 pt2) pos) (sPar i j fa) :=
  PS.imp (ps_par hc hN hi hj hij hx hy ha hw hs) fun D σ H h => by
    obtain ⟨G, ρ, s, a, p⟩ := h
    refine rdA.thenS a p fun vs G1 H1 ds s1 a1 g1 rv p1 => ?_
    cases rv with
    | nil => exact p1.elim
    | cons r1 r2 =>
      cases r2 with
      | nil => exact p1.elim
      | cons r2 r3 =>
        cases r3 with
        | nil => exact ⟨_, _, rfl, p1 _ G1 H1 ⟨a1.sit, a1.gr, (a1.rs.set r1 hOi).set r2 hOj⟩⟩
        | cons _ _ => exact p1.elim
def sPar3 {d : Type} (i j l : Nat) (f : Env → d → R (List PD × d)) : Env → d → R (Fl × d) := fun ρ s => bnd (f ρ s) fun xs s1 => match xs with
  | [x, y, z] => .ok (.nx (((ρ.set i (some x)).set j (some y)).set l (some z)), s1)
  | _ => .bad
theorem ds_par3 (i j l : Nat) {x y z : Str} {a b c : Expr} {fa : Mx B (List PD)} {px py pz pt pos : Pos} {kt k2 : Nat} {pt2 : Pos} (hN : X.N.Nodup) (ha : DA X B O [a, b, c] fa) (hc : X.calm = true := by rfl) (hi : X.N[i]? = some x := by rfl) (hj : X.N[j]? = some y := by rfl) (hl : X.N[l]? = some z := by rfl)
    (hij : i ≠ j := by decide) (hil : i ≠ l := by decide) (hjl : j ≠ l := by decide) (hOi : i ∉ O := by decide) (hOj : j ∉ O := by decide) (hOl : l ∉ O := by decide)
    (hx : X.env.scope.names.lookup x = some .local := by rfl) (hy : X.env.scope.names.lookup y = some .local := by rfl) (hz : X.env.scope.names.lookup z = some .local := by rfl)
    (hw : swappedStores [.Tuple [.Name x px, .Name y py, .Name z pz] kt pt] (.Tuple [a, b, c] k2 pt2) X.env = pure (some [x, y, z]) := by rfl)
    (hs : swapsWithSole [.Tuple [.Name x px, .Name y py, .Name z pz] kt pt] (.Tuple [a, b, c] k2 pt2) pos.line X.env = pure false := by rfl) : DS X B O O (.Assign [.Tuple [.Name x px, .Name y py, .Name z pz] kt pt] (.Tuple [a, b, c] k2 pt2) pos) (sPar3 i j l fa) :=
  PS.imp (ps_par3 hc hN hi hj hl hij hil hjl hx hy hz ha hw hs) fun D σ H h => by
    obtain ⟨G, ρ, s, a, p⟩ := h
    refine rdA.thenS a p fun vs G1 H1 ds s1 a1 g1 rv p1 => ?_
    cases rv with
    | nil => exact p1.elim
    | cons r1 r2 =>
      cases r2 with
      | nil => exact p1.elim
      | cons r2 r3 =>
        cases r3 with
        | nil => exact p1.elim
        | cons r3 r4 =>
          cases r4 with
          | nil => exact ⟨_, _, _, rfl, p1 _ G1 H1 ⟨a1.sit, a1.gr, ((a1.rs.set r1 hOi).set r2 hOj).set r3 hOl⟩⟩
          | cons _ _ => exact p1.elim
/-- x += e, ints -/
def sAug {d : Type} (i : Nat) (f : Env → d → R (PD × d)) : Env → d → R (Fl × d) := fun ρ s => match ρ[i]? with
  | some (some (.int a)) => bnd (f ρ s) fun x s1 => match x with
    | .int b => .ok (.nx (ρ.set i (some (.int (a + b)))), s1)
    | _ => .bad
  | _ => .bad
theorem ds_aug (i : Nat) {x : Str} {e : Expr} {fe : Mx B PD} {pos pos' : Pos} (hN : X.N.Nodup) (he : DE X B O e fe) (hi : X.N[i]? = some x := by rfl) (hx : Loc X.env.scope x := by first | exact Or.inl rfl | exact Or.inr rfl) (hO : i ∉ O := by decide)
    (hf : X.fn x = true ∨ X.env.scope.names.lookup x = some .local := by first | exact .inl rfl | exact .inr rfl) : DS X B O O (.AugAssign (.Name x pos') .Add e pos) (sAug i fe) :=
  PS.imp (ps_aug hN hi hx he ip_add hf) fun D σ H h => by
    obtain ⟨G, ρ, s, a, p⟩ := h
    unfold sAug at p
    split at p
    · rename_i k e1
      obtain ⟨v, h1, h2⟩ := a.rs.plain i _ e1 hO
      refine ⟨v, h1, ?_⟩
      refine rdE.thenS a p fun w G1 H1 d s1 a1 g1 rv p1 => ?_
      cases d with
      | int b => exact ⟨_, _, (h2.dg (isD_tok rfl)).of_int, (rv.dg (isD_tok rfl)).of_int, p1 _ G1 H1 ⟨a1.sit, a1.gr, a1.rs.set (.inl (.int _)) hO⟩⟩
      | _ => exact p1.elim
    · exact p.elim
/-! ### return, if, an expression, pass -/
def sRet {d : Type} (f : Env → d → R (PD × d)) : Env → d → R (Fl × d) := fun ρ s => bnd (f ρ s) fun x s1 => .ok (.rt x, s1)
theorem ds_ret {e : Expr} {fe : Mx B PD} {pos : Pos} (he : DE X B O e fe) : DS X B O O' (.Return (some e) pos) (sRet fe) :=
  PS.imp (ps_ret he) fun D σ H h => by
    obtain ⟨G, ρ, s, a, p⟩ := h
    exact rdE.thenS a p fun v G1 H1 d s1 a1 g1 rv p1 => p1 v G1 H1 a1.gr a1.sit rv
def sIf {d : Type} (t : Env → d → R (Bool × d)) (f g : Env → d → R (Fl × d)) : Env → d → R (Fl × d) := fun ρ s => bnd (t ρ s) fun x s1 => if x = true then f ρ s1 else g ρ s1
theorem ds_if {c : Expr} {a b : List Stmt} {fc : Mx B Bool} {f g : Ms B} {pos : Pos} (hc : DT X B O c fc) (ha : DSs X B O O' a f) (hb : DSs X B O O' b g) : DS X B O O' (.If c a b pos) (sIf fc f g) :=
  PS.imp (ps_if hc ha hb) fun D σ H h => by
    obtain ⟨G, ρ, s, a, p⟩ := h
    refine rdT.thenS a p fun x G1 H1 s1 a1 g1 p1 => ?_
    cases x with
    | true => exact ⟨G1, ρ, s1, a1, p1⟩
    | false => exact ⟨G1, ρ, s1, a1, p1⟩
def sExpr {d : Type} (f : Env → d → R (PD × d)) : Env → d → R (Fl × d) := fun ρ s => bnd (f ρ s) fun _ s1 => .ok (.nx ρ, s1)
theorem ds_expr {e : Expr} {fe : Mx B PD} {pos : Pos} (he : DE X B O e fe) (hs : swapsWith e none pos.line X.env = pure false := by rfl) : DS X B O O (.Expr e pos) (sExpr fe) :=
  PS.imp (ps_expr he hs) fun D σ H h => by
    obtain ⟨G, ρ, s, a, p⟩ := h
    exact rdE.thenS a p fun v G1 H1 d s1 a1 g1 rv p1 => p1 σ G1 H1 a1
theorem ds_pass {pos : Pos} : DS X B O O (.Pass pos) sNil := PS.imp ps_pass fun D σ H h => by
  obtain ⟨G, ρ, s, a, p⟩ := h
  exact p σ G H a
theorem ds_cont {pos : Pos} : DS X B O O (.Continue pos) (fun ρ s => .ok (.ct ρ, s)) := PS.imp ps_continue fun D σ H h => by
  obtain ⟨G, ρ, s, a, p⟩ := h
  exact p σ G H a
/-- a statement that is never come to -/
def sBad {d : Type} : Env → d → R (Fl × d) := fun _ _ => .bad
theorem ds_bad {st : Stmt} : DS X B O O' st sBad := PS.imp ps_never fun D σ H h => by
  obtain ⟨G, ρ, s, a, p⟩ := h
  exact p
/-! ### raise -/
structure ExcC (X : Cx) (B : Bs) (c : Nat) (x : Str) : Prop where
  exc : PySem.W.excIn X.K (B.W.cls c) [.type "ValueError", .type "Exception", .type "BaseException", .type "object"] "ValueError.__new__" = true
  glob : X.mg x = some (.ref (B.W.cls c))
  keep : PySem.W.keepIn X.K (.ref (B.W.cls c)) = true
  rais : Raises X (.ref (B.W.cls c))
def sRaise {d : Type} (c : Nat) : Env → d → R (Fl × d) := fun _ _ => .exc c
theorem ds_raise {c : Nat} {x m : Str} {j : Nat} {p p2 p3 pos : Pos} (tk : Takes X (fun cls d _ H => B.E cls d H)) (C : ExcC X B c x) (hc : X.calm = true := by rfl) (hg : Gl X x := by rfl) (hdb : (x == ("__debug__" : Str)) = false := by decide) :
    DS X B O O' (.Raise (some (.Call (.Name x p) [.Constant (.str m) j p2] [] p3)) none pos) (sRaise c) :=
  PS.imp (ps_raise hc tk (pmk_own PySem.F.excBase_ValueError C.exc C.glob C.keep C.rais hg hdb)) fun D σ H h => by
    obtain ⟨G, ρ, s, a, q⟩ := h
    exact q G H a.gr

/-! ### for -/
/-- an iterator that yields these data -/
def ItOk (G : Hp) (J : It) (items : List PD) : Prop := ∀ (i : Nat) (G1 H1 : Hp), Sub G G1 → Sub G1 H1 →
  (i < items.length → J.go i H1) ∧ (items.length ≤ i → J.stop i H1) ∧
  ∀ x H2 d, items[i]? = some d → J.yld i H1 x H2 → ∃ G2, Gr (fun _ => False) G1 H1 G2 H2 ∧ Sub G2 H2 ∧ Dg G2 x d
def PostI (B : Bs) (G H : Hp) (r : R (List PD × B.W.d)) (R : It → Hp → Prop) : Prop :=
  match r with
  | .ok (items, s') => ∀ J G' H', Gr B.W.fp G H G' H' → Sit B.W G' H' s' → ItOk G' J items → R J H'
  | .exc c => ∀ G' H', Gr B.W.fp G H G' H' → B.E (.ref (B.W.cls c)) none H'
  | .bad => False
theorem PostI.mono {G H G1 H1 : Hp} {r : R (List PD × B.W.d)} {R : It → Hp → Prop} (g : Gr B.W.fp G H G1 H1) (h : PostI B G H r R) : PostI B G1 H1 r R := by
  cases r with
  | ok x => exact fun v G' H' g' S' R' => h v G' H' (g.trans g') S' R'
  | exc c => exact fun G' H' g' => h G' H' (g.trans g')
  | bad => exact h
def rdI (B : Bs) (O : List Nat) (f : Mx B (List PD)) : TI := fun σ H R => ∃ G ρ s, At B O σ H G ρ s ∧ PostI B G H (f ρ s) R
abbrev DI (X : Cx) (B : Bs) (O : List Nat) (tg e : Expr) (f : Mx B (List PD)) : Prop := PI X tg e (rdI B O f)
def sForGo {d : Type} (b : Bd) (body : Env → d → R (Fl × d)) : List PD → Env → d → R (Fl × d)
  | [], ρ, s => .ok (.nx ρ, s)
  | x :: xs, ρ, s => match b x ρ with
    | none => .bad
    | some ρ1 => match body ρ1 s with
      | .ok (.nx ρ2, s2) => sForGo b body xs ρ2 s2
      | .ok (.ct ρ2, s2) => sForGo b body xs ρ2 s2
      | .ok (.bk ρ2, s2) => .ok (.nx ρ2, s2)
      | .ok (.rt v, s2) => .ok (.rt v, s2)
      | .exc c => .exc c
      | .bad => .bad
def sFor {d : Type} (it : Env → d → R (List PD × d)) (b : Bd) (body : Env → d → R (Fl × d)) : Env → d → R (Fl × d) := fun ρ s => bnd (it ρ s) fun xs s1 => sForGo b body xs ρ s1
/-- the ghost heap's ground raised -/
abbrev Bs.up (B : Bs) (g : Hp) : Bs := { B with G0 := g }
theorem Gr.back {fp : Addr → Prop} {G0 H0 G1 H1 G2 H2 : Hp} (a : Gr fp G0 H0 G1 H1) (b : Gr fp G1 H0 G2 H2) : Gr fp G0 H0 G2 H2 :=
  ⟨fun x o h => b.g x o (a.g x o h), b.h, b.dom, fun x o h => by
    rcases b.new x o h with z | z
    · exact a.new x o z
    · exact .inr z⟩
theorem At.up {σ : St} {H G : Hp} {ρ : Env} {s : B.W.d} (a : At B O σ H G ρ s) : At (B.up G) O σ H G ρ s := ⟨a.sit, ⟨fun _ _ h => h, a.gr.h, a.gr.dom, fun _ _ h => .inl h⟩, a.rs⟩
theorem At.down {σ : St} {H G G1 H1 : Hp} {ρ : Env} {s : B.W.d} (g : Gr B.W.fp B.G0 B.H0 G1 H1) (a : At (B.up G1) O σ H G ρ s) : At B O σ H G ρ s := ⟨a.sit, g.back a.gr, a.rs⟩
theorem ds_for {tg iter : Expr} {body : List Stmt} {fi : Mx B (List PD)} {b : Bd} {sl : List Nat} {f : Ms B} {pos : Pos} (hp : PassesOwn (model X.prog X.w) X.A X.env X.xe) (hi : DI X B O tg iter fi) (hg : DG X B O tg b sl) (hb : ∀ g : Hp, DSs X (B.up g) O O body f) (hc : X.calm = true := by rfl)
    (hs : ∀ x, foldedSetIterable iter X.env x = pure x := by intro _; rfl) : DS X B O O (.For tg iter body [] pos) (sFor fi b f) := by
  have hb' : PSs X body (fun D σ H => ∃ g, rdS (B.up g) O O f D σ H) := ⟨fun pins s σ H D I h => by
    obtain ⟨g, h⟩ := h
    exact (hb g).run pins s σ H D I h⟩
  refine PS.imp (ps_for hp hc hi hg hb' hs) fun D σ H h => ?_
  obtain ⟨G, ρ, s, a, p⟩ := h
  refine ⟨G, ρ, s, a, ?_⟩
  unfold sFor at p
  cases e : fi ρ s with
  | exc c => rw [e] at p; exact fun G' H' g => p G' H' (a.gr.trans g)
  | bad => rw [e] at p; exact p.elim
  | ok x =>
    obtain ⟨items, s1⟩ := x
    rw [e] at p
    intro J G1 H1 g1 S1 ok
    have a1 := a.step g1 S1
    refine ⟨fun i m σ H => i + m = items.length ∧ ∃ G ρ s, At (B.up G1) O σ H G ρ s ∧ PostS B O D (sForGo b f (items.drop i) ρ s), ⟨items.length, by omega, G1, ρ, s1, a1.up, p⟩, fun i m σ H hW => ?_⟩
    obtain ⟨em, G, ρ, s, a, p⟩ := hW
    by_cases hl : i < items.length
    · obtain ⟨go, _, yl⟩ := ok i G H a.gr.g a.sit.sub
      refine .inr ⟨go hl, fun σ' H' => ∃ G ρ s, At (B.up G1) O σ' H' G ρ s ∧ PostS B O D (sForGo b f (items.drop (i + 1)) ρ s), fun σ' H' hN => ?_, fun x H' hy => ?_⟩
      · obtain ⟨G', ρ', s', q2, q3⟩ := hN
        exact ⟨m - 1, by omega, by omega, G', ρ', s', q2, q3⟩
      · obtain ⟨G2, g2, sb2, dx⟩ := yl x H' items[i] (List.getElem?_eq_getElem hl) hy
        have a2 := a.step (g2.weak fun _ z => z.elim) (a.sit.pure g2 sb2)
        rw [List.drop_eq_getElem_cons hl] at p
        unfold sForGo at p
        cases eb : b items[i] ρ with
        | none => rw [eb] at p; exact p.elim
        | some ρ1 =>
          rw [eb] at p
          dsimp only at p
          refine ⟨G2, ρ, items[i], ρ1, sb2, a2.rs, .inl dx, eb, fun σ' rs' _ => ⟨G1, G2, ρ1, s, ⟨a2.sit, a2.gr, rs'⟩, ?_⟩⟩
          cases ef : f ρ1 s with
          | bad => rw [ef] at p; exact p.elim
          | exc c => rw [ef] at p; exact fun G' H' g => p G' H' (a1.gr.back g)
          | ok y =>
            obtain ⟨fl, s2⟩ := y
            rw [ef] at p
            cases fl with
            | nx ρ2 => exact fun σ'' G'' H'' a'' => ⟨G'', ρ2, s2, a'', p⟩
            | ct ρ2 => exact fun σ'' G'' H'' a'' => ⟨G'', ρ2, s2, a'', p⟩
            | bk ρ2 => exact fun σ'' G'' H'' a'' => p σ'' G'' H'' (At.down a1.gr a'')
            | rt v => exact fun w G'' H'' g'' S'' r'' => p w G'' H'' (a1.gr.back g'') S'' r''
    · have hge : items.length ≤ i := by omega
      obtain ⟨_, st, _⟩ := ok i G H a.gr.g a.sit.sub
      refine .inl ⟨st hge, ?_⟩
      rw [List.drop_eq_nil_of_le hge] at p
      exact p σ G H (At.down a1.gr a)

/-! ### while -/
def sWhGo {d : Type} (t : Env → d → R (Bool × d)) (body : Env → d → R (Fl × d)) : Nat → Env → d → R (Fl × d)
  | 0, _, _ => .bad
  | n + 1, ρ, s => bnd (t ρ s) fun x s1 => if x = true then
      match body ρ s1 with
      | .ok (.nx ρ2, s2) => sWhGo t body n ρ2 s2
      | .ok (.ct ρ2, s2) => sWhGo t body n ρ2 s2
      | .ok (.bk ρ2, s2) => .ok (.nx ρ2, s2)
      | .ok (.rt v, s2) => .ok (.rt v, s2)
      | .exc c => .exc c
      | .bad => .bad
    else .ok (.nx ρ, s1)
def sWhile {d : Type} (n : Env → Nat) (t : Env → d → R (Bool × d)) (body : Env → d → R (Fl × d)) : Env → d → R (Fl × d) := fun ρ s => sWhGo t body (n ρ) ρ s
theorem ds_while {c : Expr} {body : List Stmt} {n : Env → Nat} {fc : Mx B Bool} {f : Ms B} {pos : Pos} (hp : PassesOwn (model X.prog X.w) X.A X.env X.xe) (hc : DT X B O c fc) (hb : DSs X B O O body f) : DS X B O O (.While c body [] pos) (sWhile n fc f) := by
  refine PS.imp (ps_while hp hc hb) fun D σ H h => ?_
  obtain ⟨G, ρ, s, a, p⟩ := h
  refine ⟨fun m σ H => ∃ G ρ s, At B O σ H G ρ s ∧ PostS B O D (sWhGo fc f m ρ s), ⟨n ρ, G, ρ, s, a, p⟩, fun m σ H hW => ?_⟩
  obtain ⟨G, ρ, s, a, p⟩ := hW
  cases m with
  | zero => exact p.elim
  | succ m =>
    unfold sWhGo at p
    refine rdT.thenS a p fun x G1 H1 s1 a1 g1 p1 => ?_
    cases x with
    | false => exact p1 σ G1 H1 a1
    | true =>
      refine ⟨fun σ' H' => ∃ G ρ s, At B O σ' H' G ρ s ∧ PostS B O D (sWhGo fc f m ρ s), fun σ' H' hN => ⟨m, Nat.lt_succ_self m, hN⟩, G1, ρ, s1, a1, ?_⟩
      rw [if_pos rfl] at p1
      cases ef : f ρ s1 with
      | bad => rw [ef] at p1; exact p1.elim
      | exc c => rw [ef] at p1; exact p1
      | ok y =>
        obtain ⟨fl, s2⟩ := y
        rw [ef] at p1
        cases fl with
        | nx ρ2 => exact fun σ'' G'' H'' a'' => ⟨G'', ρ2, s2, a'', p1⟩
        | ct ρ2 => exact fun σ'' G'' H'' a'' => ⟨G'', ρ2, s2, a'', p1⟩
        | bk ρ2 => exact fun σ'' G'' H'' a'' => p1 σ'' G'' H'' a''
        | rt v => exact p1
end
end DL

/-! DL7: what is walked; comprehensions -/
namespace DL
open PySem PySem.Spec PyProof.Rows L2
section
variable {X : Cx} {B : Bs} {O O' : List Nat} {tg : Expr}
theorem rdE.thenI {f : Mx B PD} {σ : St} {H : Hp} {Q : VK} {R' : It → Hp → Prop} {G : Hp} {ρ : Env} {s : B.W.d} {k : PD → B.W.d → R (List PD × B.W.d)}
    (a : At B O σ H G ρ s) (p : PostI B G H (bnd (f ρ s) k) R') (h : ∀ v G1 H1 d s1, At B O σ H1 G1 ρ s1 → Gr B.W.fp G H G1 H1 → Rp B.W.tk G1 v d → PostI B G1 H1 (k d s1) R' → Q v H1) : rdE B O f σ H Q :=
  rdE.fst a (fun G H r => PostI B G H r R') (fun g p => p.mono g) (fun p => p) (fun p => p) p h
theorem rdA.thenI {f : Mx B (List PD)} {σ : St} {H : Hp} {Q : List V → Hp → Prop} {R' : It → Hp → Prop} {G : Hp} {ρ : Env} {s : B.W.d} {k : List PD → B.W.d → R (List PD × B.W.d)}
    (a : At B O σ H G ρ s) (p : PostI B G H (bnd (f ρ s) k) R') (h : ∀ vs G1 H1 ds s1, At B O σ H1 G1 ρ s1 → Gr B.W.fp G H G1 H1 → RpAll B.W.tk G1 vs ds → PostI B G1 H1 (k ds s1) R' → Q vs H1) : rdA B O f σ H Q :=
  rdA.fst a (fun G H r => PostI B G H r R') (fun g p => p.mono g) (fun p => p) (fun p => p) p h
theorem sq_inj {K : PySem.W.Frag} {H : Hp} {a : Addr} {xs ys : List V} (h : H a = some (.lst xs)) (hy : Rd H a (.lst ys)) : ys = xs := by
  rcases hy with z | ⟨o, z⟩
  · rw [h] at z; cases z; rfl
  · rw [h] at z; cases z
/-- a list walked -/
def iLst {d : Type} (f : Env → d → R (PD × d)) : Env → d → R (List PD × d) := fun ρ s => bnd (f ρ s) fun x s1 => match x with
  | .list xs => .ok (xs, s1)
  | _ => .bad
def iTp {d : Type} (f : Env → d → R (PD × d)) : Env → d → R (List PD × d) := fun ρ s => bnd (f ρ s) fun x s1 => match x with
  | .tuple xs => .ok (xs, s1)
  | _ => .bad
theorem it_list {K : PySem.W.Frag} {G : Hp} {a : Addr} {xs : List V} {ds : List PD} (ga : G a = some (.lst xs)) (da : DgAll G xs ds) : ItOk G (Itl K a) ds := fun i G1 H1 s1 s2 => by
  have h1 : H1 a = some (.lst xs) := s2 _ _ (s1 _ _ ga)
  refine ⟨fun hl => ?_, fun hl => ⟨xs, SqL.of h1, by rw [da.len]; exact hl⟩, fun x H2 d e hy => ?_⟩
  · obtain ⟨v, e1, _⟩ := da.get (List.getElem?_eq_getElem hl)
    exact ⟨xs, v, SqL.of h1, e1⟩
  · obtain ⟨rfl, q⟩ := hy
    obtain ⟨v, e1, r⟩ := da.get e
    have e2 := q xs (SqL.of h1)
    rw [e1] at e2; cases e2
    exact ⟨G1, .refl, s2, r.mono s1⟩
theorem it_tup {K : PySem.W.Frag} {G : Hp} {a : Addr} {xs : List V} {ds : List PD} (ga : G a = some (.tup xs)) (da : DgAll G xs ds) : ItOk G (Itt K a) ds := fun i G1 H1 s1 s2 => by
  have h1 : H1 a = some (.tup xs) := s2 _ _ (s1 _ _ ga)
  refine ⟨fun hl => ?_, fun hl => ⟨xs, SqT.of h1, by rw [da.len]; exact hl⟩, fun x H2 d e hy => ?_⟩
  · obtain ⟨v, e1, _⟩ := da.get (List.getElem?_eq_getElem hl)
    exact ⟨xs, v, SqT.of h1, e1⟩
  · obtain ⟨rfl, q⟩ := hy
    obtain ⟨v, e1, r⟩ := da.get e
    have e2 := q xs (SqT.of h1)
    rw [e1] at e2; cases e2
    exact ⟨G1, .refl, s2, r.mono s1⟩
theorem di_list {e : Expr} {f : Mx B PD} (he : DE X B O e f) : DI X B O tg e (iLst f) := PI.imp (pi_list he) fun σ H R h => by
  obtain ⟨G, ρ, s, a, p⟩ := h
  refine rdE.thenI a p fun v G1 H1 d s1 a1 g1 rv p1 => ?_
  cases d with
  | list ds =>
    obtain ⟨l, vs, rfl, gl, dl⟩ := (rv.dg (isD_tok rfl)).of_lst
    exact ⟨l, rfl, ⟨vs, SqL.of (a1.sit.sub _ _ gl)⟩, p1 _ G1 H1 .refl a1.sit (it_list gl dl)⟩
  | _ => exact p1.elim
theorem di_tup {e : Expr} {f : Mx B PD} (he : DE X B O e f) : DI X B O tg e (iTp f) := PI.imp (pi_tup he) fun σ H R h => by
  obtain ⟨G, ρ, s, a, p⟩ := h
  refine rdE.thenI a p fun v G1 H1 d s1 a1 g1 rv p1 => ?_
  cases d with
  | tuple ds =>
    obtain ⟨l, vs, rfl, gl, dl⟩ := (rv.dg (isD_tok rfl)).of_tup
    exact ⟨l, rfl, ⟨vs, SqT.of (a1.sit.sub _ _ gl)⟩, p1 _ G1 H1 .refl a1.sit (it_tup gl dl)⟩
  | _ => exact p1.elim
/-- range -/
def rngL (lo c : Int) (n : Nat) : List PD := (List.range n).map fun (i : Nat) => PyData.int (lo + (i : Int) * c)
theorem it_rng {G : Hp} {lo : Int} {n : Nat} : ItOk G (Itr lo n) (rngL lo 1 n) := fun i G1 H1 s1 s2 => by
  have hl : (rngL lo 1 n).length = n := by simp [rngL]
  rw [hl]
  refine ⟨fun h => h, fun h => h, fun x H2 d e hy => ?_⟩
  obtain ⟨rfl, rfl⟩ := hy
  have hi : i < n := by
    have := (List.getElem?_eq_some_iff.mp e).1
    rwa [hl] at this
  have e2 : d = .int (lo + i) := by
    unfold rngL at e
    rw [List.getElem?_map, List.getElem?_range hi, Option.map_some, Option.some.injEq, Int.mul_one] at e
    exact e.symm
  subst e2
  exact ⟨G1, .refl, s2, .int _⟩
theorem it_rngC {G : Hp} {lo c : Int} {n : Nat} : ItOk G (Itc lo c n) (rngL lo c n) := fun i G1 H1 s1 s2 => by
  have hl : (rngL lo c n).length = n := by simp [rngL]
  rw [hl]
  refine ⟨fun h => h, fun h => h, fun x H2 d e hy => ?_⟩
  obtain ⟨rfl, rfl⟩ := hy
  have hi : i < n := by
    have := (List.getElem?_eq_some_iff.mp e).1
    rwa [hl] at this
  have e2 : d = .int (lo + i * c) := by
    unfold rngL at e
    rw [List.getElem?_map, List.getElem?_range hi, Option.map_some, Option.some.injEq] at e
    exact e.symm
  subst e2
  exact ⟨G1, .refl, s2, .int _⟩
def in62 (i : Int) : Bool := decide (-(2 ^ 62) ≤ i) && decide (i < 2 ^ 62)
def iRg1 {d : Type} (f : Env → d → R (List PD × d)) : Env → d → R (List PD × d) := fun ρ s => bnd (f ρ s) fun xs s1 => match xs with
  | [.int j] => if in62 j then .ok (rngL 0 1 j.toNat, s1) else .bad
  | _ => .bad
def iRg2 {d : Type} (f : Env → d → R (List PD × d)) : Env → d → R (List PD × d) := fun ρ s => bnd (f ρ s) fun xs s1 => match xs with
  | [.int i, .int j] => if in62 i && in62 j then .ok (rngL i 1 (j - i).toNat, s1) else .bad
  | _ => .bad
def iRg3 {d : Type} (f : Env → d → R (List PD × d)) : Env → d → R (List PD × d) := fun ρ s => bnd (f ρ s) fun xs s1 => match xs with
  | [.int i, .int j, .int c] => if in62 i && in62 j && decide (c = -1) then .ok (rngL i (-1) (i - j).toNat, s1) else .bad
  | _ => .bad
theorem in62_of {i : Int} (h : in62 i = true) : -(2 ^ 62) ≤ i ∧ i < 2 ^ 62 := by
  unfold in62 at h
  rw [Bool.and_eq_true, decide_eq_true_eq, decide_eq_true_eq] at h
  exact h
theorem di_range1 {a : Expr} {fa : Mx B (List PD)} {p pos : Pos} (hm : X.mg "range" = none) (ha : DA X B O [a] fa) (hg : Gl X "range" := by rfl) (hs : starEach [a] X.env = [(false, eval a X.env)] := by rfl) : DI X B O tg (.Call (.Name "range" p) [a] [] pos) (iRg1 fa) := PI.imp (pi_range1 hg hm ha hs) fun σ H R h => by
  obtain ⟨G, ρ, s, a, p⟩ := h
  refine rdA.thenI a p fun vs G1 H1 ds s1 a1 g1 rv p1 => ?_
  split at p1
  · rename_i j
    split at p1
    · rename_i hj
      have q := in62_of hj
      cases rv with
      | cons r1 r2 =>
        cases r2
        exact ⟨j, by rw [(r1.dg (isD_tok rfl)).of_int], q.1, q.2, p1 _ G1 H1 .refl a1.sit it_rng⟩
    · exact p1.elim
  · exact p1.elim
theorem di_range2 {a b : Expr} {fa : Mx B (List PD)} {p pos : Pos} (hm : X.mg "range" = none) (ha : DA X B O [a, b] fa) (hg : Gl X "range" := by rfl) (hs : starEach [a, b] X.env = [(false, eval a X.env), (false, eval b X.env)] := by rfl) (hs2 : starEach [b] X.env = [(false, eval b X.env)] := by rfl) : DI X B O tg (.Call (.Name "range" p) [a, b] [] pos) (iRg2 fa) := PI.imp (pi_range2 hg hm ha hs hs2) fun σ H R h => by
  obtain ⟨G, ρ, s, a, p⟩ := h
  refine rdA.thenI a p fun vs G1 H1 ds s1 a1 g1 rv p1 => ?_
  split at p1
  · rename_i i j
    split at p1
    · rename_i hj
      rw [Bool.and_eq_true] at hj
      cases rv with
      | cons r1 r2 =>
        cases r2 with
        | cons r2 r3 =>
          cases r3
          exact ⟨i, j, by rw [(r1.dg (isD_tok rfl)).of_int, (r2.dg (isD_tok rfl)).of_int], ⟨(in62_of hj.1).1, (in62_of hj.1).2, (in62_of hj.2).1, (in62_of hj.2).2⟩, p1 _ G1 H1 .refl a1.sit it_rng⟩
    · exact p1.elim
  · exact p1.elim
theorem di_range3 {a b c : Expr} {fa : Mx B (List PD)} {p pos : Pos} (hm : X.mg "range" = none) (ha : DA X B O [a, b, c] fa) (hg : Gl X "range" := by rfl) (hs : starEach [a, b, c] X.env = (false, eval a X.env) :: starEach [b, c] X.env := by rfl) (hpl : (backTo pos (starEach [b, c] X.env)).any (·.1) = false := by rfl) : DI X B O tg (.Call (.Name "range" p) [a, b, c] [] pos) (iRg3 fa) := PI.imp (pi_range3 hg hm ha hs hpl) fun σ H R h => by
  obtain ⟨G, ρ, s, a, p⟩ := h
  refine rdA.thenI a p fun vs G1 H1 ds s1 a1 g1 rv p1 => ?_
  split at p1
  · rename_i i j c
    split at p1
    · rename_i hj
      rw [Bool.and_eq_true, Bool.and_eq_true, decide_eq_true_eq] at hj
      obtain ⟨⟨h1, h2⟩, rfl⟩ := hj
      cases rv with
      | cons r1 r2 =>
        cases r2 with
        | cons r2 r3 =>
          cases r3 with
          | cons r3 r4 =>
            cases r4
            exact ⟨i, j, -1, (i - j).toNat, by rw [(r1.dg (isD_tok rfl)).of_int, (r2.dg (isD_tok rfl)).of_int, (r3.dg (isD_tok rfl)).of_int], RgC.neg (in62_of h1).1 (in62_of h1).2 (in62_of h2).1 (in62_of h2).2, p1 _ G1 H1 .refl a1.sit it_rngC⟩
    · exact p1.elim
  · exact p1.elim
/-- zip, enumerate of lists -/
def zipD : List PD → List PD → List PD
  | x :: xs, y :: ys => .tuple [x, y] :: zipD xs ys
  | _, _ => []
theorem zipD_len : ∀ (xs ys : List PD), (zipD xs ys).length = min xs.length ys.length
  | [], _ => by simp [zipD]
  | _ :: _, [] => by simp [zipD]
  | x :: xs, y :: ys => by simp [zipD, zipD_len xs ys]
theorem zipD_get : ∀ (xs ys : List PD) (i : Nat) (d : PD), (zipD xs ys)[i]? = some d → ∃ x y, xs[i]? = some x ∧ ys[i]? = some y ∧ d = .tuple [x, y]
  | [], _, _, _, h => by simp [zipD] at h
  | _ :: _, [], _, _, h => by simp [zipD] at h
  | x :: xs, y :: ys, 0, d, h => by simp [zipD] at h; exact ⟨x, y, rfl, rfl, h.symm⟩
  | x :: xs, y :: ys, i + 1, d, h => by
    simp only [zipD, List.getElem?_cons_succ] at h
    obtain ⟨a, b, h1, h2, h3⟩ := zipD_get xs ys i d h
    exact ⟨a, b, by simpa using h1, by simpa using h2, h3⟩
theorem it_zip {K : PySem.W.Frag} {G : Hp} {a b : Addr} {xs ys : List V} {ds es : List PD} (ga : G a = some (.lst xs)) (da : DgAll G xs ds) (gb : G b = some (.lst ys)) (db : DgAll G ys es) : ItOk G (Itz K a b) (zipD ds es) := fun i G1 H1 s1 s2 => by
  have h1 : H1 a = some (.lst xs) := s2 _ _ (s1 _ _ ga)
  have h2 : H1 b = some (.lst ys) := s2 _ _ (s1 _ _ gb)
  have hl := zipD_len ds es
  refine ⟨fun h => ?_, fun h => ⟨xs, ys, SqL.of h1, SqL.of h2, ?_⟩, fun x H2 d e hy => ?_⟩
  · obtain ⟨v, e1, _⟩ := da.get (List.getElem?_eq_getElem (show i < ds.length by omega))
    obtain ⟨w, e2, _⟩ := db.get (List.getElem?_eq_getElem (show i < es.length by omega))
    exact ⟨xs, ys, v, w, SqL.of h1, SqL.of h2, e1, e2⟩
  · rw [da.len, db.len]; omega
  · obtain ⟨T, v, w, rfl, nT, rfl, q1, q2⟩ := hy
    obtain ⟨x, y, e1, e2, rfl⟩ := zipD_get ds es i d e
    obtain ⟨v', f1, r1⟩ := da.get e1
    obtain ⟨w', f2, r2⟩ := db.get e2
    have z1 := q1 xs (SqL.of h1)
    have z2 := q2 ys (SqL.of h2)
    rw [f1, Option.some.injEq] at z1
    rw [f2, Option.some.injEq] at z2
    subst z1 z2
    have g := Gr.alloc (fp := fun _ => False) (o := .tup [v', w']) s2 nT
    exact ⟨upd G1 T (.tup [v', w']), g, subA s2 nT, .tup upd_same (.cons ((r1.mono s1).mono g.g) (.cons ((r2.mono s1).mono g.g) .nil))⟩
def iZp {d : Type} (f : Env → d → R (List PD × d)) : Env → d → R (List PD × d) := fun ρ s => bnd (f ρ s) fun xs s1 => match xs with
  | [.list a, .list b] => .ok (zipD a b, s1)
  | _ => .bad
theorem di_zip {elts : List Expr} {kk : Nat} {tpos : Pos} {e e2 : Expr} {fa : Mx B (List PD)} {p pos : Pos} (hm : X.mg "zip" = none) (ha : DA X B O [e, e2] fa) (hg : Gl X "zip" := by rfl) (hs : starEach [e, e2] X.env = (false, eval e X.env) :: starEach [e2] X.env := by rfl) (hpl : (backTo pos (starEach [e2] X.env)).any (·.1) = false := by rfl) :
    DI X B O (.Tuple elts kk tpos) (.Call (.Name "zip" p) [e, e2] [] pos) (iZp fa) := PI.imp (pi_zip hg hm ha hs hpl) fun σ H R h => by
  obtain ⟨G, ρ, s, a, p⟩ := h
  refine rdA.thenI a p fun vs G1 H1 ds s1 a1 g1 rv p1 => ?_
  split at p1
  · rename_i xs ys
    cases rv with
    | cons r1 r2 =>
      cases r2 with
      | cons r2 r3 =>
        cases r3
        obtain ⟨l, us, rfl, gl, dl⟩ := (r1.dg (isD_tok rfl)).of_lst
        obtain ⟨m, ws, rfl, gm, dm⟩ := (r2.dg (isD_tok rfl)).of_lst
        exact ⟨l, m, us, ws, rfl, SqL.of (a1.sit.sub _ _ gl), SqL.of (a1.sit.sub _ _ gm), p1 _ G1 H1 .refl a1.sit (it_zip gl dl gm dm)⟩
  · exact p1.elim
def enumD : Nat → List PD → List PD
  | _, [] => []
  | n, x :: xs => .tuple [.int n, x] :: enumD (n + 1) xs
theorem enumD_len : ∀ (n : Nat) (xs : List PD), (enumD n xs).length = xs.length
  | _, [] => rfl
  | n, x :: xs => by simp [enumD, enumD_len (n + 1) xs]
theorem enumD_get : ∀ (n : Nat) (xs : List PD) (i : Nat) (d : PD), (enumD n xs)[i]? = some d → ∃ x, xs[i]? = some x ∧ d = .tuple [.int ((n + i : Nat) : Int), x]
  | _, [], _, _, h => by simp [enumD] at h
  | n, x :: xs, 0, d, h => by simp [enumD] at h; exact ⟨x, rfl, h.symm⟩
  | n, x :: xs, i + 1, d, h => by
    simp only [enumD, List.getElem?_cons_succ] at h
    obtain ⟨a, h1, h3⟩ := enumD_get (n + 1) xs i d h
    exact ⟨a, by simpa using h1, by rw [h3]; congr 3; omega⟩
theorem it_enum {K : PySem.W.Frag} {G : Hp} {a : Addr} {xs : List V} {ds : List PD} (ga : G a = some (.lst xs)) (da : DgAll G xs ds) : ItOk G (Ite K a) (enumD 0 ds) := fun i G1 H1 s1 s2 => by
  have h1 : H1 a = some (.lst xs) := s2 _ _ (s1 _ _ ga)
  have hl := enumD_len 0 ds
  refine ⟨fun h => ?_, fun h => ⟨xs, SqL.of h1, by rw [da.len]; omega⟩, fun x H2 d e hy => ?_⟩
  · obtain ⟨v, e1, _⟩ := da.get (List.getElem?_eq_getElem (show i < ds.length by omega))
    exact ⟨xs, v, SqL.of h1, e1⟩
  · obtain ⟨T, v, rfl, nT, rfl, q1⟩ := hy
    obtain ⟨x, e1, rfl⟩ := enumD_get 0 ds i d e
    obtain ⟨v', f1, r1⟩ := da.get e1
    have z1 := q1 xs (SqL.of h1)
    rw [f1, Option.some.injEq] at z1
    subst z1
    have g := Gr.alloc (fp := fun _ => False) (o := .tup [.int (i : Nat), v']) s2 nT
    refine ⟨upd G1 T (.tup [.int (i : Nat), v']), g, subA s2 nT, .tup upd_same (.cons ?_ (.cons ((r1.mono s1).mono g.g) .nil))⟩
    rw [Nat.zero_add]
    exact .int _
def iEn {d : Type} (f : Env → d → R (PD × d)) : Env → d → R (List PD × d) := fun ρ s => bnd (f ρ s) fun x s1 => match x with
  | .list xs => .ok (enumD 0 xs, s1)
  | _ => .bad
theorem di_enum {elts : List Expr} {kk : Nat} {tpos : Pos} {e : Expr} {f : Mx B PD} {p pos : Pos} (hm : X.mg "enumerate" = none) (he : DE X B O e f) (hg : Gl X "enumerate" := by rfl) (hs : starEach [e] X.env = [(false, eval e X.env)] := by rfl) :
    DI X B O (.Tuple elts kk tpos) (.Call (.Name "enumerate" p) [e] [] pos) (iEn f) := PI.imp (pi_enum hg hm (pa_cons he pa_nil hs) hs) fun σ H R h => by
  obtain ⟨G, ρ, s, a, p⟩ := h
  refine rdE.thenI a p fun v G1 H1 d s1 a1 g1 rv p1 => ?_
  cases d with
  | list ds =>
    obtain ⟨l, vs, rfl, gl, dl⟩ := (rv.dg (isD_tok rfl)).of_lst
    exact ⟨l, vs, rfl, SqL.of (a1.sit.sub _ _ gl), p1 _ G1 H1 .refl a1.sit (it_enum gl dl)⟩
  | _ => exact p1.elim
/-- the signs of a text -/
def iSt {d : Type} (f : Env → d → R (PD × d)) : Env → d → R (List PD × d) := fun ρ s => bnd (f ρ s) fun x s1 => match x with
  | .str z => .ok (z.cps.toList.map fun c => .str ⟨#[c]⟩, s1)
  | _ => .bad
theorem it_str {G : Hp} {z : Str} : ItOk G (Its z) (z.cps.toList.map fun c => PyData.str ⟨#[c]⟩) := fun i G1 H1 s1 s2 => by
  have hl : (z.cps.toList.map fun c => PyData.str ⟨#[c]⟩).length = z.cps.size := by simp
  rw [hl]
  refine ⟨fun h => h, fun h => h, fun x H2 d e hy => ?_⟩
  obtain ⟨rfl, c, e1, rfl⟩ := hy
  rw [List.getElem?_map, Array.getElem?_toList, e1, Option.map_some, Option.some.injEq] at e
  subst e
  exact ⟨G1, .refl, s2, .str _⟩
theorem di_str {e : Expr} {f : Mx B PD} (he : DE X B O e f) : DI X B O tg e (iSt f) := PI.imp (pi_str he) fun σ H R h => by
  obtain ⟨G, ρ, s, a, p⟩ := h
  refine rdE.thenI a p fun v G1 H1 d s1 a1 g1 rv p1 => ?_
  cases d with
  | str z => exact ⟨z, (rv.dg (isD_tok rfl)).of_str, p1 _ G1 H1 .refl a1.sit it_str⟩
  | _ => exact p1.elim

/-! ### comprehensions -/
def wipeD (ρ : Env) : List Nat → Env
  | [] => ρ
  | v :: vs => (wipeD ρ vs).set v none
theorem wipeD_get {ρ : Env} {i : Nat} {d : PD} : ∀ {vs : List Nat}, (wipeD ρ vs)[i]? = some (some d) → ρ[i]? = some (some d) ∧ i ∉ vs
  | [], h => ⟨h, by simp⟩
  | v :: vs, h => by
    unfold wipeD at h
    by_cases z : v = i
    · subst z
      by_cases hl : v < (wipeD ρ vs).length
      · rw [List.getElem?_set_self hl] at h; cases h
      · rw [List.getElem?_eq_none (by rw [List.length_set]; omega)] at h; cases h
    · rw [List.getElem?_set_ne z] at h
      obtain ⟨h1, h2⟩ := wipeD_get h
      exact ⟨h1, by simp [h2, Ne.symm z]⟩
theorem wipeD_len (ρ : Env) : ∀ vs : List Nat, (wipeD ρ vs).length = ρ.length
  | [] => rfl
  | v :: vs => by unfold wipeD; rw [List.length_set, wipeD_len ρ vs]
theorem RS.wipe {W : Wd} {G H H0 : Hp} {σ : St} {ρ : Env} (r : RS W G H H0 O σ ρ) (vs : List Nat) : RS W G H H0 O (wipe σ vs) (wipeD ρ vs) := by
  have out : ∀ {i : Nat}, i ∉ vs → (L2.wipe σ vs)[i]? = σ[i]? := fun h => wipe_out h
  refine ⟨by rw [wipe_length, wipeD_len]; exact r.len, fun i d e n => ?_, fun i d e m => ?_, fun i j p d e m1 m2 h1 h2 h3 h4 => ?_⟩
  · obtain ⟨h1, h2⟩ := wipeD_get e
    rw [out h2]
    exact r.plain i d h1 n
  · obtain ⟨h1, h2⟩ := wipeD_get e
    rw [out h2]
    exact r.own i d h1 m
  · obtain ⟨q1, q2⟩ := wipeD_get h1
    obtain ⟨q3, q4⟩ := wipeD_get h2
    rw [out q2] at h3
    rw [out q4] at h4
    exact r.apart i j p d e m1 m2 q1 q3 h3 h4
def noX {a : Type} (r : R a) : R a := match r with
  | .ok x => .ok x
  | _ => .bad
@[simp] theorem noX_ok {a : Type} (x : a) : noX (.ok x) = .ok x := rfl
def compGo {d : Type} (b : Bd) (own : List Nat) (t : Env → d → R (Bool × d)) (f : Env → d → R (PD × d)) (ρ : Env) : List PD → d → R (List PD × d)
  | [], s => .ok ([], s)
  | x :: xs, s => match b x (wipeD ρ own) with
    | none => .bad
    | some ρ1 => bnd (noX (t ρ1 s)) fun c s1 => if c = true then bnd (noX (f ρ1 s1)) fun y s2 => if isD y then bnd (compGo b own t f ρ xs s2) fun ys s3 => .ok (y :: ys, s3) else .bad
      else compGo b own t f ρ xs s1
def cComp {d : Type} (it : Env → d → R (List PD × d)) (b : Bd) (own : List Nat) (t : Env → d → R (Bool × d)) (f : Env → d → R (PD × d)) : Env → d → R (PD × d) := fun ρ s =>
  bnd (it ρ s) fun xs s1 => if xs.length ≤ 100000 then bnd (compGo b own t f ρ xs s1) fun ys s2 => .ok (.list ys, s2) else .bad
def tYesD {d : Type} : Env → d → R (Bool × d) := fun _ s => .ok (true, s)
abbrev Bs.blk (B : Bs) : Bs := { B with E := E0 }
abbrev DTs (X : Cx) (B : Bs) (O : List Nat) (es : List Expr) (f : Mx B Bool) : Prop := PTs X es (rdT B O f)
theorem dts_nil : DTs X B O [] tYesD := ⟨fun pins s σ H Q I h => by
  obtain ⟨G, ρ, s, a, p⟩ := h
  exact pts_nil.run pins _ σ H Q I (p.done a.sit)⟩
theorem dts_one {e : Expr} {f : Mx B Bool} (h : DT X B O e f) : DTs X B O [e] f := pts_one h
theorem compGo_len {d : Type} {b : Bd} {own : List Nat} {t : Env → d → R (Bool × d)} {f : Env → d → R (PD × d)} {ρ : Env} : ∀ (xs : List PD) (s : d) (ys : List PD) (s' : d), compGo b own t f ρ xs s = .ok (ys, s') → ys.length ≤ xs.length
  | [], s, ys, s', h => by cases h; simp
  | x :: xs, s, ys, s', h => by
    unfold compGo at h
    cases eb : b x (wipeD ρ own) with
    | none => rw [eb] at h; cases h
    | some ρ1 =>
      rw [eb] at h
      dsimp only at h
      cases et : t ρ1 s with
      | exc c => rw [et] at h; cases h
      | bad => rw [et] at h; cases h
      | ok y =>
        obtain ⟨c, s1⟩ := y
        rw [et, noX_ok, bnd_ok] at h
        cases c with
        | false =>
          have := compGo_len xs s1 ys s' h
          rw [List.length_cons]; omega
        | true =>
          rw [if_pos rfl] at h
          cases ef : f ρ1 s1 with
          | exc c => rw [ef] at h; cases h
          | bad => rw [ef] at h; cases h
          | ok z =>
            obtain ⟨w, s2⟩ := z
            rw [ef, noX_ok, bnd_ok] at h
            split at h
            · cases eg : compGo b own t f ρ xs s2 with
              | exc c => rw [eg] at h; cases h
              | bad => rw [eg] at h; cases h
              | ok z =>
                obtain ⟨zs, s3⟩ := z
                rw [eg] at h
                cases h
                have := compGo_len xs s2 zs _ eg
                simp only [List.length_cons]; omega
            · cases h
/-- an object of our own is written -/
theorem At.write {σ : St} {H G : Hp} {ρ : Env} {s : B.W.d} {D : Addr} {o u : HO} (a : At B O σ H G ρ s) (gD : G D = none) (hD : H D = some u) (h0 : B.H0 D = none) (fD : ¬ B.W.fp D) (hne : ∀ i d, i ∈ O → ρ[i]? = some (some d) → σ[i]? ≠ some (some (.ref D))) : At B O σ (upd H D o) G ρ s := by
  refine ⟨⟨fun x w h => ?_, a.sit.fpG, fun x f z => ?_, B.W.keep a.sit.rep (fun _ _ e => e) fun x w f h => ?_⟩, ⟨a.gr.g, fun x w n h => ?_, fun x h => ?_, a.gr.new⟩, a.rs.len, a.rs.plain, fun i d e m => ?_, a.rs.apart⟩
  · have z : x ≠ D := ne_of_none h gD
    rw [upd_ne z]; exact a.sit.sub x w h
  · have q : x ≠ D := fun q => fD (by rw [← q]; exact f)
    rw [upd_ne q] at z; exact a.sit.fpH x f z
  · have q : x ≠ D := fun q => fD (by rw [← q]; exact f)
    rw [upd_ne q]; exact h
  · have z : x ≠ D := ne_of_none h h0
    rw [upd_ne z]; exact a.gr.h x w n h
  · by_cases z : x = D
    · subst z; exact h0
    · rw [upd_ne z] at h; exact a.gr.dom x h
  · obtain ⟨p, vs, ds, h1, h2, h3, h4, h5, h6, h7⟩ := a.rs.own i d e m
    have z : p ≠ D := fun z => hne i d m e (by rw [← z]; exact h1)
    exact ⟨p, vs, ds, h1, h2, by rw [upd_ne z]; exact h3, h4, h5, h6, h7⟩
theorem Gr.write {fp : Addr → Prop} {G H G1 H1 : Hp} {D : Addr} {o : HO} (g : Gr fp G H G1 H1) (nD : H D = none) : Gr fp G H G1 (upd H1 D o) :=
  ⟨g.g, fun x w n h => by rw [upd_ne (ne_of_none h nD)]; exact g.h x w n h, fun x h => by
    by_cases z : x = D
    · subst z; exact nD
    · rw [upd_ne z] at h; exact g.dom x h, g.new⟩
theorem bnd_assoc {a b c d : Type} (r : DL.R (a × d)) (k : a → d → DL.R (b × d)) (l : b → d → DL.R (c × d)) : bnd (bnd r k) l = bnd r fun x s => bnd (k x s) l := by
  cases r <;> rfl
theorem rd_lc {fi : Mx B (List PD)} {b : Bd} {sl own : List Nat} {ft : Mx B Bool} {fe : Mx B PD} {σ : St} {H : Hp} {Q : VK} (hsl : ∀ i ∈ sl, i ∈ own) (h : rdE B O (cComp fi b own ft fe) σ H Q) :
    tLc (rdI B O fi) (gRd B.blk O b sl) (rdT B.blk O ft) (rdE B.blk O fe) own σ H Q := by
  obtain ⟨G, ρ, s, a, p⟩ := h
  refine ⟨G, ρ, s, a, ?_⟩
  unfold cComp at p
  cases e : fi ρ s with
  | exc c => rw [e] at p; exact p
  | bad => rw [e] at p; exact p
  | ok x =>
    obtain ⟨items, s1⟩ := x
    rw [e, bnd_ok] at p
    intro J G1 H1 g1 S1 ok D nD
    have a1 := a.step g1 S1
    by_cases hlen : items.length ≤ 100000
    · rw [if_pos hlen] at p
      have p := PostE.mono g1 p
      -- the new list is known to the heap alone
      have aD : At B O σ (upd H1 D (.lst [])) G1 ρ s1 := a1.step (Gr.allocH nD) (a1.sit.allocH nD)
      have gD : G1 D = none := by
        cases q : G1 D with
        | none => rfl
        | some o => rw [a1.sit.sub _ _ q] at nD; cases nD
      have fD : ¬ B.W.fp D := fun z => a1.sit.fpH D z nD
      have h0D : B.H0 D = none := a1.gr.dom D nD
      have hneD : ∀ i d, i ∈ O → ρ[i]? = some (some d) → σ[i]? ≠ some (some (.ref D)) := fun i d m e z => by
        obtain ⟨q, vs, ds, h1, h2, h3, _⟩ := a1.rs.own i d e m
        rw [z] at h1; cases h1
        rw [nD] at h3; cases h3
      let Wv : Nat → Nat → Hp → Prop := fun i m H => i + m = items.length ∧ ∃ G s acc ds, At B O σ H G ρ s ∧ Gr B.W.fp G1 H1 G H ∧ H D = some (.lst acc) ∧ G D = none ∧ DgAll G acc ds ∧ acc.length ≤ i ∧
        PostE B G1 H1 (bnd (compGo b own ft fe ρ (items.drop i) s) fun ys s2 => .ok (.list (ds ++ ys), s2)) Q
      refine ⟨Wv, ⟨items.length, by omega, G1, s1, [], [], aD, Gr.allocH nD, upd_same, gD, .nil, Nat.le_refl _, p⟩, fun i m H hW => ?_⟩
      obtain ⟨em, G, s, acc, ds, a, g, hD, gD, da, hi, p⟩ := hW
      by_cases hl : i < items.length
      · obtain ⟨go, _, yl⟩ := ok i G H g.g a.sit.sub
        refine .inr ⟨go hl, fun H' => Wv (i + 1) (m - 1) H', fun H' hN => ⟨m - 1, by omega, hN⟩, fun x H' hy => ?_⟩
        obtain ⟨G2, g2, sb2, dx⟩ := yl x H' items[i] (List.getElem?_eq_getElem hl) hy
        have g2' := g2.weak (fp' := B.W.fp) fun _ z => z.elim
        have a2 := a.step g2' (a.sit.pure g2 sb2)
        rw [List.drop_eq_getElem_cons hl] at p
        unfold compGo at p
        cases eb : b items[i] (wipeD ρ own) with
        | none => rw [eb] at p; exact p.elim
        | some ρ1 =>
          rw [eb] at p
          dsimp only at p
          refine ⟨G2, wipeD ρ own, items[i], ρ1, sb2, a2.rs.wipe own, .inl dx, eb, fun σ' rs' wp => ⟨?_, ?_⟩⟩
          · rw [wp own hsl]
            -- wiping twice
            clear p wp rs'
            have tw : ∀ (vs : List Nat) (us : List Nat), (∀ v ∈ vs, v ∈ us) → wipe (wipe σ us) vs = wipe σ us := by
              intro vs us
              induction vs with
              | nil => intro _; rfl
              | cons v vs ih =>
                intro hv
                show (wipe (wipe σ us) vs).set v none = wipe σ us
                rw [ih fun w hw => hv w (List.mem_cons_of_mem _ hw)]
                have hn : ∀ y, (wipe σ us)[v]? ≠ some (some y) := fun y q => (wipe_some q).2 (hv v (by simp))
                apply List.ext_getElem?
                intro k
                by_cases hk : v = k
                · subst hk
                  by_cases hlt : v < (wipe σ us).length
                  · rw [List.getElem?_set_self hlt]
                    cases q : (wipe σ us)[v]? with
                    | none => rw [List.getElem?_eq_none_iff] at q; omega
                    | some y =>
                      cases y with
                      | none => rfl
                      | some y => exact absurd q (hn y)
                  · rw [List.getElem?_eq_none (by rw [List.length_set]; omega), List.getElem?_eq_none (by omega)]
                · rw [List.getElem?_set_ne hk]
            exact tw own own fun _ h => h
          · -- the test
            have a3 : At B.blk O σ' H' G2 ρ1 s := ⟨a2.sit, a2.gr, rs'⟩
            have gt2 := g.trans g2'
            refine ⟨G2, ρ1, s, a3, ?_⟩
            cases et : ft ρ1 s with
            | bad => rw [et] at p; exact p.elim
            | exc c => rw [et] at p; exact p.elim
            | ok y =>
              obtain ⟨c, s2⟩ := y
              rw [et, noX_ok, bnd_ok] at p
              intro G3 H3 g3 S3
              have a4 : At B O σ H3 G3 ρ s2 := a2.step g3 S3
              have gt3 := gt2.trans g3
              have hD2 : H' D = some (.lst acc) := g2'.h D _ fD hD
              have hD3 : H3 D = some (.lst acc) := g3.h D _ fD hD2
              have nG : ∀ {G' H' : Hp}, Gr B.W.fp G H G' H' → G' D = none := fun {G' H'} gg => by
                cases q : G' D with
                | none => rfl
                | some o =>
                  rcases gg.new D o q with z | z
                  · rw [gD] at z; cases z
                  · rw [hD] at z; cases z
              have gD3 : G3 D = none := nG (g2'.trans g3)
              cases c with
              | false => exact ⟨by omega, G3, s2, acc, ds, a4, gt3, hD3, gD3, da.mono (g2'.trans g3).g, by omega, p⟩
              | true =>
                rw [if_pos rfl] at p
                have a5 : At B.blk O σ' H3 G3 ρ1 s2 := a3.step g3 S3
                refine ⟨G3, ρ1, s2, a5, ?_⟩
                cases ef : fe ρ1 s2 with
                | bad => rw [ef] at p; exact p.elim
                | exc c => rw [ef] at p; exact p.elim
                | ok z =>
                  obtain ⟨y, s3⟩ := z
                  rw [ef, noX_ok, bnd_ok] at p
                  intro v G4 H4 g4 S4 rv
                  by_cases hy' : isD y = true
                  · rw [if_pos hy'] at p
                    have hD4 : H4 D = some (.lst acc) := g4.h D _ fD hD3
                    have gD4 : G4 D = none := nG ((g2'.trans g3).trans g4)
                    have gt4 := gt3.trans g4
                    refine ⟨acc, hD4, Nat.lt_of_le_of_lt (Nat.le_trans hi (Nat.le_of_lt hl)) (Nat.lt_of_le_of_lt hlen (by decide)), by omega, G4, s3, acc ++ [v], ds ++ [y], ?_, ?_, upd_same, gD4, (da.mono ((g2'.trans g3).trans g4).g).app (.cons (rv.dg (isD_tok hy')) .nil), by rw [List.length_append]; simp; omega, ?_⟩
                    · exact (a4.step g4 S4).write gD4 hD4 h0D fD hneD
                    · exact gt4.write nD
                    · rw [bnd_assoc] at p
                      simp only [bnd_ok] at p
                      simp only [List.append_assoc, List.singleton_append]
                      exact p
                  · rw [if_neg hy'] at p; exact p.elim
      · have hge : items.length ≤ i := by omega
        obtain ⟨_, st, _⟩ := ok i G H g.g a.sit.sub
        refine .inl ⟨st hge, ?_⟩
        rw [List.drop_eq_nil_of_le hge] at p
        have sg : Sub G (upd G D (.lst acc)) := sub_upd gD
        refine p (.ref D) (upd G D (.lst acc)) H ⟨fun x o h => sg x o (g.g x o h), g.h, g.dom, fun x o h => ?_⟩ ⟨fun x o h => ?_, fun x f => ?_, a.sit.fpH, B.W.keep a.sit.rep sg fun _ _ _ e => e⟩ (.inl (.lst upd_same ?_))
        · by_cases z : x = D
          · subst z; exact .inr nD
          · rw [upd_ne z] at h; exact g.new x o h
        · by_cases z : x = D
          · subst z; rw [upd_same] at h; cases h; exact hD
          · rw [upd_ne z] at h; exact a.sit.sub x o h
        · have z : x ≠ D := fun z => fD (by rw [← z]; exact f)
          rw [upd_ne z]; exact a.sit.fpG x f
        · rw [List.append_nil]; exact da.mono sg
    · rw [if_neg hlen] at p; exact p.elim
theorem de_lc {elt iter : Expr} {ifs : List Expr} {scope : Scope} (own : List (Str × Nat)) {pos : Pos} {fi : Mx B (List PD)} {b : Bd} {sl : List Nat} {ft : Mx B Bool} {fe : Mx B PD} (hN : X.N.Nodup) (hi : DI X B O tg iter fi) (ok : blkC X.N X.env.scope scope own = true)
    (hg : ∀ (s : Shared) (H : Hp) (C : Addr) (cl : List (Str × Addr)) (fp : List Addr), DG (X.blk s H scope (compEnvC scope cl C X.env) fp) B.blk O tg b sl)
    (ht : ∀ (s : Shared) (H : Hp) (C : Addr) (cl : List (Str × Addr)) (fp : List Addr), DTs (X.blk s H scope (compEnvC scope cl C X.env) fp) B.blk O ifs ft)
    (he : ∀ (s : Shared) (H : Hp) (C : Addr) (cl : List (Str × Addr)) (fp : List Addr), DE (X.blk s H scope (compEnvC scope cl C X.env) fp) B.blk O elt fe)
    (hc : X.calm = true := by rfl) (hsl : ∀ i ∈ sl, i ∈ own.map (·.2) := by decide) (hs : ∀ x, foldedSetIterable iter X.env x = pure x := by intro _; rfl) : DE X B O (.ListComp elt [⟨tg, iter, ifs, 0⟩] scope pos) (cComp fi b (own.map (·.2)) ft fe) :=
  PE.imp (pe_lc hc hN hi (blkOk_by ok) hg ht he hs) fun σ H Q h => rd_lc hsl h
theorem ds_setLc (i : Nat) {y : Str} {py spos : Pos} {elt iter : Expr} {ifs : List Expr} {scope : Scope} (own : List (Str × Nat)) {pos : Pos} {fi : Mx B (List PD)} {b : Bd} {sl : List Nat} {ft : Mx B Bool} {fe : Mx B PD} (hN : X.N.Nodup)
    (hsw : swapsWith (.ListComp elt [⟨tg, iter, ifs, 0⟩] scope pos) (some (.Name y py)) spos.line X.env = pure true) (hi : DI X B O tg iter fi) (ok : blkC X.N X.env.scope scope own = true)
    (hg : ∀ (s : Shared) (H : Hp) (C : Addr) (cl : List (Str × Addr)) (fp : List Addr), DG (X.blk s H scope (compEnvC scope cl C X.env) fp) B.blk O tg b sl)
    (ht : ∀ (s : Shared) (H : Hp) (C : Addr) (cl : List (Str × Addr)) (fp : List Addr), DTs (X.blk s H scope (compEnvC scope cl C X.env) fp) B.blk O ifs ft)
    (he : ∀ (s : Shared) (H : Hp) (C : Addr) (cl : List (Str × Addr)) (fp : List Addr), DE (X.blk s H scope (compEnvC scope cl C X.env) fp) B.blk O elt fe)
    (hy : X.N[i]? = some y := by rfl) (hyl : X.env.scope.names.lookup y = some .local := by rfl) (hO : i ∉ O := by decide)
    (hc : X.calm = true := by rfl) (hsl : ∀ i ∈ sl, i ∈ own.map (·.2) := by decide) (hs : ∀ x, foldedSetIterable iter X.env x = pure x := by intro _; rfl) : DS X B O O (.Assign [.Name y py] (.ListComp elt [⟨tg, iter, ifs, 0⟩] scope pos) spos) (sSet i (cComp fi b (own.map (·.2)) ft fe)) :=
  PS.imp (ps_setLc hc hN hy hyl hsw hi (blkOk_by ok) hg ht he hs) fun D σ H h => by
    obtain ⟨G, ρ, s, a, p⟩ := h
    refine rd_lc hsl ?_
    exact rdE.thenS a p fun v G1 H1 d s1 a1 g1 rv p1 => p1 _ G1 H1 ⟨a1.sit, a1.gr, a1.rs.set rv hO⟩
end
end DL

/-! DL8: defs of our own, called; owned lists -/
namespace DL
open PySem PySem.Spec PyProof.Rows L2
/-! ### pure defs -/
def PostP (cls : Nat → Addr) (tk : Nat → V) (G H : Hp) (r : R PD) (Q : VK) (E : XK) : Prop :=
  match r with
  | .ok d => ∀ v G' H', Gr (fun _ => False) G H G' H' → Sub G' H' → Rp tk G' v d → Q v H'
  | .exc c => ∀ G' H', Gr (fun _ => False) G H G' H' → E (.ref (cls c)) none H'
  | .bad => False
def spP (cls : Nat → Addr) (n : Nat) (m : List PD → R PD) : Sp := fun vs H Q E => ∃ tk G ds, Sub G H ∧ RpAll tk G vs ds ∧ ds.length = n ∧ PostP cls tk G H (m ds) Q E
/-- a pure def by its name -/
structure FnP (P : Program) (w : World) (K : PySem.W.Frag) (mg : Str → Option Value) (base : Heap) (cls : Nat → Addr) (k : Nat) (x : Str) (n : Nat) (m : List PD → R PD) : Prop where
  ex : ∃ f fd ps, FnOk P w K mg base (L2.CX P w) k f fd ps (spP cls n m) ∧ mg x = some (.ref f) ∧ PySem.W.keepIn K (.ref f) = true ∧ Binds K fd ps []
theorem FnP.mono {P : Program} {w : World} {K : PySem.W.Frag} {mg : Str → Option Value} {base : Heap} {cls : Nat → Addr} {k j : Nat} {x : Str} {n : Nat} {m : List PD → R PD} (F : FnP P w K mg base cls k x n m) (h : k ≤ j) : FnP P w K mg base cls j x n m := by
  obtain ⟨f, fd, ps, h1, h2⟩ := F.ex
  exact ⟨f, fd, ps, h1.mono h, h2⟩
/-- another function with the same values -/
theorem FnP.congr {P : Program} {w : World} {K : PySem.W.Frag} {mg : Str → Option Value} {base : Heap} {cls : Nat → Addr} {k : Nat} {x : Str} {n : Nat} {m m' : List PD → R PD} (F : FnP P w K mg base cls k x n m) (h : ∀ ds, ds.length = n → m' ds = .bad ∨ m ds = m' ds) : FnP P w K mg base cls k x n m' := by
  obtain ⟨f, fd, ps, h1, h2⟩ := F.ex
  refine ⟨f, fd, ps, h1.imp fun vs H Q E q => ?_, h2⟩
  obtain ⟨tk, G, ds, a, b, c, p⟩ := q
  refine ⟨tk, G, ds, a, b, c, ?_⟩
  rcases h ds c with z | z
  · rw [z] at p; exact p.elim
  · rw [z]; exact p
def cCallF {d : Type} (n : Nat) (m : List PD → R PD) (a : Env → d → R (List PD × d)) : Env → d → R (PD × d) := fun ρ s => bnd (a ρ s) fun ds s1 => if ds.length = n then lft (m ds) s1 else .bad
section
variable {X : Cx} {B : Bs} {O O' : List Nat}
theorem PostP.of {G H : Hp} {r : R PD} {Q : VK} {s : B.W.d} (S : Sit B.W G H s) (p : PostE B G H (lft r s) Q) : PostP B.W.cls B.W.tk G H r Q B.E := by
  cases r with
  | ok d => exact fun v G' H' g sb rp => p v G' H' (g.weak fun _ z => z.elim) (S.pure g sb) rp
  | exc c => exact fun G' H' g => p G' H' (g.weak fun _ z => z.elim)
  | bad => exact p
theorem de_call {k : Nat} {x : Str} {n : Nat} {m : List PD → R PD} {e : Expr} {es : List Expr} {fa : Mx B (List PD)} {p pos : Pos} (F : FnP X.prog X.w X.K X.mg X.base B.W.cls k x n m) (hr : Room k X.A) (hx : Passes (L2.CX X.prog X.w) X B.E) (ha : DA X B O (e :: es) fa) (hg : Gl X x := by rfl)
    (hdb : (x == ("__debug__" : Str)) = false := by decide) (he : starEach (e :: es) X.env = (false, eval e X.env) :: starEach es X.env := by rfl) (hpl : (backTo pos (starEach es X.env)).any (·.1) = false := by rfl) : DE X B O (.Call (.Name x p) (e :: es) [] pos) (cCallF n m fa) := by
  obtain ⟨f, fd, ps, hF, hm, hk, hb⟩ := F.ex
  refine PE.imp (pe_call hF hr hg hm hk hb .nil hx ha hdb he hpl) fun σ H Q h => ?_
  obtain ⟨G, ρ, s, a, p⟩ := h
  refine rdA.then a p fun vs G1 H1 ds s1 a1 g1 rv p1 => ?_
  by_cases hl : ds.length = n
  · rw [if_pos hl] at p1
    rw [List.append_nil]
    exact ⟨B.W.tk, G1, ds, a1.sit.sub, rv, hl, PostP.of a1.sit p1⟩
  · rw [if_neg hl] at p1; exact p1.elim
theorem de_call0 {k : Nat} {x : Str} {m : List PD → R PD} {p pos : Pos} (F : FnP X.prog X.w X.K X.mg X.base B.W.cls k x 0 m) (hr : Room k X.A) (hx : Passes (L2.CX X.prog X.w) X B.E) (hg : Gl X x := by rfl)
    (hdb : (x == ("__debug__" : Str)) = false := by decide) : DE X B O (.Call (.Name x p) [] [] pos) (fun _ s => lft (m []) s) := by
  obtain ⟨f, fd, ps, hF, hm, hk, hb⟩ := F.ex
  refine PE.imp (pe_call0 hF hr hg hm hk hb .nil hx hdb) fun σ H Q h => ?_
  obtain ⟨G, ρ, s, a, p⟩ := h
  exact ⟨B.W.tk, G, [], a.sit.sub, .nil, rfl, PostP.of a.sit p⟩
end
/-- the pure world -/
def Wp (cls : Nat → Addr) (tk : Nat → V) : Wd := { d := Unit, fp := fun _ => False, rep := fun _ _ _ => True, tk := tk, cls := cls, keep := fun _ _ _ => trivial }
def startD (N : List Str) (ds : List PD) : Env := ds.map some ++ List.replicate (N.length - ds.length) none
/-- what a body's outcome is for its caller -/
def outP (r : R (Fl × Unit)) : R PD := match r with
  | .ok (.rt d, _) => .ok d
  | .ok (.nx _, _) => .ok .none
  | .ok _ => .bad
  | .exc c => .exc c
  | .bad => .bad
def mBody (n : Nat) (f : Env → Unit → R (Fl × Unit)) : List PD → R PD := fun ds => outP (f (ds.map some ++ List.replicate n none) ())
theorem RpAll.begin_ {W : Wd} {G H H0 : Hp} {vs : List V} {ds : List PD} (N : List Str) (r : RpAll W.tk G vs ds) : RS W G H H0 [] (L2.start N vs) (startD N ds) := by
  have hl := r.len
  refine ⟨by unfold L2.start startD; rw [List.length_append, List.length_append, List.length_map, List.length_map, List.length_replicate, List.length_replicate, hl], fun i d e _ => ?_, fun i d e m => by simp at m, fun i j p d e m => by simp at m⟩
  unfold startD at e
  unfold L2.start
  by_cases hi : i < ds.length
  · rw [List.getElem?_append_left (by rw [List.length_map]; exact hi), List.getElem?_map] at e
    rw [List.getElem?_append_left (by rw [List.length_map, hl]; exact hi), List.getElem?_map]
    cases q : ds[i]? with
    | none => rw [q] at e; cases e
    | some d' =>
      rw [q] at e
      cases e
      obtain ⟨v, h1, h2⟩ := r.get q
      exact ⟨v, by rw [h1]; rfl, h2⟩
  · rw [List.getElem?_append_right (by rw [List.length_map]; omega), List.getElem?_replicate] at e
    split at e <;> cases e
section
variable {P : Program} {w : World} {K : PySem.W.Frag} {mg : Str → Option Value} {base : Heap} {x qual : Str} {params : Arguments} {body : List Stmt} {scope : Scope} {f : Addr} {fd : FuncData} {cls : Nat → Addr}
/-- A PURE DEF, by its body -/
theorem fn_pure {N ps : List Str} {k n : Nat} {fb : Env → Unit → R (Fl × Unit)} (F : FunD K x qual params body scope [] [] f fd) (S : FnScope N ps scope) (hm : mg x = some (.ref f)) (hn : ps.length = n) (hb : Binds K fd ps [])
    (hbody : ∀ (cdv : Value) (A : Around) (outer : List PySem.Env) (s : Shared) (H : Hp) (E : XK) (tk : Nat → V) (G : Hp), Room k (A.deeper (envOfC qual scope s.heap.objs.size f cdv)) →
      DSs (cxOf (L2.CX P w) P w K mg base N qual scope f cdv A outer s H E) ⟨Wp cls tk, G, H, E⟩ [] [] body fb) : FnP P w K mg base cls (k + 1) x n (mBody (N.length - n) fb) := by
  refine ⟨f, fd, ps, F.ok S (fun vs H Q E h => ?_) (fun cdv A outer s H vs Q E hr h => ?_), hm, F.kp, hb⟩
  · obtain ⟨tk, G, ds, _, r, hl, _⟩ := h
    rw [r.len, hl, hn]
  · obtain ⟨tk, G, ds, sb, r, hl, p⟩ := h
    refine ⟨_, hbody cdv A outer s H E tk G hr, G, startD N ds, (), ⟨⟨sb, fun _ z => z.elim, fun _ z => z.elim, trivial⟩, .refl, r.begin_ N⟩, ?_⟩
    unfold mBody at p
    have e0 : startD N ds = ds.map some ++ List.replicate (N.length - n) none := by unfold startD; rw [hl]
    rw [e0]
    revert p
    generalize fb (ds.map some ++ List.replicate (N.length - n) none) () = r'
    intro p
    cases r' with
    | bad => exact p
    | exc c => exact fun G' H' g => p G' H' g
    | ok y =>
      obtain ⟨fl, u⟩ := y
      cases fl with
      | nx ρ => exact fun σ' G' H' a => p .non G' H' a.gr a.sit.sub (.inl .non)
      | rt d => exact fun v G' H' g st rv => p v G' H' g st.sub rv
      | bk ρ => exact p.elim
      | ct ρ => exact p.elim
end

/-! ### owned lists -/
section
variable {X : Cx} {B : Bs} {O O' : List Nat}
/-- a fresh list that is ours: not in the ghost heap -/
def PostF (B : Bs) (G H : Hp) (r : R (List PD × B.W.d)) (Q : VK) : Prop :=
  match r with
  | .ok (ds, s') => ∀ p vs G' H', Gr B.W.fp G H G' H' → Sit B.W G' H' s' → H p = none → G' p = none → H' p = some (.lst vs) → DgAll G' vs ds → Q (.ref p) H'
  | .exc c => ∀ G' H', Gr B.W.fp G H G' H' → B.E (.ref (B.W.cls c)) none H'
  | .bad => False
theorem PostF.mono {G H G1 H1 : Hp} {r : R (List PD × B.W.d)} {Q : VK} (g : Gr B.W.fp G H G1 H1) (h : PostF B G H r Q) : PostF B G1 H1 r Q := by
  cases r with
  | ok x => exact fun p vs G' H' g' S' n1 n2 e d => h p vs G' H' (g.trans g') S' (g.dom p n1) n2 e d
  | exc c => exact fun G' H' g' => h G' H' (g.trans g')
  | bad => exact h
def rdF (B : Bs) (O : List Nat) (f : Mx B (List PD)) : TE := fun σ H Q => ∃ G ρ s, At B O σ H G ρ s ∧ PostF B G H (f ρ s) Q
abbrev DF (X : Cx) (B : Bs) (O : List Nat) (e : Expr) (f : Mx B (List PD)) : Prop := PE X e (rdF B O f)
def fLst {d : Type} (r : Env → d → R (List PD × d)) : Env → d → R (List PD × d) := fun ρ s => bnd (r ρ s) fun xs s1 => if allD xs && decide (xs.length ≤ sizeLine) then .ok (xs, s1) else .bad
theorem df_lst {es : List Expr} {f : Mx B (List PD)} {pos : Pos} (h : DA X B O es f) : DF X B O (.List es pos) (fLst f) :=
  PE.imp (pe_lst h) fun σ H Q h => by
    obtain ⟨G, ρ, s, a, p⟩ := h
    refine rdA.fst a (fun G H r => PostF B G H r Q) (fun g p => p.mono g) (fun p => p) (fun p => p) p fun xs G1 H1 ds s1 a1 g1 rs p1 => ?_
    by_cases hd : (allD ds && decide (ds.length ≤ sizeLine)) = true
    · rw [if_pos hd] at p1
      rw [Bool.and_eq_true, decide_eq_true_eq] at hd
      refine ⟨by rw [rs.len]; exact hd.2, fun q hq => ?_⟩
      refine p1 q xs G1 _ (Gr.allocH hq) (a1.sit.allocH hq) hq ?_ upd_same (rs.dg hd.1)
      cases z : G1 q with
      | none => rfl
      | some o => rw [a1.sit.sub _ _ z] at hq; cases hq
    · rw [if_neg hd] at p1; exact p1.elim
/-- x = a fresh list, owned from here on -/
def sSetF {d : Type} (i : Nat) (f : Env → d → R (List PD × d)) : Env → d → R (Fl × d) := fun ρ s => bnd (f ρ s) fun xs s1 => .ok (.nx (ρ.set i (some (.list xs))), s1)
theorem RS.setO {W : Wd} {G H H0 : Hp} {σ : St} {ρ : Env} {i : Nat} {p : Addr} {vs : List V} {ds : List PD} (r : RS W G H H0 O σ ρ) (hi : ∀ j, j ∈ O' → j = i ∨ j ∈ O) (hi2 : ∀ j, j ∈ O → j = i ∨ j ∈ O') (hi3 : i ∈ O')
    (h3 : H p = some (.lst vs)) (h4 : DgAll G vs ds) (h5 : G p = none) (h6 : H0 p = none) (h7 : ¬ W.fp p) (hne : ∀ j d, j ∈ O → j ≠ i → ρ[j]? = some (some d) → σ[j]? ≠ some (some (.ref p))) : RS W G H H0 O' (σ.set i (some (.ref p))) (ρ.set i (some (.list ds))) := by
  refine ⟨by rw [List.length_set, List.length_set]; exact r.len, fun j e h n => ?_, fun j e h m => ?_, fun j k q e f m1 m2 h1 h2 h3 h4 => ?_⟩
  · have z : i ≠ j := fun z => n (by rw [← z]; exact hi3)
    rw [List.getElem?_set_ne z] at h ⊢
    refine r.plain j e h fun w => ?_
    rcases hi2 j w with q | q
    · exact z q.symm
    · exact n q
  · by_cases z : i = j
    · subst z
      by_cases hl : i < ρ.length
      · rw [List.getElem?_set_self hl] at h
        cases h
        exact ⟨p, vs, ds, List.getElem?_set_self (by rw [r.len]; exact hl), rfl, h3, h4, h5, h6, h7⟩
      · rw [List.getElem?_eq_none (by rw [List.length_set]; omega)] at h; cases h
    · rw [List.getElem?_set_ne z] at h
      obtain ⟨q, ws, es, q1, q2⟩ := r.own j e h (by
        rcases hi j m with w | w
        · exact absurd w.symm z
        · exact w)
      exact ⟨q, ws, es, by rw [List.getElem?_set_ne z]; exact q1, q2⟩
  · have inO : ∀ {j}, j ∈ O' → i ≠ j → j ∈ O := fun {j} m z => by
      rcases hi j m with w | w
      · exact absurd w.symm z
      · exact w
    by_cases z1 : i = j
    · by_cases z2 : i = k
      · rw [← z1, ← z2]
      · subst z1
        exfalso
        have hl : i < σ.length := by
          cases hq : decide (i < σ.length) with
          | true => exact of_decide_eq_true hq
          | false =>
            have := of_decide_eq_false hq
            rw [List.getElem?_eq_none (by rw [List.length_set]; omega)] at h3; cases h3
        rw [List.getElem?_set_self hl] at h3
        cases h3
        rw [List.getElem?_set_ne z2] at h2 h4
        exact hne k f (inO m2 z2) (Ne.symm z2) h2 h4
    · by_cases z2 : i = k
      · subst z2
        exfalso
        have hl : i < σ.length := by
          cases hq : decide (i < σ.length) with
          | true => exact of_decide_eq_true hq
          | false =>
            have := of_decide_eq_false hq
            rw [List.getElem?_eq_none (by rw [List.length_set]; omega)] at h4; cases h4
        rw [List.getElem?_set_self hl] at h4
        cases h4
        rw [List.getElem?_set_ne z1] at h1 h3
        exact hne j e (inO m1 z1) (Ne.symm z1) h1 h3
      · rw [List.getElem?_set_ne z1] at h1 h3
        rw [List.getElem?_set_ne z2] at h2 h4
        exact r.apart j k q e f (inO m1 z1) (inO m2 z2) h1 h2 h3 h4
theorem ds_setF (i : Nat) {x : Str} {e : Expr} {fe : Mx B (List PD)} {pos pos' : Pos} (hN : X.N.Nodup) (he : DF X B O e fe) (hi1 : ∀ j, j ∈ O' → j = i ∨ j ∈ O := by decide) (hi2 : ∀ j, j ∈ O → j = i ∨ j ∈ O' := by decide) (hi3 : i ∈ O' := by decide) (hi : X.N[i]? = some x := by rfl) (hx : Loc X.env.scope x := by first | exact Or.inl rfl | exact Or.inr rfl)
    (hs : swapsWith e (some (.Name x pos')) pos.line X.env = pure false := by rfl) (hf : X.fn x = true ∨ X.env.scope.names.lookup x = some .local := by first | exact .inl rfl | exact .inr rfl) : DS X B O O' (.Assign [.Name x pos'] e pos) (sSetF i fe) :=
  PS.imp (ps_set hN hi hx he hs hf) fun D σ H h => by
    obtain ⟨G, ρ, s, a, p⟩ := h
    refine ⟨G, ρ, s, a, ?_⟩
    unfold sSetF at p
    cases ef : fe ρ s with
    | bad => rw [ef] at p; exact p
    | exc c => rw [ef] at p; exact fun G' H' g => p G' H' (a.gr.trans g)
    | ok y =>
      obtain ⟨ds, s1⟩ := y
      rw [ef, bnd_ok] at p
      intro q vs G' H' g S n1 n2 hq dq
      have a1 := a.step g S
      refine p _ G' H' ⟨S, a1.gr, a1.rs.setO hi1 hi2 hi3 hq dq n2 (a.gr.dom q n1) (fun z => a.sit.fpH q z n1) fun j d m _ e z => ?_⟩
      obtain ⟨r, ws, es, q1, q2, q3, _⟩ := a.rs.own j d e m
      rw [z] at q1; cases q1
      rw [n1] at q3; cases q3
/-- what an owned slot holds -/
theorem At.own {σ : St} {H G : Hp} {ρ : Env} {s : B.W.d} {i : Nat} {d : PD} (a : At B O σ H G ρ s) (m : i ∈ O) (e : ρ[i]? = some (some d)) : ∃ p vs ds, σ[i]? = some (some (.ref p)) ∧ d = .list ds ∧ H p = some (.lst vs) ∧ DgAll G vs ds ∧ G p = none ∧ B.H0 p = none ∧ ¬ B.W.fp p ∧
    Sub G (upd G p (.lst vs)) ∧ Sub (upd G p (.lst vs)) H ∧ Dg (upd G p (.lst vs)) (.ref p) d := by
  obtain ⟨p, vs, ds, h1, h2, h3, h4, h5, h6, h7⟩ := a.rs.own i d e m
  refine ⟨p, vs, ds, h1, h2, h3, h4, h5, h6, h7, sub_upd h5, fun x o h => ?_, ?_⟩
  · by_cases z : x = p
    · subst z; rw [upd_same] at h; cases h; exact h3
    · rw [upd_ne z] at h; exact a.sit.sub x o h
  · rw [h2]; exact .lst upd_same (h4.mono (sub_upd h5))
/-- an owned slot's list is another one, at its own address; the others' stay -/
theorem RS.setO' {W : Wd} {G H H' H0 : Hp} {σ : St} {ρ : Env} {i : Nat} {p : Addr} {vs : List V} {ds : List PD} (r : RS W G H H0 O σ ρ) (hi : i ∈ O)
    (h3 : H' p = some (.lst vs)) (h4 : DgAll G vs ds) (h5 : G p = none) (h6 : H0 p = none) (h7 : ¬ W.fp p) (hne : ∀ j d, j ∈ O → j ≠ i → ρ[j]? = some (some d) → σ[j]? ≠ some (some (.ref p)))
    (hst : ∀ j d, j ∈ O → j ≠ i → ρ[j]? = some (some d) → ∀ q, σ[j]? = some (some (.ref q)) → ∀ o, H q = some o → H' q = some o) : RS W G H' H0 O (σ.set i (some (.ref p))) (ρ.set i (some (.list ds))) := by
  -- the same slots with i left out, then i set
  have r1 : RS W G H H0 O (σ.set i none) (ρ.set i none) := by
    refine ⟨by rw [List.length_set, List.length_set]; exact r.len, fun j e h n => ?_, fun j e h m => ?_, fun j k q e f m1 m2 h1 h2 h3 h4 => ?_⟩
    · have z : i ≠ j := fun z => n (by rw [← z]; exact hi)
      rw [List.getElem?_set_ne z] at h ⊢
      exact r.plain j e h n
    · by_cases z : i = j
      · subst z
        by_cases hl : i < ρ.length
        · rw [List.getElem?_set_self hl] at h; cases h
        · rw [List.getElem?_eq_none (by rw [List.length_set]; omega)] at h; cases h
      · rw [List.getElem?_set_ne z] at h ⊢
        exact r.own j e h m
    · have z1 : i ≠ j := fun z => by
        subst z
        by_cases hl : i < ρ.length
        · rw [List.getElem?_set_self hl] at h1; cases h1
        · rw [List.getElem?_eq_none (by rw [List.length_set]; omega)] at h1; cases h1
      have z2 : i ≠ k := fun z => by
        subst z
        by_cases hl : i < ρ.length
        · rw [List.getElem?_set_self hl] at h2; cases h2
        · rw [List.getElem?_eq_none (by rw [List.length_set]; omega)] at h2; cases h2
      rw [List.getElem?_set_ne z1] at h1 h3
      rw [List.getElem?_set_ne z2] at h2 h4
      exact r.apart j k q e f m1 m2 h1 h2 h3 h4
  have nj : ∀ {j : Nat} {d : PD}, (ρ.set i none)[j]? = some (some d) → i ≠ j ∧ ρ[j]? = some (some d) := fun {j d} h => by
    have z : i ≠ j := fun z => by
      subst z
      by_cases hl : i < ρ.length
      · rw [List.getElem?_set_self hl] at h; cases h
      · rw [List.getElem?_eq_none (by rw [List.length_set]; omega)] at h; cases h
    rw [List.getElem?_set_ne z] at h
    exact ⟨z, h⟩
  have r2 : RS W G H' H0 O (σ.set i none) (ρ.set i none) := by
    refine ⟨r1.len, r1.plain, fun j e h m => ?_, r1.apart⟩
    obtain ⟨q, ws, es, q1, q2, q3, q4⟩ := r1.own j e h m
    obtain ⟨z, h'⟩ := nj h
    rw [List.getElem?_set_ne z] at q1
    exact ⟨q, ws, es, by rw [List.getElem?_set_ne z]; exact q1, q2, hst j e m (Ne.symm z) h' q q1 _ q3, q4⟩
  have r3 := r2.setO (O' := O) (i := i) (fun j m => .inr m) (fun j m => .inr m) hi h3 h4 h5 h6 h7 fun j d m n e z => by
    obtain ⟨z', e'⟩ := nj e
    rw [List.getElem?_set_ne z'] at z
    exact hne j d m n e' z
  rw [List.set_set, List.set_set] at r3
  exact r3
/-- x.append(e) -/
def sApp {d : Type} (i : Nat) (f : Env → d → R (PD × d)) : Env → d → R (Fl × d) := fun ρ s => match ρ[i]? with
  | some (some (.list ds)) => bnd (f ρ s) fun x s1 => if isD x && decide (ds.length < sizeLine) then .ok (.nx (ρ.set i (some (.list (ds ++ [x])))), s1) else .bad
  | _ => .bad
theorem ds_append (i : Nat) {x : Str} {e : Expr} {fe : Mx B PD} {p apos cpos pos : Pos} (he : DE X B O e fe) (hm : i ∈ O := by decide) (hN : X.N[i]? = some x := by rfl) (hv : Vis X.env.scope x := by first | exact Or.inl rfl | exact Or.inr (Or.inl rfl) | exact Or.inr (Or.inr rfl)) (hd : (x == ("__debug__" : Str)) = false := by decide)
    (hcd : (x == ("__classdict__" : Str)) = false := by decide) (hbase : attributeBase (.Name x p) "append" X.env (eval (.Name x p) X.env) = eval (.Name x p) X.env := by rfl) (hline : (apos.endLine == cpos.line) = true := by rfl) (hst : starEach [e] X.env = (false, eval e X.env) :: starEach [] X.env := by rfl)
    (hfew : ((backTo cpos (starEach [e] X.env)).all (fun x => !x.1) && (backToKw cpos (keywordEach [] X.env)).all (fun x => x.1.isSome) && decide ([e].length + ([] : List Keyword).length + (if ([] : List Keyword).isEmpty then 0 else 1) < 30)) = true := by rfl)
    (hpl : (backTo cpos (starEach [] X.env)).any (·.1) = false := by rfl)
    (hs : swapsWith (.Call (.Attribute (.Name x p) "append" apos) [e] [] cpos) none pos.line X.env = pure false := by rfl) : DS X B O O (.Expr (.Call (.Attribute (.Name x p) "append" apos) [e] [] cpos) pos) (sApp i fe) := by
  refine PS.imp (ps_expr (pe_bm PySem.F.plainAttrs_list PySem.F.slot_list_append PySem.F.type_list_append mt_append (pe_var hN hv hd hcd) (pa_cons he pa_nil hst) hbase hfew hline hst hpl) hs) fun D σ H h => ?_
  obtain ⟨G, ρ, s, a, q⟩ := h
  unfold sApp at q
  split at q
  · rename_i ds e1
    obtain ⟨l, vs, ds', h1, h2, h3, h4, h5, h6, h7, _⟩ := a.own hm e1
    cases h2
    refine ⟨.ref l, h1, .inl ⟨rfl, _, SqL.of h3⟩, ?_⟩
    refine rdE.thenS a q fun w G1 H1 d s1 a1 g1 rv p1 => ?_
    by_cases hc : (isD d && decide (ds.length < sizeLine)) = true
    · rw [if_pos hc] at p1
      rw [Bool.and_eq_true, decide_eq_true_eq] at hc
      have h3' := g1.h l _ h7 h3
      have n5 : G1 l = none := by
        cases z : G1 l with
        | none => rfl
        | some o =>
          rcases g1.new l o z with y | y
          · rw [h5] at y; cases y
          · rw [h3] at y; cases y
      refine ⟨l, vs, w, rfl, rfl, h3', by rw [h4.len]; exact hc.2, ?_⟩
      -- the slot's own list has grown
      have hdd := (h4.mono g1.g).app (.cons (rv.dg (isD_tok hc.1)) .nil)
      have ne : ∀ j d', j ∈ O → j ≠ i → ρ[j]? = some (some d') → σ[j]? ≠ some (some (.ref l)) := fun j d' m n ej z => n (a.rs.apart j i l d' _ m hm ej e1 z h1)
      have hset : σ.set i (some (.ref l)) = σ := by
        apply List.ext_getElem?
        intro k
        by_cases hk : i = k
        · subst hk
          rw [List.getElem?_set_self (List.getElem?_eq_some_iff.mp h1).1, h1]
        · rw [List.getElem?_set_ne hk]
      -- all but this slot at the new heap
      have at2 : At B O (σ.set i (some (.ref l))) (upd H1 l (.lst (vs ++ [w]))) G1 (ρ.set i (some (.list (ds ++ [d])))) s1 := by
        refine ⟨⟨fun y o hy => ?_, a1.sit.fpG, fun y f z => ?_, B.W.keep a1.sit.rep (fun _ _ e => e) fun y o f hy => ?_⟩, ⟨a1.gr.g, fun y o n hy => ?_, fun y hy => ?_, a1.gr.new⟩, ?_⟩
        · rw [upd_ne (ne_of_none hy n5)]; exact a1.sit.sub y o hy
        · have q : y ≠ l := fun q => h7 (by rw [← q]; exact f)
          rw [upd_ne q] at z; exact a1.sit.fpH y f z
        · have q : y ≠ l := fun q => h7 (by rw [← q]; exact f)
          rw [upd_ne q]; exact hy
        · rw [upd_ne (ne_of_none hy h6)]; exact a1.gr.h y o n hy
        · by_cases z : y = l
          · subst z; exact h6
          · rw [upd_ne z] at hy; exact a1.gr.dom y hy
        · refine RS.setO' a1.rs hm upd_same hdd n5 h6 h7 (fun j d' m n ej => ne j d' m n ej) fun j d' m n ej p' hp' o hp => ?_
          have z : p' ≠ l := fun z => ne j d' m n ej (by rw [← z]; exact hp')
          rw [upd_ne z]; exact hp
      rw [hset] at at2
      exact p1 σ G1 _ at2
    · rw [if_neg hc] at p1; exact p1.elim
  · exact q.elim
end
end DL

/-! DL9: owned lists read, methods of lists, draws -/
namespace DL
open PySem PySem.Spec PyProof.Rows L2
section
variable {X : Cx} {B : Bs} {O O' : List Nat}
theorem cVar_some {d : Type} {ρ : Env} {i : Nat} {x : PD} {s : d} (e : ρ[i]? = some (some x)) : cVar i ρ s = .ok (x, s) := by
  unfold cVar; rw [e]
theorem cVar_none {d : Type} {ρ : Env} {i : Nat} {s : d} (e : ∀ x, ρ[i]? ≠ some (some x)) : cVar i ρ s = .bad := by
  unfold cVar
  split
  · rename_i x h; exact absurd h (e x)
  · rfl
/-- an owned slot's value, or nothing -/
theorem At.ownV {σ : St} {H G : Hp} {ρ : Env} {s : B.W.d} (i : Nat) (a : At B O σ H G ρ s) (m : i ∈ O) : (∀ x, ρ[i]? ≠ some (some x)) ∨ ∃ p vs ds, ρ[i]? = some (some (.list ds)) ∧ σ[i]? = some (some (.ref p)) ∧ H p = some (.lst vs) ∧ DgAll G vs ds ∧ G p = none ∧ B.H0 p = none ∧ ¬ B.W.fp p := by
  cases e : ρ[i]? with
  | none => exact .inl fun x h => by cases h
  | some y =>
    cases y with
    | none => exact .inl fun x h => by cases h
    | some d =>
      obtain ⟨p, vs, ds, h1, h2, h3, h4, h5, h6, h7, _⟩ := a.own m e
      subst h2
      exact .inr ⟨p, vs, ds, rfl, h1, h3, h4, h5, h6, h7⟩
theorem de_ixO (i : Nat) {x : Str} {b : Expr} {fb : Mx B PD} {p pos : Pos} (hb : DE X B O b fb) (hm : i ∈ O := by decide) (hN : X.N[i]? = some x := by rfl) (hv : Vis X.env.scope x := by first | exact Or.inl rfl | exact Or.inr (Or.inl rfl) | exact Or.inr (Or.inr rfl)) (hd : (x == ("__debug__" : Str)) = false := by decide)
    (hcd : (x == ("__classdict__" : Str)) = false := by decide) (hs : PlainIx b := by intro _ _; rfl) : DE X B O (.Subscript (.Name x p) b pos) (cOp pIx (cVar i) fb) :=
  PE.imp (pe_ix ix_list (pe_var hN hv hd hcd) hb hs) fun σ H Q h => by
    obtain ⟨G, ρ, s, a, q⟩ := h
    unfold cOp at q
    rcases a.ownV i hm with z | ⟨l, vs, ds, e1, h1, h3, h4, h5, h6, h7⟩
    · rw [cVar_none z] at q; exact q.elim
    · rw [cVar_some e1, bnd_ok] at q
      refine ⟨.ref l, h1, ?_⟩
      refine rdE.then a q fun y G1 H1 d s1 a1 g1 ry p1 => ?_
      cases d with
      | int j =>
        have p1 : PostE B G1 H1 (lft (isOk (pIx (.list ds) (.int j))) s1) Q := p1
        unfold pIx at p1
        dsimp only at p1
        cases e2 : L2.atI ds j with
        | none => rw [e2] at p1; exact p1.elim
        | some d' =>
          rw [e2] at p1
          obtain ⟨v, f1, f2⟩ := (h4.mono g1.g).atI e2
          exact ⟨l, vs, j, v, rfl, (ry.dg (isD_tok rfl)).of_int, SqL.of (g1.h l _ h7 h3), f1, p1.done a1.sit (.inl f2)⟩
      | none => exact p1.elim
      | bool _ => exact p1.elim
      | str _ => exact p1.elim
      | list _ => exact p1.elim
      | tuple _ => exact p1.elim
      | dict _ => exact p1.elim
theorem de_lenO (i : Nat) {x : Str} {p p2 pos : Pos} (hm0 : X.mg "len" = none) (hm : i ∈ O := by decide) (hN : X.N[i]? = some x := by rfl) (hv : Vis X.env.scope x := by first | exact Or.inl rfl | exact Or.inr (Or.inl rfl) | exact Or.inr (Or.inr rfl)) (hd : (x == ("__debug__" : Str)) = false := by decide)
    (hcd : (x == ("__classdict__" : Str)) = false := by decide) (hg : Gl X "len" := by rfl) (he : starEach [.Name x p2] X.env = (false, eval (.Name x p2) X.env) :: starEach [] X.env := by rfl) (hpl : (backTo pos (starEach [] X.env)).any (·.1) = false := by rfl) : DE X B O (.Call (.Name "len" p) [.Name x p2] [] pos) (cCall pLen (aCons (cVar i) aNil)) :=
  PE.imp (pe_callB call_len_seq hg hm0 PySem.boot_len (pa_cons (pe_var hN hv hd hcd) pa_nil he) (by decide) (by decide) he hpl) fun σ H Q h => by
    obtain ⟨G, ρ, s, a, q⟩ := h
    unfold cCall aCons at q
    rcases a.ownV i hm with z | ⟨l, vs, ds, e1, h1, h3, h4, h5, h6, h7⟩
    · rw [cVar_none z] at q; exact q.elim
    · rw [cVar_some e1] at q
      refine ⟨.ref l, h1, l, vs, rfl, .inl (SqL.of h3), ?_⟩
      rw [h4.len]
      exact PostE.done (d := .int ds.length) a.sit (.inl (.int _)) q
theorem DgAll.nil_of {G : Hp} : DgAll G [] [] := .nil
/-- x[lo:hi] of an owned list -/
theorem rd_sliceO {i : Nat} {fl fh : Mx B (Option Int)} {σ : St} {H : Hp} {Q : VK} (hm : i ∈ O) (h : rdE B O (cSl pSl (cVar i) fl fh) σ H Q) : tSl (rSlL X.K) (tVar i) (rdPt B O fl) (rdPt B O fh) σ H Q := by
  obtain ⟨G, ρ, s, a, q⟩ := h
  unfold cSl at q
  rcases a.ownV i hm with z | ⟨l, vs, ds, e1, h1, h3, h4, h5, h6, h7⟩
  · rw [cVar_none z] at q; exact q.elim
  · rw [cVar_some e1, bnd_ok] at q
    refine ⟨.ref l, h1, ?_⟩
    refine rdPt.then a q fun lo G2 H2 s2 a2 g2 p2 => ?_
    refine rdPt.then a2 p2 fun hi G3 H3 s3 a3 g3 p3 => ?_
    have p3 : PostE B G3 H3 (.ok (.list (cutD ds lo hi), s3)) Q := p3
    exact ⟨l, vs, rfl, SqL.of (g3.h l _ h7 (g2.h l _ h7 h3)), fun q hq => p3.lst a3.sit (((h4.mono g2.g).mono g3.g).cut _ _) hq⟩
theorem de_sliceO (i : Nat) {x : Str} {lo hi : Option Expr} {fl fh : Mx B (Option Int)} {p p2 pos : Pos} (hl : DO X B O lo fl) (hh : DO X B O hi fh) (hm : i ∈ O := by decide) (hN : X.N[i]? = some x := by rfl) (hv : Vis X.env.scope x := by first | exact Or.inl rfl | exact Or.inr (Or.inl rfl) | exact Or.inr (Or.inr rfl)) (hd : (x == ("__debug__" : Str)) = false := by decide)
    (hcd : (x == ("__classdict__" : Str)) = false := by decide) : DE X B O (.Subscript (.Name x p) (.Slice lo hi none p2) pos) (cSl pSl (cVar i) fl fh) :=
  PE.imp (pe_slice sl_list (pe_var hN hv hd hcd) hl hh) fun σ H Q h => rd_sliceO hm h
/-- .. fresh, ours -/
def fSl {d : Type} (i : Nat) (l h : Env → d → R (Option Int × d)) : Env → d → R (List PD × d) := fun ρ s => match ρ[i]? with
  | some (some (.list ds)) => bnd (l ρ s) fun lo s2 => bnd (h ρ s2) fun hi s3 => .ok (cutD ds lo hi, s3)
  | _ => .bad
theorem rdPt.thenF {f : Mx B (Option Int)} {σ : St} {H : Hp} {Q : Option Int → Hp → Prop} {Q' : VK} {G : Hp} {ρ : Env} {s : B.W.d} {k : Option Int → B.W.d → R (List PD × B.W.d)}
    (a : At B O σ H G ρ s) (p : PostF B G H (bnd (f ρ s) k) Q') (h : ∀ x G1 H1 s1, At B O σ H1 G1 ρ s1 → Gr B.W.fp G H G1 H1 → PostF B G1 H1 (k x s1) Q' → Q x H1) : rdPt B O f σ H Q := by
  refine ⟨G, ρ, s, a, ?_⟩
  cases e : f ρ s with
  | ok x =>
    obtain ⟨d, s1⟩ := x
    rw [e] at p
    exact fun G1 H1 g S => h d G1 H1 s1 (a.step g S) g (PostF.mono g p)
  | exc c => rw [e] at p; exact p
  | bad => rw [e] at p; exact p
theorem PostF.new {G H : Hp} {vs : List V} {ds : List PD} {s : B.W.d} {Q : VK} {p : Addr} (S : Sit B.W G H s) (r : DgAll G vs ds) (q : PostF B G H (.ok (ds, s)) Q) (hp : H p = none) : Q (.ref p) (upd H p (.lst vs)) := by
  refine q p vs G _ (Gr.allocH hp) (S.allocH hp) hp ?_ upd_same r
  cases z : G p with
  | none => rfl
  | some o => rw [S.sub _ _ z] at hp; cases hp
theorem df_sliceO (i : Nat) {x : Str} {lo hi : Option Expr} {fl fh : Mx B (Option Int)} {p p2 pos : Pos} (hl : DO X B O lo fl) (hh : DO X B O hi fh) (hm : i ∈ O := by decide) (hN : X.N[i]? = some x := by rfl) (hv : Vis X.env.scope x := by first | exact Or.inl rfl | exact Or.inr (Or.inl rfl) | exact Or.inr (Or.inr rfl)) (hd : (x == ("__debug__" : Str)) = false := by decide)
    (hcd : (x == ("__classdict__" : Str)) = false := by decide) : DF X B O (.Subscript (.Name x p) (.Slice lo hi none p2) pos) (fSl i fl fh) :=
  PE.imp (pe_slice sl_list (pe_var hN hv hd hcd) hl hh) fun σ H Q h => by
    obtain ⟨G, ρ, s, a, q⟩ := h
    unfold fSl at q
    rcases a.ownV i hm with z | ⟨l, vs, ds, e1, h1, h3, h4, h5, h6, h7⟩
    · split at q
      · rename_i ds e; exact absurd e (z _)
      · exact q.elim
    · rw [e1] at q
      refine ⟨.ref l, h1, ?_⟩
      refine rdPt.thenF a q fun lo G2 H2 s2 a2 g2 p2 => ?_
      refine rdPt.thenF a2 p2 fun hi G3 H3 s3 a3 g3 p3 => ?_
      exact ⟨l, vs, rfl, SqL.of (g3.h l _ h7 (g2.h l _ h7 h3)), fun q hq => p3.new a3.sit (((h4.mono g2.g).mono g3.g).cut _ _) hq⟩
/-- a + b of lists, fresh, ours -/
def fCat {d : Type} (a b : Env → d → R (PD × d)) : Env → d → R (List PD × d) := fun ρ s => bnd (a ρ s) fun x s1 => bnd (b ρ s1) fun y s2 => match x, y with
  | .list xs, .list ys => if xs.length + ys.length ≤ sizeLine then .ok (xs ++ ys, s2) else .bad
  | _, _ => .bad
theorem df_cat {a b : Expr} {fa fb : Mx B PD} {pos : Pos} (ha : DE X B O a fa) (hb : DE X B O b fb) : DF X B O (.BinOp a .Add b pos) (fCat fa fb) :=
  PE.imp (pe_op op_cat ha hb) fun σ H Q h => by
    obtain ⟨G, ρ, s, a, q⟩ := h
    refine rdE.fst a (fun G H r => PostF B G H r Q) (fun g p => p.mono g) (fun p => p) (fun p => p) q fun x G1 H1 dx s1 a1 g1 rx p1 => ?_
    refine rdE.fst a1 (fun G H r => PostF B G H r Q) (fun g p => p.mono g) (fun p => p) (fun p => p) p1 fun y G2 H2 dy s2 a2 g2 ry p2 => ?_
    split at p2
    · rename_i xs ys
      split at p2
      · rename_i hl
        obtain ⟨l, vs, rfl, gl, dl⟩ := ((rx.mono g2.g).dg (isD_tok rfl)).of_lst
        obtain ⟨m, ws, rfl, gm, dm⟩ := (ry.dg (isD_tok rfl)).of_lst
        exact ⟨l, m, vs, ws, rfl, rfl, a2.sit.sub _ _ gl, a2.sit.sub _ _ gm, by rw [dl.len, dm.len]; exact hl, fun q hq => p2.new a2.sit (dl.app dm) hq⟩
      · exact p2.elim
    · exact p2.elim
/-- e in x, e not in x, x owned: a bool comes back -/
theorem rd_opO {f : PD → PD → R PD} {r : R2} {i : Nat} {fe : Mx B PD} {σ : St} {H : Hp} {Q : VK} (hm : i ∈ O) (hb : ∀ d e r, f d e = .ok r → ∃ b, r = .bool b)
    (hr : ∀ (x : V) (l : Addr) (G H : Hp) (vs : List V) (ds : List PD) (d : PD) (b : Bool), Sub G H → Dg G x d → G l = some (.lst vs) → DgAll G vs ds → f d (.list ds) = .ok (.bool b) → ∀ Q : VK, Q (.bl b) H → r x (.ref l) H Q) (h : rdE B O (cOp f fe (cVar i)) σ H Q) : tOp r (rdE B O fe) (tVar i) σ H Q := by
  obtain ⟨G, ρ, s, a, q⟩ := h
  refine rdE.then a q fun x G1 H1 dx s1 a1 g1 rx p1 => ?_
  rcases a1.ownV i hm with z | ⟨l, vs, ds, e1, h1, h3, h4, h5, h6, h7⟩
  · rw [cVar_none z] at p1; exact p1.elim
  · rw [cVar_some e1, bnd_ok] at p1
    refine ⟨.ref l, h1, ?_⟩
    by_cases hd : isD dx = true
    · have p1 : PostE B G1 H1 (if isD dx && isD (.list ds) then lft (isOk (f dx (.list ds))) s1 else .bad) Q := p1
      rw [if_pos (by rw [hd]; rfl)] at p1
      cases ef : f dx (.list ds) with
      | bad => rw [ef] at p1; exact p1.elim
      | exc c => rw [ef] at p1; exact p1.elim
      | ok v =>
        obtain ⟨b, rfl⟩ := hb _ _ _ ef
        rw [ef] at p1
        have sg : Sub G1 (upd G1 l (.lst vs)) := sub_upd h5
        refine hr x l (upd G1 l (.lst vs)) H1 vs ds dx b (fun y o hy => ?_) ((rx.dg (isD_tok hd)).mono sg) upd_same (h4.mono sg) ef Q (PostE.done (d := .bool b) a1.sit (.inl (.bl b)) p1)
        by_cases z : y = l
        · subst z; rw [upd_same] at hy; cases hy; exact h3
        · rw [upd_ne z] at hy; exact a1.sit.sub y o hy
    · have p1 : PostE B G1 H1 (if isD dx && isD (.list ds) then lft (isOk (f dx (.list ds))) s1 else .bad) Q := p1
      rw [if_neg (by rw [Bool.and_eq_true]; exact fun z => hd z.1)] at p1
      exact p1.elim
theorem pNotIn_b (d e r : PD) (h : pNotIn d e = .ok r) : ∃ b, r = .bool b := by
  unfold pNotIn at h
  split at h
  · split at h
    · cases h; exact ⟨_, rfl⟩
    · cases h
  · cases h
theorem dt_notInO (i : Nat) {x : Str} {e : Expr} {fe : Mx B PD} {p pos : Pos} (hu : X.A.units + 65 < cLine) (he : DE X B O e fe) (hm : i ∈ O := by decide) (hN : X.N[i]? = some x := by rfl) (hv : Vis X.env.scope x := by first | exact Or.inl rfl | exact Or.inr (Or.inl rfl) | exact Or.inr (Or.inr rfl)) (hd : (x == ("__debug__" : Str)) = false := by decide)
    (hcd : (x == ("__classdict__" : Str)) = false := by decide) (hmk : behindInMarks .NotIn (.Name x p) = false := by rfl) : DT X B O (.Compare e [.NotIn] [.Name x p] pos) (cTest (cOp pNotIn fe (cVar i))) :=
  PT.imp (pt_cmpR (op_notInD hu) he (pe_var hN hv hd hcd) hmk) fun σ H Q h => by
    have h2 := rd_test h
    refine rd_opO hm pNotIn_b (fun x l G H vs ds d b sb rx gl dl ef Q q => ?_) h2
    unfold pNotIn at ef
    dsimp only at ef
    split at ef
    · rename_i hs
      rw [Bool.and_eq_true] at hs
      cases ef
      exact ⟨d, ds, rx.dp sb, (Dg.lst gl dl).dp sb, hs.1, hs.2, q⟩
    · cases ef
/-- x += list, x owned -/
def sAugL {d : Type} (i : Nat) (f : Env → d → R (PD × d)) : Env → d → R (Fl × d) := fun ρ s => match ρ[i]? with
  | some (some (.list ds)) => bnd (f ρ s) fun x s1 => match x with
    | .list es => if ds.length + es.length ≤ sizeLine then .ok (.nx (ρ.set i (some (.list (ds ++ es)))), s1) else .bad
    | _ => .bad
  | _ => .bad
theorem ds_augL (i : Nat) {x : Str} {e : Expr} {fe : Mx B PD} {pos pos' : Pos} (hN : X.N.Nodup) (he : DE X B O e fe) (hm : i ∈ O := by decide) (hi : X.N[i]? = some x := by rfl) (hx : Loc X.env.scope x := by first | exact Or.inl rfl | exact Or.inr rfl)
    (hf : X.fn x = true ∨ X.env.scope.names.lookup x = some .local := by first | exact .inl rfl | exact .inr rfl) : DS X B O O (.AugAssign (.Name x pos') .Add e pos) (sAugL i fe) :=
  PS.imp (ps_aug hN hi hx he (ti := rExt2) iop_ext hf) fun D σ H h => by
    obtain ⟨G, ρ, s, a, q⟩ := h
    unfold sAugL at q
    rcases a.ownV i hm with z | ⟨l, vs, ds, e1, h1, h3, h4, h5, h6, h7⟩
    · split at q
      · rename_i ds e; exact absurd e (z _)
      · exact q.elim
    · rw [e1] at q
      refine ⟨.ref l, h1, ?_⟩
      refine rdE.thenS a q fun w G1 H1 d s1 a1 g1 rv p1 => ?_
      cases d with
      | list es =>
        dsimp only at p1
        by_cases hc : ds.length + es.length ≤ sizeLine
        · rw [if_pos hc] at p1
          obtain ⟨m, us, rfl, gm, dm⟩ := (rv.dg (isD_tok rfl)).of_lst
          have h3' := g1.h l _ h7 h3
          have n5 : G1 l = none := by
            cases z : G1 l with
            | none => rfl
            | some o =>
              rcases g1.new l o z with y | y
              · rw [h5] at y; cases y
              · rw [h3] at y; cases y
          refine ⟨l, m, vs, us, rfl, rfl, h3', a1.sit.sub _ _ gm, by rw [h4.len, dm.len]; exact hc, ?_⟩
          have hdd := (h4.mono g1.g).app dm
          have ne : ∀ j d', j ∈ O → j ≠ i → ρ[j]? = some (some d') → σ[j]? ≠ some (some (.ref l)) := fun j d' m n ej z => n (a.rs.apart j i l d' _ m hm ej e1 z h1)
          refine p1 _ G1 _ ⟨⟨fun y o hy => ?_, a1.sit.fpG, fun y f z => ?_, B.W.keep a1.sit.rep (fun _ _ e => e) fun y o f hy => ?_⟩, ⟨a1.gr.g, fun y o n hy => ?_, fun y hy => ?_, a1.gr.new⟩, ?_⟩
          · rw [upd_ne (ne_of_none hy n5)]; exact a1.sit.sub y o hy
          · have q : y ≠ l := fun q => h7 (by rw [← q]; exact f)
            rw [upd_ne q] at z; exact a1.sit.fpH y f z
          · have q : y ≠ l := fun q => h7 (by rw [← q]; exact f)
            rw [upd_ne q]; exact hy
          · rw [upd_ne (ne_of_none hy h6)]; exact a1.gr.h y o n hy
          · by_cases z : y = l
            · subst z; exact h6
            · rw [upd_ne z] at hy; exact a1.gr.dom y hy
          · refine RS.setO' a1.rs hm upd_same hdd n5 h6 h7 (fun j d' m n ej => ne j d' m n ej) fun j d' m n ej p' hp' o hp => ?_
            have z : p' ≠ l := fun z => ne j d' m n ej (by rw [← z]; exact hp')
            rw [upd_ne z]; exact hp
        · rw [if_neg hc] at p1; exact p1.elim
      | _ => exact p1.elim

/-! ### xs.count(y) -/
def eqb (k : Bool) (v : Value) : Bool := match v with
  | .bool n => n == k
  | _ => false
theorem mt_bcount : MtR X "list.count" (fun x xs H Q => ∃ (p : Addr) (ns : List Bool) (k : Bool), x = .ref p ∧ xs = [.bl k] ∧ SqL X.K H p (ns.map V.bl) ∧ Q (.int (ns.count k : Nat)) H) := by
  intro pins s σ H x xs v us Q I rx rxs h
  obtain ⟨p, ns, k, rfl, rfl, hs, q⟩ := h
  cases rx
  obtain ⟨u, rfl, ru⟩ := rxs.one
  cases ru
  obtain ⟨its, rv, ⟨⟨cls, dd, data, sl⟩, n, ho, hc, hdn, hd⟩, hlen⟩ := I.list hs
  simp only at hc hd
  subst hc hd
  have hb : ∀ {us : List Value} {ns : List Bool}, Vals (ns.map V.bl) us → us = ns.map Value.bool := by
    intro us ns
    induction ns generalizing us with
    | nil => intro h; cases h; rfl
    | cons b bs ih =>
      intro h
      cases h with
      | cons r t => rw [show _ = Value.bool b from r, ih t]; rfl
  have hi := hb rv
  refine call_meets PySem.F.slot_list_count ⟨_, ho, rfl⟩ PySem.F.entry_list_count (PySem.F.args_list_count_2 _ _)
    (SeqAt.list_countAt p its.toArray n dd sl (.bool k) (eqb k)) ⟨ho, fun y hy => ?_, ?_⟩
  · rw [hi] at hy
    simp only [List.mem_toArray, List.mem_map] at hy
    obtain ⟨b, _, rfl⟩ := hy
    exact SeqAt.EqAt.bool_bool b k
  · have ec : its.toArray.toList.countP (eqb k) = ns.count k := by
      rw [hi]
      show (ns.map Value.bool).countP (eqb k) = ns.count k
      rw [List.countP_map, List.count]
      rfl
    refine ⟨.int (ns.count k : Nat), H, I.tok _, ⟨s.toks, ?_⟩, q⟩
    show Value.int ((its.toArray.toList.countP (eqb k) : Nat) : Int) s.toks = Value.int ((ns.count k : Nat) : Int) s.toks
    rw [ec]
/-- a method of a list, one argument, nothing changed -/
def rdM (f : PD → PD → R PD) : V → List V → Hp → VK → Prop := fun x xs H Q => ∃ y, xs = [y] ∧ rdO f x y H Q
theorem MtR.by {id : String} {r' : V → List V → Hp → VK → Prop} (h : ∀ x vs H Q, r' x vs H Q → ∃ r, MtR X id r ∧ r x vs H Q) : MtR X id r' := fun pins s σ H x xs v us Q I rx rxs q => by
  obtain ⟨r, hr, q'⟩ := h x xs H Q q
  exact hr pins s σ H x xs v us Q I rx rxs q'
def pCount : PD → PD → R PD
  | .list xs, .bool k => match toBools xs with
    | some bs => .ok (.int (bs.count k : Nat))
    | none => .bad
  | .list xs, .int k => match toInts xs with
    | some bs => .ok (.int (bs.count k : Nat))
    | none => .bad
  | _, _ => .bad
theorem dm_count : MtR X "list.count" (rdM pCount) := by
  refine MtR.by fun x vs H Q h => ?_
  obtain ⟨y, rfl, G, d, e, sb, rx, ry, p⟩ := h
  unfold pCount at p
  split at p
  · obtain ⟨a, us, rfl, ga, da⟩ := rx.of_lst
    split at p
    · rename_i bs e
      rw [toBools_eq e] at da
      have e2 := da.bools
      subst e2
      exact ⟨_, mt_bcount, _, bs, _, rfl, by rw [ry.of_bl], SqL.of (sb _ _ ga), p.val sb (.int _)⟩
    · exact p.elim
  · obtain ⟨a, us, rfl, ga, da⟩ := rx.of_lst
    split at p
    · rename_i bs e
      rw [toInts_eq e] at da
      have e2 := da.ints
      subst e2
      exact ⟨_, mt_lcount, _, bs, _, rfl, by rw [ry.of_int], SqL.of (sb _ _ ga), p.val sb (.int _)⟩
    · exact p.elim
  · exact p.elim
/-- o.m(e) of a list -/
def isL : PD → Bool
  | .list _ => true
  | _ => false
def cMeth {d : Type} (f : PD → PD → R PD) (a b : Env → d → R (PD × d)) : Env → d → R (PD × d) := fun ρ s => bnd (a ρ s) fun x s1 => if isL x then bnd (b ρ s1) fun y s2 => if isD y then lft (isOk (f x y)) s2 else .bad else .bad
theorem de_meth {name : Str} {id : String} {f : PD → PD → R PD} {o e : Expr} {fo fe : Mx B PD} {apos cpos : Pos} (slot : Slot "list" name id) (hty : typeOf (.builtin id) = pure (.type "method_descriptor")) (hmt : MtR X id (rdM f)) (ho : DE X B O o fo) (he : DE X B O e fe)
    (hbase : attributeBase o name X.env (eval o X.env) = eval o X.env := by rfl) (hline : (apos.endLine == cpos.line) = true := by rfl) (hst : starEach [e] X.env = (false, eval e X.env) :: starEach [] X.env := by rfl)
    (hfew : ((backTo cpos (starEach [e] X.env)).all (fun x => !x.1) && (backToKw cpos (keywordEach [] X.env)).all (fun x => x.1.isSome) && decide ([e].length + ([] : List Keyword).length + (if ([] : List Keyword).isEmpty then 0 else 1) < 30)) = true := by rfl)
    (hpl : (backTo cpos (starEach [] X.env)).any (·.1) = false := by rfl) : DE X B O (.Call (.Attribute o name apos) [e] [] cpos) (cMeth f fo fe) :=
  PE.imp (pe_bm PySem.F.plainAttrs_list slot hty hmt ho (pa_cons he pa_nil hst) hbase hfew hline hst hpl) fun σ H Q h => by
    obtain ⟨G, ρ, s, a, q⟩ := h
    refine rdE.then a q fun x G1 H1 dx s1 a1 g1 rx p1 => ?_
    cases dx with
    | list ds =>
      obtain ⟨l, vs, rfl, gl, dl⟩ := (rx.dg (isD_tok rfl)).of_lst
      refine ⟨.inl ⟨rfl, vs, SqL.of (a1.sit.sub _ _ gl)⟩, ?_⟩
      have p1 : PostE B G1 H1 (bnd (fe ρ s1) fun y s2 => if isD y then lft (isOk (f (.list ds) y)) s2 else .bad) Q := p1
      refine rdE.then a1 p1 fun y G2 H2 dy s2 a2 g2 ry p2 => ?_
      by_cases hd : isD dy = true
      · rw [if_pos hd] at p2
        exact ⟨y, rfl, G2, .list ds, dy, a2.sit.sub, (rx.mono g2.g).dg (isD_tok rfl), ry.dg (isD_tok hd), (PostD.of a2.sit p2 (isOk_nx _)).isOk⟩
      · rw [if_neg hd] at p2; exact p2.elim
    | _ => exact p1.elim
end

theorem room65 {k : Nat} {A : Around} (r : Room k A) : A.units + 65 < cLine := by have := r.un; omega
/-- fuel for while loops -/
def fuInt (i : Nat) (ρ : Env) : Nat := match ρ[i]? with
  | some (some (.int n)) => n.natAbs + 2
  | _ => 0
def fuLen (i : Nat) (ρ : Env) : Nat := match ρ[i]? with
  | some (some (.list xs)) => xs.length + 2
  | _ => 0
/-! ### draws: [numbers, counter] -/
abbrev Dr := List Int × Int
def Wdr (cls : Nat → Addr) (da db : Addr) : Wd where
  d := Dr
  fp := fun a => a = da ∨ a = db
  rep := fun s _ H => da ≠ db ∧ H da = some (.lst [.ref db, .int s.2]) ∧ H db = some (.lst (s.1.map V.int))
  tk := fun _ => .ref da
  cls := cls
  keep := fun h _ k => ⟨h.1, k _ _ (.inl rfl) h.2.1, k _ _ (.inr rfl) h.2.2⟩
/-- the promise of a def that draws -/
def spD (cls : Nat → Addr) (n : Nat) (m : List PD → Dr → R (PD × Dr)) : Sp := fun vs H Q _ => ∃ (da db : Addr) (G : Hp) (ds : List PD) (s : Dr), Sit (Wdr cls da db) G H s ∧ RpAll (Wdr cls da db).tk G vs ds ∧ ds.length = n ∧ PostE ⟨Wdr cls da db, G, H, E0⟩ G H (m ds s) Q
structure FnD (P : Program) (w : World) (K : PySem.W.Frag) (mg : Str → Option Value) (base : Heap) (cls : Nat → Addr) (k : Nat) (x : Str) (n : Nat) (m : List PD → Dr → R (PD × Dr)) : Prop where
  ex : ∃ f fd ps, FnOk P w K mg base (L2.CX P w) k f fd ps (spD cls n m) ∧ mg x = some (.ref f) ∧ PySem.W.keepIn K (.ref f) = true ∧ Binds K fd ps []
theorem FnD.mono {P : Program} {w : World} {K : PySem.W.Frag} {mg : Str → Option Value} {base : Heap} {cls : Nat → Addr} {k j : Nat} {x : Str} {n : Nat} {m : List PD → Dr → R (PD × Dr)} (F : FnD P w K mg base cls k x n m) (h : k ≤ j) : FnD P w K mg base cls j x n m := by
  obtain ⟨f, fd, ps, h1, h2⟩ := F.ex
  exact ⟨f, fd, ps, h1.mono h, h2⟩
theorem FnD.congr {P : Program} {w : World} {K : PySem.W.Frag} {mg : Str → Option Value} {base : Heap} {cls : Nat → Addr} {k : Nat} {x : Str} {n : Nat} {m m' : List PD → Dr → R (PD × Dr)} (F : FnD P w K mg base cls k x n m) (h : ∀ ds s, ds.length = n → m' ds s = .bad ∨ m ds s = m' ds s) : FnD P w K mg base cls k x n m' := by
  obtain ⟨f, fd, ps, h1, h2⟩ := F.ex
  refine ⟨f, fd, ps, h1.imp fun vs H Q E q => ?_, h2⟩
  obtain ⟨da, db, G, ds, s, a, b, c, p⟩ := q
  refine ⟨da, db, G, ds, s, a, b, c, ?_⟩
  rcases h ds s c with z | z
  · rw [z] at p; exact p.elim
  · rw [z]; exact p
def noX' {a : Type} (r : R a) : R a := match r with
  | .ok x => .ok x
  | _ => .bad
def cCallD (n : Nat) (m : List PD → Dr → R (PD × Dr)) (a : Env → Dr → R (List PD × Dr)) : Env → Dr → R (PD × Dr) := fun ρ s => bnd (a ρ s) fun ds s1 => if ds.length = n then noX' (m ds s1) else .bad
section
variable {X : Cx} {O O' : List Nat} {cls : Nat → Addr} {da db : Addr} {G0 H0 : Hp} {E : XK}
theorem de_callD {k : Nat} {x : Str} {n : Nat} {m : List PD → Dr → R (PD × Dr)} {e : Expr} {es : List Expr} {fa : Env → Dr → R (List PD × Dr)} {p pos : Pos} (F : FnD X.prog X.w X.K X.mg X.base cls k x n m) (hr : Room k X.A) (ha : DA X ⟨Wdr cls da db, G0, H0, E⟩ O (e :: es) fa) (hg : Gl X x := by rfl)
    (hdb : (x == ("__debug__" : Str)) = false := by decide) (he : starEach (e :: es) X.env = (false, eval e X.env) :: starEach es X.env := by rfl) (hpl : (backTo pos (starEach es X.env)).any (·.1) = false := by rfl) : DE X ⟨Wdr cls da db, G0, H0, E⟩ O (.Call (.Name x p) (e :: es) [] pos) (cCallD n m fa) := by
  obtain ⟨f, fd, ps, hF, hm, hk, hb⟩ := F.ex
  refine PE.imp (pe_call hF hr hg hm hk hb .nil passL ha hdb he hpl) fun σ H Q h => ?_
  obtain ⟨G, ρ, s, a, p⟩ := h
  refine rdA.then a p fun vs G1 H1 ds s1 a1 g1 rv p1 => ?_
  by_cases hl : ds.length = n
  · rw [if_pos hl] at p1
    rw [List.append_nil]
    refine ⟨da, db, G1, ds, s1, a1.sit, rv, hl, ?_⟩
    cases e : m ds s1 with
    | ok y => rw [e] at p1; exact p1
    | exc c => rw [e] at p1; exact p1.elim
    | bad => rw [e] at p1; exact p1.elim
  · rw [if_neg hl] at p1; exact p1.elim
end
def outD (r : R (Fl × Dr)) : R (PD × Dr) := match r with
  | .ok (.rt d, s) => .ok (d, s)
  | .ok (.nx _, s) => .ok (.none, s)
  | _ => .bad
def mBodyD (n : Nat) (f : Env → Dr → R (Fl × Dr)) : List PD → Dr → R (PD × Dr) := fun ds s => outD (f (ds.map some ++ List.replicate n none) s)
section
variable {P : Program} {w : World} {K : PySem.W.Frag} {mg : Str → Option Value} {base : Heap} {x qual : Str} {params : Arguments} {body : List Stmt} {scope : Scope} {f : Addr} {fd : FuncData} {cls : Nat → Addr}
/-- A DEF THAT DRAWS, by its body -/
theorem fn_draw {N ps : List Str} {k n : Nat} {fb : Env → Dr → R (Fl × Dr)} (F : FunD K x qual params body scope [] [] f fd) (S : FnScope N ps scope) (hm : mg x = some (.ref f)) (hn : ps.length = n) (hb : Binds K fd ps [])
    (hbody : ∀ (cdv : Value) (A : Around) (outer : List PySem.Env) (s : Shared) (H : Hp) (E : XK) (da db : Addr) (G : Hp), Room k (A.deeper (envOfC qual scope s.heap.objs.size f cdv)) →
      DSs (cxOf (L2.CX P w) P w K mg base N qual scope f cdv A outer s H E) ⟨Wdr cls da db, G, H, E0⟩ [] [] body fb) : FnD P w K mg base cls (k + 1) x n (mBodyD (N.length - n) fb) := by
  refine ⟨f, fd, ps, F.ok S (fun vs H Q E h => ?_) (fun cdv A outer s H vs Q E hr h => ?_), hm, F.kp, hb⟩
  · obtain ⟨da, db, G, ds, s, _, r, hl, _⟩ := h
    rw [r.len, hl, hn]
  · obtain ⟨da, db, G, ds, st, sit, r, hl, p⟩ := h
    refine ⟨_, hbody cdv A outer s H E da db G hr, G, startD N ds, st, ⟨sit, .refl, r.begin_ N⟩, ?_⟩
    unfold mBodyD at p
    have e0 : startD N ds = ds.map some ++ List.replicate (N.length - n) none := by unfold startD; rw [hl]
    rw [e0]
    revert p
    generalize fb (ds.map some ++ List.replicate (N.length - n) none) st = r'
    intro p
    cases r' with
    | bad => exact p.elim
    | exc c => exact p.elim
    | ok y =>
      obtain ⟨fl, u⟩ := y
      cases fl with
      | nx ρ => exact fun σ' G' H' a => p .non G' H' a.gr a.sit (.inl .non)
      | rt d => exact fun v G' H' g st rv => p v G' H' g st rv
      | bk ρ => exact p.elim
      | ct ρ => exact p.elim
end
end DL

/-! DLA: sorted(set(..)) of ints -/
namespace DL
open PySem PySem.Spec PyProof.Rows L2
/-- the set as it is made -/
abbrev newSet (w : World) : Obj := { cls := .type "set", dict := none, data := .set #[] 0 (.fresh 0 0 (!w.params.followText "set-order")) }
section
variable {P : Program} {w : World} {A : Around} {E : Value → Shared → Prop} {s : Shared}
theorem set_of_list {l : Addr} {items : Array Value} (ns : List Int) {Q : Value → Shared → Prop} (hh : A.handled = none) (hl : s.heap.IsList l items) (hit : IntsAre items.toList ns) (hb : ns.length + 1 < scanBound)
    (h : ∀ (h' : Heap) (tk c : Nat), SetR w h' s.heap.objs.size (fun j => decide (j ∈ ns)) c → c ≤ ns.length → (∀ b o, s.heap.get? b = some o → h'.get? b = some o) → Q (.ref s.heap.objs.size) { s with heap := h', toks := tk }) :
    wpAny (model P w) A (call (.type "set") [.ref l]) Q E s := by
  have isz : items.size = ns.length := (Array.length_toList (xs := items)).symm.trans (IntsAre.length hit)
  obtain ⟨c, tl, hmro⟩ := F.called_set.mro
  have hmade := F.called_set.made
  have hsub := F.called_set.sub
  refine wpAny_call (codeAny_of_tree ?_)
  show wpAny _ _ (callAny (.type "set") _) _ _ _
  refine wpAny_pure ⟨Code.quiet_builtin _ (by decide +kernel), codeAny_builtin F.entry_type_call ?_⟩
  rw [Around.under_plain (weight_type_call_type "set" [.ref l] []) rfl]
  have h1 := F.called_set.notType
  have h2 := F.called_set.canCreate
  have hct := F.typeCall_set_1 (.ref l)
  repeat (any_goals (first | assumption | wp_step))
  refine codeAny_mono (code_set_led1 (.ref l) (E := E) (Q₁ := fun obj s₁ => obj = .ref s.heap.objs.size ∧ s₁ = { s with heap := s.heap.push (newSet w) }) ⟨rfl, rfl⟩) fun r s₁ hr => ?_
  cases r with
  | error e => exact hr
  | ok fl =>
    cases fl with
    | ret obj =>
      obtain ⟨rfl, rfl⟩ := hr
      have gS : (s.heap.push (newSet w)).get? s.heap.objs.size = some (newSet w) := Heap.get?_push_size _ rfl
      have tS : Shared.TypeIs { s with heap := s.heap.push (newSet w) } (.ref s.heap.objs.size) "set" := ⟨_, gS, rfl⟩
      have hli := F.called_set.init.lookup
      have hbi := F.called_set.init.bind (.ref s.heap.objs.size)
      repeat (any_goals (first | assumption | wp_step))
      refine codeAny_mono (codeAny_call_builtin (R := wants (fun r s₂ => r = .none ∧ ∃ h' tk c, s₂ = { s with heap := h', toks := tk } ∧ SetR w h' s.heap.objs.size (fun j => decide (j ∈ ns)) c ∧ c ≤ ns.length ∧ (∀ b o, s.heap.get? b = some o → h'.get? b = some o)) E) F.called_set.init.plain F.entry_set_init (check_set_init_1 tS ?_)) fun r₂ s₂ hr₂ => ?_
      · obtain ⟨⟨oc, od, odt, os⟩, gl, rfl, nl, rfl⟩ := hl
        have gl' : (s.heap.push (newSet w)).get? l = some { cls := .type "list", dict := od, data := .seq items nl, slots := os } := Heap.get?_push_of_some _ gl
        have hsls := F.sub_list_set
        have hslf := F.sub_list_frozenset
        have hne : (Value.type "list" == Value.type "dict") = false := by decide
        have hl1 : (s.heap.push (newSet w)).IsList l items := ⟨_, gl', rfl, nl, rfl⟩
        unfold Builtin.«set.__init__» noKeywords Builtin.Frozenset.updateFrom
        generalize hPI : pyIter = PI
        wp_walk
        subst hPI
        refine wpAny_pyIter_list hl1 (wpAny_bind (wpAny_runValue ?_))
        have lS : l < s.heap.objs.size := Heap.lt_size gl
        have h3 : A.in1.in1.in1.handled = none := by simp [hh]
        have zS : (s.heap.push (newSet w)).objs.size = s.heap.objs.size + 1 := Heap.size_push ..
        have nI : l ≠ (s.heap.push (newSet w)).objs.size := by rw [zS]; exact Nat.ne_of_lt (Nat.lt_succ_of_lt lS)
        have nf : s.heap.objs.size ∉ [(s.heap.push (newSet w)).objs.size, l] := by
          rw [zS]
          simp only [List.mem_cons, List.not_mem_nil, or_false, not_or]
          exact ⟨Nat.ne_of_lt (Nat.lt_succ_self _), Nat.ne_of_gt lS⟩
        have vl : ∀ (i : Nat) (v : Value), items[i]? = some v → ∃ k t, ns[i]? = some k ∧ v = .int k t := fun i v hv => by
          have hi : i < ns.length := isz ▸ (Array.getElem?_eq_some_iff.mp hv).1
          obtain ⟨t, e⟩ := PyProof.Rows.IntsAre.int_at hit i v ((Array.getElem?_toList ..).trans hv)
          refine ⟨ns[i], t, List.getElem?_eq_getElem hi, e.trans ?_⟩
          rw [List.getD_eq_getElem?_getD, List.getElem?_eq_getElem hi]; rfl
        refine set_update_ints ((Walks.list h3 _ l nI items).toS) s.heap.objs.size nf ns isz hb vl (items.size - 0) 0 _ (by omega) (Nat.zero_le _) ⟨⟨_, Heap.get?_push_size _ rfl, rfl, rfl⟩, (hl1.push _)⟩ ⟨0, Nat.le_refl 0, setR_new_at (Heap.get?_push_of_some _ gS)⟩ ?_
        intro s' c' hm hc' hS'
        obtain ⟨h', g2, d', tk', os'⟩ := s'
        obtain rfl : g2 = s.gens := hm.gens
        obtain rfl : d' = s.drawn := hm.drawn
        obtain rfl : os' = s.os := hm.os
        refine wpAny_pure (wpAny_pure ⟨rfl, h', tk', c', rfl, hS', isz ▸ hc', fun b o e => ?_⟩)
        have b0 : b < s.heap.objs.size := Heap.lt_size e
        refine hm.heap b o ?_ (Heap.get?_push_of_some _ (Heap.get?_push_of_some _ e))
        simp only [List.mem_cons, List.not_mem_nil, or_false, not_or]
        exact ⟨Nat.ne_of_lt b0, by rw [zS]; exact Nat.ne_of_lt (Nat.lt_succ_of_lt b0)⟩
      · cases r₂ with
        | error e => exact hr₂
        | ok fl₂ =>
          cases fl₂ with
          | ret r =>
            obtain ⟨rfl, h', tk, c', rfl, hS', hc', hk'⟩ := hr₂
            repeat (any_goals (first | assumption | wp_step))
            exact h _ _ _ hS' hc' hk'
          | _ => exact hr₂.elim
    | _ => exact hr.elim
end
section
variable {X : Cx} {B : Bs} {O : List Nat}
theorem cr_setL (hc : X.calm = true) : CallR X (.type "set") (fun vs H Q => ∃ (a : Addr) (ns : List Int), vs = [V.ref a] ∧ SqL X.K H a (ns.map V.int) ∧ ns.length < 4000 ∧ ∀ (p : Addr) (c : Nat), c ≤ ns.length → H p = none → Q (.ref p) (upd H p (SetO X.w p (fun j => decide (j ∈ ns)) c))) := by
  intro pins s σ H vs us Q I r h
  obtain ⟨a, ns, rfl, hs, hl, q⟩ := h
  obtain ⟨its, rv, pl, hz⟩ := I.list hs
  rw [Vals.ref1 r]
  have hi : IntsAre its.toArray.toList ns := ints_of_vals rv
  refine set_of_list ns (I.ok.hd hc) pl.isList hi (by unfold scanBound; omega) fun h' tk c R1 hcn k => ?_
  exact ⟨.ref _, upd H s.heap.objs.size (SetO X.w s.heap.objs.size (fun j => decide (j ∈ ns)) c), I.laid (t' := tk) k (Nat.le_refl _) (setO_new R1), rfl, q _ c hcn (I.hok.fresh (Nat.le_refl _))⟩
/-- sorted(set(xs)), ints -/
def insU (k : Int) : List Int → List Int
  | [] => [k]
  | x :: r => if k < x then k :: x :: r else if k = x then x :: r else x :: insU k r
def sortU : List Int → List Int
  | [] => []
  | x :: r => insU x (sortU r)
theorem mem_insU {k j : Int} : ∀ {l : List Int}, j ∈ insU k l ↔ j = k ∨ j ∈ l
  | [] => by simp [insU]
  | x :: r => by
    unfold insU
    split
    · simp
    · split
      · rename_i h1 h2
        subst h2
        simp
      · simp only [List.mem_cons, mem_insU (l := r)]
        constructor
        · rintro (h | h | h)
          · exact .inr (.inl h)
          · exact .inl h
          · exact .inr (.inr h)
        · rintro (h | h | h)
          · exact .inr (.inl h)
          · exact .inl h
          · exact .inr (.inr h)
theorem mem_sortU {j : Int} : ∀ {l : List Int}, j ∈ sortU l ↔ j ∈ l
  | [] => by simp [sortU]
  | x :: r => by
    unfold sortU
    rw [mem_insU, mem_sortU (l := r), List.mem_cons]
theorem lt_insU {k : Int} : ∀ {l : List Int}, l.Pairwise (· < ·) → (insU k l).Pairwise (· < ·)
  | [], _ => by simp [insU]
  | x :: r, h => by
    have h' := List.pairwise_cons.mp h
    unfold insU
    split
    · rename_i hk
      refine List.pairwise_cons.mpr ⟨fun y hy => ?_, h⟩
      rcases List.mem_cons.mp hy with z | z
      · rw [z]; exact hk
      · exact Int.lt_trans hk (h'.1 y z)
    · split
      · exact h
      · refine List.pairwise_cons.mpr ⟨fun y hy => ?_, lt_insU h'.2⟩
        rcases mem_insU.mp hy with z | z
        · rw [z]; omega
        · exact h'.1 y z
theorem lt_sortU : ∀ {l : List Int}, (sortU l).Pairwise (· < ·)
  | [] => .nil
  | x :: r => lt_insU lt_sortU
theorem sorted_eq : ∀ {l m : List Int}, l.Pairwise (· < ·) → m.Pairwise (· < ·) → (∀ k, k ∈ l ↔ k ∈ m) → l = m
  | [], [], _, _, _ => rfl
  | [], y :: m, _, _, h => by have := (h y).mpr (by simp); simp at this
  | x :: l, [], _, _, h => by have := (h x).mp (by simp); simp at this
  | x :: l, y :: m, h1, h2, h => by
    have p1 := List.pairwise_cons.mp h1
    have p2 := List.pairwise_cons.mp h2
    have e : x = y := by
      rcases List.mem_cons.mp ((h x).mp (by simp)) with z | z
      · exact z
      · rcases List.mem_cons.mp ((h y).mpr (by simp)) with w | w
        · exact w.symm
        · have := p2.1 x z
          have := p1.1 y w
          omega
    subst e
    congr 1
    refine sorted_eq p1.2 p2.2 fun k => ⟨fun hk => ?_, fun hk => ?_⟩
    · rcases List.mem_cons.mp ((h k).mp (List.mem_cons_of_mem _ hk)) with z | z
      · have := p1.1 k hk; omega
      · exact z
    · rcases List.mem_cons.mp ((h k).mpr (List.mem_cons_of_mem _ hk)) with z | z
      · have := p2.1 k hk; omega
      · exact z
def pSortSet : PD → R PD
  | .list xs => match toInts xs with
    | some ns => if ns.length < 64 then .ok (.list ((sortU ns).map PyData.int)) else .bad
    | none => .bad
  | _ => .bad
theorem de_sortSet {e : Expr} {fe : Mx B PD} {p p2 q pos : Pos} (hm1 : X.mg "sorted" = none) (hm2 : X.mg "set" = none) (he : DE X B O e fe) (hc : X.calm = true := by rfl) (hg1 : Gl X "sorted" := by rfl) (hg2 : Gl X "set" := by rfl)
    (s1 : starEach [e] X.env = (false, eval e X.env) :: starEach [] X.env := by rfl) (s2 : starEach [.Call (.Name "set" p2) [e] [] q] X.env = (false, eval (.Call (.Name "set" p2) [e] [] q) X.env) :: starEach [] X.env := by rfl)
    (l1 : (backTo q (starEach [] X.env)).any (·.1) = false := by rfl) (l2 : (backTo pos (starEach [] X.env)).any (·.1) = false := by rfl) : DE X B O (.Call (.Name "sorted" p) [.Call (.Name "set" p2) [e] [] q] [] pos) (cUn pSortSet fe) :=
  PE.imp (pe_callB (cr_sortedSet hc) hg1 hm1 (by decide +kernel) (pa_cons (pe_callTy (cr_setL hc) hg2 hm2 (by decide +kernel) (pa_cons he pa_nil s1) (by decide) (by decide) s1 l1) pa_nil s2) (by decide) (by decide) s2 l2) fun σ H Q h => by
    obtain ⟨G, ρ, s, a, p⟩ := h
    refine rdE.then a p fun x G1 H1 dx s1 a1 g1 rx p1 => ?_
    by_cases hd : isD dx = true
    · rw [if_pos hd] at p1
      unfold pSortSet at p1
      split at p1
      · rename_i xs
        split at p1
        · rename_i ns en
          split at p1
          · rename_i hl
            obtain ⟨l, vs, rfl, gl, dl⟩ := (rx.dg (isD_tok rfl)).of_lst
            rw [toInts_eq en] at dl
            have e2 := dl.ints
            subst e2
            refine ⟨l, ns, rfl, SqL.of (a1.sit.sub _ _ gl), by omega, fun p c hcn hp => ?_⟩
            refine ⟨p, _, c, rfl, upd_same, by omega, fun ms q hlt hmem hlen hq => ?_⟩
            have ems : ms = sortU ns := sorted_eq hlt lt_sortU fun k => by
              rw [hmem k, mem_sortU, decide_eq_true_eq]
            subst ems
            -- the set is an object of its own that the ghost heap does not know
            have S2 := a1.sit.allocH (o := SetO X.w p (fun j => decide (j ∈ ns)) c) hp
            have g2 := Gr.allocH (fp := B.W.fp) (G := G1) (o := SetO X.w p (fun j => decide (j ∈ ns)) c) hp
            exact PostE.lst (ds := (sortU ns).map PyData.int) S2 (DgAll.of_ints _) (PostE.mono g2 p1) hq
          · exact p1.elim
        · exact p1.elim
      · exact p1.elim
    · rw [if_neg hd] at p1; exact p1.elim
/-- sorted(xs), ints -/
def insS (k : Int) : List Int → List Int
  | [] => [k]
  | x :: r => if k ≤ x then k :: x :: r else x :: insS k r
def sortS : List Int → List Int
  | [] => []
  | x :: r => insS x (sortS r)
theorem perm_insS {k : Int} : ∀ {l : List Int}, (insS k l).Perm (k :: l)
  | [] => .refl _
  | x :: r => by
    unfold insS
    split
    · exact .refl _
    · exact ((perm_insS (l := r)).cons x).trans (List.Perm.swap k x r)
theorem perm_sortS : ∀ {l : List Int}, (sortS l).Perm l
  | [] => .refl _
  | x :: r => by
    unfold sortS
    exact perm_insS.trans (perm_sortS.cons x)
theorem le_insS {k : Int} : ∀ {l : List Int}, l.Pairwise (· ≤ ·) → (insS k l).Pairwise (· ≤ ·)
  | [], _ => by simp [insS]
  | x :: r, h => by
    have h' := List.pairwise_cons.mp h
    unfold insS
    split
    · rename_i hk
      refine List.pairwise_cons.mpr ⟨fun y hy => ?_, h⟩
      rcases List.mem_cons.mp hy with z | z
      · rw [z]; exact hk
      · exact Int.le_trans hk (h'.1 y z)
    · refine List.pairwise_cons.mpr ⟨fun y hy => ?_, le_insS h'.2⟩
      rcases List.mem_cons.mp (perm_insS.mem_iff.mp hy) with z | z
      · rw [z]; omega
      · exact h'.1 y z
theorem le_sortS : ∀ {l : List Int}, (sortS l).Pairwise (· ≤ ·)
  | [] => .nil
  | x :: r => le_insS le_sortS
theorem perm_sorted_eq : ∀ {l m : List Int}, l.Perm m → l.Pairwise (· ≤ ·) → m.Pairwise (· ≤ ·) → l = m := fun h a b => List.Perm.eq_of_pairwise (fun x y _ _ h1 h2 => Int.le_antisymm h1 h2) a b h
def pSorted : List PD → R PD
  | [.list xs] => match toInts xs with
    | some ns => .ok (.list ((sortS ns).map PyData.int))
    | none => .bad
  | _ => .bad
theorem dc_sorted : CallR X (.builtin "sorted") (rdC pSorted) := by
  refine CallR.by fun vs H Q h => ?_
  obtain ⟨G, ds, sb, rs, p⟩ := h
  unfold pSorted at p
  split at p
  · obtain ⟨v, rfl, rv⟩ := rs.one
    obtain ⟨a, xs, rfl, ga, da⟩ := rv.of_lst
    split at p
    · rename_i ns e
      rw [toInts_eq e] at da
      have e2 := da.ints
      subst e2
      refine ⟨_, cr_sortedI, _, ns, rfl, SqL.of (sb _ _ ga), fun ms q hp hs hq => ?_⟩
      have em : ms = sortS ns := perm_sorted_eq (hp.trans perm_sortS.symm) hs le_sortS
      subst em
      exact p.lst sb (DgAll.of_ints _) hq
    · exact p.elim
  · exact p.elim
end
end DL

/-! DLB: what every def's derivation wants -/
namespace DL
open PySem PySem.Spec PyProof.Rows L2
structure Free (mg : Str → Option Value) : Prop where
  len_ : mg "len" = none
  isinstance_ : mg "isinstance" = none
  all_ : mg "all" = none
  sum_ : mg "sum" = none
  sorted_ : mg "sorted" = none
  set_ : mg "set" = none
  max_ : mg "max" = none
  min_ : mg "min" = none
  range_ : mg "range" = none
  zip_ : mg "zip" = none
  enumerate_ : mg "enumerate" = none
  list_ : mg "list" = none
  tuple_ : mg "tuple" = none
  abs_ : mg "abs" = none
  str_ : mg "str" = none
  int_ : mg "int" = none
  bool_ : mg "bool" = none
structure ExcF (K : PySem.W.Frag) (mg : Str → Option Value) (cls : Nat → Addr) (c : Nat) (x : Str) : Prop where
  exc : PySem.W.excIn K (cls c) [.type "ValueError", .type "Exception", .type "BaseException", .type "object"] "ValueError.__new__" = true
  glob : mg x = some (.ref (cls c))
  keep : PySem.W.keepIn K (.ref (cls c)) = true
  sub : PySem.W.subIn K (.ref (cls c)) (.type "BaseException") = some true
  typ : PySem.W.typeIn K (.ref (cls c)) = some (.type "type")
theorem ExcF.c {X : Cx} {B : Bs} {c : Nat} {x : Str} (h : ExcF X.K X.mg B.W.cls c x) : ExcC X B c x := ⟨h.exc, h.glob, h.keep, raises_own h.sub h.typ⟩
section
variable {CX : CXT} {P : Program} {w : World} {K : PySem.W.Frag} {mg : Str → Option Value} {base : Heap} {N : List Str} {qual : Str} {scope : Scope} {f : Addr} {cd : Value} {A : Around} {outer : List PySem.Env} {s : Shared} {H : Hp} {E : XK}
theorem takesE_of : Takes (cxOf (L2.CX P w) P w K mg base N qual scope f cd A outer s H E) (fun cls d _ H => E cls d H) := takes_of rfl rfl rfl rfl
theorem passesE_of {X : Cx} {E : XK} (tk : Takes X (fun cls d _ H => E cls d H)) : Passes (L2.CX X.prog X.w) X E := passes_call tk fun _ _ _ _ h => h
theorem passesO_of : PassesOwn (model P w) (cxOf CX P w K mg base N qual scope f cd A outer s H E).A (cxOf CX P w K mg base N qual scope f cd A outer s H E).env (cxOf CX P w K mg base N qual scope f cd A outer s H E).xe := passes_of (X := cxOf CX P w K mg base N qual scope f cd A outer s H E) rfl
end
end DL

/-! DLC: the draws: plain functions -/
namespace DL
open PySem PySem.Spec PyProof.Rows L2
def hashD (cell c lim : Int) : Int := (((cell + 104729 * c) % 4294967291) ^ 5 % 4294967279 / 64 * 69621 + ((cell + 104729 * c) % 4294967291) ^ 5 % 4294967279) % 4294967231 / 8 % lim
def drawM (lim : Int) (s : Dr) : Int × Dr :=
  let c := s.2 + 1
  let i := (c % (s.1.length : Int)).toNat
  let cell := s.1.getD i 0
  if 1000000000000000000 ≤ cell then (cell % lim, (s.1.set i (cell / lim), c)) else (hashD cell c lim, (s.1, c))
def m__law_draw : List PD → Dr → R (PD × Dr) := fun ds s => match ds with
  | [.dict _, .int lim] => if 0 < lim ∧ lim < 1073741824 ∧ 0 < s.1.length then .ok (.int (drawM lim s).1, (drawM lim s).2) else .bad
  | _ => .bad
theorem drawM_range {lim : Int} (h : 0 < lim) (s : Dr) : 0 ≤ (drawM lim s).1 ∧ (drawM lim s).1 < lim := by
  unfold drawM
  dsimp only
  split
  · exact ⟨Int.emod_nonneg _ (by omega), Int.emod_lt_of_pos _ h⟩
  · unfold hashD
    exact ⟨Int.emod_nonneg _ (by omega), Int.emod_lt_of_pos _ h⟩
theorem drawM_len (lim : Int) (s : Dr) : (drawM lim s).2.1.length = s.1.length := by
  unfold drawM
  dsimp only
  split
  · rw [List.length_set]
  · rfl
theorem pd_tok {tk : Nat → V} {G : Hp} {v : V} {x : List (PD × PD)} (h : Rp tk G v (.dict x)) : ∃ n, v = tk n := by
  rcases h with h | ⟨n, _, e⟩
  · cases h
  · exact ⟨n, e⟩
/-- behind a draw: the two draws' objects are other ones, all else stays -/
theorem draw_post {cls : Nat → Addr} {da db : Addr} {G H H' : Hp} {s s' : Dr} {d : PD} {v : V} {Q : VK} (S : Sit (Wdr cls da db) G H s) (h1 : ∀ a, a ≠ da → a ≠ db → H' a = H a) (h2 : H' da = some (.lst [.ref db, .int s'.2])) (h3 : H' db = some (.lst (s'.1.map V.int)))
    (p : PostE ⟨Wdr cls da db, G, H, E0⟩ G H (.ok (d, s')) Q) (r : Dg G v d) : Q v H' := by
  have nd : da ≠ db := S.rep.1
  have out : ∀ {a}, ¬ (Wdr cls da db).fp a → H' a = H a := fun {a} n => h1 a (fun z => n (.inl z)) fun z => n (.inr z)
  refine p v G H' ⟨fun _ _ e => e, fun a o n e => by rw [out n]; exact e, fun a e => ?_, fun _ _ e => .inl e⟩ ⟨fun a o e => ?_, S.fpG, fun a f => ?_, nd, h2, h3⟩ (.inl r)
  · by_cases z1 : a = da
    · rw [z1, h2] at e; cases e
    · by_cases z2 : a = db
      · rw [z2, h3] at e; cases e
      · rw [h1 a z1 z2] at e; exact e
  · rw [out fun f => by rw [S.fpG a f] at e; cases e]
    exact S.sub a o e
  · rcases f with z | z
    · rw [z, h2]; exact fun q => by cases q
    · rw [z, h3]; exact fun q => by cases q
theorem ixN_emod {n : Nat} {c : Int} (h : 0 < n) : ixN n (c % (n : Int)) = some (c % (n : Int)).toNat := by
  have h1 : 0 ≤ c % (n : Int) := Int.emod_nonneg _ (by omega)
  have h2 : c % (n : Int) < n := Int.emod_lt_of_pos _ (by omega)
  unfold ixN
  rw [if_pos h1, if_pos h2]
/-- data that == takes: no deeper than n -/
def Sh (n : Nat) (d : PD) : Prop := PyData.canLay0 d = true ∧ PyData.depth d ≤ n
theorem Sh.all {n : Nat} : ∀ {xs : List PD}, (∀ x ∈ xs, Sh n x) → PyData.canLayAll0 xs = true ∧ PyData.depthAll xs ≤ n
  | [], _ => ⟨rfl, Nat.zero_le _⟩
  | x :: xs, h => by
    have h1 := h x (by simp)
    have h2 := Sh.all (n := n) (xs := xs) fun y hy => h y (List.mem_cons_of_mem _ hy)
    refine ⟨?_, ?_⟩
    · show (PyData.canLay0 x && PyData.canLayAll0 xs) = true
      rw [h1.1, h2.1]; rfl
    · show max (PyData.depth x) (PyData.depthAll xs) ≤ n
      exact Nat.max_le.mpr ⟨h1.2, h2.2⟩
theorem Sh.list {n : Nat} {xs : List PD} (h : ∀ x ∈ xs, Sh n x) : Sh (n + 1) (.list xs) := ⟨(Sh.all h).1, Nat.succ_le_succ (Sh.all h).2⟩
theorem Sh.tuple {n : Nat} {xs : List PD} (h : ∀ x ∈ xs, Sh n x) : Sh (n + 1) (.tuple xs) := ⟨(Sh.all h).1, Nat.succ_le_succ (Sh.all h).2⟩
theorem Sh.int {n : Nat} (i : Int) : Sh n (.int i) := ⟨rfl, Nat.zero_le _⟩
theorem Sh.bool {n : Nat} (i : Bool) : Sh n (.bool i) := ⟨rfl, Nat.zero_le _⟩
theorem Sh.none {n : Nat} : Sh n .none := ⟨rfl, Nat.zero_le _⟩
theorem Sh.mono {n m : Nat} {d : PD} (h : Sh n d) (l : n ≤ m) : Sh m d := ⟨h.1, Nat.le_trans h.2 l⟩
theorem Sh.ok {n : Nat} {d : PD} (h : Sh n d) (l : n ≤ 64) : SeqAt.shaped d = true := by
  unfold SeqAt.shaped
  rw [h.1, decide_eq_true (Nat.le_trans h.2 l)]; rfl
theorem shaped_ints (ns : List Int) : SeqAt.shaped (.list (ns.map PyData.int)) = true :=
  (Sh.list (n := 0) fun x hx => by
    obtain ⟨i, _, rfl⟩ := List.mem_map.mp hx
    exact Sh.int i).ok (by decide)
/-- a script's start -/
def startN (ns : List Int) : List Int := if ns = [] then [0] else ns
def spStart (K : PySem.W.Frag) : Sp := fun vs H Q _ => ∃ (a : Addr) (ns : List Int), vs = [.ref a] ∧ SqL K H a (ns.map V.int) ∧
  ∀ (da db : Addr) (H' : Hp), Same H H' → H da = none → H db = none → da ≠ db → H' da = some (.lst [.ref db, .int 0]) → H' db = some (.lst ((startN ns).map V.int)) → Q (.ref da) H'
end DL

/-! DLD: the law's own def, the head's facts -/
namespace DL
open PySem PySem.Spec PyProof.Rows L2
def spLaw (K : PySem.W.Frag) : Sp := fun vs H Q _ => ∃ (a : Addr) (ns : List Int), vs = [.ref a] ∧ SqL K H a (ns.map V.int) ∧ ns.length ≤ 63 ∧ ∀ H', Q (.bl true) H'
section
variable {P : Program} {w : World} {K : PySem.W.Frag} {mg : Str → Option Value} {base : Heap} {qual : Str} {params : Arguments} {body : List Stmt} {scope : Scope} {f : Addr} {fd : FuncData} {cls : Nat → Addr}
theorem fn_law {N : List Str} {k : Nat} {s0 : Stmt} {rest : List Stmt} {fb : Env → Dr → R (Fl × Dr)} (F : FunD K "law" qual params body scope [] [] f fd) (S : FnScope N ["script"] scope) (hbd : body = s0 :: rest) (hN : 2 ≤ N.length)
    (h0 : ∀ (cdv : Value) (A : Around) (outer : List PySem.Env) (s : Shared) (H : Hp) (E : XK), Room k (A.deeper (envOfC qual scope s.heap.objs.size f cdv)) →
      PS (cxOf (L2.CX P w) P w K mg base N qual scope f cdv A outer s H E) s0 (tAsg (tCall (spStart K) [] E0 (tCons (tVar 0) tNil)) (gName 1)))
    (hr : ∀ (cdv : Value) (A : Around) (outer : List PySem.Env) (s : Shared) (H : Hp) (E : XK) (da db : Addr) (G0 H0 : Hp), Room k (A.deeper (envOfC qual scope s.heap.objs.size f cdv)) →
      DSs (cxOf (L2.CX P w) P w K mg base N qual scope f cdv A outer s H E) ⟨Wdr cls da db, G0, H0, E0⟩ [] [] rest fb)
    (hlaw : ∀ ns : List Int, 0 < ns.length → ∃ s', fb (none :: some (tokD 0) :: List.replicate (N.length - 2) none) (ns, 0) = .ok (.rt (.bool true), s')) : FnOk P w K mg base (L2.CX P w) (k + 1) f fd ["script"] (spLaw K) := by
  refine F.ok S (fun vs H Q E h => ?_) (fun cdv A outer s H vs Q E hR h => ?_)
  · obtain ⟨a, ns, rfl, _⟩ := h
    rfl
  · obtain ⟨a, ns, rfl, hS, hlen, q⟩ := h
    subst hbd
    have hb' : PSs (cxOf (L2.CX P w) P w K mg base N qual scope f cdv A outer s H E) rest (fun D σ H' => ∃ da db G0 H0, rdS ⟨Wdr cls da db, G0, H0, E0⟩ [] [] fb D σ H') := ⟨fun pins s' σ H' D I h => by
      obtain ⟨da, db, G0, H0, h⟩ := h
      exact (hr cdv A outer s H E da db G0 H0 hR).run pins s' σ H' D I h⟩
    refine ⟨_, pss_cons (h0 cdv A outer s H E hR) hb', ?_⟩
    obtain ⟨n, hn⟩ : ∃ n, N.length = n + 2 := ⟨N.length - 2, by omega⟩
    have est : L2.start N [.ref a] = some (.ref a) :: none :: List.replicate n none := by
      unfold L2.start
      rw [hn]
      show [some (V.ref a)] ++ List.replicate (n + 2 - 1) none = _
      rw [show n + 2 - 1 = n + 1 by omega, List.replicate_succ]
      rfl
    rw [est]
    refine ⟨.ref a, rfl, a, ns, rfl, hS, fun da db H' sm na nb nd ea eb => ?_⟩
    have hpos : 0 < (startN ns).length := by
      unfold startN
      split
      · decide
      · rename_i h
        exact List.length_pos_iff.mpr h
    obtain ⟨s', e⟩ := hlaw (startN ns) hpos
    refine ⟨da, db, fun _ => none, H', fun _ => none, none :: some (tokD 0) :: List.replicate n none, (startN ns, 0), ⟨⟨(fun _ _ h => by cases h), fun _ _ => rfl, fun x fx => ?_, nd, ea, eb⟩, .refl, ?_⟩, ?_⟩
    · rcases fx with z | z
      · rw [z, ea]; exact fun h => by cases h
      · rw [z, eb]; exact fun h => by cases h
    · refine ⟨by simp, fun i d e _ => ?_, fun i d e m => by simp at m, fun i j p d e m => by simp at m⟩
      match i, e with
      | 0, e => cases e
      | 1, e =>
        cases e
        exact ⟨.ref da, rfl, .inr ⟨0, rfl, rfl⟩⟩
      | i + 2, e =>
        have e' : (List.replicate n (none : Option PD))[i]? = some (some d) := e
        rw [List.getElem?_replicate] at e'
        split at e' <;> cases e'
    · rw [show n = N.length - 2 by omega, e]
      intro v G' H'' g st rv
      have ev : v = .bl true := (rv.dg (isD_tok rfl)).of_bl
      rw [ev]
      exact q H''
end
theorem law_noX {P : Program} {w : World} {K : PySem.W.Frag} {mg : Str → Option Value} {base : Heap} {k : Nat} {f : Addr} {fd : FuncData} {ps : List Str} (F : FnOk P w K mg base (L2.CX P w) k f fd ps (spLaw K)) : FnOk P w K mg base CX0 k f fd ps (spLaw K) := by
  refine ⟨F.len, fun A outer s H args us vs Q E hr he hb hv hs => ?_⟩
  refine codeAny_mono (F.run A outer s H args us vs Q E0 hr he hb hv hs) fun r s' q => ?_
  cases r with
  | ok fl =>
    cases fl with
    | ret u => exact q
    | _ => exact q
  | error e =>
    obtain ⟨_, _, _, _, _, _, _, _, _, _, _, _, z⟩ := q
    exact z.elim
/-! ### the head -/
def excN : Nat → Str
  | 0 => "BadThings"
  | 1 => "BadNumber"
  | 2 => "BadPoints"
  | 3 => "BadText"
  | _ => "NotFound"
def clsK (K : PySem.W.Frag) (c : Nat) : Addr := He.ga K (excN c)
def freeFa : List He.Fa := [.free "len", .free "isinstance", .free "all", .free "sum", .free "sorted", .free "set", .free "max", .free "min", .free "range", .free "zip", .free "enumerate", .free "list", .free "tuple", .free "abs", .free "str", .free "int", .free "bool"]
theorem free_mk {K : PySem.W.Frag} {h : Heap} {mg : Str → Option Value} (X : K.In h) (G : h.Ns mainGlobals mg) (c : ∀ f ∈ freeFa, f.ok K = true) : Free mg := by
  have z : ∀ x : Str, He.Fa.free x ∈ freeFa → mg x = none := fun x hx => He.free_ok X G (c _ hx)
  constructor <;> exact z _ (by simp [freeFa])
theorem exc_mk {K : PySem.W.Frag} {h : Heap} {mg : Str → Option Value} {c : Nat} {x : Str} (X : K.In h) (G : h.Ns mainGlobals mg) (e : x = excN c) (h1 : (He.Fa.glo x).ok K = true) (h2 : (He.Fa.exc x).ok K = true) : ExcF K mg (clsK K) c x := by
  subst e
  obtain ⟨a, b, d, t⟩ := He.exc_ok h2
  exact ⟨a, He.glo_ok X G h1, b, d, t⟩
theorem int_mk {K : PySem.W.Frag} {h : Heap} {mg : Str → Option Value} {x : Str} {i : Int} (X : K.In h) (G : h.Ns mainGlobals mg) (c : (He.Fa.int x i).ok K = true) : ∃ t, mg x = some (.int i t) := He.int_ok X G c
theorem str_mk {K : PySem.W.Frag} {h : Heap} {mg : Str → Option Value} {x z : Str} (X : K.In h) (G : h.Ns mainGlobals mg) (c : (He.Fa.str x z).ok K = true) : ∃ t, mg x = some (.str z t) := He.str_ok X G c
end DL

/-! the mirrors, printed by gen.py -/
namespace DL
open PySem PySem.Spec PyProof.Rows L2

def b_is_int {d : Type} : Env → d → R (Fl × d) :=
      (sRet (cAndV (cUn (pIsi "int") (cVar 0)) (cAndV (cUn pNot (cUn (pIsi "bool") (cVar 0))) (cChain pLe pLe (cVar 1) (cVar 0) (cVar 2)))))
def m_is_int : List PD → R PD := mBody 0 b_is_int
def b_counts {d : Type} : Env → d → R (Fl × d) :=
      (sSeq (sSet 2 (cCall pLen (aCons (cComp (iLst (cVar 0)) (bTup (bCons (bNm 3) (bCons (bNm 4) bNil))) [3, 4] (cAndT (cTest (cOp pGe (cVar 3) (cVar 1))) (cNotT (cTest (cVar 4)))) (cC (.int 1))) aNil)))
      (sRet (cTup (aCons (cVar 2) (aCons (cCall pLen (aCons (cComp (iLst (cVar 0)) (bTup (bCons (bNm 3) (bCons (bNm 4) bNil))) [3, 4] (cAndT (cTest (cOp pGe (cVar 3) (cVar 1))) (cTest (cVar 4))) (cC (.int 1))) aNil)) aNil)))))
def m_counts : List PD → R PD := mBody 3 b_counts
def b_scores_of {d : Type} : Env → d → R (Fl × d) :=
      (sRet (cUn pRev (cUn pSortSet (cComp (iLst (cVar 0)) (bTup (bCons (bNm 1) (bCons (bNm 2) bNil))) [1, 2] tYesD (cVar 1)))))
def m_scores_of : List PD → R PD := mBody 2 b_scores_of
def b__law_point {d : Type} : Env → d → R (Fl × d) :=
      (sSeq (sSet 2 (cComp (iLst (cVar 0)) (bTup (bCons (bNm 3) (bCons (bNm 4) bNil))) [3, 4] (cTest (cOp pGe (cVar 3) (cVar 1))) (cVar 4)))
      (sRet (cTup (aCons (cMeth pCount (cVar 2) (cC (.bool false))) (aCons (cMeth pCount (cVar 2) (cC (.bool true))) aNil)))))
def m__law_point : List PD → R PD := mBody 3 b__law_point
def b_is_thing {d : Type} : Env → d → R (Fl × d) :=
      (sSeq (sIf (cOrT (cNotT (cTest (cUn (pIsi "tuple") (cVar 0)))) (cTest (cOp pNe (cCall pLen (aCons (cVar 0) aNil)) (cC (.int 2)))))
      (sRet (cC (.bool false)))
      sNil)
      (sRet (cAndV (cCallF 3 m_is_int (aCons (cOp pIx (cVar 0) (cC (.int 0))) (aCons (cC (.int 0)) (aCons (cC (.int 99)) aNil)))) (cUn (pIsi "bool") (cOp pIx (cVar 0) (cC (.int 1)))))))
def m_is_thing : List PD → R PD := mBody 0 b_is_thing
def b_check_threshold {d : Type} : Env → d → R (Fl × d) :=
      (sIf (cNotT (cTest (cCallF 3 m_is_int (aCons (cVar 0) (aCons (cC (.int 0)) (aCons (cOp pAdd (cC (.int 99)) (cC (.int 1))) aNil))))))
      (sRaise 1)
      sNil)
def m_check_threshold : List PD → R PD := mBody 0 b_check_threshold
def b_is_points {d : Type} : Env → d → R (Fl × d) :=
      (sSeq (sIf (cOrT (cNotT (cTest (cUn (pIsi "list") (cVar 0)))) (cOrT (cNotT (cTest (cChain pLe pLe (cC (.int 2)) (cCall pLen (aCons (cVar 0) aNil)) (cOp pAdd (cC (.int 12)) (cC (.int 1)))))) (cTest (cOp pNe (cOp pIx (cVar 0) (cC (.int 0))) (cTup (aCons (cC (.int 0)) (aCons (cC (.int 0)) aNil)))))))
      (sRet (cC (.bool false)))
      sNil)
      (sSeq (sFor (iLst (cVar 0)) (bNm 1)
      (sIf (cOrT (cNotT (cTest (cUn (pIsi "tuple") (cVar 1)))) (cOrT (cTest (cOp pNe (cCall pLen (aCons (cVar 1) aNil)) (cC (.int 2)))) (cNotT (cTest (cCall pAll (aCons (cComp (iTp (cVar 1)) (bNm 4) [4] tYesD (cCallF 3 m_is_int (aCons (cVar 4) (aCons (cC (.int 0)) (aCons (cC (.int 12)) aNil))))) aNil))))))
      (sRet (cC (.bool false)))
      sNil))
      (sSeq (sFor (iZp (aCons (cVar 0) (aCons (cSl pSl (cVar 0) (oSome (cC (.int 1))) oNone) aNil))) (bTup (bCons (bNm 2) (bCons (bNm 3) bNil)))
      (sIf (cOrT (cTest (cOp pGt (cOp pIx (cVar 2) (cC (.int 0))) (cOp pIx (cVar 3) (cC (.int 0))))) (cOrT (cTest (cOp pGt (cOp pIx (cVar 2) (cC (.int 1))) (cOp pIx (cVar 3) (cC (.int 1))))) (cTest (cOp pEq (cVar 2) (cVar 3)))))
      (sRet (cC (.bool false)))
      sNil))
      (sRet (cOp pLe (cCall pSum (aCons (cOp pIx (cVar 0) (cUn pNeg (cC (.int 1)))) aNil)) (cC (.int 12)))))))
def m_is_points : List PD → R PD := mBody 4 b_is_points
def b_points_of {d : Type} : Env → d → R (Fl × d) :=
      (sRet (cOp pAdd (cLst (aCons (cTup (aCons (cC (.int 0)) (aCons (cC (.int 0)) aNil))) aNil)) (cComp (iLst (cCallF 1 m_scores_of (aCons (cVar 0) aNil))) (bNm 1) [1] tYesD (cCallF 2 m_counts (aCons (cVar 0) (aCons (cVar 1) aNil))))))
def m_points_of : List PD → R PD := mBody 1 b_points_of
def b__law_pick : Env → Dr → R (Fl × Dr) :=
      (sRet (cOp pIx (cVar 1) (cCallD 2 m__law_draw (aCons (cVar 0) (aCons (cCall pLen (aCons (cVar 1) aNil)) aNil)))))
def m__law_pick : List PD → Dr → R (PD × Dr) := mBodyD 0 b__law_pick
def b__law_curve {d : Type} : Env → d → R (Fl × d) :=
      (sSeq (sSetF 1 (fLst aNil))
      (sSeq (sFor (iRg3 (aCons (cC (.int 100)) (aCons (cOp pSub (cC (.int 0)) (cC (.int 1))) (aCons (cOp pSub (cC (.int 0)) (cC (.int 1))) aNil)))) (bNm 2)
      (sSeq (sSet 3 (cCallF 2 m__law_point (aCons (cVar 0) (aCons (cVar 2) aNil))))
      (sIf (cTest (cOp pNotIn (cVar 3) (cVar 1)))
      (sApp 1 (cVar 3))
      sNil)))
      (sRet (cVar 1))))
def m__law_curve : List PD → R PD := mBody 3 b__law_curve
def b_is_things {d : Type} : Env → d → R (Fl × d) :=
      (sSeq (sIf (cOrT (cNotT (cTest (cUn (pIsi "list") (cVar 0)))) (cNotT (cTest (cChain pLe pLe (cC (.int 1)) (cCall pLen (aCons (cVar 0) aNil)) (cC (.int 12))))))
      (sRet (cC (.bool false)))
      sNil)
      (sRet (cCall pAll (aCons (cComp (iLst (cVar 0)) (bNm 1) [1] tYesD (cCallF 1 m_is_thing (aCons (cVar 1) aNil))) aNil))))
def m_is_things : List PD → R PD := mBody 1 b_is_things
def b__law_things : Env → Dr → R (Fl × Dr) :=
      (sSeq (sSet 2 (cCallD 2 m__law_pick (aCons (cVar 0) (aCons (cLst (aCons (cC (.int 2)) (aCons (cC (.int 5)) (aCons (cC (.int 12)) (aCons (cC (.int 100)) aNil))))) aNil))))
      (sRet (cComp (iRg1 (aCons (cOp pAdd (cC (.int 1)) (cCallD 2 m__law_draw (aCons (cVar 0) (aCons (cVar 1) aNil)))) aNil)) (bNm 3) [3] tYesD (cTup (aCons (cCallD 2 m__law_draw (aCons (cVar 0) (aCons (cVar 2) aNil))) (aCons (cOp pEq (cCallD 2 m__law_draw (aCons (cVar 0) (aCons (cC (.int 2)) aNil))) (cC (.int 0))) aNil))))))
def m__law_things : List PD → Dr → R (PD × Dr) := mBodyD 2 b__law_things
def b_check_things {d : Type} : Env → d → R (Fl × d) :=
      (sIf (cNotT (cTest (cCallF 1 m_is_things (aCons (cVar 0) aNil))))
      (sRaise 0)
      sNil)
def m_check_things : List PD → R PD := mBody 0 b_check_things
def b_alarms_at {d : Type} : Env → d → R (Fl × d) :=
      (sSeq (sExpr (cCallF 1 m_check_things (aCons (cVar 0) aNil)))
      (sSeq (sExpr (cCallF 1 m_check_threshold (aCons (cVar 1) aNil)))
      (sRet (cCallF 2 m_counts (aCons (cVar 0) (aCons (cVar 1) aNil))))))
def m_alarms_at : List PD → R PD := mBody 0 b_alarms_at
def b_unlike_scores {d : Type} : Env → d → R (Fl × d) :=
      (sSeq (sExpr (cCallF 1 m_check_things (aCons (cVar 0) aNil)))
      (sRet (cCallF 1 m_scores_of (aCons (cVar 0) aNil))))
def m_unlike_scores : List PD → R PD := mBody 0 b_unlike_scores
def b_totals {d : Type} : Env → d → R (Fl × d) :=
      (sSeq (sExpr (cCallF 1 m_check_things (aCons (cVar 0) aNil)))
      (sRet (cCallF 2 m_counts (aCons (cVar 0) (aCons (cC (.int 0)) aNil)))))
def m_totals : List PD → R PD := mBody 0 b_totals
def b_curve {d : Type} : Env → d → R (Fl × d) :=
      (sSeq (sExpr (cCallF 1 m_check_things (aCons (cVar 0) aNil)))
      (sRet (cCallF 1 m_points_of (aCons (cVar 0) aNil))))
def m_curve : List PD → R PD := mBody 0 b_curve
def b_thresholds_for {d : Type} : Env → d → R (Fl × d) :=
      (sSeq (sExpr (cCallF 1 m_check_things (aCons (cVar 0) aNil)))
      (sSeq (sSet 2 (cComp (iRg1 (aCons (cC (.int 101)) aNil)) (bNm 3) [3] (cTest (cOp pEq (cCallF 2 m_counts (aCons (cVar 0) (aCons (cVar 3) aNil))) (cVar 1))) (cVar 3)))
      (sRet (cIf (cTest (cOp pNe (cVar 2) (cLst aNil))) (cTup (aCons (cOp pIx (cVar 2) (cC (.int 0))) (aCons (cOp pIx (cVar 2) (cUn pNeg (cC (.int 1)))) aNil))) (cC .none)))))
def m_thresholds_for : List PD → R PD := mBody 2 b_thresholds_for
def b_most_true {d : Type} : Env → d → R (Fl × d) :=
      (sSeq (sExpr (cCallF 1 m_check_things (aCons (cVar 0) aNil)))
      (sSeq (sIf (cNotT (cTest (cCallF 3 m_is_int (aCons (cVar 1) (aCons (cC (.int 0)) (aCons (cC (.int 12)) aNil))))))
      (sRaise 1)
      sNil)
      (sRet (cCall pMax (aCons (cComp (iLst (cCallF 1 m_points_of (aCons (cVar 0) aNil))) (bTup (bCons (bNm 2) (bCons (bNm 3) bNil))) [2, 3] (cTest (cOp pLe (cVar 2) (cVar 1))) (cVar 3)) aNil)))))
def m_most_true : List PD → R PD := mBody 2 b_most_true
def b_least_false {d : Type} : Env → d → R (Fl × d) :=
      (sSeq (sExpr (cCallF 1 m_check_things (aCons (cVar 0) aNil)))
      (sSeq (sIf (cNotT (cTest (cCallF 3 m_is_int (aCons (cVar 1) (aCons (cC (.int 0)) (aCons (cC (.int 12)) aNil))))))
      (sRaise 1)
      sNil)
      (sSeq (sSet 2 (cComp (iLst (cCallF 1 m_points_of (aCons (cVar 0) aNil))) (bTup (bCons (bNm 3) (bCons (bNm 4) bNil))) [3, 4] (cTest (cOp pGe (cVar 4) (cVar 1))) (cVar 3)))
      (sRet (cIf (cTest (cOp pNe (cVar 2) (cLst aNil))) (cCall pMin (aCons (cVar 2) aNil)) (cC .none))))))
def m_least_false : List PD → R PD := mBody 3 b_least_false
def b_common {d : Type} : Env → d → R (Fl × d) :=
      (sSeq (sPar 0 1 (aCons (cCall pAbs (aCons (cVar 0) aNil)) (aCons (cCall pAbs (aCons (cVar 1) aNil)) aNil)))
      (sSeq (sWhile (fuInt 1) (cTest (cOp pNe (cVar 1) (cC (.int 0))))
      (sPar 0 1 (aCons (cVar 1) (aCons (cOp pMod (cVar 0) (cVar 1)) aNil))))
      (sRet (cVar 0))))
def m_common : List PD → R PD := mBody 0 b_common
def b_outcomes {d : Type} : Env → d → R (Fl × d) :=
      (sSeq (sAsg (bTup (bCons (bNm 1) (bCons (bNm 2) (bCons (bNm 3) bNil)))) (cTup (aCons (cC (.int 0)) (aCons (cC (.int 0)) (aCons (cC (.int 0)) aNil)))))
      (sSeq (sFor (iLst (cVar 0)) (bTup (bCons (bNm 4) (bCons (bNm 5) bNil)))
      (sFor (iLst (cVar 0)) (bTup (bCons (bNm 6) (bCons (bNm 7) bNil)))
      (sIf (cAndT (cTest (cVar 5)) (cNotT (cTest (cVar 7))))
      (sSeq (sAug 1 (cIf (cTest (cOp pGt (cVar 4) (cVar 6))) (cC (.int 1)) (cC (.int 0))))
      (sSeq (sAug 2 (cIf (cTest (cOp pEq (cVar 4) (cVar 6))) (cC (.int 1)) (cC (.int 0))))
      (sAug 3 (cIf (cTest (cOp pLt (cVar 4) (cVar 6))) (cC (.int 1)) (cC (.int 0))))))
      sNil)))
      (sRet (cTup (aCons (cVar 1) (aCons (cVar 2) (aCons (cVar 3) aNil)))))))
def m_outcomes : List PD → R PD := mBody 7 b_outcomes
def b_double_area {d : Type} : Env → d → R (Fl × d) :=
      (sSeq (sSet 1 (cC (.int 0)))
      (sSeq (sFor (iZp (aCons (cVar 0) (aCons (cSl pSl (cVar 0) (oSome (cC (.int 1))) oNone) aNil))) (bTup (bCons (bNm 2) (bCons (bNm 3) bNil)))
      (sAug 1 (cOp pMul (cOp pSub (cOp pIx (cVar 3) (cC (.int 0))) (cOp pIx (cVar 2) (cC (.int 0)))) (cOp pAdd (cOp pIx (cVar 2) (cC (.int 1))) (cOp pIx (cVar 3) (cC (.int 1)))))))
      (sRet (cVar 1))))
def m_double_area : List PD → R PD := mBody 3 b_double_area
def b__law_true {d : Type} : Env → d → R (Fl × d) :=
      (sRet (cAndV (cUn (pIsi "bool") (cVar 0)) (cOp pEq (cVar 0) (cVar 1))))
def m__law_true : List PD → R PD := mBody 0 b__law_true
def b__law_low {d : Type} : Env → d → R (Fl × d) :=
      (sSeq (sPar 2 3 (aCons (cCall pAbs (aCons (cVar 0) aNil)) (aCons (cVar 1) aNil)))
      (sSeq (sWhile (fuInt 3) (cTest (cOp pNe (cVar 3) (cC (.int 0))))
      (sPar 2 3 (aCons (cVar 3) (aCons (cOp pMod (cVar 2) (cVar 3)) aNil))))
      (sRet (cTup (aCons (cOp pDiv (cVar 0) (cVar 2)) (aCons (cOp pDiv (cVar 1) (cVar 2)) aNil))))))
def m__law_low : List PD → R PD := mBody 2 b__law_low
def b__law_twice {d : Type} : Env → d → R (Fl × d) :=
      (sSeq (sSet 1 (cC (.int 0)))
      (sSeq (sFor (iRg1 (aCons (cOp pSub (cCall pLen (aCons (cVar 0) aNil)) (cC (.int 1))) aNil)) (bNm 2)
      (sSeq (sAsg (bTup (bCons (bTup (bCons (bNm 3) (bCons (bNm 4) bNil))) (bCons (bTup (bCons (bNm 5) (bCons (bNm 6) bNil))) bNil))) (cTup (aCons (cOp pIx (cVar 0) (cVar 2)) (aCons (cOp pIx (cVar 0) (cOp pAdd (cVar 2) (cC (.int 1)))) aNil))))
      (sSet 1 (cOp pAdd (cVar 1) (cOp pMul (cOp pSub (cVar 5) (cVar 3)) (cOp pAdd (cVar 4) (cVar 6)))))))
      (sRet (cVar 1))))
def m__law_twice : List PD → R PD := mBody 6 b__law_twice
def b_lowest {d : Type} : Env → d → R (Fl × d) :=
      (sSeq (sIf (cTest (cOp pLt (cVar 1) (cC (.int 0))))
      (sPar 0 1 (aCons (cUn pNeg (cVar 0)) (aCons (cUn pNeg (cVar 1)) aNil)))
      sNil)
      (sSeq (sSet 2 (cCallF 2 m_common (aCons (cVar 0) (aCons (cVar 1) aNil))))
      (sRet (cTup (aCons (cOp pDiv (cVar 0) (cVar 2)) (aCons (cOp pDiv (cVar 1) (cVar 2)) aNil))))))
def m_lowest : List PD → R PD := mBody 1 b_lowest
def b_check_points {d : Type} : Env → d → R (Fl × d) :=
      (sIf (cNotT (cTest (cCallF 1 m_is_points (aCons (cVar 0) aNil))))
      (sRaise 2)
      sNil)
def m_check_points : List PD → R PD := mBody 0 b_check_points
def b_check_both {d : Type} : Env → d → R (Fl × d) :=
      (sSeq (sExpr (cCallF 1 m_check_points (aCons (cVar 0) aNil)))
      (sSeq (sExpr (cCallF 1 m_check_points (aCons (cVar 1) aNil)))
      (sIf (cTest (cOp pNe (cOp pIx (cVar 0) (cUn pNeg (cC (.int 1)))) (cOp pIx (cVar 1) (cUn pNeg (cC (.int 1))))))
      (sRaise 2)
      sNil)))
def m_check_both : List PD → R PD := mBody 0 b_check_both
def b_pair_counts {d : Type} : Env → d → R (Fl × d) :=
      (sSeq (sExpr (cCallF 1 m_check_things (aCons (cVar 0) aNil)))
      (sRet (cCallF 1 m_outcomes (aCons (cVar 0) aNil))))
def m_pair_counts : List PD → R PD := mBody 0 b_pair_counts
def b_area {d : Type} : Env → d → R (Fl × d) :=
      (sSeq (sExpr (cCallF 1 m_check_things (aCons (cVar 0) aNil)))
      (sSeq (sSet 1 (cCallF 1 m_points_of (aCons (cVar 0) aNil)))
      (sSeq (sSet 2 (cOp pMul (cOp pIx (cOp pIx (cVar 1) (cUn pNeg (cC (.int 1)))) (cC (.int 0))) (cOp pIx (cOp pIx (cVar 1) (cUn pNeg (cC (.int 1)))) (cC (.int 1)))))
      (sSeq (sIf (cTest (cOp pEq (cVar 2) (cC (.int 0))))
      (sRaise 4)
      sNil)
      (sRet (cCallF 2 m_lowest (aCons (cCallF 1 m_double_area (aCons (cVar 1) aNil)) (aCons (cOp pMul (cC (.int 2)) (cVar 2)) aNil))))))))
def m_area : List PD → R PD := mBody 2 b_area
def b_in_order {d : Type} : Env → d → R (Fl × d) :=
      (sSeq (sExpr (cCallF 1 m_check_things (aCons (cVar 0) aNil)))
      (sSeq (sAsg (bTup (bCons (bNm 1) (bCons (bNm 2) (bCons (bNm 3) bNil)))) (cCallF 1 m_outcomes (aCons (cVar 0) aNil)))
      (sRet (cAndV (cOp pEq (cVar 2) (cC (.int 0))) (cOp pEq (cVar 3) (cC (.int 0)))))))
def m_in_order : List PD → R PD := mBody 3 b_in_order
def b_wrong_pairs {d : Type} : Env → d → R (Fl × d) :=
      (sSeq (sExpr (cCallF 1 m_check_things (aCons (cVar 0) aNil)))
      (sSeq (sSetF 1 (fLst aNil))
      (sSeq (sFor (iEn (cVar 0)) (bTup (bCons (bNm 2) (bCons (bTup (bCons (bNm 3) (bCons (bNm 4) bNil))) bNil)))
      (sFor (iEn (cVar 0)) (bTup (bCons (bNm 5) (bCons (bTup (bCons (bNm 6) (bCons (bNm 7) bNil))) bNil)))
      (sIf (cAndT (cTest (cVar 4)) (cAndT (cNotT (cTest (cVar 7))) (cTest (cOp pGe (cVar 6) (cVar 3)))))
      (sApp 1 (cTup (aCons (cVar 2) (aCons (cVar 5) aNil))))
      sNil)))
      (sRet (cVar 1)))))
def m_wrong_pairs : List PD → R PD := mBody 7 b_wrong_pairs
def b_area_difference {d : Type} : Env → d → R (Fl × d) :=
      (sSeq (sExpr (cCallF 2 m_check_both (aCons (cVar 0) (aCons (cVar 1) aNil))))
      (sRet (cOp pSub (cCallF 1 m_double_area (aCons (cVar 0) aNil)) (cCallF 1 m_double_area (aCons (cVar 1) aNil)))))
def m_area_difference : List PD → R PD := mBody 0 b_area_difference
def b_less {d : Type} : Env → d → R (Fl × d) :=
      (sRet (cOp pLt (cOp pMul (cOp pIx (cVar 0) (cC (.int 0))) (cOp pIx (cVar 1) (cC (.int 1)))) (cOp pMul (cOp pIx (cVar 1) (cC (.int 0))) (cOp pIx (cVar 0) (cC (.int 1))))))
def m_less : List PD → R PD := mBody 0 b_less
def b_way_turn {d : Type} : Env → d → R (Fl × d) :=
      (sSeq (sPar 3 4 (aCons (cOp pSub (cOp pIx (cVar 1) (cC (.int 0))) (cOp pIx (cVar 0) (cC (.int 0)))) (aCons (cOp pSub (cOp pIx (cVar 1) (cC (.int 1))) (cOp pIx (cVar 0) (cC (.int 1)))) aNil)))
      (sRet (cOp pSub (cOp pMul (cVar 3) (cOp pSub (cOp pIx (cVar 2) (cC (.int 1))) (cOp pIx (cVar 0) (cC (.int 1))))) (cOp pMul (cVar 4) (cOp pSub (cOp pIx (cVar 2) (cC (.int 0))) (cOp pIx (cVar 0) (cC (.int 0))))))))
def m_way_turn : List PD → R PD := mBody 2 b_way_turn
def b__law_below {d : Type} : Env → d → R (Fl × d) :=
      (sRet (cOp pLt (cOp pMul (cOp pIx (cVar 0) (cC (.int 0))) (cOp pIx (cVar 1) (cC (.int 1)))) (cOp pMul (cOp pIx (cVar 1) (cC (.int 0))) (cOp pIx (cVar 0) (cC (.int 1))))))
def m__law_below : List PD → R PD := mBody 0 b__law_below
def b_is_mean {d : Type} : Env → d → R (Fl × d) :=
      (sSeq (sIf (cOrT (cNotT (cTest (cUn (pIsi "tuple") (cVar 0)))) (cOrT (cTest (cOp pNe (cCall pLen (aCons (cVar 0) aNil)) (cC (.int 2)))) (cNotT (cTest (cCallF 3 m_is_int (aCons (cOp pIx (cVar 0) (cC (.int 1))) (aCons (cC (.int 1)) (aCons (cC (.int 1000)) aNil))))))))
      (sRet (cC (.bool false)))
      sNil)
      (sRet (cAndV (cCallF 3 m_is_int (aCons (cOp pIx (cVar 0) (cC (.int 0))) (aCons (cC (.int 0)) (aCons (cOp pMul (cVar 1) (cOp pIx (cVar 0) (cC (.int 1)))) aNil)))) (cOp pEq (cCallF 2 m_common (aCons (cOp pIx (cVar 0) (cC (.int 0))) (aCons (cOp pIx (cVar 0) (cC (.int 1))) aNil))) (cC (.int 1))))))
def m_is_mean : List PD → R PD := mBody 0 b_is_mean
def b_corners_of {d : Type} : Env → d → R (Fl × d) :=
      (sSeq (sSetF 1 (fLst aNil))
      (sSeq (sFor (iLst (cVar 0)) (bNm 2)
      (sSeq (sWhile (fuLen 1) (cAndT (cTest (cOp pGe (cCall pLen (aCons (cVar 1) aNil)) (cC (.int 2)))) (cTest (cOp pGe (cCallF 3 m_way_turn (aCons (cOp pIx (cVar 1) (cUn pNeg (cC (.int 2)))) (aCons (cOp pIx (cVar 1) (cUn pNeg (cC (.int 1)))) (aCons (cVar 2) aNil)))) (cC (.int 0)))))
      (sSetF 1 (fSl 1 oNone (oSome (cUn pNeg (cC (.int 1)))))))
      (sApp 1 (cVar 2))))
      (sRet (cVar 1))))
def m_corners_of : List PD → R PD := mBody 2 b_corners_of
def b__law_height {d : Type} : Env → d → R (Fl × d) :=
      (sSeq (sSet 2 (cTup (aCons (cC (.int 0)) (aCons (cC (.int 1)) aNil))))
      (sSeq (sFor (iLst (cVar 0)) (bTup (bCons (bNm 4) (bCons (bNm 5) bNil)))
      (sIf (cTest (cOp pEq (cOp pMul (cVar 4) (cOp pIx (cVar 1) (cC (.int 1)))) (cOp pIx (cVar 1) (cC (.int 0)))))
      (sSet 2 (cIf (cTest (cCallF 2 m__law_below (aCons (cVar 2) (aCons (cTup (aCons (cVar 5) (aCons (cC (.int 1)) aNil))) aNil)))) (cTup (aCons (cVar 5) (aCons (cC (.int 1)) aNil))) (cVar 2)))
      sNil))
      (sSeq (sFor (iRg1 (aCons (cOp pSub (cCall pLen (aCons (cVar 0) aNil)) (cC (.int 1))) aNil)) (bNm 3)
      (sSeq (sAsg (bTup (bCons (bTup (bCons (bNm 4) (bCons (bNm 5) bNil))) (bCons (bTup (bCons (bNm 7) (bCons (bNm 8) bNil))) bNil))) (cTup (aCons (cOp pIx (cVar 0) (cVar 3)) (aCons (cOp pIx (cVar 0) (cOp pAdd (cVar 3) (cC (.int 1)))) aNil))))
      (sIf (cTest (cChain pLt pLt (cOp pMul (cVar 4) (cOp pIx (cVar 1) (cC (.int 1)))) (cOp pIx (cVar 1) (cC (.int 0))) (cOp pMul (cVar 7) (cOp pIx (cVar 1) (cC (.int 1))))))
      (sSeq (sSet 6 (cCallF 2 m__law_low (aCons (cOp pAdd (cOp pMul (cOp pMul (cVar 5) (cOp pSub (cVar 7) (cVar 4))) (cOp pIx (cVar 1) (cC (.int 1)))) (cOp pMul (cOp pSub (cOp pIx (cVar 1) (cC (.int 0))) (cOp pMul (cVar 4) (cOp pIx (cVar 1) (cC (.int 1))))) (cOp pSub (cVar 8) (cVar 5)))) (aCons (cOp pMul (cOp pSub (cVar 7) (cVar 4)) (cOp pIx (cVar 1) (cC (.int 1)))) aNil))))
      (sSet 2 (cIf (cTest (cCallF 2 m__law_below (aCons (cVar 2) (aCons (cVar 6) aNil)))) (cVar 6) (cVar 2))))
      sNil)))
      (sRet (cVar 2)))))
def m__law_height : List PD → R PD := mBody 7 b__law_height
def b_height_of {d : Type} : Env → d → R (Fl × d) :=
      (sSeq (sSet 2 (cTup (aCons (cC (.int 0)) (aCons (cC (.int 1)) aNil))))
      (sSeq (sFor (iZp (aCons (cVar 0) (aCons (cSl pSl (cVar 0) (oSome (cC (.int 1))) oNone) aNil))) (bTup (bCons (bNm 3) (bCons (bNm 4) bNil)))
      (sIf (cTest (cChain pLe pLe (cOp pMul (cOp pIx (cVar 3) (cC (.int 0))) (cOp pIx (cVar 1) (cC (.int 1)))) (cOp pIx (cVar 1) (cC (.int 0))) (cOp pMul (cOp pIx (cVar 4) (cC (.int 0))) (cOp pIx (cVar 1) (cC (.int 1))))))
      (sSeq (sSet 5 (cOp pSub (cOp pIx (cVar 4) (cC (.int 0))) (cOp pIx (cVar 3) (cC (.int 0)))))
      (sSeq (sIf (cTest (cOp pEq (cVar 5) (cC (.int 0))))
      (sSet 6 (cTup (aCons (cOp pIx (cVar 4) (cC (.int 1))) (aCons (cC (.int 1)) aNil))))
      (sSeq (sSet 7 (cOp pAdd (cOp pMul (cOp pMul (cOp pIx (cVar 3) (cC (.int 1))) (cVar 5)) (cOp pIx (cVar 1) (cC (.int 1)))) (cOp pMul (cOp pSub (cOp pIx (cVar 1) (cC (.int 0))) (cOp pMul (cOp pIx (cVar 3) (cC (.int 0))) (cOp pIx (cVar 1) (cC (.int 1))))) (cOp pSub (cOp pIx (cVar 4) (cC (.int 1))) (cOp pIx (cVar 3) (cC (.int 1)))))))
      (sSet 6 (cCallF 2 m_lowest (aCons (cVar 7) (aCons (cOp pMul (cVar 5) (cOp pIx (cVar 1) (cC (.int 1)))) aNil))))))
      (sSet 2 (cIf (cTest (cCallF 2 m_less (aCons (cVar 2) (aCons (cVar 6) aNil)))) (cVar 6) (cVar 2)))))
      sNil))
      (sRet (cVar 2))))
def m_height_of : List PD → R PD := mBody 6 b_height_of
def b__law_top {d : Type} : Env → d → R (Fl × d) :=
      (sSeq (sSet 2 (cCallF 2 m__law_height (aCons (cVar 0) (aCons (cVar 1) aNil))))
      (sSeq (sFor (iLst (cVar 0)) (bTup (bCons (bNm 3) (bCons (bNm 4) bNil)))
      (sFor (iLst (cVar 0)) (bTup (bCons (bNm 5) (bCons (bNm 6) bNil)))
      (sIf (cTest (cChain pLt pLt (cOp pMul (cVar 3) (cOp pIx (cVar 1) (cC (.int 1)))) (cOp pIx (cVar 1) (cC (.int 0))) (cOp pMul (cVar 5) (cOp pIx (cVar 1) (cC (.int 1))))))
      (sSeq (sSet 7 (cCallF 2 m__law_low (aCons (cOp pAdd (cOp pMul (cOp pMul (cVar 4) (cOp pSub (cVar 5) (cVar 3))) (cOp pIx (cVar 1) (cC (.int 1)))) (cOp pMul (cOp pSub (cOp pIx (cVar 1) (cC (.int 0))) (cOp pMul (cVar 3) (cOp pIx (cVar 1) (cC (.int 1))))) (cOp pSub (cVar 6) (cVar 4)))) (aCons (cOp pMul (cOp pSub (cVar 5) (cVar 3)) (cOp pIx (cVar 1) (cC (.int 1)))) aNil))))
      (sSet 2 (cIf (cTest (cCallF 2 m__law_below (aCons (cVar 2) (aCons (cVar 7) aNil)))) (cVar 7) (cVar 2))))
      sNil)))
      (sRet (cVar 2))))
def m__law_top : List PD → R PD := mBody 6 b__law_top
def b_hull_of {d : Type} : Env → d → R (Fl × d) :=
      (sSeq (sExpr (cCallF 1 m_check_points (aCons (cVar 0) aNil)))
      (sRet (cCallF 1 m_corners_of (aCons (cVar 0) aNil))))
def m_hull_of : List PD → R PD := mBody 0 b_hull_of
def b_hull_height {d : Type} : Env → d → R (Fl × d) :=
      (sSeq (sExpr (cCallF 1 m_check_points (aCons (cVar 0) aNil)))
      (sSeq (sIf (cNotT (cTest (cCallF 2 m_is_mean (aCons (cVar 1) (aCons (cOp pIx (cOp pIx (cVar 0) (cUn pNeg (cC (.int 1)))) (cC (.int 0))) aNil)))))
      (sRaise 1)
      sNil)
      (sRet (cCallF 2 m_height_of (aCons (cCallF 1 m_corners_of (aCons (cVar 0) aNil)) (aCons (cVar 1) aNil))))))
def m_hull_height : List PD → R PD := mBody 0 b_hull_height
def b_things_with {d : Type} : Env → d → R (Fl × d) :=
      (sSeq (sExpr (cCallF 1 m_check_points (aCons (cVar 0) aNil)))
      (sSeq (sSetF 1 (fLst aNil))
      (sSeq (sFor (iRg1 (aCons (cOp pSub (cCall pLen (aCons (cVar 0) aNil)) (cC (.int 1))) aNil)) (bNm 2)
      (sSeq (sSet 3 (cOp pSub (cOp pSub (cCall pLen (aCons (cVar 0) aNil)) (cC (.int 1))) (cVar 2)))
      (sSeq (sPar 4 5 (aCons (cOp pSub (cOp pIx (cOp pIx (cVar 0) (cOp pAdd (cVar 2) (cC (.int 1)))) (cC (.int 0))) (cOp pIx (cOp pIx (cVar 0) (cVar 2)) (cC (.int 0)))) (aCons (cOp pSub (cOp pIx (cOp pIx (cVar 0) (cOp pAdd (cVar 2) (cC (.int 1)))) (cC (.int 1))) (cOp pIx (cOp pIx (cVar 0) (cVar 2)) (cC (.int 1)))) aNil)))
      (sAugL 1 (cOp pAdd (cOp pMul (cLst (aCons (cTup (aCons (cVar 3) (aCons (cC (.bool false)) aNil))) aNil)) (cVar 4)) (cOp pMul (cLst (aCons (cTup (aCons (cVar 3) (aCons (cC (.bool true)) aNil))) aNil)) (cVar 5)))))))
      (sRet (cVar 1)))))
def m_things_with : List PD → R PD := mBody 5 b_things_with
def b_hull {d : Type} : Env → d → R (Fl × d) :=
      (sSeq (sExpr (cCallF 1 m_check_things (aCons (cVar 0) aNil)))
      (sRet (cCallF 1 m_corners_of (aCons (cCallF 1 m_points_of (aCons (cVar 0) aNil)) aNil))))
def m_hull : List PD → R PD := mBody 0 b_hull
def b_waste {d : Type} : Env → d → R (Fl × d) :=
      (sSeq (sExpr (cCallF 1 m_check_things (aCons (cVar 0) aNil)))
      (sSeq (sSet 1 (cCallF 1 m_points_of (aCons (cVar 0) aNil)))
      (sRet (cOp pSub (cCallF 1 m_double_area (aCons (cCallF 1 m_corners_of (aCons (cVar 1) aNil)) aNil)) (cCallF 1 m_double_area (aCons (cVar 1) aNil))))))
def m_waste : List PD → R PD := mBody 1 b_waste
def b_is_bent {d : Type} : Env → d → R (Fl × d) :=
      (sSeq (sExpr (cCallF 1 m_check_things (aCons (cVar 0) aNil)))
      (sSeq (sSet 1 (cCallF 1 m_points_of (aCons (cVar 0) aNil)))
      (sRet (cOp pEq (cCallF 1 m_double_area (aCons (cCallF 1 m_corners_of (aCons (cVar 1) aNil)) aNil)) (cCallF 1 m_double_area (aCons (cVar 1) aNil))))))
def m_is_bent : List PD → R PD := mBody 1 b_is_bent
def b_check_cost {d : Type} : Env → d → R (Fl × d) :=
      (sIf (cNotT (cTest (cCallF 3 m_is_int (aCons (cVar 0) (aCons (cC (.int 0)) (aCons (cC (.int 1000)) aNil))))))
      (sRaise 1)
      sNil)
def m_check_cost : List PD → R PD := mBody 0 b_check_cost
def b_thresholds_of {d : Type} : Env → d → R (Fl × d) :=
      (sRet (cOp pAdd (cLst (aCons (cC (.int 100)) aNil)) (cCallF 1 m_scores_of (aCons (cVar 0) aNil))))
def m_thresholds_of : List PD → R PD := mBody 0 b_thresholds_of
def b_cost_of {d : Type} : Env → d → R (Fl × d) :=
      (sSeq (sAsg (bTup (bCons (bNm 4) (bCons (bNm 5) bNil))) (cCallF 2 m_counts (aCons (cVar 0) (aCons (cVar 1) aNil))))
      (sRet (cOp pAdd (cOp pMul (cVar 2) (cVar 4)) (cOp pMul (cVar 3) (cOp pSub (cOp pIx (cCallF 2 m_counts (aCons (cVar 0) (aCons (cC (.int 0)) aNil))) (cC (.int 1))) (cVar 5))))))
def m_cost_of : List PD → R PD := mBody 2 b_cost_of
def b_check_costs {d : Type} : Env → d → R (Fl × d) :=
      (sSeq (sExpr (cCallF 1 m_check_cost (aCons (cVar 0) aNil)))
      (sExpr (cCallF 1 m_check_cost (aCons (cVar 1) aNil))))
def m_check_costs : List PD → R PD := mBody 0 b_check_costs
def b_cost_at {d : Type} : Env → d → R (Fl × d) :=
      (sSeq (sExpr (cCallF 1 m_check_things (aCons (cVar 0) aNil)))
      (sSeq (sExpr (cCallF 1 m_check_threshold (aCons (cVar 1) aNil)))
      (sSeq (sExpr (cCallF 2 m_check_costs (aCons (cVar 2) (aCons (cVar 3) aNil))))
      (sRet (cCallF 4 m_cost_of (aCons (cVar 0) (aCons (cVar 1) (aCons (cVar 2) (aCons (cVar 3) aNil)))))))))
def m_cost_at : List PD → R PD := mBody 0 b_cost_at
def b_least_cost {d : Type} : Env → d → R (Fl × d) :=
      (sSeq (sExpr (cCallF 1 m_check_things (aCons (cVar 0) aNil)))
      (sSeq (sExpr (cCallF 2 m_check_costs (aCons (cVar 1) (aCons (cVar 2) aNil))))
      (sRet (cCall pMin (aCons (cComp (iLst (cCallF 1 m_thresholds_of (aCons (cVar 0) aNil))) (bNm 3) [3] tYesD (cCallF 4 m_cost_of (aCons (cVar 0) (aCons (cVar 3) (aCons (cVar 1) (aCons (cVar 2) aNil)))))) aNil)))))
def m_least_cost : List PD → R PD := mBody 1 b_least_cost
def b_best_points {d : Type} : Env → d → R (Fl × d) :=
      (sSeq (sExpr (cCallF 1 m_check_things (aCons (cVar 0) aNil)))
      (sSeq (sExpr (cCallF 2 m_check_costs (aCons (cVar 1) (aCons (cVar 2) aNil))))
      (sSeq (sSet 3 (cOp pIx (cCallF 2 m_counts (aCons (cVar 0) (aCons (cC (.int 0)) aNil))) (cC (.int 1))))
      (sSeq (sSet 4 (cCallF 1 m_points_of (aCons (cVar 0) aNil)))
      (sSeq (sSet 5 (cComp (iLst (cVar 4)) (bTup (bCons (bNm 6) (bCons (bNm 7) bNil))) [6, 7] tYesD (cOp pAdd (cOp pMul (cVar 1) (cVar 6)) (cOp pMul (cVar 2) (cOp pSub (cVar 3) (cVar 7))))))
      (sRet (cComp (iZp (aCons (cVar 4) (aCons (cVar 5) aNil))) (bTup (bCons (bNm 8) (bCons (bNm 9) bNil))) [8, 9] (cTest (cOp pEq (cVar 9) (cCall pMin (aCons (cVar 5) aNil)))) (cVar 8))))))))
def m_best_points : List PD → R PD := mBody 7 b_best_points
def b_best_thresholds {d : Type} : Env → d → R (Fl × d) :=
      (sSeq (sExpr (cCallF 1 m_check_things (aCons (cVar 0) aNil)))
      (sSeq (sExpr (cCallF 2 m_check_costs (aCons (cVar 1) (aCons (cVar 2) aNil))))
      (sSeq (sSet 3 (cComp (iRg1 (aCons (cC (.int 101)) aNil)) (bNm 4) [4] tYesD (cCallF 4 m_cost_of (aCons (cVar 0) (aCons (cVar 4) (aCons (cVar 1) (aCons (cVar 2) aNil)))))))
      (sRet (cComp (iRg1 (aCons (cC (.int 101)) aNil)) (bNm 4) [4] (cTest (cOp pEq (cOp pIx (cVar 3) (cVar 4)) (cCall pMin (aCons (cVar 3) aNil)))) (cVar 4))))))
def m_best_thresholds : List PD → R PD := mBody 2 b_best_thresholds
def b_cost_ranges {d : Type} : Env → d → R (Fl × d) :=
      (sSeq (sExpr (cCallF 1 m_check_things (aCons (cVar 0) aNil)))
      (sSeq (sSet 1 (cCallF 1 m_corners_of (aCons (cCallF 1 m_points_of (aCons (cVar 0) aNil)) aNil)))
      (sSeq (sSet 2 (cComp (iZp (aCons (cVar 1) (aCons (cSl pSl (cVar 1) (oSome (cC (.int 1))) oNone) aNil))) (bTup (bCons (bNm 6) (bCons (bNm 7) bNil))) [6, 7] tYesD (cTup (aCons (cOp pSub (cOp pIx (cVar 7) (cC (.int 0))) (cOp pIx (cVar 6) (cC (.int 0)))) (aCons (cOp pSub (cOp pIx (cVar 7) (cC (.int 1))) (cOp pIx (cVar 6) (cC (.int 1)))) aNil)))))
      (sSeq (sSetF 3 (fLst aNil))
      (sSeq (sFor (iEn (cVar 1)) (bTup (bCons (bNm 4) (bCons (bNm 5) bNil)))
      (sApp 3 (cTup (aCons (cVar 5) (aCons (cIf (cTest (cOp pGt (cVar 4) (cC (.int 0)))) (cOp pIx (cVar 2) (cOp pSub (cVar 4) (cC (.int 1)))) (cC .none)) (aCons (cIf (cTest (cOp pLt (cVar 4) (cCall pLen (aCons (cVar 2) aNil)))) (cOp pIx (cVar 2) (cVar 4)) (cC .none)) aNil))))))
      (sRet (cVar 3)))))))
def m_cost_ranges : List PD → R PD := mBody 7 b_cost_ranges
def b_is_ever_best {d : Type} : Env → d → R (Fl × d) :=
      (sSeq (sExpr (cCallF 1 m_check_things (aCons (cVar 0) aNil)))
      (sSeq (sSet 2 (cCallF 1 m_points_of (aCons (cVar 0) aNil)))
      (sSeq (sIf (cOrT (cNotT (cTest (cUn (pIsi "tuple") (cVar 1)))) (cTest (cOp pNotIn (cVar 1) (cVar 2))))
      (sRaise 4)
      sNil)
      (sSeq (sFor (iLst (cVar 2)) (bNm 3)
      (sSeq (sIf (cAndT (cTest (cOp pNe (cVar 3) (cVar 1))) (cAndT (cTest (cOp pLe (cOp pIx (cVar 3) (cC (.int 0))) (cOp pIx (cVar 1) (cC (.int 0))))) (cTest (cOp pGe (cOp pIx (cVar 3) (cC (.int 1))) (cOp pIx (cVar 1) (cC (.int 1)))))))
      (sRet (cC (.bool false)))
      sNil)
      (sFor (iLst (cVar 2)) (bNm 4)
      (sIf (cAndT (cTest (cChain pLt pLt (cOp pIx (cVar 3) (cC (.int 0))) (cOp pIx (cVar 1) (cC (.int 0))) (cOp pIx (cVar 4) (cC (.int 0))))) (cTest (cOp pGt (cCallF 3 m_way_turn (aCons (cVar 3) (aCons (cVar 1) (aCons (cVar 4) aNil)))) (cC (.int 0)))))
      (sRet (cC (.bool false)))
      sNil))))
      (sRet (cC (.bool true)))))))
def m_is_ever_best : List PD → R PD := mBody 3 b_is_ever_best
def b_miss_cost_for {d : Type} : Env → d → R (Fl × d) :=
      (sSeq (sExpr (cCallF 1 m_check_things (aCons (cVar 0) aNil)))
      (sSeq (sExpr (cCallF 1 m_check_cost (aCons (cVar 1) aNil)))
      (sSeq (sIf (cNotT (cTest (cCallF 3 m_is_int (aCons (cVar 2) (aCons (cC (.int 0)) (aCons (cC (.int 1000)) aNil))))))
      (sRaise 1)
      sNil)
      (sSeq (sSet 3 (cOp pIx (cCallF 2 m_counts (aCons (cVar 0) (aCons (cC (.int 0)) aNil))) (cC (.int 1))))
      (sSeq (sFor (iRg1 (aCons (cOp pAdd (cVar 2) (cC (.int 1))) aNil)) (bNm 4)
      (sSeq (sSet 5 (cCallF 1 m_points_of (aCons (cVar 0) aNil)))
      (sSeq (sSet 6 (cComp (iLst (cVar 5)) (bTup (bCons (bNm 7) (bCons (bNm 8) bNil))) [7, 8] tYesD (cOp pAdd (cOp pMul (cVar 1) (cVar 7)) (cOp pMul (cVar 4) (cOp pSub (cVar 3) (cVar 8))))))
      (sIf (cTest (cOp pEq (cCall pMax (aCons (cComp (iZp (aCons (cVar 5) (aCons (cVar 6) aNil))) (bTup (bCons (bTup (bCons (bNm 7) (bCons (bNm 8) bNil))) (bCons (bNm 9) bNil))) [9, 7, 8] (cTest (cOp pEq (cVar 9) (cCall pMin (aCons (cVar 6) aNil)))) (cVar 8)) aNil)) (cVar 3)))
      (sRet (cVar 4))
      sNil))))
      (sRet (cC .none)))))))
def m_miss_cost_for : List PD → R PD := mBody 7 b_miss_cost_for
def b_check_share {d : Type} : Env → d → R (Fl × d) :=
      (sSeq (sIf (cOrT (cNotT (cTest (cUn (pIsi "tuple") (cVar 0)))) (cOrT (cTest (cOp pNe (cCall pLen (aCons (cVar 0) aNil)) (cC (.int 2)))) (cNotT (cTest (cCallF 3 m_is_int (aCons (cOp pIx (cVar 0) (cC (.int 1))) (aCons (cC (.int 1)) (aCons (cC (.int 1000)) aNil))))))))
      (sRaise 1)
      sNil)
      (sIf (cOrT (cNotT (cTest (cCallF 3 m_is_int (aCons (cOp pIx (cVar 0) (cC (.int 0))) (aCons (cC (.int 0)) (aCons (cOp pIx (cVar 0) (cC (.int 1))) aNil)))))) (cTest (cOp pNe (cCallF 2 m_common (aCons (cOp pIx (cVar 0) (cC (.int 0))) (aCons (cOp pIx (cVar 0) (cC (.int 1))) aNil))) (cC (.int 1)))))
      (sRaise 1)
      sNil))
def m_check_share : List PD → R PD := mBody 0 b_check_share
def b_threshold_of {d : Type} : Env → d → R (Fl × d) :=
      (sSeq (sFor (iLst (cOp pAdd (cLst (aCons (cC (.int 100)) aNil)) (cCallF 1 m_scores_of (aCons (cVar 0) aNil)))) (bNm 2)
      (sIf (cTest (cOp pEq (cCallF 2 m_counts (aCons (cVar 0) (aCons (cVar 2) aNil))) (cVar 1)))
      (sRet (cVar 2))
      sNil))
      (sRet (cC (.int 100))))
def m_threshold_of : List PD → R PD := mBody 1 b_threshold_of
def b__law_add {d : Type} : Env → d → R (Fl × d) :=
      (sRet (cCallF 2 m__law_low (aCons (cOp pAdd (cOp pMul (cOp pIx (cVar 0) (cC (.int 0))) (cOp pIx (cVar 1) (cC (.int 1)))) (cOp pMul (cOp pIx (cVar 1) (cC (.int 0))) (cOp pIx (cVar 0) (cC (.int 1))))) (aCons (cOp pMul (cOp pIx (cVar 0) (cC (.int 1))) (cOp pIx (cVar 1) (cC (.int 1)))) aNil))))
def m__law_add : List PD → R PD := mBody 0 b__law_add
def b__law_mean {d : Type} : Env → d → R (Fl × d) :=
      (sSeq (sAsg (bTup (bCons (bNm 3) (bCons (bNm 4) bNil))) (cVar 2))
      (sRet (cCall pTuple (aCons (cComp (iTp (cTup (aCons (cC (.int 0)) (aCons (cC (.int 1)) aNil)))) (bNm 5) [5] tYesD (cCallF 2 m__law_low (aCons (cOp pAdd (cOp pMul (cOp pIx (cVar 0) (cVar 5)) (cVar 3)) (cOp pMul (cOp pIx (cVar 1) (cVar 5)) (cOp pSub (cVar 4) (cVar 3)))) (aCons (cVar 4) aNil)))) aNil))))
def m__law_mean : List PD → R PD := mBody 3 b__law_mean
def b_plus {d : Type} : Env → d → R (Fl × d) :=
      (sRet (cCallF 2 m_lowest (aCons (cOp pAdd (cOp pMul (cOp pIx (cVar 0) (cC (.int 0))) (cOp pIx (cVar 1) (cC (.int 1)))) (cOp pMul (cOp pIx (cVar 1) (cC (.int 0))) (cOp pIx (cVar 0) (cC (.int 1))))) (aCons (cOp pMul (cOp pIx (cVar 0) (cC (.int 1))) (cOp pIx (cVar 1) (cC (.int 1)))) aNil))))
def m_plus : List PD → R PD := mBody 0 b_plus
def b_product {d : Type} : Env → d → R (Fl × d) :=
      (sRet (cCallF 2 m_lowest (aCons (cOp pMul (cOp pIx (cVar 0) (cC (.int 0))) (cOp pIx (cVar 1) (cC (.int 0)))) (aCons (cOp pMul (cOp pIx (cVar 0) (cC (.int 1))) (cOp pIx (cVar 1) (cC (.int 1)))) aNil))))
def m_product : List PD → R PD := mBody 0 b_product
def b_check_mean {d : Type} : Env → d → R (Fl × d) :=
      (sIf (cNotT (cTest (cCallF 2 m_is_mean (aCons (cVar 0) (aCons (cVar 1) aNil)))))
      (sRaise 1)
      sNil)
def m_check_mean : List PD → R PD := mBody 0 b_check_mean
def b_mean_point {d : Type} : Env → d → R (Fl × d) :=
      (sSeq (sSet 3 (cTup (aCons (cOp pSub (cOp pIx (cVar 2) (cC (.int 1))) (cOp pIx (cVar 2) (cC (.int 0)))) (aCons (cOp pIx (cVar 2) (cC (.int 1))) aNil))))
      (sRet (cCall pTuple (aCons (cComp (iTp (cTup (aCons (cC (.int 0)) (aCons (cC (.int 1)) aNil)))) (bNm 4) [4] tYesD (cCallF 2 m_plus (aCons (cCallF 2 m_product (aCons (cTup (aCons (cOp pIx (cVar 0) (cVar 4)) (aCons (cC (.int 1)) aNil))) (aCons (cVar 2) aNil))) (aCons (cCallF 2 m_product (aCons (cTup (aCons (cOp pIx (cVar 1) (cVar 4)) (aCons (cC (.int 1)) aNil))) (aCons (cVar 3) aNil))) aNil)))) aNil))))
def m_mean_point : List PD → R PD := mBody 2 b_mean_point
def b_mixed_alarms {d : Type} : Env → d → R (Fl × d) :=
      (sSeq (sExpr (cCallF 1 m_check_things (aCons (cVar 0) aNil)))
      (sSeq (sIf (cOrT (cNotT (cTest (cCallF 3 m_is_int (aCons (cVar 1) (aCons (cC (.int 0)) (aCons (cC (.int 100)) aNil)))))) (cNotT (cTest (cCallF 3 m_is_int (aCons (cVar 2) (aCons (cC (.int 0)) (aCons (cC (.int 100)) aNil)))))))
      (sRaise 1)
      sNil)
      (sSeq (sExpr (cCallF 1 m_check_share (aCons (cVar 3) aNil)))
      (sRet (cCallF 3 m_mean_point (aCons (cCallF 2 m_counts (aCons (cVar 0) (aCons (cVar 1) aNil))) (aCons (cCallF 2 m_counts (aCons (cVar 0) (aCons (cVar 2) aNil))) (aCons (cVar 3) aNil))))))))
def m_mixed_alarms : List PD → R PD := mBody 0 b_mixed_alarms
def b_best_true {d : Type} : Env → d → R (Fl × d) :=
      (sSeq (sExpr (cCallF 1 m_check_things (aCons (cVar 0) aNil)))
      (sSeq (sExpr (cCallF 2 m_check_mean (aCons (cVar 1) (aCons (cOp pIx (cCallF 2 m_counts (aCons (cVar 0) (aCons (cC (.int 0)) aNil))) (cC (.int 0))) aNil))))
      (sRet (cCallF 2 m_height_of (aCons (cCallF 1 m_corners_of (aCons (cCallF 1 m_points_of (aCons (cVar 0) aNil)) aNil)) (aCons (cVar 1) aNil))))))
def m_best_true : List PD → R PD := mBody 0 b_best_true
def b_best_mixture {d : Type} : Env → d → R (Fl × d) :=
      (sSeq (sExpr (cCallF 1 m_check_things (aCons (cVar 0) aNil)))
      (sSeq (sExpr (cCallF 2 m_check_mean (aCons (cVar 1) (aCons (cOp pIx (cCallF 2 m_counts (aCons (cVar 0) (aCons (cC (.int 0)) aNil))) (cC (.int 0))) aNil))))
      (sSeq (sSet 2 (cCallF 1 m_corners_of (aCons (cCallF 1 m_points_of (aCons (cVar 0) aNil)) aNil)))
      (sSeq (sSet 3 (cCallF 2 m_height_of (aCons (cVar 2) (aCons (cVar 1) aNil))))
      (sSeq (sFor (iZp (aCons (cVar 2) (aCons (cSl pSl (cVar 2) (oSome (cC (.int 1))) oNone) aNil))) (bTup (bCons (bNm 4) (bCons (bNm 5) bNil)))
      (sIf (cTest (cChain pLe pLe (cOp pMul (cOp pIx (cVar 4) (cC (.int 0))) (cOp pIx (cVar 1) (cC (.int 1)))) (cOp pIx (cVar 1) (cC (.int 0))) (cOp pMul (cOp pIx (cVar 5) (cC (.int 0))) (cOp pIx (cVar 1) (cC (.int 1))))))
      (sSeq (sSet 6 (cOp pSub (cOp pIx (cVar 5) (cC (.int 0))) (cOp pIx (cVar 4) (cC (.int 0)))))
      (sSeq (sSet 7 (cIf (cTest (cOp pEq (cVar 6) (cC (.int 0)))) (cTup (aCons (cC (.int 0)) (aCons (cC (.int 1)) aNil))) (cCallF 2 m_lowest (aCons (cOp pSub (cOp pMul (cOp pIx (cVar 5) (cC (.int 0))) (cOp pIx (cVar 1) (cC (.int 1)))) (cOp pIx (cVar 1) (cC (.int 0)))) (aCons (cOp pMul (cVar 6) (cOp pIx (cVar 1) (cC (.int 1)))) aNil)))))
      (sIf (cTest (cOp pEq (cOp pIx (cCallF 3 m_mean_point (aCons (cVar 4) (aCons (cVar 5) (aCons (cVar 7) aNil)))) (cC (.int 1))) (cVar 3)))
      (sRet (cTup (aCons (cCallF 2 m_threshold_of (aCons (cVar 0) (aCons (cVar 4) aNil))) (aCons (cCallF 2 m_threshold_of (aCons (cVar 0) (aCons (cVar 5) aNil))) (aCons (cVar 7) aNil)))))
      sNil)))
      sNil))
      (sRet (cTup (aCons (cC (.int 100)) (aCons (cC (.int 100)) (aCons (cTup (aCons (cC (.int 1)) (aCons (cC (.int 1)) aNil))) aNil))))))))))
def m_best_mixture : List PD → R PD := mBody 6 b_best_mixture
def b_gain {d : Type} : Env → d → R (Fl × d) :=
      (sSeq (sExpr (cCallF 1 m_check_things (aCons (cVar 0) aNil)))
      (sSeq (sExpr (cCallF 2 m_check_mean (aCons (cVar 1) (aCons (cOp pIx (cCallF 2 m_counts (aCons (cVar 0) (aCons (cC (.int 0)) aNil))) (cC (.int 0))) aNil))))
      (sSeq (sSet 2 (cCallF 2 m_height_of (aCons (cCallF 1 m_corners_of (aCons (cCallF 1 m_points_of (aCons (cVar 0) aNil)) aNil)) (aCons (cVar 1) aNil))))
      (sSeq (sSet 3 (cCall pMax (aCons (cComp (iLst (cCallF 1 m_points_of (aCons (cVar 0) aNil))) (bTup (bCons (bNm 4) (bCons (bNm 5) bNil))) [4, 5] (cNotT (cTest (cCallF 2 m_less (aCons (cVar 1) (aCons (cTup (aCons (cVar 4) (aCons (cC (.int 1)) aNil))) aNil))))) (cVar 5)) aNil)))
      (sRet (cCallF 2 m_plus (aCons (cVar 2) (aCons (cTup (aCons (cUn pNeg (cVar 3)) (aCons (cC (.int 1)) aNil))) aNil))))))))
def m_gain : List PD → R PD := mBody 4 b_gain
def b_falls {d : Type} : Env → d → R (Fl × d) :=
      (sRet (cOp pLt (cOp pMul (cOp pIx (cVar 1) (cC (.int 3))) (cOp pAdd (cOp pIx (cVar 0) (cC (.int 2))) (cOp pIx (cVar 0) (cC (.int 3))))) (cOp pMul (cOp pIx (cVar 0) (cC (.int 3))) (cOp pAdd (cOp pIx (cVar 1) (cC (.int 2))) (cOp pIx (cVar 1) (cC (.int 3)))))))
def m_falls : List PD → R PD := mBody 0 b_falls
def b_put_together {d : Type} : Env → d → R (Fl × d) :=
      (sRet (cLst (aCons (cOp pIx (cVar 1) (cC (.int 0))) (aCons (cOp pIx (cVar 0) (cC (.int 1))) (aCons (cOp pAdd (cOp pIx (cVar 0) (cC (.int 2))) (cOp pIx (cVar 1) (cC (.int 2)))) (aCons (cOp pAdd (cOp pIx (cVar 0) (cC (.int 3))) (cOp pIx (cVar 1) (cC (.int 3)))) aNil))))))
def m_put_together : List PD → R PD := mBody 0 b_put_together
def b__law_wrong {d : Type} : Env → d → R (Fl × d) :=
      (sSeq (sSetF 1 (fLst aNil))
      (sSeq (sFor (iRg1 (aCons (cOp pSub (cCall pLen (aCons (cVar 0) aNil)) (cC (.int 1))) aNil)) (bNm 2)
      (sSeq (sPar 3 4 (aCons (cOp pIx (cVar 0) (cVar 2)) (aCons (cOp pIx (cVar 0) (cOp pAdd (cVar 2) (cC (.int 1)))) aNil)))
      (sIf (cTest (cOp pGe (cOp pMul (cOp pIx (cVar 4) (cC (.int 3))) (cOp pAdd (cOp pIx (cVar 3) (cC (.int 2))) (cOp pIx (cVar 3) (cC (.int 3))))) (cOp pMul (cOp pIx (cVar 3) (cC (.int 3))) (cOp pAdd (cOp pIx (cVar 4) (cC (.int 2))) (cOp pIx (cVar 4) (cC (.int 3)))))))
      (sApp 1 (cVar 2))
      sNil)))
      (sRet (cVar 1))))
def m__law_wrong : List PD → R PD := mBody 4 b__law_wrong
def b_levels {d : Type} : Env → d → R (Fl × d) :=
      (sSeq (sSetF 1 (fLst aNil))
      (sSeq (sSet 2 (cTup (aCons (cC (.int 0)) (aCons (cC (.int 0)) aNil))))
      (sSeq (sFor (iLst (cCallF 1 m_scores_of (aCons (cVar 0) aNil))) (bNm 3)
      (sSeq (sSet 4 (cCallF 2 m_counts (aCons (cVar 0) (aCons (cVar 3) aNil))))
      (sSeq (sApp 1 (cLst (aCons (cVar 3) (aCons (cVar 3) (aCons (cOp pSub (cOp pIx (cVar 4) (cC (.int 0))) (cOp pIx (cVar 2) (cC (.int 0)))) (aCons (cOp pSub (cOp pIx (cVar 4) (cC (.int 1))) (cOp pIx (cVar 2) (cC (.int 1)))) aNil))))))
      (sSet 2 (cVar 4)))))
      (sRet (cVar 1)))))
def m_levels : List PD → R PD := mBody 4 b_levels
def b_pooled {d : Type} : Env → d → R (Fl × d) :=
      (sSeq (sSetF 1 (fLst aNil))
      (sSeq (sFor (iLst (cCallF 1 m_levels (aCons (cVar 0) aNil))) (bNm 2)
      (sSeq (sApp 1 (cVar 2))
      (sWhile (fuLen 1) (cAndT (cTest (cOp pGe (cCall pLen (aCons (cVar 1) aNil)) (cC (.int 2)))) (cNotT (cTest (cCallF 2 m_falls (aCons (cOp pIx (cVar 1) (cUn pNeg (cC (.int 2)))) (aCons (cOp pIx (cVar 1) (cUn pNeg (cC (.int 1)))) aNil))))))
      (sSetF 1 (fCat (cSl pSl (cVar 1) oNone (oSome (cUn pNeg (cC (.int 2))))) (cLst (aCons (cCallF 2 m_put_together (aCons (cOp pIx (cVar 1) (cUn pNeg (cC (.int 2)))) (aCons (cOp pIx (cVar 1) (cUn pNeg (cC (.int 1)))) aNil))) aNil)))))))
      (sRet (cVar 1))))
def m_pooled : List PD → R PD := mBody 2 b_pooled
def b_pools {d : Type} : Env → d → R (Fl × d) :=
      (sSeq (sExpr (cCallF 1 m_check_things (aCons (cVar 0) aNil)))
      (sRet (cComp (iLst (cCallF 1 m_pooled (aCons (cVar 0) aNil))) (bNm 1) [1] tYesD (cCall pTuple (aCons (cVar 1) aNil)))))
def m_pools : List PD → R PD := mBody 1 b_pools
def b_share_of {d : Type} : Env → d → R (Fl × d) :=
      (sSeq (sExpr (cCallF 1 m_check_things (aCons (cVar 0) aNil)))
      (sSeq (sIf (cOrT (cNotT (cTest (cCallF 3 m_is_int (aCons (cVar 1) (aCons (cC (.int 0)) (aCons (cC (.int 99)) aNil)))))) (cTest (cOp pNotIn (cVar 1) (cCallF 1 m_scores_of (aCons (cVar 0) aNil)))))
      (sRet (cC .none))
      sNil)
      (sSeq (sSet 2 (cOp pIx (cComp (iLst (cCallF 1 m_pooled (aCons (cVar 0) aNil))) (bNm 3) [3] (cTest (cChain pLe pLe (cOp pIx (cVar 3) (cC (.int 0))) (cVar 1) (cOp pIx (cVar 3) (cC (.int 1))))) (cVar 3)) (cC (.int 0))))
      (sRet (cCallF 2 m_lowest (aCons (cOp pIx (cVar 2) (cC (.int 3))) (aCons (cOp pAdd (cOp pIx (cVar 2) (cC (.int 2))) (cOp pIx (cVar 2) (cC (.int 3)))) aNil)))))))
def m_share_of : List PD → R PD := mBody 2 b_share_of
def b_squared_error {d : Type} : Env → d → R (Fl × d) :=
      (sSeq (sExpr (cCallF 1 m_check_things (aCons (cVar 0) aNil)))
      (sSeq (sSet 1 (cTup (aCons (cC (.int 0)) (aCons (cC (.int 1)) aNil))))
      (sSeq (sFor (iLst (cCallF 1 m_pooled (aCons (cVar 0) aNil))) (bTup (bCons (bNm 2) (bCons (bNm 3) (bCons (bNm 4) (bCons (bNm 5) bNil)))))
      (sSeq (sSet 6 (cCallF 2 m_lowest (aCons (cOp pMul (cVar 5) (cVar 4)) (aCons (cOp pAdd (cVar 4) (cVar 5)) aNil))))
      (sSet 1 (cCallF 2 m_lowest (aCons (cOp pAdd (cOp pMul (cOp pIx (cVar 1) (cC (.int 0))) (cOp pIx (cVar 6) (cC (.int 1)))) (cOp pMul (cOp pIx (cVar 6) (cC (.int 0))) (cOp pIx (cVar 1) (cC (.int 1))))) (aCons (cOp pMul (cOp pIx (cVar 1) (cC (.int 1))) (cOp pIx (cVar 6) (cC (.int 1)))) aNil))))))
      (sRet (cVar 1)))))
def m_squared_error : List PD → R PD := mBody 6 b_squared_error
def b_is_pooled {d : Type} : Env → d → R (Fl × d) :=
      (sSeq (sExpr (cCallF 1 m_check_things (aCons (cVar 0) aNil)))
      (sRet (cOp pEq (cCall pLen (aCons (cCallF 1 m_pooled (aCons (cVar 0) aNil)) aNil)) (cCall pLen (aCons (cCallF 1 m_scores_of (aCons (cVar 0) aNil)) aNil)))))
def m_is_pooled : List PD → R PD := mBody 0 b_is_pooled
def b_shares {d : Type} : Env → d → R (Fl × d) :=
      (sSeq (sExpr (cCallF 1 m_check_things (aCons (cVar 0) aNil)))
      (sRet (cComp (iLst (cVar 0)) (bTup (bCons (bNm 1) (bCons (bNm 2) bNil))) [1, 2] tYesD (cCallF 2 m_share_of (aCons (cVar 0) (aCons (cVar 1) aNil))))))
def m_shares : List PD → R PD := mBody 2 b_shares
def b__law_minus {d : Type} : Env → d → R (Fl × d) :=
      (sRet (cTup (aCons (cOp pSub (cC (.int 0)) (cOp pIx (cVar 0) (cC (.int 0)))) (aCons (cOp pIx (cVar 0) (cC (.int 1))) aNil))))
def m__law_minus : List PD → R PD := mBody 0 b__law_minus
def b_height {d : Type} : Env → d → R (Fl × d) :=
      (sSeq (sSet 2 (cTup (aCons (cC (.int 0)) (aCons (cC (.int 1)) aNil))))
      (sSeq (sFor (iZp (aCons (cVar 0) (aCons (cSl pSl (cVar 0) (oSome (cC (.int 1))) oNone) aNil))) (bTup (bCons (bNm 3) (bCons (bNm 4) bNil)))
      (sIf (cTest (cChain pLe pLe (cOp pMul (cOp pIx (cVar 3) (cC (.int 0))) (cOp pIx (cVar 1) (cC (.int 1)))) (cOp pIx (cVar 1) (cC (.int 0))) (cOp pMul (cOp pIx (cVar 4) (cC (.int 0))) (cOp pIx (cVar 1) (cC (.int 1))))))
      (sSeq (sSet 5 (cOp pSub (cOp pIx (cVar 4) (cC (.int 0))) (cOp pIx (cVar 3) (cC (.int 0)))))
      (sSeq (sIf (cTest (cOp pEq (cVar 5) (cC (.int 0))))
      (sSet 6 (cTup (aCons (cOp pIx (cVar 4) (cC (.int 1))) (aCons (cC (.int 1)) aNil))))
      (sSet 6 (cCallF 2 m_lowest (aCons (cOp pAdd (cOp pMul (cOp pMul (cOp pIx (cVar 3) (cC (.int 1))) (cVar 5)) (cOp pIx (cVar 1) (cC (.int 1)))) (cOp pMul (cOp pSub (cOp pIx (cVar 1) (cC (.int 0))) (cOp pMul (cOp pIx (cVar 3) (cC (.int 0))) (cOp pIx (cVar 1) (cC (.int 1))))) (cOp pSub (cOp pIx (cVar 4) (cC (.int 1))) (cOp pIx (cVar 3) (cC (.int 1)))))) (aCons (cOp pMul (cVar 5) (cOp pIx (cVar 1) (cC (.int 1)))) aNil)))))
      (sSet 2 (cIf (cTest (cCallF 2 m_less (aCons (cVar 2) (aCons (cVar 6) aNil)))) (cVar 6) (cVar 2)))))
      sNil))
      (sRet (cVar 2))))
def m_height : List PD → R PD := mBody 5 b_height
def b_height_ahead {d : Type} : Env → d → R (Fl × d) :=
      (sSeq (sSet 2 (cComp (iLst (cVar 0)) (bTup (bCons (bNm 3) (bCons (bNm 4) bNil))) [3, 4] (cTest (cOp pEq (cVar 3) (cVar 1))) (cTup (aCons (cVar 4) (aCons (cC (.int 1)) aNil)))))
      (sRet (cIf (cTest (cOp pNe (cVar 2) (cLst aNil))) (cOp pIx (cVar 2) (cC (.int 0))) (cCallF 2 m_height (aCons (cVar 0) (aCons (cTup (aCons (cVar 1) (aCons (cC (.int 1)) aNil))) aNil))))))
def m_height_ahead : List PD → R PD := mBody 3 b_height_ahead
def b_is_above {d : Type} : Env → d → R (Fl × d) :=
      (sSeq (sExpr (cCallF 2 m_check_both (aCons (cVar 0) (aCons (cVar 1) aNil))))
      (sSeq (sFor (iRg1 (aCons (cOp pAdd (cOp pIx (cOp pIx (cVar 0) (cUn pNeg (cC (.int 1)))) (cC (.int 0))) (cC (.int 1))) aNil)) (bNm 2)
      (sSeq (sIf (cTest (cCallF 2 m_less (aCons (cCallF 2 m_height (aCons (cVar 0) (aCons (cTup (aCons (cVar 2) (aCons (cC (.int 1)) aNil))) aNil))) (aCons (cCallF 2 m_height (aCons (cVar 1) (aCons (cTup (aCons (cVar 2) (aCons (cC (.int 1)) aNil))) aNil))) aNil))))
      (sRet (cC (.bool false)))
      sNil)
      (sIf (cAndT (cTest (cOp pGt (cVar 2) (cC (.int 0)))) (cTest (cCallF 2 m_less (aCons (cCallF 2 m_height_ahead (aCons (cVar 0) (aCons (cVar 2) aNil))) (aCons (cCallF 2 m_height_ahead (aCons (cVar 1) (aCons (cVar 2) aNil))) aNil)))))
      (sRet (cC (.bool false)))
      sNil)))
      (sRet (cC (.bool true)))))
def m_is_above : List PD → R PD := mBody 1 b_is_above
def b_first_below {d : Type} : Env → d → R (Fl × d) :=
      (sSeq (sExpr (cCallF 2 m_check_both (aCons (cVar 0) (aCons (cVar 1) aNil))))
      (sSeq (sFor (iRg1 (aCons (cOp pAdd (cOp pIx (cOp pIx (cVar 0) (cUn pNeg (cC (.int 1)))) (cC (.int 0))) (cC (.int 1))) aNil)) (bNm 2)
      (sIf (cTest (cCallF 2 m_less (aCons (cCallF 2 m_height (aCons (cVar 0) (aCons (cTup (aCons (cVar 2) (aCons (cC (.int 1)) aNil))) aNil))) (aCons (cCallF 2 m_height (aCons (cVar 1) (aCons (cTup (aCons (cVar 2) (aCons (cC (.int 1)) aNil))) aNil))) aNil))))
      (sRet (cVar 2))
      sNil))
      (sRet (cC .none))))
def m_first_below : List PD → R PD := mBody 1 b_first_below
def b__law_areas {d : Type} : Env → d → R (Fl × d) :=
      (sSeq (sSet 5 (cCallF 2 m_area_difference (aCons (cVar 2) (aCons (cVar 3) aNil))))
      (sSeq (sIf (cTest (cOp pNe (cVar 5) (cOp pAdd (cOp pMul (cCallF 2 m_area_difference (aCons (cVar 3) (aCons (cLst (aCons (cTup (aCons (cC (.int 0)) (aCons (cC (.int 0)) aNil))) (aCons (cOp pIx (cVar 2) (cUn pNeg (cC (.int 1)))) aNil))) aNil))) (cOp pSub (cC (.int 0)) (cC (.int 1)))) (cCallF 2 m_area_difference (aCons (cVar 2) (aCons (cLst (aCons (cTup (aCons (cC (.int 0)) (aCons (cC (.int 0)) aNil))) (aCons (cOp pIx (cVar 2) (cUn pNeg (cC (.int 1)))) aNil))) aNil))))))
      (sRet (cC (.bool false)))
      sNil)
      (sSeq (sIf (cOrT (cAndT (cTest (cVar 4)) (cTest (cOp pLt (cVar 5) (cC (.int 0))))) (cOrT (cTest (cOp pIsNot (cCallF 2 m_is_above (aCons (cCallF 1 m_hull (aCons (cVar 0) aNil)) (aCons (cVar 2) aNil))) (cC (.bool true)))) (cTest (cOp pIsNot (cCallF 2 m_is_above (aCons (cVar 2) (aCons (cVar 2) aNil))) (cC (.bool true))))))
      (sRet (cC (.bool false)))
      sNil)
      (sSeq (sIf (cAndT (cTest (cOp pIs (cCallF 2 m_is_above (aCons (cVar 2) (aCons (cVar 3) aNil))) (cC (.bool true)))) (cAndT (cTest (cOp pIs (cCallF 2 m_is_above (aCons (cVar 3) (aCons (cVar 2) aNil))) (cC (.bool true)))) (cTest (cOp pNe (cVar 5) (cC (.int 0))))))
      (sRet (cC (.bool false)))
      sNil)
      (sSeq (sAsg (bTup (bCons (bNm 6) (bCons (bNm 7) (bCons (bNm 8) bNil)))) (cCallF 1 m_pair_counts (aCons (cVar 0) aNil)))
      (sSeq (sAsg (bTup (bCons (bNm 9) (bCons (bNm 10) (bCons (bNm 11) bNil)))) (cCallF 1 m_pair_counts (aCons (cVar 1) aNil)))
      (sRet (cAndV (cOp pEq (cVar 5) (cOp pSub (cOp pSub (cOp pAdd (cOp pMul (cC (.int 2)) (cVar 6)) (cVar 7)) (cOp pMul (cC (.int 2)) (cVar 9))) (cVar 10))) (cOp pEq (cCallF 2 m_area_difference (aCons (cCallF 1 m_hull (aCons (cVar 0) aNil)) (aCons (cVar 2) aNil))) (cCallF 1 m_waste (aCons (cVar 0) aNil)))))))))))
def m__law_areas : List PD → R PD := mBody 7 b__law_areas
def b_joined {d : Type} : Env → d → R (Fl × d) :=
      (sSeq (sExpr (cCallF 1 m_check_things (aCons (cVar 0) aNil)))
      (sSeq (sExpr (cCallF 1 m_check_things (aCons (cVar 1) aNil)))
      (sSeq (sSet 2 (cOp pAdd (cVar 0) (cVar 1)))
      (sSeq (sExpr (cCallF 1 m_check_things (aCons (cVar 2) aNil)))
      (sRet (cVar 2))))))
def m_joined : List PD → R PD := mBody 1 b_joined
def b_turned_over {d : Type} : Env → d → R (Fl × d) :=
      (sSeq (sExpr (cCallF 1 m_check_things (aCons (cVar 0) aNil)))
      (sRet (cComp (iLst (cVar 0)) (bTup (bCons (bNm 1) (bCons (bNm 2) bNil))) [1, 2] tYesD (cTup (aCons (cOp pSub (cC (.int 99)) (cVar 1)) (aCons (cVar 2) aNil))))))
def m_turned_over : List PD → R PD := mBody 2 b_turned_over
def b_exchanged {d : Type} : Env → d → R (Fl × d) :=
      (sSeq (sExpr (cCallF 1 m_check_things (aCons (cVar 0) aNil)))
      (sRet (cComp (iLst (cVar 0)) (bTup (bCons (bNm 1) (bCons (bNm 2) bNil))) [1, 2] tYesD (cTup (aCons (cVar 1) (aCons (cUn pNot (cVar 2)) aNil))))))
def m_exchanged : List PD → R PD := mBody 2 b_exchanged
def b_led {d : Type} : Env → d → R (Fl × d) :=
      (sSeq (sExpr (cCallF 1 m_check_things (aCons (cVar 0) aNil)))
      (sSeq (sIf (cOrT (cNotT (cTest (cUn (pIsi "tuple") (cVar 1)))) (cOrT (cTest (cOp pNe (cCall pLen (aCons (cVar 1) aNil)) (cC (.int 100)))) (cNotT (cTest (cCall pAll (aCons (cComp (iTp (cVar 1)) (bNm 2) [2] tYesD (cCallF 3 m_is_int (aCons (cVar 2) (aCons (cC (.int 0)) (aCons (cC (.int 99)) aNil))))) aNil))))))
      (sRaise 1)
      sNil)
      (sSeq (sIf (cNotT (cTest (cCall pAll (aCons (cComp (iRg1 (aCons (cC (.int 99)) aNil)) (bNm 4) [4] tYesD (cOp pLe (cOp pIx (cVar 1) (cVar 4)) (cOp pIx (cVar 1) (cOp pAdd (cVar 4) (cC (.int 1)))))) aNil))))
      (sRaise 1)
      sNil)
      (sRet (cComp (iLst (cVar 0)) (bTup (bCons (bNm 2) (bCons (bNm 3) bNil))) [2, 3] tYesD (cTup (aCons (cOp pIx (cVar 1) (cVar 2)) (aCons (cVar 3) aNil))))))))
def m_led : List PD → R PD := mBody 3 b_led
def b_check_numbers {d : Type} : Env → d → R (Fl × d) :=
      (sSeq (sIf (cOrT (cNotT (cTest (cCallF 3 m_is_int (aCons (cVar 0) (aCons (cC (.int 0)) (aCons (cC (.int 4)) aNil)))))) (cNotT (cTest (cCallF 3 m_is_int (aCons (cVar 1) (aCons (cC (.int 0)) (aCons (cC (.int 4)) aNil)))))))
      (sRaise 1)
      sNil)
      (sIf (cTest (cOp pEq (cOp pAdd (cVar 0) (cVar 1)) (cC (.int 0))))
      (sRaise 1)
      sNil))
def m_check_numbers : List PD → R PD := mBody 0 b_check_numbers
def b_check_text {d : Type} : Env → d → R (Fl × d) :=
      (sIf (cNotT (cTest (cUn (pIsi "str") (cVar 0))))
      (sRaise 3)
      sNil)
def m_check_text : List PD → R PD := mBody 0 b_check_text
def b__law_two {d : Type} : Env → d → R (Fl × d) :=
      (sSeq (sIf (cTest (cOp pEq (cVar 0) (cC (.int 0))))
      (sRet (cCallF 2 m_alarms_at (aCons (cVar 1) (aCons (cVar 2) aNil))))
      sNil)
      (sSeq (sIf (cTest (cOp pEq (cVar 0) (cC (.int 1))))
      (sRet (cCallF 2 m_most_true (aCons (cVar 1) (aCons (cVar 2) aNil))))
      sNil)
      (sSeq (sIf (cTest (cOp pEq (cVar 0) (cC (.int 2))))
      (sRet (cCallF 2 m_least_false (aCons (cVar 1) (aCons (cVar 2) aNil))))
      sNil)
      (sSeq (sIf (cTest (cOp pEq (cVar 0) (cC (.int 3))))
      (sRet (cCallF 3 m_least_cost (aCons (cVar 1) (aCons (cVar 2) (aCons (cVar 3) aNil)))))
      sNil)
      (sSeq (sIf (cTest (cOp pEq (cVar 0) (cC (.int 4))))
      (sRet (cCallF 3 m_best_points (aCons (cVar 1) (aCons (cVar 2) (aCons (cVar 3) aNil)))))
      sNil)
      (sSeq (sIf (cTest (cOp pEq (cVar 0) (cC (.int 5))))
      (sRet (cCallF 3 m_best_thresholds (aCons (cVar 1) (aCons (cVar 2) (aCons (cVar 3) aNil)))))
      sNil)
      (sSeq (sIf (cTest (cOp pEq (cVar 0) (cC (.int 6))))
      (sRet (cCallF 3 m_miss_cost_for (aCons (cVar 1) (aCons (cVar 2) (aCons (cVar 3) aNil)))))
      sNil)
      (sSeq (sIf (cTest (cOp pEq (cVar 0) (cC (.int 7))))
      (sRet (cCallF 4 m_cost_at (aCons (cVar 1) (aCons (cVar 2) (aCons (cVar 3) (aCons (cC (.int 1)) aNil))))))
      sNil)
      (sSeq (sIf (cTest (cOp pEq (cVar 0) (cC (.int 8))))
      (sRet (cCallF 4 m_mixed_alarms (aCons (cVar 1) (aCons (cVar 2) (aCons (cVar 3) (aCons (cTup (aCons (cC (.int 1)) (aCons (cC (.int 2)) aNil))) aNil))))))
      sNil)
      (sSeq (sIf (cTest (cOp pEq (cVar 0) (cC (.int 9))))
      (sRet (cCallF 2 m_best_true (aCons (cVar 1) (aCons (cVar 2) aNil))))
      sNil)
      (sSeq (sIf (cTest (cOp pEq (cVar 0) (cC (.int 10))))
      (sRet (cCallF 2 m_best_mixture (aCons (cVar 1) (aCons (cVar 2) aNil))))
      sNil)
      (sSeq (sIf (cTest (cOp pEq (cVar 0) (cC (.int 11))))
      (sRet (cCallF 2 m_gain (aCons (cVar 1) (aCons (cVar 2) aNil))))
      sNil)
      (sSeq (sIf (cTest (cOp pEq (cVar 0) (cC (.int 12))))
      (sRet (cCallF 2 m_joined (aCons (cVar 1) (aCons (cLst (aCons (cTup (aCons (cC (.int 1)) (aCons (cC (.bool true)) aNil))) aNil)) aNil))))
      sNil)
      (sRet (cIf (cTest (cOp pEq (cVar 0) (cC (.int 13)))) (cCallF 2 m_share_of (aCons (cVar 1) (aCons (cVar 2) aNil))) (cCallF 2 m_is_ever_best (aCons (cVar 1) (aCons (cVar 2) aNil))))))))))))))))))
def m__law_two : List PD → R PD := mBody 0 b__law_two
def b__law_first {d : Type} : Env → d → R (Fl × d) :=
      (sSeq (sIf (cOrT (cTest (cOp pNe (cCallF 1 m_curve (aCons (cVar 0) aNil)) (cLst (aCons (cTup (aCons (cC (.int 0)) (aCons (cC (.int 0)) aNil))) (aCons (cTup (aCons (cC (.int 0)) (aCons (cC (.int 1)) aNil))) (aCons (cTup (aCons (cC (.int 1)) (aCons (cC (.int 1)) aNil))) (aCons (cTup (aCons (cC (.int 2)) (aCons (cC (.int 2)) aNil))) (aCons (cTup (aCons (cC (.int 3)) (aCons (cC (.int 2)) aNil))) aNil)))))))) (cOrT (cTest (cOp pNe (cCallF 2 m_most_true (aCons (cVar 0) (aCons (cC (.int 1)) aNil))) (cC (.int 1)))) (cTest (cOp pNe (cCallF 1 m_pair_counts (aCons (cVar 0) aNil)) (cTup (aCons (cC (.int 4)) (aCons (cC (.int 1)) (aCons (cC (.int 1)) aNil))))))))
      (sRet (cC (.bool false)))
      sNil)
      (sSeq (sIf (cOrT (cTest (cOp pNe (cCallF 1 m_hull (aCons (cVar 0) aNil)) (cLst (aCons (cTup (aCons (cC (.int 0)) (aCons (cC (.int 0)) aNil))) (aCons (cTup (aCons (cC (.int 0)) (aCons (cC (.int 1)) aNil))) (aCons (cTup (aCons (cC (.int 2)) (aCons (cC (.int 2)) aNil))) (aCons (cTup (aCons (cC (.int 3)) (aCons (cC (.int 2)) aNil))) aNil))))))) (cTest (cOp pNe (cCallF 3 m_best_points (aCons (cVar 0) (aCons (cC (.int 1)) (aCons (cC (.int 2)) aNil)))) (cLst (aCons (cTup (aCons (cC (.int 0)) (aCons (cC (.int 1)) aNil))) (aCons (cTup (aCons (cC (.int 2)) (aCons (cC (.int 2)) aNil))) aNil))))))
      (sRet (cC (.bool false)))
      sNil)
      (sRet (cAndV (cOp pEq (cCallF 3 m_miss_cost_for (aCons (cVar 0) (aCons (cC (.int 1)) (aCons (cC (.int 9)) aNil)))) (cC (.int 2))) (cOp pEq (cCallF 2 m_best_true (aCons (cVar 0) (aCons (cTup (aCons (cC (.int 1)) (aCons (cC (.int 1)) aNil))) aNil))) (cTup (aCons (cC (.int 3)) (aCons (cC (.int 2)) aNil))))))))
def m__law_first : List PD → R PD := mBody 0 b__law_first
end DL

/-! M0: loops and comprehensions evaluated -/
namespace DL
open PySem PySem.Spec PyProof.Rows L2
/-- a comprehension without effects -/
theorem compGo_pure {d a : Type} {b : Bd} {own : List Nat} {t : Env → d → R (Bool × d)} {f : Env → d → R (PD × d)} {ρ : Env} (enc : a → PD) (keep : a → Bool) (val : a → PD) (s : d) : ∀ (xs : List a),
    (∀ x ∈ xs, ∃ ρ1, b (enc x) (wipeD ρ own) = some ρ1 ∧ t ρ1 s = .ok (keep x, s) ∧ (keep x = true → f ρ1 s = .ok (val x, s) ∧ isD (val x) = true)) → compGo b own t f ρ (xs.map enc) s = .ok ((xs.filter keep).map val, s)
  | [], _ => rfl
  | x :: xs, h => by
    obtain ⟨ρ1, h1, h2, h3⟩ := h x (by simp)
    have ih := compGo_pure (b := b) (own := own) (t := t) (f := f) (ρ := ρ) enc keep val s xs fun y hy => h y (List.mem_cons_of_mem _ hy)
    show compGo b own t f ρ (enc x :: xs.map enc) s = _
    unfold compGo
    rw [h1]
    dsimp only
    rw [h2, noX_ok, bnd_ok]
    cases hk : keep x with
    | true =>
      obtain ⟨h4, h5⟩ := h3 hk
      rw [if_pos rfl, h4, noX_ok, bnd_ok, if_pos h5, ih, bnd_ok, List.filter_cons_of_pos hk]
      rfl
    | false =>
      rw [if_neg (by simp), ih, List.filter_cons_of_neg (by simp [hk])]
theorem cComp_pure {d a : Type} {it : Env → d → R (List PD × d)} {b : Bd} {own : List Nat} {t : Env → d → R (Bool × d)} {f : Env → d → R (PD × d)} {ρ : Env} {s : d} (xs : List a) (enc : a → PD) (keep : a → Bool) (val : a → PD) (hi : it ρ s = .ok (xs.map enc, s)) (hl : xs.length ≤ 100000)
    (h : ∀ x ∈ xs, ∃ ρ1, b (enc x) (wipeD ρ own) = some ρ1 ∧ t ρ1 s = .ok (keep x, s) ∧ (keep x = true → f ρ1 s = .ok (val x, s) ∧ isD (val x) = true)) : cComp it b own t f ρ s = .ok (.list ((xs.filter keep).map val), s) := by
  unfold cComp
  rw [hi, bnd_ok, if_pos (by rw [List.length_map]; exact hl), compGo_pure enc keep val s xs h, bnd_ok]
/-- .. no test -/
theorem cComp_map {d a : Type} {it : Env → d → R (List PD × d)} {b : Bd} {own : List Nat} {f : Env → d → R (PD × d)} {ρ : Env} {s : d} (xs : List a) (enc : a → PD) (val : a → PD) (hi : it ρ s = .ok (xs.map enc, s)) (hl : xs.length ≤ 100000)
    (h : ∀ x ∈ xs, ∃ ρ1, b (enc x) (wipeD ρ own) = some ρ1 ∧ f ρ1 s = .ok (val x, s) ∧ isD (val x) = true) : cComp it b own tYesD f ρ s = .ok (.list (xs.map val), s) := by
  have := cComp_pure (t := tYesD) (f := f) (b := b) (own := own) (ρ := ρ) xs enc (fun _ => true) val hi hl fun x hx => by
    obtain ⟨ρ1, h1, h2⟩ := h x hx
    exact ⟨ρ1, h1, rfl, fun _ => h2⟩
  rw [this, List.filter_eq_self.mpr (by simp)]
/-- a for loop whose every turn goes on: the state by an invariant form -/
theorem sForGo_fold {d a b : Type} {bd : Bd} {body : Env → d → R (Fl × d)} (enc : a → PD) (env : b → Env) (step : b → a → b) (s : d) : ∀ (xs : List a) (st : b),
    (∀ (st : b) (x : a), x ∈ xs → ∃ ρ1, bd (enc x) (env st) = some ρ1 ∧ body ρ1 s = .ok (.nx (env (step st x)), s)) → sForGo bd body (xs.map enc) (env st) s = .ok (.nx (env (xs.foldl step st)), s)
  | [], st, _ => rfl
  | x :: xs, st, h => by
    obtain ⟨ρ1, h1, h2⟩ := h st x (by simp)
    show sForGo bd body (enc x :: xs.map enc) (env st) s = _
    unfold sForGo
    rw [h1]
    dsimp only
    rw [h2]
    dsimp only
    exact sForGo_fold enc env step s xs (step st x) fun st y hy => h st y (List.mem_cons_of_mem _ hy)
/-- .. by what holds between two turns -/
theorem sForGo_inv {d a : Type} {bd : Bd} {body : Env → d → R (Fl × d)} (enc : a → PD) (Inv : List a → Env → d → Prop) : ∀ (xs pre : List a) (ρ : Env) (s : d), Inv pre ρ s →
    (∀ (p : List a) (x : a) (q : List a) ρ s, pre ++ xs = p ++ x :: q → Inv p ρ s → ∃ ρ1 ρ2 s2, bd (enc x) ρ = some ρ1 ∧ body ρ1 s = .ok (.nx ρ2, s2) ∧ Inv (p ++ [x]) ρ2 s2) →
    ∃ ρ' s', sForGo bd body (xs.map enc) ρ s = .ok (.nx ρ', s') ∧ Inv (pre ++ xs) ρ' s'
  | [], pre, ρ, s, h0, _ => ⟨ρ, s, rfl, by rw [List.append_nil]; exact h0⟩
  | x :: xs, pre, ρ, s, h0, h => by
    obtain ⟨ρ1, ρ2, s2, h1, h2, h3⟩ := h pre x xs ρ s rfl h0
    obtain ⟨ρ', s', e, i⟩ := sForGo_inv (bd := bd) (body := body) enc Inv xs (pre ++ [x]) ρ2 s2 h3 fun p y q ρ s hq => h p y q ρ s (by rw [← hq]; simp)
    refine ⟨ρ', s', ?_, by rw [List.append_assoc] at i; exact i⟩
    show sForGo bd body (enc x :: xs.map enc) ρ s = _
    unfold sForGo
    rw [h1]
    dsimp only
    rw [h2]
    exact e
/-- a loop that leaves at the first item of a kind -/
theorem sForGo_find {d a : Type} {bd : Bd} {body : Env → d → R (Fl × d)} (enc : a → PD) (p : a → Bool) (val : a → PD) (Ok : Env → Prop) (s : d) : ∀ (xs : List a) (ρ : Env), Ok ρ →
    (∀ x ∈ xs, ∀ ρ, Ok ρ → ∃ ρ1, bd (enc x) ρ = some ρ1 ∧ (p x = true → body ρ1 s = .ok (.rt (val x), s)) ∧ (p x = false → ∃ ρ2, Ok ρ2 ∧ body ρ1 s = .ok (.nx ρ2, s))) →
    match xs.find? p with
    | some x => sForGo bd body (xs.map enc) ρ s = .ok (.rt (val x), s)
    | none => ∃ ρ', Ok ρ' ∧ sForGo bd body (xs.map enc) ρ s = .ok (.nx ρ', s)
  | [], ρ, h0, _ => ⟨ρ, h0, rfl⟩
  | x :: xs, ρ, h0, h => by
    obtain ⟨ρ1, h1, h2, h3⟩ := h x (by simp) ρ h0
    cases hp : p x with
    | true =>
      rw [List.find?_cons_of_pos hp]
      show sForGo bd body (enc x :: xs.map enc) ρ s = _
      unfold sForGo
      rw [h1]
      dsimp only
      rw [h2 hp]
    | false =>
      obtain ⟨ρ2, k2, e2⟩ := h3 hp
      rw [List.find?_cons_of_neg (by simp [hp])]
      have ih := sForGo_find (bd := bd) (body := body) enc p val Ok s xs ρ2 k2 fun y hy => h y (List.mem_cons_of_mem _ hy)
      have e : sForGo bd body (enc x :: xs.map enc) ρ s = sForGo bd body (xs.map enc) ρ2 s := by
        conv => lhs; unfold sForGo
        rw [h1]
        dsimp only
        rw [e2]
      show match xs.find? p with
        | some y => sForGo bd body (enc x :: xs.map enc) ρ s = _
        | none => ∃ ρ', Ok ρ' ∧ sForGo bd body (enc x :: xs.map enc) ρ s = _
      rw [e]
      exact ih
/-- a comprehension that changes the state -/
theorem compGo_eff {d a : Type} {b : Bd} {own : List Nat} {f : Env → d → R (PD × d)} {ρ : Env} (enc : a → PD) (I : d → Prop) (P : PD → Prop) : ∀ (xs : List a) (s : d), I s →
    (∀ x ∈ xs, ∀ s, I s → ∃ ρ1 y s', b (enc x) (wipeD ρ own) = some ρ1 ∧ f ρ1 s = .ok (y, s') ∧ isD y = true ∧ P y ∧ I s') → ∃ ys s', compGo b own tYesD f ρ (xs.map enc) s = .ok (ys, s') ∧ ys.length = xs.length ∧ (∀ y ∈ ys, P y) ∧ I s'
  | [], s, hs, _ => ⟨[], s, rfl, rfl, (fun y h => by cases h), hs⟩
  | x :: xs, s, hs, h => by
    obtain ⟨ρ1, y, s1, h1, h2, h3, h4, h5⟩ := h x (by simp) s hs
    obtain ⟨ys, s2, e, l, p, i⟩ := compGo_eff (b := b) (own := own) (f := f) (ρ := ρ) enc I P xs s1 h5 fun z hz => h z (List.mem_cons_of_mem _ hz)
    refine ⟨y :: ys, s2, ?_, by simp [l], fun z hz => ?_, i⟩
    · show compGo b own tYesD f ρ (enc x :: xs.map enc) s = _
      unfold compGo
      rw [h1]
      dsimp only
      rw [show tYesD ρ1 s = .ok (true, s) from rfl, noX_ok, bnd_ok, if_pos rfl, h2, noX_ok, bnd_ok, if_pos h3, e, bnd_ok]
    · rcases List.mem_cons.mp hz with q | q
      · rw [q]; exact h4
      · exact p z q
abbrev Th := Int × Bool
abbrev Pt := Int × Int
def eT (x : Th) : PD := .tuple [.int x.1, .bool x.2]
def eP (x : Pt) : PD := .tuple [.int x.1, .int x.2]
def encT (T : List Th) : PD := .list (T.map eT)
def encP (P : List Pt) : PD := .list (P.map eP)
theorem isD_int (i : Int) : isD (.int i) = true := rfl
theorem isD_bool (i : Bool) : isD (.bool i) = true := rfl
theorem isD_none : isD .none = true := rfl
theorem isD_str (i : Str) : isD (.str i) = true := rfl
theorem isD_list (i : List PD) : isD (.list i) = true := rfl
theorem isD_tuple (i : List PD) : isD (.tuple i) = true := rfl
theorem isD_eP (p : Pt) : isD (eP p) = true := rfl
theorem isD_eT (p : Th) : isD (eT p) = true := rfl
theorem isD_encP (p : List Pt) : isD (encP p) = true := rfl
theorem isD_encT (p : List Th) : isD (encT p) = true := rfl
theorem isOk_ok (d : PD) : isOk (.ok d) = .ok d := rfl
theorem isOk_exc (c : Nat) : isOk (.exc c) = .bad := rfl
theorem isOk_bad : isOk .bad = .bad := rfl
theorem isL_list (xs : List PD) : isL (.list xs) = true := rfl
theorem isL_encP (xs : List Pt) : isL (encP xs) = true := rfl
theorem szL : sizeLine = 16777216 := rfl
theorem pLe_i (i j : Int) : pLe (.int i) (.int j) = .ok (.bool (decide (i ≤ j))) := rfl
theorem pLt_i (i j : Int) : pLt (.int i) (.int j) = .ok (.bool (decide (i < j))) := rfl
theorem pGt_i (i j : Int) : pGt (.int i) (.int j) = .ok (.bool (decide (j < i))) := rfl
theorem pGe_i (i j : Int) : pGe (.int i) (.int j) = .ok (.bool (decide (j ≤ i))) := rfl
theorem pAdd_i (i j : Int) : pAdd (.int i) (.int j) = .ok (.int (i + j)) := rfl
theorem pSub_i (i j : Int) : pSub (.int i) (.int j) = .ok (.int (i - j)) := rfl
theorem pLen_l (xs : List PD) : pLen [.list xs] = .ok (.int xs.length) := rfl
theorem pLen_t (xs : List PD) : pLen [.tuple xs] = .ok (.int xs.length) := rfl
theorem pIx_t0 (x : PD) (xs : List PD) : pIx (.tuple (x :: xs)) (.int 0) = .ok x := by
  simp [pIx, L2.atI, ixN]
theorem pIx_t1 (x y : PD) (xs : List PD) : pIx (.tuple (x :: y :: xs)) (.int 1) = .ok y := by
  have h : (1 : Int) < (xs.length : Int) + 1 + 1 := by omega
  simp [pIx, L2.atI, ixN, h]
theorem pEq_ok {d e : PD} (h1 : SeqAt.shaped d = true) (h2 : SeqAt.shaped e = true) : pEq d e = .ok (.bool (PyData.eqv d e)) := by
  unfold pEq; rw [h1, h2]; rfl
theorem pNe_ok {d e : PD} (h1 : SeqAt.shaped d = true) (h2 : SeqAt.shaped e = true) : pNe d e = .ok (.bool (!PyData.eqv d e)) := by
  unfold pNe; rw [h1, h2]; rfl
theorem eqv_int (i j : Int) : PyData.eqv (.int i) (.int j) = decide (i = j) := by
  show (i == j) = _
  by_cases h : i = j
  · subst h; simp
  · simp [h]
theorem shaped_int (i : Int) : SeqAt.shaped (.int i) = true := rfl
theorem shaped_bool (i : Bool) : SeqAt.shaped (.bool i) = true := rfl
theorem shaped_none : SeqAt.shaped .none = true := rfl
theorem pEq_i (i j : Int) : pEq (.int i) (.int j) = .ok (.bool (decide (i = j))) := by rw [pEq_ok rfl rfl, eqv_int]
theorem pNe_i (i j : Int) : pNe (.int i) (.int j) = .ok (.bool (!decide (i = j))) := by rw [pNe_ok rfl rfl, eqv_int]
theorem pMul_i {i j : Int} (h : -(2 ^ 64) < i ∧ i < 2 ^ 64) : pMul (.int i) (.int j) = .ok (.int (i * j)) := by
  show (if mulOk i j = true then _ else _) = _
  rw [if_pos]
  unfold mulOk
  rw [decide_eq_true h.1, decide_eq_true h.2]; rfl
/-- a chain of two <= -/
theorem chain_le {d : Type} (a b c : Env → d → R (PD × d)) (ρ : Env) (s : d) (x y z : Int) (ha : a ρ s = .ok (.int x, s)) (hb : b ρ s = .ok (.int y, s)) (hc : c ρ s = .ok (.int z, s)) : cChain pLe pLe a b c ρ s = .ok (.bool (decide (x ≤ y) && decide (y ≤ z)), s) := by
  unfold cChain
  rw [ha, bnd_ok, hb, bnd_ok, if_pos (show (isD (.int x) && isD (.int y)) = true from rfl), pLe_i]
  by_cases h : x ≤ y
  · rw [decide_eq_true h]
    show bnd (c ρ s) _ = _
    rw [hc, bnd_ok, if_pos (show isD (.int z) = true from rfl), pLe_i]; rfl
  · rw [decide_eq_false h]; rfl
end DL

/-! M1: things -/
namespace DL
open PySem PySem.Spec PyProof.Rows L2
local macro_rules | `(tactic| walk_at "ev") => `(tactic| simp only [szL, Nat.reduceLeDiff, mBody, mBodyD, outP, outD, cVar, cC, cOp, cUn, cTest, cAndT, cOrT, cNotT, cAndV, cOrV, cIf, aNil, aCons, cTup, cLst, cSl, oNone, oSome, cCall, cCallF, cCallD, cMeth, noX', isL_list, isL_encP, tYesD, bnd_ok, bnd_exc, bnd_bad, lft_ok, lft_exc, lft_bad, isOk_ok, isOk_exc, isOk_bad, isD_int, isD_bool, isD_none, isD_str, isD_list, isD_tuple, isD_eP, isD_eT, isD_encP, isD_encT, allD, List.all_cons, List.all_nil, Bool.and_self, Bool.and_true, Bool.true_and, if_true, if_false, Bool.false_eq_true, ite_true, ite_false, reduceIte, List.length_cons, List.length_nil, List.map_cons, List.map_nil, List.cons_append, List.nil_append, List.replicate_succ, List.replicate_zero, List.getElem?_cons_zero, List.getElem?_cons_succ, List.set_cons_zero, List.set_cons_succ, wipeD, sSeq, sSet, sAsg, sRet, sIf, sExpr, sNil, sRaise, sSetF, sApp, sAug, sAugL, sPar, sPar3, fLst, bNm, bTup, bCons, bNil, pNot, pIsi, isiT, tyN, pNeg, Nat.reduceAdd, decide_true, decide_false, Bool.not_true, Bool.not_false, noX_ok, pLe_i, pLt_i, pGt_i, pGe_i, pAdd_i, pSub_i, pLen_l, pLen_t, pIx_t0, pIx_t1, pEq_i, pNe_i])
local macro_rules | `(tactic| walk_at "evs") => `(tactic| simp [szL, mBody, mBodyD, outP, outD, cVar, cC, cOp, cUn, cTest, cAndT, cOrT, cNotT, cAndV, cOrV, cIf, aNil, aCons, cTup, cLst, cSl, oNone, oSome, cCall, cCallF, cCallD, cMeth, noX', isL_list, isL_encP, tYesD, bnd_ok, bnd_exc, bnd_bad, lft_ok, lft_exc, lft_bad, isOk_ok, isOk_exc, isOk_bad, isD_int, isD_bool, isD_none, isD_str, isD_list, isD_tuple, isD_eP, isD_eT, isD_encP, isD_encT, allD, List.all_cons, List.all_nil, List.map_cons, List.map_nil, List.cons_append, List.nil_append, List.replicate_succ, List.replicate_zero, List.getElem?_cons_zero, List.getElem?_cons_succ, List.set_cons_zero, List.set_cons_succ, wipeD, sSeq, sSet, sAsg, sRet, sIf, sExpr, sNil, sRaise, sSetF, sApp, sAug, sAugL, sPar, sPar3, fLst, bNm, bTup, bCons, bNil, pNot, pIsi, isiT, tyN, pNeg, noX_ok, pLe_i, pLt_i, pGt_i, pGe_i, pAdd_i, pSub_i, pLen_l, pLen_t, pIx_t0, pIx_t1, pEq_i, pNe_i])
local macro_rules | `(tactic| walk_at "evx") => `(tactic| simp [szL, mBody, mBodyD, outP, outD, cVar, cC, cOp, cUn, cTest, cAndT, cOrT, cNotT, cAndV, cOrV, cIf, aNil, aCons, cTup, cLst, cSl, oNone, oSome, cCall, cCallF, cCallD, cMeth, noX', isL_list, isL_encP, tYesD, bnd_ok, bnd_exc, bnd_bad, lft_ok, lft_exc, lft_bad, isOk_ok, isOk_exc, isOk_bad, isD_int, isD_bool, isD_none, isD_str, isD_list, isD_tuple, isD_eP, isD_eT, isD_encP, isD_encT, allD, List.all_cons, List.all_nil, List.map_cons, List.map_nil, List.cons_append, List.nil_append, List.replicate_succ, List.replicate_zero, List.getElem?_cons_zero, List.getElem?_cons_succ, List.set_cons_zero, List.set_cons_succ, wipeD, sSeq, sSet, sAsg, sRet, sIf, sExpr, sNil, sRaise, sSetF, sApp, sAug, sAugL, sPar, sPar3, fLst, bNm, bTup, bCons, bNil, pNot, pIsi, isiT, tyN, pNeg, noX_ok, pLe_i, pLt_i, pGt_i, pGe_i, pAdd_i, pSub_i, pLen_l, pLen_t, pIx_t0, pIx_t1, pEq_i, pNe_i, *])
structure GoodT (T : List Th) : Prop where
  l1 : 1 ≤ T.length
  l2 : T.length ≤ 12
  sc : ∀ x ∈ T, 0 ≤ x.1 ∧ x.1 ≤ 99
theorem m_is_int_int (v lo hi : Int) : m_is_int [.int v, .int lo, .int hi] = .ok (.bool (decide (lo ≤ v) && decide (v ≤ hi))) := by
  unfold m_is_int b_is_int
  walk_at "ev"
  rw [chain_le (d := Unit) (cVar 1) (cVar 0) (cVar 2) [some (.int v), some (.int lo), some (.int hi)] () lo v hi rfl rfl rfl]
  simp
theorem m_is_thing_eT (x : Th) (h : 0 ≤ x.1 ∧ x.1 ≤ 99) : m_is_thing [eT x] = .ok (.bool true) := by
  unfold m_is_thing b_is_thing eT
  have e := m_is_int_int x.1 0 99
  rw [decide_eq_true h.1, decide_eq_true h.2] at e
  walk_at "evx"
theorem m_is_things_encT {T : List Th} (g : GoodT T) : m_is_things [encT T] = .ok (.bool true) := by
  unfold m_is_things b_is_things encT
  have hc : cComp (iLst (cVar 0)) (bNm 1) [1] tYesD (cCallF 1 m_is_thing (aCons (cVar 1) aNil)) [some (.list (T.map eT)), none] () = .ok (.list (T.map fun _ => .bool true), ()) := by
    refine cComp_map T eT (fun _ => .bool true) (by simp [iLst, cVar]) (by have := g.l2; omega) fun x hx => ⟨_, rfl, ?_, rfl⟩
    walk_at "ev"
    rw [m_is_thing_eT x (g.sc x hx)]
    rfl
  have hb : toBools (T.map fun _ => PyData.bool true) = some (T.map fun _ => true) := by
    have := toBools_map (T.map fun _ => true)
    rw [List.map_map] at this
    exact this
  have h1 := g.l1
  have h2 := g.l2
  have e1 : decide ((1 : Int) ≤ (T.length : Int)) = true := decide_eq_true (by omega)
  have e2 : decide ((T.length : Int) ≤ 12) = true := decide_eq_true (by omega)
  have hch : cChain pLe pLe (cC (.int 1)) (cCall pLen (aCons (cVar 0) aNil)) (cC (.int 12)) [some (.list (T.map eT)), none] () = .ok (.bool true, ()) := by
    rw [chain_le (d := Unit) _ _ _ _ () 1 T.length 12 rfl (by walk_at "ev"; rw [List.length_map]) rfl, e1, e2]; rfl
  have hp : pAll [.list (T.map fun _ => .bool true)] = .ok (.bool true) := by
    simp [pAll, hb]
  walk_at "evx"
def fa (T : List Th) (t : Int) : Int := ((T.filter fun x => decide (t ≤ x.1) && !x.2).length : Int)
def tr (T : List Th) (t : Int) : Int := ((T.filter fun x => decide (t ≤ x.1) && x.2).length : Int)
def cnt (T : List Th) (t : Int) : Pt := (fa T t, tr T t)
theorem m_counts_eq {T : List Th} (g : T.length ≤ 1000) (t : Int) : m_counts [encT T, .int t] = .ok (eP (cnt T t)) := by
  unfold m_counts b_counts encT
  have h1 : cComp (iLst (cVar 0)) (bTup (bCons (bNm 3) (bCons (bNm 4) bNil))) [3, 4] (cAndT (cTest (cOp pGe (cVar 3) (cVar 1))) (cNotT (cTest (cVar 4)))) (cC (.int 1)) [some (.list (T.map eT)), some (.int t), none, none, none] () = .ok (.list ((T.filter fun x => decide (t ≤ x.1) && !x.2).map fun _ => .int 1), ()) := by
    refine cComp_pure T eT _ _ (by simp [iLst, cVar]) (by omega) fun x hx => ⟨_, rfl, ?_, fun _ => ⟨rfl, rfl⟩⟩
    by_cases h : t ≤ x.1 <;> walk_at "evs" <;> simp [h]
  have h2 : ∀ y, cComp (iLst (cVar 0)) (bTup (bCons (bNm 3) (bCons (bNm 4) bNil))) [3, 4] (cAndT (cTest (cOp pGe (cVar 3) (cVar 1))) (cTest (cVar 4))) (cC (.int 1)) [some (.list (T.map eT)), some (.int t), y, none, none] () = .ok (.list ((T.filter fun x => decide (t ≤ x.1) && x.2).map fun _ => .int 1), ()) := fun y => by
    refine cComp_pure T eT _ _ (by simp [iLst, cVar]) (by omega) fun x hx => ⟨_, rfl, ?_, fun _ => ⟨rfl, rfl⟩⟩
    by_cases h : t ≤ x.1 <;> walk_at "evs" <;> simp [h]
  walk_at "ev"
  rw [h1]
  walk_at "ev"
  rw [h2]
  walk_at "ev"
  simp [eP, cnt, fa, tr, sizeLine]
/-- the unlike scores, the greatest first -/
def scs (T : List Th) : List Int := (sortU (T.map (·.1))).reverse
theorem m_scores_of_eq {T : List Th} (g : T.length < 64) : m_scores_of [encT T] = .ok (.list ((scs T).map PyData.int)) := by
  unfold m_scores_of b_scores_of encT
  have h1 : cComp (iLst (cVar 0)) (bTup (bCons (bNm 1) (bCons (bNm 2) bNil))) [1, 2] tYesD (cVar 1) [some (.list (T.map eT)), none, none] () = .ok (.list (T.map fun x => .int x.1), ()) := by
    refine cComp_map T eT _ (by simp [iLst, cVar]) (by omega) fun x hx => ⟨_, rfl, rfl, rfl⟩
  have h2 : toInts (T.map fun x => PyData.int x.1) = some (T.map (·.1)) := by
    have := toInts_map (T.map (·.1))
    rw [List.map_map] at this
    exact this
  have h3 : pSortSet (.list (T.map fun x => PyData.int x.1)) = .ok (.list ((sortU (T.map (·.1))).map PyData.int)) := by
    show (match toInts (T.map fun x => PyData.int x.1) with | some ns => _ | none => _) = _
    rw [h2]
    show (if (T.map (·.1)).length < 64 then _ else _) = _
    rw [if_pos (by rw [List.length_map]; exact g)]
  walk_at "ev"
  rw [h1]
  walk_at "ev"
  rw [h3]
  walk_at "ev"
  simp [pRev, scs, isOk_ok]
theorem len_insU (k : Int) : ∀ l : List Int, (insU k l).length ≤ l.length + 1
  | [] => by simp [insU]
  | x :: r => by
    have := len_insU k r
    unfold insU
    split
    · simp
    · split
      · simp
      · simp only [List.length_cons]; omega
theorem len_sortU : ∀ l : List Int, (sortU l).length ≤ l.length
  | [] => by simp [sortU]
  | x :: r => by
    have h1 := len_sortU r
    have h2 := len_insU x (sortU r)
    unfold sortU
    simp only [List.length_cons]; omega
theorem scs_len (T : List Th) : (scs T).length ≤ T.length := by
  unfold scs
  rw [List.length_reverse]
  have := len_sortU (T.map (·.1))
  rwa [List.length_map] at this
/-- the points -/
def pts (T : List Th) : List Pt := (0, 0) :: (scs T).map (cnt T)
theorem m_points_of_eq {T : List Th} (g : T.length < 64) : m_points_of [encT T] = .ok (encP (pts T)) := by
  unfold m_points_of b_points_of
  have hs := m_scores_of_eq g
  have hl := scs_len T
  have h1 : cComp (iLst (cCallF 1 m_scores_of (aCons (cVar 0) aNil))) (bNm 1) [1] tYesD (cCallF 2 m_counts (aCons (cVar 0) (aCons (cVar 1) aNil))) [some (encT T), none] () = .ok (.list ((scs T).map fun t => eP (cnt T t)), ()) := by
    refine cComp_map (scs T) PyData.int _ ?_ (by omega) fun x hx => ⟨_, rfl, ?_, rfl⟩
    · have he : cCallF 1 m_scores_of (aCons (cVar 0) aNil) [some (encT T), none] () = .ok (.list ((scs T).map PyData.int), ()) := by
        walk_at "ev"
        rw [hs]
        rfl
      unfold iLst
      rw [he]
      rfl
    · walk_at "ev"
      rw [m_counts_eq (by omega)]
      rfl
  walk_at "ev"
  rw [h1]
  walk_at "ev"
  have hp : pAdd (.list [.tuple [.int 0, .int 0]]) (.list ((scs T).map fun t => eP (cnt T t))) = .ok (encP (pts T)) := by
    show (if 1 + ((scs T).map fun t => eP (cnt T t)).length ≤ sizeLine then _ else _) = _
    rw [if_pos (by rw [List.length_map, szL]; omega)]
    simp [encP, pts, eP]
  rw [hp]
  rfl
theorem m_check_things_eq {T : List Th} (g : GoodT T) : m_check_things [encT T] = .ok .none := by
  unfold m_check_things b_check_things
  walk_at "ev"
  rw [m_is_things_encT g]
  rfl
theorem GoodT.l64 {T : List Th} (g : GoodT T) : T.length < 64 := by have := g.l2; omega
theorem GoodT.l1000 {T : List Th} (g : GoodT T) : T.length ≤ 1000 := by have := g.l2; omega
theorem m_curve_eq {T : List Th} (g : GoodT T) : m_curve [encT T] = .ok (encP (pts T)) := by
  unfold m_curve b_curve
  walk_at "ev"
  rw [m_check_things_eq g]
  walk_at "ev"
  rw [m_points_of_eq g.l64]
  rfl
theorem m_totals_eq {T : List Th} (g : GoodT T) : m_totals [encT T] = .ok (eP (cnt T 0)) := by
  unfold m_totals b_totals
  walk_at "ev"
  rw [m_check_things_eq g]
  walk_at "ev"
  rw [m_counts_eq g.l1000]
  rfl
theorem m_unlike_scores_eq {T : List Th} (g : GoodT T) : m_unlike_scores [encT T] = .ok (.list ((scs T).map PyData.int)) := by
  unfold m_unlike_scores b_unlike_scores
  walk_at "ev"
  rw [m_check_things_eq g]
  walk_at "ev"
  rw [m_scores_of_eq g.l64]
  rfl
theorem m_check_threshold_eq {t : Int} (h : 0 ≤ t ∧ t ≤ 100) : m_check_threshold [.int t] = .ok .none := by
  unfold m_check_threshold b_check_threshold
  walk_at "ev"
  rw [show (99 : Int) + 1 = 100 from rfl, m_is_int_int, decide_eq_true h.1, decide_eq_true h.2]
  rfl
theorem m_alarms_at_eq {T : List Th} (g : GoodT T) {t : Int} (h : 0 ≤ t ∧ t ≤ 100) : m_alarms_at [encT T, .int t] = .ok (eP (cnt T t)) := by
  unfold m_alarms_at b_alarms_at
  walk_at "ev"
  rw [m_check_things_eq g]
  walk_at "ev"
  rw [m_check_threshold_eq h]
  walk_at "ev"
  rw [m_counts_eq g.l1000]
  rfl
/-! ### the law's own point -/
theorem m__law_point_eq {T : List Th} (g : T.length ≤ 1000) (t : Int) : m__law_point [encT T, .int t] = .ok (eP (cnt T t)) := by
  unfold m__law_point b__law_point encT
  have h1 : cComp (iLst (cVar 0)) (bTup (bCons (bNm 3) (bCons (bNm 4) bNil))) [3, 4] (cTest (cOp pGe (cVar 3) (cVar 1))) (cVar 4) [some (.list (T.map eT)), some (.int t), none, none, none] () = .ok (.list ((T.filter fun x => decide (t ≤ x.1)).map fun x => .bool x.2), ()) := by
    refine cComp_pure T eT _ _ (by simp [iLst, cVar]) (by omega) fun x hx => ⟨_, rfl, ?_, fun _ => ⟨rfl, rfl⟩⟩
    rfl
  have h2 : toBools ((T.filter fun x => decide (t ≤ x.1)).map fun x => PyData.bool x.2) = some ((T.filter fun x => decide (t ≤ x.1)).map (·.2)) := by
    have := toBools_map ((T.filter fun x => decide (t ≤ x.1)).map (·.2))
    rw [List.map_map] at this
    exact this
  have hc : ∀ b : Bool, pCount (.list ((T.filter fun x => decide (t ≤ x.1)).map fun x => .bool x.2)) (.bool b) = .ok (.int (((T.filter fun x => decide (t ≤ x.1)).map (·.2)).count b : Nat)) := fun b => by
    show (match toBools _ with | some bs => _ | none => _) = _
    rw [h2]
  have cf : ∀ (b : Bool) (T : List Th), ((T.filter fun x => decide (t ≤ x.1)).map (·.2)).count b = (T.filter fun x => decide (t ≤ x.1) && (x.2 == b)).length := by
    intro b T
    induction T with
    | nil => rfl
    | cons x T ih =>
      by_cases h : t ≤ x.1
      · rw [List.filter_cons_of_pos (by simpa using h), List.map_cons, List.count_cons, ih]
        by_cases hb : x.2 = b
        · rw [List.filter_cons_of_pos (by simp [h, hb])]; simp [hb]
        · rw [List.filter_cons_of_neg (by simp [hb])]; simp [hb]
      · rw [List.filter_cons_of_neg (by simpa using h), List.filter_cons_of_neg (by simp [h]), ih]
  walk_at "ev"
  rw [h1]
  walk_at "ev"
  rw [hc, hc, cf, cf]
  walk_at "ev"
  simp [eP, cnt, fa, tr]
end DL

/-! M2: the curve -/
namespace DL
open PySem PySem.Spec PyProof.Rows L2
local macro_rules | `(tactic| walk_at "ev") => `(tactic| simp only [szL, Nat.reduceLeDiff, mBody, mBodyD, outP, outD, cVar, cC, cOp, cUn, cTest, cAndT, cOrT, cNotT, cAndV, cOrV, cIf, aNil, aCons, cTup, cLst, cSl, oNone, oSome, cCall, cCallF, cCallD, cMeth, noX', isL_list, isL_encP, tYesD, bnd_ok, bnd_exc, bnd_bad, lft_ok, lft_exc, lft_bad, isOk_ok, isOk_exc, isOk_bad, isD_int, isD_bool, isD_none, isD_str, isD_list, isD_tuple, isD_eP, isD_eT, isD_encP, isD_encT, allD, List.all_cons, List.all_nil, Bool.and_self, Bool.and_true, Bool.true_and, if_true, if_false, Bool.false_eq_true, ite_true, ite_false, reduceIte, List.length_cons, List.length_nil, List.map_cons, List.map_nil, List.cons_append, List.nil_append, List.replicate_succ, List.replicate_zero, List.getElem?_cons_zero, List.getElem?_cons_succ, List.set_cons_zero, List.set_cons_succ, wipeD, sSeq, sSet, sAsg, sRet, sIf, sExpr, sNil, sRaise, sSetF, sApp, sAug, sAugL, sPar, sPar3, fLst, bNm, bTup, bCons, bNil, pNot, pIsi, isiT, tyN, pNeg, Nat.reduceAdd, decide_true, decide_false, Bool.not_true, Bool.not_false, noX_ok, pLe_i, pLt_i, pGt_i, pGe_i, pAdd_i, pSub_i, pLen_l, pLen_t, pIx_t0, pIx_t1, pEq_i, pNe_i])
local macro_rules | `(tactic| walk_at "evs") => `(tactic| simp [szL, mBody, mBodyD, outP, outD, cVar, cC, cOp, cUn, cTest, cAndT, cOrT, cNotT, cAndV, cOrV, cIf, aNil, aCons, cTup, cLst, cSl, oNone, oSome, cCall, cCallF, cCallD, cMeth, noX', isL_list, isL_encP, tYesD, bnd_ok, bnd_exc, bnd_bad, lft_ok, lft_exc, lft_bad, isOk_ok, isOk_exc, isOk_bad, isD_int, isD_bool, isD_none, isD_str, isD_list, isD_tuple, isD_eP, isD_eT, isD_encP, isD_encT, allD, List.all_cons, List.all_nil, List.map_cons, List.map_nil, List.cons_append, List.nil_append, List.replicate_succ, List.replicate_zero, List.getElem?_cons_zero, List.getElem?_cons_succ, List.set_cons_zero, List.set_cons_succ, wipeD, sSeq, sSet, sAsg, sRet, sIf, sExpr, sNil, sRaise, sSetF, sApp, sAug, sAugL, sPar, sPar3, fLst, bNm, bTup, bCons, bNil, pNot, pIsi, isiT, tyN, pNeg, noX_ok, pLe_i, pLt_i, pGt_i, pGe_i, pAdd_i, pSub_i, pLen_l, pLen_t, pIx_t0, pIx_t1, pEq_i, pNe_i])
local macro_rules | `(tactic| walk_at "evx") => `(tactic| simp [szL, mBody, mBodyD, outP, outD, cVar, cC, cOp, cUn, cTest, cAndT, cOrT, cNotT, cAndV, cOrV, cIf, aNil, aCons, cTup, cLst, cSl, oNone, oSome, cCall, cCallF, cCallD, cMeth, noX', isL_list, isL_encP, tYesD, bnd_ok, bnd_exc, bnd_bad, lft_ok, lft_exc, lft_bad, isOk_ok, isOk_exc, isOk_bad, isD_int, isD_bool, isD_none, isD_str, isD_list, isD_tuple, isD_eP, isD_eT, isD_encP, isD_encT, allD, List.all_cons, List.all_nil, List.map_cons, List.map_nil, List.cons_append, List.nil_append, List.replicate_succ, List.replicate_zero, List.getElem?_cons_zero, List.getElem?_cons_succ, List.set_cons_zero, List.set_cons_succ, wipeD, sSeq, sSet, sAsg, sRet, sIf, sExpr, sNil, sRaise, sSetF, sApp, sAug, sAugL, sPar, sPar3, fLst, bNm, bTup, bCons, bNil, pNot, pIsi, isiT, tyN, pNeg, noX_ok, pLe_i, pLt_i, pGt_i, pGe_i, pAdd_i, pSub_i, pLen_l, pLen_t, pIx_t0, pIx_t1, pEq_i, pNe_i, *])
/-! ### plain facts -/
theorem mem_scs {T : List Th} {t : Int} : t ∈ scs T ↔ ∃ x ∈ T, x.1 = t := by
  unfold scs
  rw [List.mem_reverse, mem_sortU, List.mem_map]
theorem scs_gt (T : List Th) : (scs T).Pairwise (· > ·) := by
  unfold scs
  rw [List.pairwise_reverse]
  exact lt_sortU
/-- how many alarms in all -/
def al (T : List Th) (t : Int) : Int := ((T.filter fun x => decide (t ≤ x.1)).length : Int)
theorem al_sum (T : List Th) (t : Int) : fa T t + tr T t = al T t := by
  unfold fa tr al
  induction T with
  | nil => rfl
  | cons x T ih =>
    by_cases h : t ≤ x.1
    · cases hb : x.2 with
      | true =>
        rw [List.filter_cons_of_neg (by simp [hb]), List.filter_cons_of_pos (by simp [h, hb]), List.filter_cons_of_pos (by simpa using h)]
        simp only [List.length_cons]; omega
      | false =>
        rw [List.filter_cons_of_pos (by simp [h, hb]), List.filter_cons_of_neg (by simp [hb]), List.filter_cons_of_pos (by simpa using h)]
        simp only [List.length_cons]; omega
    · rw [List.filter_cons_of_neg (by simp [h]), List.filter_cons_of_neg (by simp [h]), List.filter_cons_of_neg (by simpa using h)]
      exact ih
theorem filter_len_mono {a : Type} {p q : a → Bool} (h : ∀ x, p x = true → q x = true) : ∀ l : List a, (l.filter p).length ≤ (l.filter q).length
  | [] => Nat.le_refl _
  | x :: l => by
    have ih := filter_len_mono h l
    cases hp : p x with
    | true =>
      rw [List.filter_cons_of_pos hp, List.filter_cons_of_pos (h x hp)]
      simp only [List.length_cons]; omega
    | false =>
      rw [List.filter_cons_of_neg (by simp [hp])]
      cases hq : q x with
      | true => rw [List.filter_cons_of_pos hq]; simp only [List.length_cons]; omega
      | false => rw [List.filter_cons_of_neg (by simp [hq])]; exact ih
theorem filter_len_lt {a : Type} {p q : a → Bool} (h : ∀ x, p x = true → q x = true) : ∀ (l : List a) (y : a), y ∈ l → p y = false → q y = true → (l.filter p).length < (l.filter q).length
  | [], _, m, _, _ => by cases m
  | x :: l, y, m, h1, h2 => by
    have ih := filter_len_mono h l
    rcases List.mem_cons.mp m with e | e
    · subst e
      rw [List.filter_cons_of_neg (by simp [h1]), List.filter_cons_of_pos h2]
      simp only [List.length_cons]; omega
    · have ih2 := filter_len_lt h l y e h1 h2
      cases hp : p x with
      | true =>
        rw [List.filter_cons_of_pos hp, List.filter_cons_of_pos (h x hp)]
        simp only [List.length_cons]; omega
      | false =>
        rw [List.filter_cons_of_neg (by simp [hp])]
        cases hq : q x with
        | true => rw [List.filter_cons_of_pos hq]; simp only [List.length_cons]; omega
        | false => rw [List.filter_cons_of_neg (by simp [hq])]; exact ih2
theorem fa_mono (T : List Th) {s t : Int} (h : s ≤ t) : fa T t ≤ fa T s := by
  unfold fa
  have := filter_len_mono (p := fun x : Th => decide (t ≤ x.1) && !x.2) (q := fun x => decide (s ≤ x.1) && !x.2) (fun x hx => by
    simp only [Bool.and_eq_true, decide_eq_true_eq] at hx ⊢
    exact ⟨by omega, hx.2⟩) T
  omega
theorem tr_mono (T : List Th) {s t : Int} (h : s ≤ t) : tr T t ≤ tr T s := by
  unfold tr
  have := filter_len_mono (p := fun x : Th => decide (t ≤ x.1) && x.2) (q := fun x => decide (s ≤ x.1) && x.2) (fun x hx => by
    simp only [Bool.and_eq_true, decide_eq_true_eq] at hx ⊢
    exact ⟨by omega, hx.2⟩) T
  omega
theorem al_lt (T : List Th) {s t : Int} (h : s < t) (m : s ∈ scs T) : al T t < al T s := by
  obtain ⟨x, hx, e⟩ := mem_scs.mp m
  unfold al
  have := filter_len_lt (p := fun x : Th => decide (t ≤ x.1)) (q := fun x => decide (s ≤ x.1)) (fun y hy => by
    simp only [decide_eq_true_eq] at hy ⊢; omega) T x hx (by simp; omega) (by simp; omega)
  omega
theorem cnt_same (T : List Th) {t : Int} (h : t ∉ scs T) : cnt T t = cnt T (t + 1) := by
  have hx : ∀ x ∈ T, x.1 ≠ t := fun x hx e => h (mem_scs.mpr ⟨x, hx, e⟩)
  unfold cnt fa tr
  have e1 : (T.filter fun x => decide (t ≤ x.1) && !x.2) = T.filter fun x => decide (t + 1 ≤ x.1) && !x.2 := by
    apply List.filter_congr
    intro x m
    have := hx x m
    congr 1
    by_cases h1 : t ≤ x.1
    · rw [decide_eq_true h1, decide_eq_true (by omega)]
    · rw [decide_eq_false h1, decide_eq_false (by omega)]
  have e2 : (T.filter fun x => decide (t ≤ x.1) && x.2) = T.filter fun x => decide (t + 1 ≤ x.1) && x.2 := by
    apply List.filter_congr
    intro x m
    have := hx x m
    congr 1
    by_cases h1 : t ≤ x.1
    · rw [decide_eq_true h1, decide_eq_true (by omega)]
    · rw [decide_eq_false h1, decide_eq_false (by omega)]
  rw [e1, e2]
theorem cnt_top {T : List Th} (g : GoodT T) {t : Int} (h : 100 ≤ t) : cnt T t = (0, 0) := by
  unfold cnt fa tr
  rw [List.filter_eq_nil_iff.mpr, List.filter_eq_nil_iff.mpr]
  · rfl
  · intro x hx
    have := g.sc x hx
    simp; omega
  · intro x hx
    have := g.sc x hx
    simp; omega
/-- the points of thresholds from 100 down, each once -/
def crv (T : List Th) (ts : List Int) (found : List Pt) : List Pt := ts.foldl (fun acc t => if cnt T t ∈ acc then acc else acc ++ [cnt T t]) found
def down (n : Nat) : List Int := (List.range n).map fun (i : Nat) => 100 - (i : Int)
theorem down_succ (n : Nat) : down (n + 1) = down n ++ [100 - (n : Int)] := by
  unfold down
  rw [List.range_succ, List.map_append]; rfl
/-- behind n thresholds -/
theorem crv_down {T : List Th} (g : GoodT T) : ∀ n : Nat, 1 ≤ n → crv T (down n) [] = (0, 0) :: ((scs T).filter fun s => decide (100 - (n : Int) < s)).map (cnt T)
  | 0, h => by omega
  | 1, _ => by
    have e : ((scs T).filter fun s => decide (100 - ((1 : Nat) : Int) < s)) = [] := by
      rw [List.filter_eq_nil_iff]
      intro s hs
      obtain ⟨x, hx, e⟩ := mem_scs.mp hs
      have := g.sc x hx
      simp; omega
    rw [e]
    have e2 := cnt_top g (Int.le_refl 100)
    simp [crv, down, e2]
  | n + 2, _ => by
    have ih := crv_down g (n + 1) (by omega)
    rw [down_succ (n + 1)]
    unfold crv at ih ⊢
    rw [List.foldl_append, ih]
    simp only [List.foldl_cons, List.foldl_nil]
    have hN : (((n + 1 : Nat) : Int)) = (n : Int) + 1 := by omega
    have hN2 : (((n + 2 : Nat) : Int)) = (n : Int) + 2 := by omega
    rw [hN, hN2]
    generalize ht : 100 - ((n : Int) + 1) = t
    have ht2 : 100 - ((n : Int) + 2) = t - 1 := by omega
    rw [ht2]
    by_cases m : t ∈ scs T
    · -- a new point
      have hnew : cnt T t ∉ (0, 0) :: ((scs T).filter fun s => decide (t < s)).map (cnt T) := by
        intro hm
        have key : ∀ u, t < u → cnt T t ≠ cnt T u := fun u hu e => by
          have h1 := al_lt T hu m
          have h2 : al T t = al T u := by
            rw [← al_sum, ← al_sum]
            have e1 : fa T t = fa T u := congrArg Prod.fst e
            have e2 : tr T t = tr T u := congrArg Prod.snd e
            rw [e1, e2]
          omega
        rcases List.mem_cons.mp hm with e | e
        · have e2 := cnt_top g (Int.le_refl 100)
          exact key 100 (by omega) (e.trans e2.symm)
        · obtain ⟨u, hu, e⟩ := List.mem_map.mp e
          have := (List.mem_filter.mp hu).2
          exact key u (by simpa using this) e.symm
      rw [if_neg hnew, List.cons_append]
      congr 1
      rw [← List.map_singleton, ← List.map_append]
      congr 1
      -- the scores above t - 1 are those above t and t
      have aux : ∀ (l : List Int), l.Pairwise (· > ·) → t ∈ l → (l.filter fun s => decide (t < s)) ++ [t] = l.filter fun s => decide (t - 1 < s) := by
        intro l
        induction l with
        | nil => intro _ h; cases h
        | cons a l ih =>
          intro hp hm
          have hp' := List.pairwise_cons.mp hp
          by_cases ha : a = t
          · subst ha
            rw [List.filter_cons_of_neg (by simp), List.filter_cons_of_pos (by simp; omega)]
            have e1 : (l.filter fun s => decide (a < s)) = [] := by
              rw [List.filter_eq_nil_iff]
              intro s hs
              have := hp'.1 s hs
              simp; omega
            have e2 : (l.filter fun s => decide (a - 1 < s)) = [] := by
              rw [List.filter_eq_nil_iff]
              intro s hs
              have := hp'.1 s hs
              simp; omega
            rw [e1, e2]; rfl
          · have hm' : t ∈ l := by
              rcases List.mem_cons.mp hm with z | z
              · exact absurd z.symm ha
              · exact z
            have hat := hp'.1 t hm'
            rw [List.filter_cons_of_pos (by simp; omega), List.filter_cons_of_pos (by simp; omega), List.cons_append, ih hp'.2 hm']
      exact aux (scs T) (scs_gt T) m
    · -- the same point as the one above
      have hold : cnt T t ∈ (0, 0) :: ((scs T).filter fun s => decide (t < s)).map (cnt T) := by
        rw [cnt_same T m]
        -- the first score at or above t + 1, or none
        have key : ∀ k : Nat, ∀ u : Int, t < u → u + (k : Int) = 100 → cnt T u ∈ (0, 0) :: ((scs T).filter fun s => decide (t < s)).map (cnt T) := by
          intro k
          induction k with
          | zero =>
            intro u hu e
            rw [cnt_top g (by omega)]; simp
          | succ k ih =>
            intro u hu e
            by_cases mu : u ∈ scs T
            · exact List.mem_cons_of_mem _ (List.mem_map.mpr ⟨u, List.mem_filter.mpr ⟨mu, by simpa using hu⟩, rfl⟩)
            · rw [cnt_same T mu]
              exact ih (u + 1) (by omega) (by omega)
        by_cases h100 : t + 1 ≤ 100
        · exact key (100 - (t + 1)).toNat (t + 1) (by omega) (by omega)
        · rw [cnt_top g (by omega)]; simp
      rw [if_pos hold]
      congr 2
      apply List.filter_congr
      intro s hs
      have hne : s ≠ t := fun z => m (by rw [← z]; exact hs)
      by_cases h1 : t < s
      · rw [decide_eq_true h1, decide_eq_true (by omega)]
      · rw [decide_eq_false h1, decide_eq_false (by omega)]
theorem crv_eq {T : List Th} (g : GoodT T) : crv T (down 101) [] = pts T := by
  rw [crv_down g 101 (by omega)]
  unfold pts
  congr 1
  rw [List.filter_eq_self.mpr]
  intro s hs
  obtain ⟨x, hx, e⟩ := mem_scs.mp hs
  have := g.sc x hx
  simp; omega
/-! ### encodings are one to one -/
theorem eqv_eP (p q : Pt) : PyData.eqv (eP p) (eP q) = decide (p = q) := by
  unfold eP
  show PyData.eqvAll [.int p.1, .int p.2] [.int q.1, .int q.2] = _
  show ((p.1 == q.1) && ((p.2 == q.2) && true)) = _
  by_cases h : p = q
  · subst h; simp
  · rw [decide_eq_false h]
    by_cases h1 : p.1 = q.1
    · have h2 : p.2 ≠ q.2 := fun h2 => h (Prod.ext h1 h2)
      simp [h2]
    · simp [h1]
theorem sh_eP (p : Pt) : Sh 1 (eP p) := Sh.tuple (n := 0) fun x hx => by
  simp only [List.mem_cons, List.not_mem_nil, or_false] at hx
  rcases hx with rfl | rfl <;> exact Sh.int _
theorem sh_eT (p : Th) : Sh 1 (eT p) := Sh.tuple (n := 0) fun x hx => by
  simp only [List.mem_cons, List.not_mem_nil, or_false] at hx
  rcases hx with rfl | rfl
  · exact Sh.int _
  · exact Sh.bool _
theorem sh_encP (P : List Pt) : Sh 2 (encP P) := Sh.list (n := 1) fun x hx => by
  obtain ⟨p, _, rfl⟩ := List.mem_map.mp hx
  exact sh_eP p
theorem sh_encT (P : List Th) : Sh 2 (encT P) := Sh.list (n := 1) fun x hx => by
  obtain ⟨p, _, rfl⟩ := List.mem_map.mp hx
  exact sh_eT p
theorem shaped_eP (p : Pt) : SeqAt.shaped (eP p) = true := (sh_eP p).ok (by decide)
theorem shaped_encP (P : List Pt) : SeqAt.shaped (encP P) = true := (sh_encP P).ok (by decide)
theorem shaped_encT (P : List Th) : SeqAt.shaped (encT P) = true := (sh_encT P).ok (by decide)
theorem any_eP (p : Pt) : ∀ P : List Pt, (P.map eP).any (fun z => PyData.eqv z (eP p)) = decide (p ∈ P)
  | [] => rfl
  | q :: P => by
    rw [List.map_cons, List.any_cons, any_eP p P, eqv_eP]
    by_cases h : q = p
    · subst h; simp
    · have h' : p ≠ q := fun z => h z.symm
      simp [h, h']
theorem pNotIn_eP (p : Pt) (P : List Pt) : pNotIn (eP p) (encP P) = .ok (.bool (!decide (p ∈ P))) := by
  unfold encP
  show (if SeqAt.shaped (eP p) && SeqAt.shaped (encP P) then _ else _) = _
  rw [shaped_eP, shaped_encP]
  rw [any_eP]
  rfl
theorem pIn_eP (p : Pt) (P : List Pt) : pIn (eP p) (encP P) = .ok (.bool (decide (p ∈ P))) := by
  unfold encP
  show (if SeqAt.shaped (eP p) && SeqAt.shaped (encP P) then _ else _) = _
  rw [shaped_eP, shaped_encP]
  rw [any_eP]
  rfl
theorem eqvAll_enc {a : Type} (e : a → PD) (h : ∀ x y, PyData.eqv (e x) (e y) = true ↔ x = y) : ∀ xs ys : List a, PyData.eqvAll (xs.map e) (ys.map e) = true ↔ xs = ys
  | [], [] => by simp [PyData.eqvAll]
  | [], y :: ys => by simp [PyData.eqvAll]
  | x :: xs, [] => by simp [PyData.eqvAll]
  | x :: xs, y :: ys => by
    show (PyData.eqv (e x) (e y) && PyData.eqvAll (xs.map e) (ys.map e)) = true ↔ _
    rw [Bool.and_eq_true, h, eqvAll_enc e h xs ys]
    constructor
    · rintro ⟨rfl, rfl⟩; rfl
    · intro z; injection z with z1 z2; exact ⟨z1, z2⟩
theorem eqv_encP (P Q : List Pt) : PyData.eqv (encP P) (encP Q) = decide (P = Q) := by
  have h := eqvAll_enc eP (fun x y => by rw [eqv_eP, decide_eq_true_eq]) P Q
  show PyData.eqvAll (P.map eP) (Q.map eP) = _
  by_cases e : P = Q
  · rw [decide_eq_true e]; exact h.mpr e
  · rw [decide_eq_false e]
    cases q : PyData.eqvAll (P.map eP) (Q.map eP) with
    | false => rfl
    | true => exact absurd (h.mp q) e
theorem eqv_ints (P Q : List Int) : PyData.eqv (.list (P.map PyData.int)) (.list (Q.map PyData.int)) = decide (P = Q) := by
  have h := eqvAll_enc PyData.int (fun x y => by rw [eqv_int, decide_eq_true_eq]) P Q
  show PyData.eqvAll (P.map PyData.int) (Q.map PyData.int) = _
  by_cases e : P = Q
  · rw [decide_eq_true e]; exact h.mpr e
  · rw [decide_eq_false e]
    cases q : PyData.eqvAll (P.map PyData.int) (Q.map PyData.int) with
    | false => rfl
    | true => exact absurd (h.mp q) e
theorem pEq_eP (p q : Pt) : pEq (eP p) (eP q) = .ok (.bool (decide (p = q))) := by rw [pEq_ok (shaped_eP p) (shaped_eP q), eqv_eP]
theorem pNe_eP (p q : Pt) : pNe (eP p) (eP q) = .ok (.bool (!decide (p = q))) := by rw [pNe_ok (shaped_eP p) (shaped_eP q), eqv_eP]
theorem pEq_encP (p q : List Pt) : pEq (encP p) (encP q) = .ok (.bool (decide (p = q))) := by rw [pEq_ok (shaped_encP p) (shaped_encP q), eqv_encP]
theorem pNe_encP (p q : List Pt) : pNe (encP p) (encP q) = .ok (.bool (!decide (p = q))) := by rw [pNe_ok (shaped_encP p) (shaped_encP q), eqv_encP]
theorem pNe_ints (p q : List Int) : pNe (.list (p.map PyData.int)) (.list (q.map PyData.int)) = .ok (.bool (!decide (p = q))) := by rw [pNe_ok (shaped_ints p) (shaped_ints q), eqv_ints]
theorem pEq_ints (p q : List Int) : pEq (.list (p.map PyData.int)) (.list (q.map PyData.int)) = .ok (.bool (decide (p = q))) := by rw [pEq_ok (shaped_ints p) (shaped_ints q), eqv_ints]
/-! ### the law's curve -/
theorem rngL_down (n : Nat) : rngL 100 (-1) n = (down n).map PyData.int := by
  unfold rngL down
  rw [List.map_map]
  apply List.map_congr_left
  intro i _
  show PyData.int (100 + (i : Int) * -1) = PyData.int (100 - (i : Int))
  congr 1; omega
theorem m__law_curve_eq {T : List Th} (g : GoodT T) : m__law_curve [encT T] = .ok (encP (pts T)) := by
  unfold m__law_curve b__law_curve
  have loop : ∀ (ts : List Int) (found : List Pt) (x y : Option PD), found.length + ts.length ≤ 1000 → ∃ x' y', sForGo (bNm 2) (sSeq (sSet 3 (cCallF 2 m__law_point (aCons (cVar 0) (aCons (cVar 2) aNil)))) (sIf (cTest (cOp pNotIn (cVar 3) (cVar 1))) (sApp 1 (cVar 3)) sNil)) (ts.map PyData.int) [some (encT T), some (encP found), x, y] () = .ok (.nx [some (encT T), some (encP (crv T ts found)), x', y'], ()) := by
    intro ts
    induction ts with
    | nil => intro found x y _; exact ⟨x, y, rfl⟩
    | cons t ts ih =>
      intro found x y hl
      rw [List.map_cons]
      unfold sForGo
      walk_at "ev"
      rw [m__law_point_eq g.l1000]
      walk_at "ev"
      rw [pNotIn_eP]
      walk_at "ev"
      simp only [List.length_cons] at hl
      by_cases h : cnt T t ∈ found
      · obtain ⟨x', y', e⟩ := ih found (some (.int t)) (some (eP (cnt T t))) (by omega)
        refine ⟨x', y', ?_⟩
        rw [show crv T (t :: ts) found = crv T ts found by unfold crv; rw [List.foldl_cons, if_pos h]]
        rw [← e]
        simp [h]
      · obtain ⟨x', y', e⟩ := ih (found ++ [cnt T t]) (some (.int t)) (some (eP (cnt T t))) (by simp only [List.length_append, List.length_cons, List.length_nil]; omega)
        refine ⟨x', y', ?_⟩
        rw [show crv T (t :: ts) found = crv T ts (found ++ [cnt T t]) by unfold crv; rw [List.foldl_cons, if_neg h]]
        rw [← e]
        have hsz : found.length < 16777216 := by omega
        simp [h, encP, hsz]
  obtain ⟨x', y', e⟩ := loop (down 101) [] none none (by simp [down])
  have hi : iRg3 (aCons (cC (.int 100)) (aCons (cOp pSub (cC (.int 0)) (cC (.int 1))) (aCons (cOp pSub (cC (.int 0)) (cC (.int 1))) aNil))) [some (encT T), some (.list []), none, none] () = .ok ((down 101).map PyData.int, ()) := by
    unfold iRg3
    walk_at "ev"
    rw [show (0 : Int) - 1 = -1 from rfl, ← rngL_down]
    rfl
  walk_at "ev"
  unfold sFor
  rw [hi, bnd_ok]
  have e' : encP [] = .list [] := rfl
  rw [e'] at e
  rw [e]
  walk_at "ev"
  rw [crv_eq g]
end DL

/-! M3: curves as such -/
namespace DL
open PySem PySem.Spec PyProof.Rows L2
local macro_rules | `(tactic| walk_at "ev") => `(tactic| simp only [szL, Nat.reduceLeDiff, mBody, mBodyD, outP, outD, cVar, cC, cOp, cUn, cTest, cAndT, cOrT, cNotT, cAndV, cOrV, cIf, aNil, aCons, cTup, cLst, cSl, oNone, oSome, cCall, cCallF, cCallD, cMeth, noX', isL_list, isL_encP, tYesD, bnd_ok, bnd_exc, bnd_bad, lft_ok, lft_exc, lft_bad, isOk_ok, isOk_exc, isOk_bad, isD_int, isD_bool, isD_none, isD_str, isD_list, isD_tuple, isD_eP, isD_eT, isD_encP, isD_encT, allD, List.all_cons, List.all_nil, Bool.and_self, Bool.and_true, Bool.true_and, if_true, if_false, Bool.false_eq_true, ite_true, ite_false, reduceIte, List.length_cons, List.length_nil, List.map_cons, List.map_nil, List.cons_append, List.nil_append, List.replicate_succ, List.replicate_zero, List.getElem?_cons_zero, List.getElem?_cons_succ, List.set_cons_zero, List.set_cons_succ, wipeD, sSeq, sSet, sAsg, sRet, sIf, sExpr, sNil, sRaise, sSetF, sApp, sAug, sAugL, sPar, sPar3, fLst, bNm, bTup, bCons, bNil, pNot, pIsi, isiT, tyN, pNeg, Nat.reduceAdd, decide_true, decide_false, Bool.not_true, Bool.not_false, noX_ok, pLe_i, pLt_i, pGt_i, pGe_i, pAdd_i, pSub_i, pLen_l, pLen_t, pIx_t0, pIx_t1, pEq_i, pNe_i])
local macro_rules | `(tactic| walk_at "evs") => `(tactic| simp [szL, mBody, mBodyD, outP, outD, cVar, cC, cOp, cUn, cTest, cAndT, cOrT, cNotT, cAndV, cOrV, cIf, aNil, aCons, cTup, cLst, cSl, oNone, oSome, cCall, cCallF, cCallD, cMeth, noX', isL_list, isL_encP, tYesD, bnd_ok, bnd_exc, bnd_bad, lft_ok, lft_exc, lft_bad, isOk_ok, isOk_exc, isOk_bad, isD_int, isD_bool, isD_none, isD_str, isD_list, isD_tuple, isD_eP, isD_eT, isD_encP, isD_encT, allD, List.all_cons, List.all_nil, List.map_cons, List.map_nil, List.cons_append, List.nil_append, List.replicate_succ, List.replicate_zero, List.getElem?_cons_zero, List.getElem?_cons_succ, List.set_cons_zero, List.set_cons_succ, wipeD, sSeq, sSet, sAsg, sRet, sIf, sExpr, sNil, sRaise, sSetF, sApp, sAug, sAugL, sPar, sPar3, fLst, bNm, bTup, bCons, bNil, pNot, pIsi, isiT, tyN, pNeg, noX_ok, pLe_i, pLt_i, pGt_i, pGe_i, pAdd_i, pSub_i, pLen_l, pLen_t, pIx_t0, pIx_t1, pEq_i, pNe_i])
local macro_rules | `(tactic| walk_at "evx") => `(tactic| simp [szL, mBody, mBodyD, outP, outD, cVar, cC, cOp, cUn, cTest, cAndT, cOrT, cNotT, cAndV, cOrV, cIf, aNil, aCons, cTup, cLst, cSl, oNone, oSome, cCall, cCallF, cCallD, cMeth, noX', isL_list, isL_encP, tYesD, bnd_ok, bnd_exc, bnd_bad, lft_ok, lft_exc, lft_bad, isOk_ok, isOk_exc, isOk_bad, isD_int, isD_bool, isD_none, isD_str, isD_list, isD_tuple, isD_eP, isD_eT, isD_encP, isD_encT, allD, List.all_cons, List.all_nil, List.map_cons, List.map_nil, List.cons_append, List.nil_append, List.replicate_succ, List.replicate_zero, List.getElem?_cons_zero, List.getElem?_cons_succ, List.set_cons_zero, List.set_cons_succ, wipeD, sSeq, sSet, sAsg, sRet, sIf, sExpr, sNil, sRaise, sSetF, sApp, sAug, sAugL, sPar, sPar3, fLst, bNm, bTup, bCons, bNil, pNot, pIsi, isiT, tyN, pNeg, noX_ok, pLe_i, pLt_i, pGt_i, pGe_i, pAdd_i, pSub_i, pLen_l, pLen_t, pIx_t0, pIx_t1, pEq_i, pNe_i, *])
theorem sForGo_pass {d a : Type} {bd : Bd} {body : Env → d → R (Fl × d)} (enc : a → PD) (Ok : Env → Prop) (s : d) (xs : List a) (ρ : Env) (h0 : Ok ρ)
    (h : ∀ x ∈ xs, ∀ ρ, Ok ρ → ∃ ρ1 ρ2, bd (enc x) ρ = some ρ1 ∧ body ρ1 s = .ok (.nx ρ2, s) ∧ Ok ρ2) : ∃ ρ', sForGo bd body (xs.map enc) ρ s = .ok (.nx ρ', s) ∧ Ok ρ' := by
  obtain ⟨ρ', s', e, i, j⟩ := sForGo_inv (bd := bd) (body := body) enc (fun _ ρ s' => Ok ρ ∧ s' = s) xs [] ρ s ⟨h0, rfl⟩ fun p x q ρ s' hp hi => by
    obtain ⟨hi, rfl⟩ := hi
    obtain ⟨ρ1, ρ2, h1, h2, h3⟩ := h x (by rw [List.nil_append] at hp; rw [hp]; simp) ρ hi
    exact ⟨ρ1, ρ2, s', h1, h2, h3, rfl⟩
  subst j
  exact ⟨ρ', e, i⟩
/-! ### slices -/
theorem cut_1 {a : Type} (xs : List a) : cutD xs (some 1) none = xs.drop 1 := by
  unfold cutD
  rw [show HT.sIx xs.length 0 (some 1) = min 1 xs.length from HT.sIx_nat xs.length 0 1, HT.sIx_none]
  cases xs with
  | nil => rfl
  | cons x r =>
    rw [show min 1 (x :: r).length = 1 by rw [List.length_cons]; omega]
    show List.take ((x :: r).length - 1) r = r
    rw [List.length_cons, Nat.add_sub_cancel]
    exact List.take_length
theorem zipD_map {a b : Type} (e : a → PD) (f : b → PD) : ∀ (xs : List a) (ys : List b), zipD (xs.map e) (ys.map f) = (xs.zip ys).map fun p => PyData.tuple [e p.1, f p.2]
  | [], _ => by simp [zipD]
  | _ :: _, [] => by simp [zipD]
  | x :: xs, y :: ys => by simp [zipD, zipD_map e f xs ys]
/-! ### a curve -/
def Up (p q : Pt) : Prop := p.1 ≤ q.1 ∧ p.2 ≤ q.2 ∧ p ≠ q
structure CrvOk (P : List Pt) : Prop where
  l2 : 2 ≤ P.length
  l13 : P.length ≤ 13
  hd : P.head? = some (0, 0)
  rng : ∀ p ∈ P, 0 ≤ p.1 ∧ p.1 ≤ 12 ∧ 0 ≤ p.2 ∧ p.2 ≤ 12
  up : P.Pairwise Up
  last : ∀ p, P.getLast? = some p → p.1 + p.2 ≤ 12
theorem zip_tail_mem {a : Type} {Rr : a → a → Prop} : ∀ {l : List a}, l.Pairwise Rr → ∀ p ∈ l.zip (l.drop 1), Rr p.1 p.2
  | [], _, p, h => by simp at h
  | [x], _, p, h => by simp at h
  | x :: y :: l, hp, p, h => by
    have hp' := List.pairwise_cons.mp hp
    rw [show (x :: y :: l).drop 1 = y :: l from rfl, List.zip_cons_cons] at h
    rcases List.mem_cons.mp h with e | e
    · rw [e]; exact hp'.1 y (by simp)
    · exact zip_tail_mem hp'.2 p e
theorem atI_last_map {a : Type} (e : a → PD) (l : List a) (x : a) (h : l.getLast? = some x) : L2.atI (l.map e) (-1) = some (e x) := by
  have hn : l ≠ [] := fun z => by rw [z] at h; cases h
  have hl : 0 < l.length := List.length_pos_iff.mpr hn
  unfold L2.atI ixN
  rw [if_neg (by decide), List.length_map, if_pos (by omega)]
  show (l.map e)[(-1 + (l.length : Int)).toNat]? = _
  rw [List.getElem?_map, show (-1 + (l.length : Int)).toNat = l.length - 1 by omega, ← List.getLast?_eq_getElem?, h]
  rfl
theorem atI_nat_map {a : Type} (e : a → PD) (l : List a) (i : Nat) (x : a) (h : l[i]? = some x) : L2.atI (l.map e) (i : Int) = some (e x) := by
  have hl : i < l.length := (List.getElem?_eq_some_iff.mp h).1
  unfold L2.atI ixN
  rw [if_pos (by omega), List.length_map, if_pos (by omega)]
  show (l.map e)[(i : Int).toNat]? = _
  rw [List.getElem?_map, Int.toNat_natCast, h]
  rfl
theorem pIx_last {a : Type} (e : a → PD) (l : List a) (x : a) (h : l.getLast? = some x) : pIx (.list (l.map e)) (.int (-1)) = .ok (e x) := by
  show (match L2.atI (l.map e) (-1) with | some d => R.ok d | none => R.bad) = _
  rw [atI_last_map e l x h]
theorem pIx_nat {a : Type} (e : a → PD) (l : List a) (i : Nat) (x : a) (h : l[i]? = some x) : pIx (.list (l.map e)) (.int (i : Int)) = .ok (e x) := by
  show (match L2.atI (l.map e) (i : Int) with | some d => R.ok d | none => R.bad) = _
  rw [atI_nat_map e l i x h]
theorem pIx_head {a : Type} (e : a → PD) (l : List a) (x : a) (h : l.head? = some x) : pIx (.list (l.map e)) (.int 0) = .ok (e x) := by
  have := pIx_nat e l 0 x (by rw [List.head?_eq_getElem?] at h; exact h)
  exact this
theorem eP_0 (p : Pt) : pIx (eP p) (.int 0) = .ok (.int p.1) := pIx_t0 _ _
theorem eP_1 (p : Pt) : pIx (eP p) (.int 1) = .ok (.int p.2) := pIx_t1 _ _ _
theorem isi_tup_eP (p : Pt) : isiT "tuple" (eP p) = true := rfl
theorem len_eP (p : Pt) : pLen [eP p] = .ok (.int 2) := rfl
theorem ev_seq {d : Type} {f g : Env → d → R (Fl × d)} {ρ ρ' : Env} {s s' : d} {r : R (Fl × d)} (h : f ρ s = .ok (.nx ρ', s')) (k : g ρ' s' = r) : sSeq f g ρ s = r := by
  unfold sSeq
  rw [h]
  exact k
theorem ev_seq_rt {d : Type} {f g : Env → d → R (Fl × d)} {ρ : Env} {s s' : d} {v : PD} (h : f ρ s = .ok (.rt v, s')) : sSeq f g ρ s = .ok (.rt v, s') := by
  unfold sSeq
  rw [h]
theorem ev_if {d : Type} {t : Env → d → R (Bool × d)} {f g : Env → d → R (Fl × d)} {ρ : Env} {s s' : d} {b : Bool} {r : R (Fl × d)} (h : t ρ s = .ok (b, s')) (k : (if b = true then f ρ s' else g ρ s') = r) : sIf t f g ρ s = r := by
  unfold sIf
  rw [h, bnd_ok]
  exact k
theorem ev_if_f {d : Type} {t : Env → d → R (Bool × d)} {f g : Env → d → R (Fl × d)} {ρ : Env} {s s' : d} {r : R (Fl × d)} (h : t ρ s = .ok (false, s')) (k : g ρ s' = r) : sIf t f g ρ s = r := by
  unfold sIf
  rw [h, bnd_ok]
  exact k
theorem ev_if_t {d : Type} {t : Env → d → R (Bool × d)} {f g : Env → d → R (Fl × d)} {ρ : Env} {s s' : d} {r : R (Fl × d)} (h : t ρ s = .ok (true, s')) (k : f ρ s' = r) : sIf t f g ρ s = r := by
  unfold sIf
  rw [h, bnd_ok]
  exact k
theorem ev_or_f {d : Type} {t u : Env → d → R (Bool × d)} {ρ : Env} {s s' : d} {r : R (Bool × d)} (h : t ρ s = .ok (false, s')) (k : u ρ s' = r) : cOrT t u ρ s = r := by
  unfold cOrT
  rw [h, bnd_ok]
  exact k
theorem ev_and_t {d : Type} {t u : Env → d → R (Bool × d)} {ρ : Env} {s s' : d} {r : R (Bool × d)} (h : t ρ s = .ok (true, s')) (k : u ρ s' = r) : cAndT t u ρ s = r := by
  unfold cAndT
  rw [h, bnd_ok]
  exact k
theorem ev_not {d : Type} {t : Env → d → R (Bool × d)} {ρ : Env} {s s' : d} {b : Bool} (h : t ρ s = .ok (b, s')) : cNotT t ρ s = .ok (!b, s') := by
  unfold cNotT
  rw [h, bnd_ok]
theorem ev_test {d : Type} {e : Env → d → R (PD × d)} {ρ : Env} {s s' : d} {b : Bool} (h : e ρ s = .ok (.bool b, s')) : cTest e ρ s = .ok (b, s') := by
  unfold cTest
  rw [h]
  rfl
theorem ev_for {d : Type} {it : Env → d → R (List PD × d)} {bd : Bd} {body : Env → d → R (Fl × d)} {ρ : Env} {s s' : d} {xs : List PD} {r : R (Fl × d)} (hi : it ρ s = .ok (xs, s')) (h : sForGo bd body xs ρ s' = r) : sFor it bd body ρ s = r := by
  unfold sFor
  rw [hi, bnd_ok]
  exact h
theorem ev_for_pass {d a : Type} {it : Env → d → R (List PD × d)} {bd : Bd} {body g : Env → d → R (Fl × d)} {ρ : Env} {s : d} {r : R (Fl × d)} (xs : List a) (enc : a → PD) (Ok : Env → Prop) (hi : it ρ s = .ok (xs.map enc, s)) (h0 : Ok ρ)
    (h : ∀ x ∈ xs, ∀ ρ, Ok ρ → ∃ ρ1 ρ2, bd (enc x) ρ = some ρ1 ∧ body ρ1 s = .ok (.nx ρ2, s) ∧ Ok ρ2) (k : ∀ ρ', Ok ρ' → g ρ' s = r) : sSeq (sFor it bd body) g ρ s = r := by
  obtain ⟨ρ', e, o⟩ := sForGo_pass enc Ok s xs ρ h0 h
  exact ev_seq (ev_for hi e) (k ρ' o)
theorem mBody_of {n : Nat} {f : Env → Unit → R (Fl × Unit)} {ds : List PD} {v : PD} (h : f (ds.map some ++ List.replicate n none) () = .ok (.rt v, ())) : mBody n f ds = .ok v := by
  unfold mBody
  rw [h]
  rfl
theorem ret_of {d : Type} {e : Env → d → R (PD × d)} {ρ : Env} {s s' : d} {v : PD} (h : e ρ s = .ok (v, s')) (hv : isD v = true) : sRet e ρ s = .ok (.rt v, s') := by
  unfold sRet
  rw [h, bnd_ok]
theorem ev_op {d : Type} {f : PD → PD → R PD} {a b : Env → d → R (PD × d)} {ρ : Env} {s s1 s2 : d} {x y z : PD} (ha : a ρ s = .ok (x, s1)) (hb : b ρ s1 = .ok (y, s2)) (hf : f x y = .ok z) (hx : isD x = true := by rfl) (hy : isD y = true := by rfl) : cOp f a b ρ s = .ok (z, s2) := by
  unfold cOp
  rw [ha, bnd_ok, hb, bnd_ok, hx, hy, hf]
  rfl
theorem ev_a1 {d : Type} {a : Env → d → R (PD × d)} {ρ : Env} {s s1 : d} {x : PD} (ha : a ρ s = .ok (x, s1)) : aCons a aNil ρ s = .ok ([x], s1) := by
  unfold aCons aNil
  rw [ha]
  rfl
theorem ev_aC {d : Type} {a : Env → d → R (PD × d)} {as : Env → d → R (List PD × d)} {ρ : Env} {s s1 s2 : d} {x : PD} {xs : List PD} (ha : a ρ s = .ok (x, s1)) (has : as ρ s1 = .ok (xs, s2)) : aCons a as ρ s = .ok (x :: xs, s2) := by
  unfold aCons
  rw [ha, bnd_ok, has]
  rfl
theorem ev_callF {d : Type} {n : Nat} {m : List PD → R PD} {as : Env → d → R (List PD × d)} {ρ : Env} {s s1 : d} {xs : List PD} {v : PD} (ha : as ρ s = .ok (xs, s1)) (hm : m xs = .ok v) (hn : xs.length = n := by rfl) : cCallF n m as ρ s = .ok (v, s1) := by
  unfold cCallF
  rw [ha, bnd_ok, if_pos hn, hm]
  rfl
theorem ev_call {d : Type} {m : List PD → R PD} {as : Env → d → R (List PD × d)} {ρ : Env} {s s1 : d} {xs : List PD} {v : PD} (ha : as ρ s = .ok (xs, s1)) (hm : m xs = .ok v) (hd : allD xs = true := by rfl) : cCall m as ρ s = .ok (v, s1) := by
  unfold cCall
  rw [ha, bnd_ok, hd, hm]
  rfl
theorem ev_callD {n : Nat} {m : List PD → Dr → R (PD × Dr)} {as : Env → Dr → R (List PD × Dr)} {ρ : Env} {s s1 s2 : Dr} {xs : List PD} {v : PD} (ha : as ρ s = .ok (xs, s1)) (hm : m xs s1 = .ok (v, s2)) (hn : xs.length = n := by rfl) : cCallD n m as ρ s = .ok (v, s2) := by
  unfold cCallD
  rw [ha, bnd_ok, if_pos hn, hm]
  rfl
theorem ev_set {d : Type} {i : Nat} {e : Env → d → R (PD × d)} {ρ : Env} {s s1 : d} {v : PD} (h : e ρ s = .ok (v, s1)) : sSet i e ρ s = .ok (.nx (ρ.set i (some v)), s1) := by
  unfold sSet
  rw [h]
  rfl
theorem ev_exp {d : Type} {e : Env → d → R (PD × d)} {ρ : Env} {s s1 : d} {v : PD} (h : e ρ s = .ok (v, s1)) : sExpr e ρ s = .ok (.nx ρ, s1) := by
  unfold sExpr
  rw [h]
  rfl
theorem ev_and {d : Type} {a b : Env → d → R (PD × d)} {ρ : Env} {s s1 : d} {r : R (PD × d)} (ha : a ρ s = .ok (.bool true, s1)) (hb : b ρ s1 = r) : cAndV a b ρ s = r := by
  unfold cAndV
  rw [ha, bnd_ok]
  exact hb
theorem ev_un {d : Type} {f : PD → R PD} {a : Env → d → R (PD × d)} {ρ : Env} {s s1 : d} {x v : PD} (ha : a ρ s = .ok (x, s1)) (hf : f x = .ok v) (hx : isD x = true := by rfl) : cUn f a ρ s = .ok (v, s1) := by
  unfold cUn
  rw [ha, bnd_ok, hx, hf]
  rfl
theorem m_is_points_eq {P : List Pt} (g : CrvOk P) : m_is_points [encP P] = .ok (.bool true) := by
  refine mBody_of ?_
  unfold b_is_points
  obtain ⟨last, hlast⟩ : ∃ p, P.getLast? = some p := by
    cases h : P.getLast? with
    | none => rw [List.getLast?_eq_none_iff] at h; have := g.l2; rw [h] at this; simp at this
    | some p => exact ⟨p, rfl⟩
  have h2 := g.l2
  have h13 := g.l13
  have e1 : decide ((2 : Int) ≤ (P.length : Int)) = true := decide_eq_true (by omega)
  have e2 : decide ((P.length : Int) ≤ 13) = true := decide_eq_true (by omega)
  have hhd : pIx (encP P) (.int 0) = .ok (eP (0, 0)) := pIx_head eP P _ g.hd
  refine ev_seq (ρ' := [some (encP P), none, none, none, none]) (s' := ()) (ev_if_f (ev_or_f (s' := ()) rfl (ev_or_f (s' := ()) (ev_not (b := true) (ev_test ?_)) (ev_test ?_))) rfl) ?_
  · rw [chain_le (d := Unit) _ _ _ _ () 2 P.length 13 rfl (by unfold encP; walk_at "ev"; rw [List.length_map]) rfl, e1, e2]; rfl
  · walk_at "ev"
    rw [hhd]
    walk_at "ev"
    rw [show PyData.tuple [.int 0, .int 0] = eP (0, 0) from rfl, pNe_eP]
    rfl
  refine ev_for_pass P eP (fun ρ => ∃ a b c d, ρ = [some (encP P), a, b, c, d]) rfl ⟨none, none, none, none, rfl⟩ ?_ ?_
  · rintro p hp _ ⟨a, b, c, d, rfl⟩
    refine ⟨[some (encP P), some (eP p), b, c, d], [some (encP P), some (eP p), b, c, d], rfl, ?_, ⟨_, _, _, _, rfl⟩⟩
    obtain ⟨k1, k2, k3, k4⟩ := g.rng p hp
    refine ev_if_f (s' := ()) (ev_or_f (s' := ()) rfl (ev_or_f (s' := ()) rfl (ev_not (b := true) (ev_test ?_)))) rfl
    walk_at "ev"
    rw [cComp_map [p.1, p.2] PyData.int (fun _ => .bool true)]
    · rfl
    · rfl
    · simp
    · intro x hx
      refine ⟨_, rfl, ?_, rfl⟩
      have hx' : 0 ≤ x ∧ x ≤ 12 := by
        simp only [List.mem_cons, List.not_mem_nil, or_false] at hx
        rcases hx with rfl | rfl
        · exact ⟨k1, k2⟩
        · exact ⟨k3, k4⟩
      walk_at "ev"
      rw [m_is_int_int, decide_eq_true hx'.1, decide_eq_true hx'.2]
      rfl
  rintro _ ⟨a, b, c, d, rfl⟩
  refine ev_for_pass (P.zip (P.drop 1)) (fun p => .tuple [eP p.1, eP p.2]) (fun ρ => ∃ a b c d, ρ = [some (encP P), a, b, c, d]) ?_ ⟨a, b, c, d, rfl⟩ ?_ ?_
  · rw [← zipD_map, List.map_drop, ← cut_1]
    rfl
  · rintro p hp _ ⟨a, b, c, d, rfl⟩
    obtain ⟨u1, u2, u3⟩ := zip_tail_mem g.up p hp
    refine ⟨[some (encP P), a, some (eP p.1), some (eP p.2), d], _, rfl, ev_if_f (s' := ()) (ev_or_f (s' := ()) (ev_test ?_) (ev_or_f (s' := ()) (ev_test ?_) (ev_test ?_))) rfl, ⟨_, _, _, _, rfl⟩⟩
    · walk_at "ev"
      rw [eP_0, eP_0]
      walk_at "ev"
      rw [decide_eq_false (by omega)]
    · walk_at "ev"
      rw [eP_1, eP_1]
      walk_at "ev"
      rw [decide_eq_false (by omega)]
    · walk_at "ev"
      rw [pEq_eP, decide_eq_false u3]
      rfl
  rintro _ ⟨a, b, c, d, rfl⟩
  refine ret_of ?_ rfl
  walk_at "ev"
  rw [show pIx (encP P) (.int (-1)) = .ok (eP last) from pIx_last eP P last hlast]
  walk_at "ev"
  rw [show pSum [eP last] = .ok (.int (last.1 + last.2)) from by simp [pSum, eP, toInts]]
  walk_at "ev"
  rw [decide_eq_true (g.last last hlast)]
end DL

/-! M4: draws; the curve is a curve -/
namespace DL
open PySem PySem.Spec PyProof.Rows L2
local macro_rules | `(tactic| walk_at "ev") => `(tactic| simp only [szL, Nat.reduceLeDiff, mBody, mBodyD, outP, outD, cVar, cC, cOp, cUn, cTest, cAndT, cOrT, cNotT, cAndV, cOrV, cIf, aNil, aCons, cTup, cLst, cSl, oNone, oSome, cCall, cCallF, cCallD, cMeth, noX', isL_list, isL_encP, tYesD, bnd_ok, bnd_exc, bnd_bad, lft_ok, lft_exc, lft_bad, isOk_ok, isOk_exc, isOk_bad, isD_int, isD_bool, isD_none, isD_str, isD_list, isD_tuple, isD_eP, isD_eT, isD_encP, isD_encT, allD, List.all_cons, List.all_nil, Bool.and_self, Bool.and_true, Bool.true_and, if_true, if_false, Bool.false_eq_true, ite_true, ite_false, reduceIte, List.length_cons, List.length_nil, List.map_cons, List.map_nil, List.cons_append, List.nil_append, List.replicate_succ, List.replicate_zero, List.getElem?_cons_zero, List.getElem?_cons_succ, List.set_cons_zero, List.set_cons_succ, wipeD, sSeq, sSet, sAsg, sRet, sIf, sExpr, sNil, sRaise, sSetF, sApp, sAug, sAugL, sPar, sPar3, fLst, bNm, bTup, bCons, bNil, pNot, pIsi, isiT, tyN, pNeg, Nat.reduceAdd, decide_true, decide_false, Bool.not_true, Bool.not_false, noX_ok, pLe_i, pLt_i, pGt_i, pGe_i, pAdd_i, pSub_i, pLen_l, pLen_t, pIx_t0, pIx_t1, pEq_i, pNe_i])
local macro_rules | `(tactic| walk_at "evs") => `(tactic| simp [szL, mBody, mBodyD, outP, outD, cVar, cC, cOp, cUn, cTest, cAndT, cOrT, cNotT, cAndV, cOrV, cIf, aNil, aCons, cTup, cLst, cSl, oNone, oSome, cCall, cCallF, cCallD, cMeth, noX', isL_list, isL_encP, tYesD, bnd_ok, bnd_exc, bnd_bad, lft_ok, lft_exc, lft_bad, isOk_ok, isOk_exc, isOk_bad, isD_int, isD_bool, isD_none, isD_str, isD_list, isD_tuple, isD_eP, isD_eT, isD_encP, isD_encT, allD, List.all_cons, List.all_nil, List.map_cons, List.map_nil, List.cons_append, List.nil_append, List.replicate_succ, List.replicate_zero, List.getElem?_cons_zero, List.getElem?_cons_succ, List.set_cons_zero, List.set_cons_succ, wipeD, sSeq, sSet, sAsg, sRet, sIf, sExpr, sNil, sRaise, sSetF, sApp, sAug, sAugL, sPar, sPar3, fLst, bNm, bTup, bCons, bNil, pNot, pIsi, isiT, tyN, pNeg, noX_ok, pLe_i, pLt_i, pGt_i, pGe_i, pAdd_i, pSub_i, pLen_l, pLen_t, pIx_t0, pIx_t1, pEq_i, pNe_i])
local macro_rules | `(tactic| walk_at "evx") => `(tactic| simp [szL, mBody, mBodyD, outP, outD, cVar, cC, cOp, cUn, cTest, cAndT, cOrT, cNotT, cAndV, cOrV, cIf, aNil, aCons, cTup, cLst, cSl, oNone, oSome, cCall, cCallF, cCallD, cMeth, noX', isL_list, isL_encP, tYesD, bnd_ok, bnd_exc, bnd_bad, lft_ok, lft_exc, lft_bad, isOk_ok, isOk_exc, isOk_bad, isD_int, isD_bool, isD_none, isD_str, isD_list, isD_tuple, isD_eP, isD_eT, isD_encP, isD_encT, allD, List.all_cons, List.all_nil, List.map_cons, List.map_nil, List.cons_append, List.nil_append, List.replicate_succ, List.replicate_zero, List.getElem?_cons_zero, List.getElem?_cons_succ, List.set_cons_zero, List.set_cons_succ, wipeD, sSeq, sSet, sAsg, sRet, sIf, sExpr, sNil, sRaise, sSetF, sApp, sAug, sAugL, sPar, sPar3, fLst, bNm, bTup, bCons, bNil, pNot, pIsi, isiT, tyN, pNeg, noX_ok, pLe_i, pLt_i, pGt_i, pGe_i, pAdd_i, pSub_i, pLen_l, pLen_t, pIx_t0, pIx_t1, pEq_i, pNe_i, *])
def Live (s : Dr) : Prop := 0 < s.1.length
theorem draw_ev {lim : Int} (h1 : 0 < lim) (h2 : lim < 1073741824) {s : Dr} (hs : Live s) : ∃ x s', m__law_draw [tokD 0, .int lim] s = .ok (.int x, s') ∧ 0 ≤ x ∧ x < lim ∧ Live s' := by
  refine ⟨(drawM lim s).1, (drawM lim s).2, ?_, (drawM_range h1 s).1, (drawM_range h1 s).2, ?_⟩
  · show (if 0 < lim ∧ lim < 1073741824 ∧ 0 < s.1.length then _ else _) = _
    rw [if_pos ⟨h1, h2, hs⟩]
  · unfold Live
    rw [drawM_len]
    exact hs
theorem pick_ev {cs : List PD} (h1 : 0 < cs.length) (h2 : cs.length < 1000) {s : Dr} (hs : Live s) : ∃ c s', m__law_pick [tokD 0, .list cs] s = .ok (c, s') ∧ c ∈ cs ∧ Live s' := by
  obtain ⟨x, s', e, l, u, v⟩ := draw_ev (lim := (cs.length : Int)) (by omega) (by omega) hs
  have hx : x.toNat < cs.length := by omega
  refine ⟨cs[x.toNat], s', ?_, List.getElem_mem hx, v⟩
  unfold m__law_pick b__law_pick
  walk_at "ev"
  rw [e]
  walk_at "ev"
  have := pIx_nat (fun d : PD => d) cs x.toNat cs[x.toNat] (List.getElem?_eq_getElem hx)
  rw [List.map_id', Int.toNat_of_nonneg l] at this
  rw [this]
  rfl
theorem rngL_01 (n : Nat) : rngL 0 1 n = ((List.range n).map fun (i : Nat) => (i : Int)).map PyData.int := by
  unfold rngL
  rw [List.map_map]
  apply List.map_congr_left
  intro i _
  show PyData.int (0 + (i : Int) * 1) = PyData.int (i : Int)
  congr 1; omega
theorem in62_ok {j : Int} (h1 : -1000000 ≤ j) (h2 : j ≤ 1000000) : in62 j = true := by
  unfold in62
  rw [Bool.and_eq_true, decide_eq_true_eq, decide_eq_true_eq]
  constructor <;> omega
theorem list_map_of {a : Type} (e : a → PD) (Q : a → Prop) : ∀ ys : List PD, (∀ y ∈ ys, ∃ x, y = e x ∧ Q x) → ∃ xs : List a, ys = xs.map e ∧ ∀ x ∈ xs, Q x
  | [], _ => ⟨[], rfl, fun x h => by cases h⟩
  | y :: ys, h => by
    obtain ⟨x, rfl, q⟩ := h y (by simp)
    obtain ⟨xs, rfl, qs⟩ := list_map_of e Q ys fun z hz => h z (List.mem_cons_of_mem _ hz)
    exact ⟨x :: xs, rfl, fun z hz => by
      rcases List.mem_cons.mp hz with e | e
      · rw [e]; exact q
      · exact qs z e⟩
theorem things_ev {most : Int} (h1 : 1 ≤ most) (h2 : most ≤ 12) {s : Dr} (hs : Live s) : ∃ T s', m__law_things [tokD 0, .int most] s = .ok (encT T, s') ∧ GoodT T ∧ (T.length : Int) ≤ most ∧ Live s' := by
  obtain ⟨c, s1, e1, m1, v1⟩ := pick_ev (cs := [.int 2, .int 5, .int 12, .int 100]) (by decide) (by decide) hs
  obtain ⟨wide, rfl, w1, w2⟩ : ∃ w, c = .int w ∧ 2 ≤ w ∧ w ≤ 100 := by
    simp only [List.mem_cons, List.not_mem_nil, or_false] at m1
    rcases m1 with rfl | rfl | rfl | rfl
    · exact ⟨2, rfl, by decide, by decide⟩
    · exact ⟨5, rfl, by decide, by decide⟩
    · exact ⟨12, rfl, by decide, by decide⟩
    · exact ⟨100, rfl, by decide, by decide⟩
  obtain ⟨n, s2, e2, n1, n2, v2⟩ := draw_ev (lim := most) (by omega) (by omega) v1
  have key := compGo_eff (b := bNm 3) (own := [3]) (f := cTup (aCons (cCallD 2 m__law_draw (aCons (cVar 0) (aCons (cVar 2) aNil))) (aCons (cOp pEq (cCallD 2 m__law_draw (aCons (cVar 0) (aCons (cC (.int 2)) aNil))) (cC (.int 0))) aNil)))
    (ρ := [some (tokD 0), some (.int most), some (.int wide), none]) PyData.int Live (fun y => ∃ x : Th, y = eT x ∧ 0 ≤ x.1 ∧ x.1 ≤ 99) ((List.range (1 + n).toNat).map fun (i : Nat) => (i : Int)) s2 v2 fun x _ s hs => by
      obtain ⟨a, t1, f1, a1, a2, g1⟩ := draw_ev (lim := wide) (by omega) (by omega) hs
      obtain ⟨b, t2, f2, b1, b2, g2⟩ := draw_ev (lim := 2) (by omega) (by omega) g1
      refine ⟨[some (tokD 0), some (.int most), some (.int wide), some (.int x)], eT (a, decide (b = 0)), t2, rfl, ?_, rfl, ⟨_, rfl, a1, by show a ≤ 99; omega⟩, g2⟩
      walk_at "ev"
      rw [f1]
      walk_at "ev"
      rw [f2]
      walk_at "ev"
      rfl
  obtain ⟨ys, s3, e3, l3, p3, v3⟩ := key
  obtain ⟨T, rfl, q⟩ := list_map_of eT (fun x => 0 ≤ x.1 ∧ x.1 ≤ 99) ys p3
  simp only [List.length_map, List.length_range] at l3
  refine ⟨T, s3, ?_, ⟨by omega, by omega, q⟩, by omega, v3⟩
  unfold m__law_things b__law_things
  walk_at "ev"
  rw [e1]
  walk_at "ev"
  unfold cComp iRg1
  walk_at "ev"
  rw [e2]
  walk_at "ev"
  rw [if_pos (in62_ok (by omega) (by omega)), bnd_ok, if_pos (by simp [rngL]; omega), rngL_01, e3]
  rfl
theorem pts_head (T : List Th) : (pts T).head? = some (0, 0) := rfl
theorem pts_len (T : List Th) : (pts T).length = (scs T).length + 1 := by simp [pts]
theorem al_bound (T : List Th) (t : Int) : 0 ≤ al T t ∧ al T t ≤ T.length := by
  unfold al
  have := List.length_filter_le (fun x : Th => decide (t ≤ x.1)) T
  omega
theorem fa_nn (T : List Th) (t : Int) : 0 ≤ fa T t := by unfold fa; omega
theorem tr_nn (T : List Th) (t : Int) : 0 ≤ tr T t := by unfold tr; omega
theorem up_cnt (T : List Th) {s t : Int} (h : s < t) (m : s ∈ scs T) : Up (cnt T t) (cnt T s) := by
  refine ⟨fa_mono T (by omega), tr_mono T (by omega), fun e => ?_⟩
  have h1 := al_lt T h m
  rw [← al_sum, ← al_sum] at h1
  have e1 : fa T t = fa T s := congrArg Prod.fst e
  have e2 : tr T t = tr T s := congrArg Prod.snd e
  omega
theorem pts_up {T : List Th} (g : GoodT T) : (pts T).Pairwise Up := by
  unfold pts
  refine List.pairwise_cons.mpr ⟨fun p hp => ?_, ?_⟩
  · obtain ⟨t, ht, rfl⟩ := List.mem_map.mp hp
    rw [← cnt_top g (t := 100) (Int.le_refl _)]
    obtain ⟨x, hx, rfl⟩ := mem_scs.mp ht
    have := g.sc x hx
    exact up_cnt T (by omega) ht
  · rw [List.pairwise_map]
    exact List.Pairwise.imp_of_mem (fun {a b} ha hb hab => up_cnt T hab hb) (scs_gt T)
theorem cnt_low {T : List Th} {s t : Int} (h : ∀ x ∈ T, s ≤ x.1) (hst : t ≤ s) : cnt T t = cnt T s := by
  unfold cnt fa tr
  have e1 : (T.filter fun x => decide (t ≤ x.1) && !x.2) = T.filter fun x => decide (s ≤ x.1) && !x.2 := List.filter_congr fun x m => by
    have := h x m
    rw [decide_eq_true (by omega), decide_eq_true (by omega)]
  have e2 : (T.filter fun x => decide (t ≤ x.1) && x.2) = T.filter fun x => decide (s ≤ x.1) && x.2 := List.filter_congr fun x m => by
    have := h x m
    rw [decide_eq_true (by omega), decide_eq_true (by omega)]
  rw [e1, e2]
theorem scs_ne {T : List Th} (g : GoodT T) : scs T ≠ [] := fun e => by
  cases T with
  | nil => have := g.l1; simp at this
  | cons x T =>
    have : x.1 ∈ scs (x :: T) := mem_scs.mpr ⟨x, by simp, rfl⟩
    rw [e] at this
    cases this
theorem scs_last {T : List Th} (g : GoodT T) : ∃ s, (scs T).getLast? = some s ∧ s ∈ scs T ∧ ∀ x ∈ T, s ≤ x.1 := by
  have hn := scs_ne g
  refine ⟨(scs T).getLast hn, List.getLast?_eq_some_getLast hn, List.getLast_mem hn, fun x hx => ?_⟩
  have hm : x.1 ∈ scs T := mem_scs.mpr ⟨x, hx, rfl⟩
  have hp := scs_gt T
  rw [← List.dropLast_concat_getLast hn] at hm hp
  rw [List.pairwise_append] at hp
  rcases List.mem_append.mp hm with z | z
  · have := hp.2.2 _ z ((scs T).getLast hn) (by simp)
    omega
  · simp only [List.mem_cons, List.not_mem_nil, or_false] at z
    omega
theorem pts_last {T : List Th} (g : GoodT T) : (pts T).getLast? = some (cnt T 0) := by
  obtain ⟨s, h1, h2, h3⟩ := scs_last g
  obtain ⟨x, hx, e⟩ := mem_scs.mp h2
  have := g.sc x hx
  rw [cnt_low h3 (t := 0) (by omega)]
  unfold pts
  rw [List.getLast?_cons, List.getLast?_map, h1]
  rfl
theorem cnt_rng {T : List Th} (g : GoodT T) (t : Int) : 0 ≤ (cnt T t).1 ∧ 0 ≤ (cnt T t).2 ∧ (cnt T t).1 + (cnt T t).2 ≤ 12 := by
  refine ⟨fa_nn T t, tr_nn T t, ?_⟩
  show fa T t + tr T t ≤ 12
  rw [al_sum]
  have := al_bound T t
  have := g.l2
  omega
theorem pts_rng {T : List Th} (g : GoodT T) : ∀ p ∈ pts T, 0 ≤ p.1 ∧ 0 ≤ p.2 ∧ p.1 + p.2 ≤ 12 := fun p hp => by
  rcases List.mem_cons.mp hp with e | e
  · subst e; decide
  · obtain ⟨t, _, rfl⟩ := List.mem_map.mp e
    exact cnt_rng g t
theorem pts_ok {T : List Th} (g : GoodT T) : CrvOk (pts T) := by
  have h1 := scs_len T
  have h2 : 0 < (scs T).length := List.length_pos_iff.mpr (scs_ne g)
  have h3 := g.l2
  refine ⟨by rw [pts_len]; omega, by rw [pts_len]; omega, rfl, fun p hp => ?_, pts_up g, fun p hp => ?_⟩
  · have := pts_rng g p hp
    omega
  · exact (pts_rng g p (List.mem_of_getLast? hp)).2.2
end DL

/-! M5: thresholds_for, most_true, least_false -/
namespace DL
open PySem PySem.Spec PyProof.Rows L2
local macro_rules | `(tactic| walk_at "ev") => `(tactic| simp only [szL, Nat.reduceLeDiff, mBody, mBodyD, outP, outD, cVar, cC, cOp, cUn, cTest, cAndT, cOrT, cNotT, cAndV, cOrV, cIf, aNil, aCons, cTup, cLst, cSl, oNone, oSome, cCall, cCallF, cCallD, cMeth, noX', isL_list, isL_encP, tYesD, bnd_ok, bnd_exc, bnd_bad, lft_ok, lft_exc, lft_bad, isOk_ok, isOk_exc, isOk_bad, isD_int, isD_bool, isD_none, isD_str, isD_list, isD_tuple, isD_eP, isD_eT, isD_encP, isD_encT, allD, List.all_cons, List.all_nil, Bool.and_self, Bool.and_true, Bool.true_and, if_true, if_false, Bool.false_eq_true, ite_true, ite_false, reduceIte, List.length_cons, List.length_nil, List.map_cons, List.map_nil, List.cons_append, List.nil_append, List.replicate_succ, List.replicate_zero, List.getElem?_cons_zero, List.getElem?_cons_succ, List.set_cons_zero, List.set_cons_succ, wipeD, sSeq, sSet, sAsg, sRet, sIf, sExpr, sNil, sRaise, sSetF, sApp, sAug, sAugL, sPar, sPar3, fLst, bNm, bTup, bCons, bNil, pNot, pIsi, isiT, tyN, pNeg, Nat.reduceAdd, decide_true, decide_false, Bool.not_true, Bool.not_false, noX_ok, pLe_i, pLt_i, pGt_i, pGe_i, pAdd_i, pSub_i, pLen_l, pLen_t, pIx_t0, pIx_t1, pEq_i, pNe_i])
local macro_rules | `(tactic| walk_at "evs") => `(tactic| simp [szL, mBody, mBodyD, outP, outD, cVar, cC, cOp, cUn, cTest, cAndT, cOrT, cNotT, cAndV, cOrV, cIf, aNil, aCons, cTup, cLst, cSl, oNone, oSome, cCall, cCallF, cCallD, cMeth, noX', isL_list, isL_encP, tYesD, bnd_ok, bnd_exc, bnd_bad, lft_ok, lft_exc, lft_bad, isOk_ok, isOk_exc, isOk_bad, isD_int, isD_bool, isD_none, isD_str, isD_list, isD_tuple, isD_eP, isD_eT, isD_encP, isD_encT, allD, List.all_cons, List.all_nil, List.map_cons, List.map_nil, List.cons_append, List.nil_append, List.replicate_succ, List.replicate_zero, List.getElem?_cons_zero, List.getElem?_cons_succ, List.set_cons_zero, List.set_cons_succ, wipeD, sSeq, sSet, sAsg, sRet, sIf, sExpr, sNil, sRaise, sSetF, sApp, sAug, sAugL, sPar, sPar3, fLst, bNm, bTup, bCons, bNil, pNot, pIsi, isiT, tyN, pNeg, noX_ok, pLe_i, pLt_i, pGt_i, pGe_i, pAdd_i, pSub_i, pLen_l, pLen_t, pIx_t0, pIx_t1, pEq_i, pNe_i])
local macro_rules | `(tactic| walk_at "evx") => `(tactic| simp [szL, mBody, mBodyD, outP, outD, cVar, cC, cOp, cUn, cTest, cAndT, cOrT, cNotT, cAndV, cOrV, cIf, aNil, aCons, cTup, cLst, cSl, oNone, oSome, cCall, cCallF, cCallD, cMeth, noX', isL_list, isL_encP, tYesD, bnd_ok, bnd_exc, bnd_bad, lft_ok, lft_exc, lft_bad, isOk_ok, isOk_exc, isOk_bad, isD_int, isD_bool, isD_none, isD_str, isD_list, isD_tuple, isD_eP, isD_eT, isD_encP, isD_encT, allD, List.all_cons, List.all_nil, List.map_cons, List.map_nil, List.cons_append, List.nil_append, List.replicate_succ, List.replicate_zero, List.getElem?_cons_zero, List.getElem?_cons_succ, List.set_cons_zero, List.set_cons_succ, wipeD, sSeq, sSet, sAsg, sRet, sIf, sExpr, sNil, sRaise, sSetF, sApp, sAug, sAugL, sPar, sPar3, fLst, bNm, bTup, bCons, bNil, pNot, pIsi, isiT, tyN, pNeg, noX_ok, pLe_i, pLt_i, pGt_i, pGe_i, pAdd_i, pSub_i, pLen_l, pLen_t, pIx_t0, pIx_t1, pEq_i, pNe_i, *])
theorem cTest_ok {d : Type} {e : Env → d → R (PD × d)} {ρ : Env} {s s' : d} {b : Bool} (h : e ρ s = .ok (.bool b, s')) : cTest e ρ s = .ok (b, s') := ev_test h
def up (n : Nat) : List Int := (List.range n).map fun (i : Nat) => (i : Int)
theorem up_len (n : Nat) : (up n).length = n := by simp [up]
theorem iRg1_up {d : Type} {ρ : Env} {s : d} (n : Int) (h : 0 ≤ n ∧ n ≤ 1000000) : iRg1 (aCons (cC (.int n)) aNil) ρ s = .ok ((up n.toNat).map PyData.int, s) := by
  unfold iRg1
  walk_at "ev"
  rw [if_pos (in62_ok (by omega) (by omega)), rngL_01]
  rfl
/-- the first and the last -/
def flD (l : List Int) : PD := match l.head?, l.getLast? with
  | some a, some b => .tuple [.int a, .int b]
  | _, _ => .none
theorem ne_nil_ints (l : List Int) : pNe (.list (l.map PyData.int)) (.list []) = .ok (.bool (decide (l ≠ []))) := by
  have := pNe_ints l []
  rw [show ([] : List Int).map PyData.int = [] from rfl] at this
  rw [this]
  by_cases h : l = [] <;> simp [h]
theorem fl_ev {d : Type} {ρ : Env} {s : d} {i : Nat} (l : List Int) (h : ρ[i]? = some (some (.list (l.map PyData.int)))) :
    cIf (cTest (cOp pNe (cVar i) (cLst aNil))) (cTup (aCons (cOp pIx (cVar i) (cC (.int 0))) (aCons (cOp pIx (cVar i) (cUn pNeg (cC (.int 1)))) aNil))) (cC .none) ρ s = .ok (flD l, s) := by
  have hv : ∀ s : d, cVar i ρ s = .ok (.list (l.map PyData.int), s) := fun s => by unfold cVar; rw [h]
  unfold cIf
  rw [cTest_ok (s' := s) (b := decide (l ≠ [])) (by unfold cOp; rw [hv]; walk_at "ev"; rw [ne_nil_ints]; rfl), bnd_ok]
  cases l with
  | nil => rfl
  | cons a l =>
    rw [if_pos (by simp)]
    have h1 := pIx_head PyData.int (a :: l) a rfl
    have h2 := pIx_last PyData.int (a :: l) ((a :: l).getLast (by simp)) (List.getLast?_eq_some_getLast (by simp))
    have h1' : cOp pIx (cVar i) (cC (.int 0)) ρ s = .ok (.int a, s) := by
      unfold cOp
      rw [hv]
      simp only [bnd_ok, cC]
      rw [h1]
      rfl
    have h2' : cOp pIx (cVar i) (cUn pNeg (cC (.int 1))) ρ s = .ok (.int ((a :: l).getLast (by simp)), s) := by
      unfold cOp
      rw [hv]
      simp only [bnd_ok, cC, cUn, isD_int, if_true]
      rw [show pNeg (.int 1) = .ok (.int (-1)) from rfl]
      simp only [isOk_ok, lft_ok, bnd_ok, isD_list, isD_int, Bool.and_self, if_true]
      rw [h2]
      rfl
    unfold cTup aCons
    rw [h1', bnd_ok, h2']
    walk_at "ev"
    unfold flD
    rw [List.getLast?_eq_some_getLast (show a :: l ≠ [] by simp)]
    rfl
theorem fl_self (l : List Int) : isD (flD l) = true ∧ pNe (flD l) (flD l) = .ok (.bool false) := by
  unfold flD
  split
  · refine ⟨rfl, ?_⟩
    rw [show ∀ a b : Int, PyData.tuple [.int a, .int b] = eP (a, b) from fun _ _ => rfl, pNe_eP]
    simp
  · exact ⟨rfl, rfl⟩
/-- the thresholds that give a point -/
def thr (T : List Th) (q : PD) : List Int := (up 101).filter fun t => PyData.eqv (eP (cnt T t)) q
theorem m_thresholds_for_eq {T : List Th} (g : GoodT T) {q : PD} (hq : SeqAt.shaped q = true) (hd : isD q = true) : m_thresholds_for [encT T, q] = .ok (flD (thr T q)) := by
  refine mBody_of ?_
  unfold b_thresholds_for
  refine ev_seq (ρ' := [some (encT T), some q, none, none]) (s' := ()) ?_ (ev_seq (ρ' := [some (encT T), some q, some (.list ((thr T q).map PyData.int)), none]) (s' := ()) ?_ (ret_of (fl_ev (thr T q) rfl) ?_))
  · walk_at "ev"
    rw [m_check_things_eq g]
    rfl
  · unfold sSet
    rw [cComp_pure (up 101) PyData.int (fun t => PyData.eqv (eP (cnt T t)) q) PyData.int]
    · rfl
    · exact iRg1_up 101 (by decide)
    · rw [up_len]; decide
    · intro t _
      refine ⟨_, rfl, ev_test ?_, fun _ => ⟨rfl, rfl⟩⟩
      walk_at "ev"
      rw [m_counts_eq g.l1000]
      walk_at "ev"
      rw [hd, pEq_ok (shaped_eP _) hq]
      rfl
  · unfold flD
    split <;> rfl
def ysUpTo (P : List Pt) (f : Int) : List Int := (P.filter fun p => decide (p.1 ≤ f)).map (·.2)
def xsFrom (P : List Pt) (t : Int) : List Int := (P.filter fun p => decide (t ≤ p.2)).map (·.1)
def mxD (l : List Int) : R PD := pMax [.list (l.map PyData.int)]
def mnD (l : List Int) : PD := match l with
  | x :: r => .int (minL x r)
  | [] => .none
theorem mn_self (l : List Int) : isD (mnD l) = true ∧ pEq (mnD l) (mnD l) = .ok (.bool true) := by
  cases l with
  | nil => exact ⟨rfl, rfl⟩
  | cons a l =>
    refine ⟨rfl, ?_⟩
    unfold mnD
    rw [pEq_i]
    simp
theorem mxD_cons (x : Int) (r : List Int) : mxD (x :: r) = .ok (.int (maxL x r)) := by
  unfold mxD
  show (match toInts ((x :: r).map PyData.int) with | some (x :: r) => R.ok (PyData.int (maxL x r)) | _ => R.bad) = _
  rw [toInts_map]
theorem m_most_true_eq {T : List Th} (g : GoodT T) {f : Int} (h : 0 ≤ f ∧ f ≤ 12) : ∃ v, mxD (ysUpTo (pts T) f) = .ok (.int v) ∧ m_most_true [encT T, .int f] = .ok (.int v) := by
  obtain ⟨r, hr⟩ : ∃ r, ysUpTo (pts T) f = 0 :: r := by
    unfold ysUpTo pts
    rw [List.filter_cons_of_pos (by simpa using h.1)]
    exact ⟨_, rfl⟩
  have hm := mxD_cons 0 r
  refine ⟨_, by rw [hr]; exact hm, ?_⟩
  rw [← hr] at hm
  unfold mxD ysUpTo at hm
  have hpl := pts_len T
  have hsl := scs_len T
  have hg := g.l2
  refine mBody_of ?_
  unfold b_most_true
  refine ev_seq (ρ' := [some (encT T), some (.int f), none, none]) (s' := ()) ?_ (ev_seq (ρ' := [some (encT T), some (.int f), none, none]) (s' := ()) (ev_if_f (s' := ()) (ev_not (b := true) (ev_test ?_)) rfl) (ret_of ?_ rfl))
  · walk_at "ev"
    rw [m_check_things_eq g]
    rfl
  · walk_at "ev"
    rw [m_is_int_int, decide_eq_true h.1, decide_eq_true h.2]
    rfl
  · unfold cCall aCons
    rw [cComp_pure (pts T) eP (fun p => decide (p.1 ≤ f)) (fun p => .int p.2)]
    · walk_at "ev"
      rw [List.map_map] at hm
      rw [show pMax [.list (((pts T).filter fun p => decide (p.1 ≤ f)).map fun p => .int p.2)] = .ok (.int (maxL 0 r)) from hm]
      rfl
    · unfold iLst
      walk_at "ev"
      rw [m_points_of_eq g.l64]
      rfl
    · omega
    · intro p _
      exact ⟨_, rfl, rfl, fun _ => ⟨rfl, rfl⟩⟩
theorem mn_ev {d : Type} {ρ : Env} {s : d} {i : Nat} (l : List Int) (h : ρ[i]? = some (some (.list (l.map PyData.int)))) :
    cIf (cTest (cOp pNe (cVar i) (cLst aNil))) (cCall pMin (aCons (cVar i) aNil)) (cC .none) ρ s = .ok (mnD l, s) := by
  have hv : ∀ s : d, cVar i ρ s = .ok (.list (l.map PyData.int), s) := fun s => by unfold cVar; rw [h]
  unfold cIf
  rw [cTest_ok (s' := s) (b := decide (l ≠ [])) (by unfold cOp; rw [hv]; walk_at "ev"; rw [ne_nil_ints]; rfl), bnd_ok]
  cases l with
  | nil => rfl
  | cons a l =>
    rw [if_pos (by simp)]
    unfold cCall aCons
    rw [hv]
    walk_at "ev"
    have : pMin [.list (PyData.int a :: l.map PyData.int)] = .ok (.int (minL a l)) := by
      show (match toInts ((a :: l).map PyData.int) with | some (x :: r) => R.ok (PyData.int (minL x r)) | _ => R.bad) = _
      rw [toInts_map]
    rw [this]
    rfl
theorem m_least_false_eq {T : List Th} (g : GoodT T) {f : Int} (h : 0 ≤ f ∧ f ≤ 12) : m_least_false [encT T, .int f] = .ok (mnD (xsFrom (pts T) f)) := by
  have hpl := pts_len T
  have hsl := scs_len T
  have hg := g.l2
  refine mBody_of ?_
  unfold b_least_false
  refine ev_seq (ρ' := [some (encT T), some (.int f), none, none, none]) (s' := ()) ?_ (ev_seq (ρ' := [some (encT T), some (.int f), none, none, none]) (s' := ()) (ev_if_f (s' := ()) (ev_not (b := true) (ev_test ?_)) rfl) (ev_seq (ρ' := [some (encT T), some (.int f), some (.list ((xsFrom (pts T) f).map PyData.int)), none, none]) (s' := ()) ?_ (ret_of (mn_ev _ rfl) ?_)))
  · walk_at "ev"
    rw [m_check_things_eq g]
    rfl
  · walk_at "ev"
    rw [m_is_int_int, decide_eq_true h.1, decide_eq_true h.2]
    rfl
  · unfold sSet
    rw [cComp_pure (pts T) eP (fun p => decide (f ≤ p.2)) (fun p => .int p.1)]
    · unfold xsFrom
      rw [List.map_map]
      rfl
    · unfold iLst
      walk_at "ev"
      rw [m_points_of_eq g.l64]
      rfl
    · omega
    · intro p _
      exact ⟨_, rfl, rfl, fun _ => ⟨rfl, rfl⟩⟩
  · unfold mnD
    split <;> rfl
end DL

/-! M6: pairs, things put together, costs -/
namespace DL
open PySem PySem.Spec PyProof.Rows L2
local macro_rules | `(tactic| walk_at "ev") => `(tactic| simp only [szL, Nat.reduceLeDiff, mBody, mBodyD, outP, outD, cVar, cC, cOp, cUn, cTest, cAndT, cOrT, cNotT, cAndV, cOrV, cIf, aNil, aCons, cTup, cLst, cSl, oNone, oSome, cCall, cCallF, cCallD, cMeth, noX', isL_list, isL_encP, tYesD, bnd_ok, bnd_exc, bnd_bad, lft_ok, lft_exc, lft_bad, isOk_ok, isOk_exc, isOk_bad, isD_int, isD_bool, isD_none, isD_str, isD_list, isD_tuple, isD_eP, isD_eT, isD_encP, isD_encT, allD, List.all_cons, List.all_nil, Bool.and_self, Bool.and_true, Bool.true_and, if_true, if_false, Bool.false_eq_true, ite_true, ite_false, reduceIte, List.length_cons, List.length_nil, List.map_cons, List.map_nil, List.cons_append, List.nil_append, List.replicate_succ, List.replicate_zero, List.getElem?_cons_zero, List.getElem?_cons_succ, List.set_cons_zero, List.set_cons_succ, wipeD, sSeq, sSet, sAsg, sRet, sIf, sExpr, sNil, sRaise, sSetF, sApp, sAug, sAugL, sPar, sPar3, fLst, bNm, bTup, bCons, bNil, pNot, pIsi, isiT, tyN, pNeg, Nat.reduceAdd, decide_true, decide_false, Bool.not_true, Bool.not_false, noX_ok, pLe_i, pLt_i, pGt_i, pGe_i, pAdd_i, pSub_i, pLen_l, pLen_t, pIx_t0, pIx_t1, pEq_i, pNe_i])
local macro_rules | `(tactic| walk_at "evs") => `(tactic| simp [szL, mBody, mBodyD, outP, outD, cVar, cC, cOp, cUn, cTest, cAndT, cOrT, cNotT, cAndV, cOrV, cIf, aNil, aCons, cTup, cLst, cSl, oNone, oSome, cCall, cCallF, cCallD, cMeth, noX', isL_list, isL_encP, tYesD, bnd_ok, bnd_exc, bnd_bad, lft_ok, lft_exc, lft_bad, isOk_ok, isOk_exc, isOk_bad, isD_int, isD_bool, isD_none, isD_str, isD_list, isD_tuple, isD_eP, isD_eT, isD_encP, isD_encT, allD, List.all_cons, List.all_nil, List.map_cons, List.map_nil, List.cons_append, List.nil_append, List.replicate_succ, List.replicate_zero, List.getElem?_cons_zero, List.getElem?_cons_succ, List.set_cons_zero, List.set_cons_succ, wipeD, sSeq, sSet, sAsg, sRet, sIf, sExpr, sNil, sRaise, sSetF, sApp, sAug, sAugL, sPar, sPar3, fLst, bNm, bTup, bCons, bNil, pNot, pIsi, isiT, tyN, pNeg, noX_ok, pLe_i, pLt_i, pGt_i, pGe_i, pAdd_i, pSub_i, pLen_l, pLen_t, pIx_t0, pIx_t1, pEq_i, pNe_i])
local macro_rules | `(tactic| walk_at "evx") => `(tactic| simp [szL, mBody, mBodyD, outP, outD, cVar, cC, cOp, cUn, cTest, cAndT, cOrT, cNotT, cAndV, cOrV, cIf, aNil, aCons, cTup, cLst, cSl, oNone, oSome, cCall, cCallF, cCallD, cMeth, noX', isL_list, isL_encP, tYesD, bnd_ok, bnd_exc, bnd_bad, lft_ok, lft_exc, lft_bad, isOk_ok, isOk_exc, isOk_bad, isD_int, isD_bool, isD_none, isD_str, isD_list, isD_tuple, isD_eP, isD_eT, isD_encP, isD_encT, allD, List.all_cons, List.all_nil, List.map_cons, List.map_nil, List.cons_append, List.nil_append, List.replicate_succ, List.replicate_zero, List.getElem?_cons_zero, List.getElem?_cons_succ, List.set_cons_zero, List.set_cons_succ, wipeD, sSeq, sSet, sAsg, sRet, sIf, sExpr, sNil, sRaise, sSetF, sApp, sAug, sAugL, sPar, sPar3, fLst, bNm, bTup, bCons, bNil, pNot, pIsi, isiT, tyN, pNeg, noX_ok, pLe_i, pLt_i, pGt_i, pGe_i, pAdd_i, pSub_i, pLen_l, pLen_t, pIx_t0, pIx_t1, pEq_i, pNe_i, *])
theorem ev_let {d : Type} {i : Nat} {e : Env → d → R (PD × d)} {g : Env → d → R (Fl × d)} {ρ : Env} {s s1 : d} {v : PD} {r : R (Fl × d)} (h : e ρ s = .ok (v, s1)) (k : g (ρ.set i (some v)) s1 = r) : sSeq (sSet i e) g ρ s = r := ev_seq (ev_set h) k
theorem ev_check {d : Type} {e : Env → d → R (PD × d)} {g : Env → d → R (Fl × d)} {ρ : Env} {s s1 : d} {v : PD} {r : R (Fl × d)} (h : e ρ s = .ok (v, s1)) (k : g ρ s1 = r) : sSeq (sExpr e) g ρ s = r := ev_seq (ev_exp h) k
theorem ev_guard {d : Type} {t : Env → d → R (Bool × d)} {f g : Env → d → R (Fl × d)} {ρ : Env} {s s1 : d} {r : R (Fl × d)} (h : t ρ s = .ok (false, s1)) (k : g ρ s1 = r) : sSeq (sIf t f sNil) g ρ s = r := ev_seq (ev_if_f h rfl) k
theorem ev_asg {d : Type} {b : Bd} {e : Env → d → R (PD × d)} {ρ ρ' : Env} {s s1 : d} {v : PD} (h : e ρ s = .ok (v, s1)) (hb : b v ρ = some ρ') : sAsg b e ρ s = .ok (.nx ρ', s1) := by
  unfold sAsg
  rw [h, bnd_ok, hb]
theorem ev_unp {d : Type} {b : Bd} {e : Env → d → R (PD × d)} {g : Env → d → R (Fl × d)} {ρ ρ' : Env} {s s1 : d} {v : PD} {r : R (Fl × d)} (h : e ρ s = .ok (v, s1)) (hb : b v ρ = some ρ') (k : g ρ' s1 = r) : sSeq (sAsg b e) g ρ s = r := ev_seq (ev_asg h hb) k
theorem ev_for_pass2 {d a : Type} {it : Env → d → R (List PD × d)} {bd : Bd} {body g : Env → d → R (Fl × d)} {ρ : Env} {s s' : d} {r : R (Fl × d)} (xs : List a) (enc : a → PD) (Ok : Env → Prop) (hi : it ρ s = .ok (xs.map enc, s')) (h0 : Ok ρ)
    (h : ∀ x ∈ xs, ∀ ρ, Ok ρ → ∃ ρ1 ρ2, bd (enc x) ρ = some ρ1 ∧ body ρ1 s' = .ok (.nx ρ2, s') ∧ Ok ρ2) (k : ∀ ρ', Ok ρ' → g ρ' s' = r) : sSeq (sFor it bd body) g ρ s = r := by
  obtain ⟨ρ', e, o⟩ := sForGo_pass enc Ok s' xs ρ h0 h
  exact ev_seq (ev_for hi e) (k ρ' o)
theorem eqv_bool (a b : Bool) : PyData.eqv (.bool a) (.bool b) = decide (a = b) := by
  cases a <;> cases b <;> rfl
theorem pEq_b (a b : Bool) : pEq (.bool a) (.bool b) = .ok (.bool (decide (a = b))) := by rw [pEq_ok rfl rfl, eqv_bool]
theorem pNe_b (a b : Bool) : pNe (.bool a) (.bool b) = .ok (.bool (!decide (a = b))) := by rw [pNe_ok rfl rfl, eqv_bool]
theorem eqv_eT (p q : Th) : PyData.eqv (eT p) (eT q) = decide (p = q) := by
  unfold eT
  show (PyData.eqv (.int p.1) (.int q.1) && (PyData.eqv (.bool p.2) (.bool q.2) && true)) = _
  rw [eqv_int, eqv_bool]
  by_cases h : p = q
  · subst h; simp
  · rw [decide_eq_false h]
    by_cases h1 : p.1 = q.1
    · have h2 : p.2 ≠ q.2 := fun h2 => h (Prod.ext h1 h2)
      simp [h2]
    · simp [h1]
theorem eqv_encT (P Q : List Th) : PyData.eqv (encT P) (encT Q) = decide (P = Q) := by
  have h := eqvAll_enc eT (fun x y => by rw [eqv_eT, decide_eq_true_eq]) P Q
  show PyData.eqvAll (P.map eT) (Q.map eT) = _
  by_cases e : P = Q
  · rw [decide_eq_true e]; exact h.mpr e
  · rw [decide_eq_false e]
    cases q : PyData.eqvAll (P.map eT) (Q.map eT) with
    | false => rfl
    | true => exact absurd (h.mp q) e
theorem pNe_encT (p q : List Th) : pNe (encT p) (encT q) = .ok (.bool (!decide (p = q))) := by rw [pNe_ok (shaped_encT p) (shaped_encT q), eqv_encT]
theorem pEq_encT (p q : List Th) : pEq (encT p) (encT q) = .ok (.bool (decide (p = q))) := by rw [pEq_ok (shaped_encT p) (shaped_encT q), eqv_encT]
theorem ne_self {b : Prop} [Decidable b] (h : b) : (R.ok (PyData.bool (!decide b))) = .ok (.bool false) := by rw [decide_eq_true h]; rfl
theorem eq_self {b : Prop} [Decidable b] (h : b) : (R.ok (PyData.bool (decide b))) = .ok (.bool true) := by rw [decide_eq_true h]
theorem pNe_encT_self (p : List Th) : pNe (encT p) (encT p) = .ok (.bool false) := (pNe_encT p p).trans (ne_self rfl)
theorem pNe_encP_self (p : List Pt) : pNe (encP p) (encP p) = .ok (.bool false) := (pNe_encP p p).trans (ne_self rfl)
theorem pNe_eP_self (p : Pt) : pNe (eP p) (eP p) = .ok (.bool false) := (pNe_eP p p).trans (ne_self rfl)
theorem pNe_i_self (p : Int) : pNe (.int p) (.int p) = .ok (.bool false) := (pNe_i p p).trans (ne_self rfl)
theorem pNe_ints_self (p : List Int) : pNe (.list (p.map PyData.int)) (.list (p.map PyData.int)) = .ok (.bool false) := (pNe_ints p p).trans (ne_self rfl)
/-- a triple of ints -/
def e3 (a b c : Int) : PD := .tuple [.int a, .int b, .int c]
theorem shaped_e3 (a b c : Int) : SeqAt.shaped (e3 a b c) = true := by
  refine Sh.ok (n := 1) (Sh.tuple (n := 0) fun x hx => ?_) (by decide)
  simp only [List.mem_cons, List.not_mem_nil, or_false] at hx
  rcases hx with rfl | rfl | rfl <;> exact Sh.int _
theorem pNe_e3_self (a b c : Int) : pNe (e3 a b c) (e3 a b c) = .ok (.bool false) := by
  rw [pNe_ok (shaped_e3 a b c) (shaped_e3 a b c)]
  have : PyData.eqv (e3 a b c) (e3 a b c) = true := by
    show (PyData.eqv (.int a) (.int a) && (PyData.eqv (.int b) (.int b) && (PyData.eqv (.int c) (.int c) && true))) = true
    simp [eqv_int]
  rw [this]; rfl
theorem ev_iLst {d : Type} {e : Env → d → R (PD × d)} {ρ : Env} {s s1 : d} {xs : List PD} (h : e ρ s = .ok (.list xs, s1)) : iLst e ρ s = .ok (xs, s1) := by
  unfold iLst
  rw [h]
  rfl
theorem ev_lst {d : Type} {a : Env → d → R (List PD × d)} {ρ : Env} {s s1 : d} {xs : List PD} (h : a ρ s = .ok (xs, s1)) (hd : allD xs = true := by rfl) (hl : xs.length ≤ sizeLine := by simp [szL]) : cLst a ρ s = .ok (.list xs, s1) := by
  unfold cLst
  rw [h, bnd_ok, hd, decide_eq_true hl]
  rfl
theorem ev_tup {d : Type} {a : Env → d → R (List PD × d)} {ρ : Env} {s s1 : d} {xs : List PD} (h : a ρ s = .ok (xs, s1)) (hd : allD xs = true := by rfl) (hl : xs.length ≤ sizeLine := by simp [szL]) : cTup a ρ s = .ok (.tuple xs, s1) := by
  unfold cTup
  rw [h, bnd_ok, hd, decide_eq_true hl]
  rfl
theorem ev_meth {d : Type} {f : PD → PD → R PD} {a b : Env → d → R (PD × d)} {ρ : Env} {s s1 s2 : d} {x y v : PD} (ha : a ρ s = .ok (x, s1)) (hb : b ρ s1 = .ok (y, s2)) (hf : f x y = .ok v) (hx : isL x = true := by rfl) (hy : isD y = true := by rfl) : cMeth f a b ρ s = .ok (v, s2) := by
  unfold cMeth
  rw [ha, bnd_ok, hx, if_pos rfl, hb, bnd_ok, hy, hf]
  rfl
theorem pCount_ints (l : List Int) (k : Int) : pCount (.list (l.map PyData.int)) (.int k) = .ok (.int (l.count k : Int)) := by
  show (match toInts (l.map PyData.int) with | some bs => _ | none => _) = _
  rw [toInts_map]
/-! ### pairs -/
def rgt (a b : Int) : Bool := decide (b < a)
def req (a b : Int) : Bool := decide (a = b)
def rlt (a b : Int) : Bool := decide (a < b)
def prx (r : Int → Int → Bool) (x : Th) (U : List Th) : Int := ((U.filter fun y => x.2 && !y.2 && r x.1 y.1).length : Int)
def pr (r : Int → Int → Bool) (T U : List Th) : Int := (T.map fun x => prx r x U).sum
theorem prx_cons (r : Int → Int → Bool) (x y : Th) (U : List Th) : prx r x (y :: U) = (if (x.2 && !y.2 && r x.1 y.1) = true then 1 else 0) + prx r x U := by
  unfold prx
  cases h : x.2 && !y.2 && r x.1 y.1 with
  | true => rw [List.filter_cons_of_pos (by exact h), List.length_cons]; simp; omega
  | false => rw [List.filter_cons_of_neg (by simp [h])]; simp
theorem prx_nil (r : Int → Int → Bool) (x : Th) : prx r x [] = 0 := rfl
theorem prx_append (r : Int → Int → Bool) (x : Th) (U V : List Th) : prx r x (U ++ V) = prx r x U + prx r x V := by
  unfold prx
  rw [List.filter_append, List.length_append]; omega
theorem pr_nil (r : Int → Int → Bool) (U : List Th) : pr r [] U = 0 := rfl
theorem pr_cons (r : Int → Int → Bool) (x : Th) (T U : List Th) : pr r (x :: T) U = prx r x U + pr r T U := rfl
theorem pr_append (r : Int → Int → Bool) (T T' U : List Th) : pr r (T ++ T') U = pr r T U + pr r T' U := by
  unfold pr
  rw [List.map_append, List.sum_append]
theorem pr_app2 (r : Int → Int → Bool) (U V : List Th) : ∀ T : List Th, pr r T (U ++ V) = pr r T U + pr r T V
  | [] => rfl
  | x :: T => by
    have := pr_app2 r U V T
    rw [pr_cons, pr_cons, pr_cons, prx_append, this]; omega
def inBody : Env → Unit → R (Fl × Unit) := (sIf (cAndT (cTest (cVar 5)) (cNotT (cTest (cVar 7))))
      (sSeq (sAug 1 (cIf (cTest (cOp pGt (cVar 4) (cVar 6))) (cC (.int 1)) (cC (.int 0))))
      (sSeq (sAug 2 (cIf (cTest (cOp pEq (cVar 4) (cVar 6))) (cC (.int 1)) (cC (.int 0))))
      (sAug 3 (cIf (cTest (cOp pLt (cVar 4) (cVar 6))) (cC (.int 1)) (cC (.int 0))))))
      sNil)
theorem in_loop (T : PD) (x : Th) : ∀ (U : List Th) (w t l : Int) (a b : Option PD), ∃ a' b', sForGo (bTup (bCons (bNm 6) (bCons (bNm 7) bNil))) inBody (U.map eT) [some T, some (.int w), some (.int t), some (.int l), some (.int x.1), some (.bool x.2), a, b] () =
    .ok (.nx [some T, some (.int (w + prx rgt x U)), some (.int (t + prx req x U)), some (.int (l + prx rlt x U)), some (.int x.1), some (.bool x.2), a', b'], ())
  | [], w, t, l, a, b => ⟨a, b, by simp [prx_nil, sForGo]⟩
  | y :: U, w, t, l, a, b => by
    have step : inBody [some T, some (.int w), some (.int t), some (.int l), some (.int x.1), some (.bool x.2), some (.int y.1), some (.bool y.2)] () =
        .ok (.nx [some T, some (.int (w + if (x.2 && !y.2 && rgt x.1 y.1) = true then 1 else 0)), some (.int (t + if (x.2 && !y.2 && req x.1 y.1) = true then 1 else 0)), some (.int (l + if (x.2 && !y.2 && rlt x.1 y.1) = true then 1 else 0)), some (.int x.1), some (.bool x.2), some (.int y.1), some (.bool y.2)], ()) := by
      unfold inBody rgt req rlt
      cases hx : x.2 with
      | false => simp [sIf, cAndT, cTest, cVar, bnd_ok, sNil]
      | true =>
        cases hy : y.2 with
        | true => simp [sIf, cAndT, cNotT, cTest, cVar, bnd_ok, sNil]
        | false =>
          have e1 : ∀ (p : Prop) [Decidable p] (ρ : Env), (cIf (cTest fun _ s => R.ok (.bool (decide p), s)) (cC (.int 1)) (cC (.int 0)) ρ () : R (PD × Unit)) = .ok (.int (if p then 1 else 0), ()) := fun p _ ρ => by
            by_cases h : p <;> simp [cIf, cTest, cC, h, bnd_ok]
          simp only [sIf, cAndT, cNotT, cTest, cVar, bnd_ok, List.getElem?_cons_zero, List.getElem?_cons_succ, Bool.not_false, if_true, sSeq, sAug, cIf, cOp, isD_int, Bool.and_self, pGt_i, pEq_i, pLt_i, isOk_ok, lft_ok, cC]
          by_cases h1 : y.1 < x.1
          · have h2 : ¬ x.1 = y.1 := by omega
            have h3 : ¬ x.1 < y.1 := by omega
            simp [h1, h2, h3, bnd_ok, isD_int, pGt_i, pEq_i, pLt_i, isOk_ok, lft_ok]
          · by_cases h2 : x.1 = y.1
            · have h3 : ¬ x.1 < y.1 := by omega
              simp [h1, h2, h3, bnd_ok, isD_int, pGt_i, pEq_i, pLt_i, isOk_ok, lft_ok]
            · have h3 : x.1 < y.1 := by omega
              simp [h1, h2, h3, bnd_ok, isD_int, pGt_i, pEq_i, pLt_i, isOk_ok, lft_ok]
    obtain ⟨a', b', ih⟩ := in_loop T x U (w + if (x.2 && !y.2 && rgt x.1 y.1) = true then 1 else 0) (t + if (x.2 && !y.2 && req x.1 y.1) = true then 1 else 0) (l + if (x.2 && !y.2 && rlt x.1 y.1) = true then 1 else 0) (some (.int y.1)) (some (.bool y.2))
    refine ⟨a', b', ?_⟩
    show sForGo _ _ (eT y :: U.map eT) _ _ = _
    unfold sForGo
    rw [show bTup (bCons (bNm 6) (bCons (bNm 7) bNil)) (eT y) [some T, some (.int w), some (.int t), some (.int l), some (.int x.1), some (.bool x.2), a, b] = some [some T, some (.int w), some (.int t), some (.int l), some (.int x.1), some (.bool x.2), some (.int y.1), some (.bool y.2)] from rfl]
    dsimp only
    rw [step]
    dsimp only
    rw [ih, prx_cons, prx_cons, prx_cons, Int.add_assoc, Int.add_assoc, Int.add_assoc]
theorem m_outcomes_eq (T : List Th) : m_outcomes [encT T] = .ok (.tuple [.int (pr rgt T T), .int (pr req T T), .int (pr rlt T T)]) := by
  refine mBody_of ?_
  unfold b_outcomes
  refine ev_unp (s1 := ()) rfl (ρ' := [some (encT T), some (.int 0), some (.int 0), some (.int 0), none, none, none, none]) rfl ?_
  obtain ⟨ρ', s', e, i⟩ := sForGo_inv (d := Unit) (bd := bTup (bCons (bNm 4) (bCons (bNm 5) bNil))) (body := sFor (iLst (cVar 0)) (bTup (bCons (bNm 6) (bCons (bNm 7) bNil))) inBody) eT
    (fun p ρ _ => ∃ a b c d, ρ = [some (encT T), some (.int (pr rgt p T)), some (.int (pr req p T)), some (.int (pr rlt p T)), a, b, c, d]) T [] [some (encT T), some (.int 0), some (.int 0), some (.int 0), none, none, none, none] () ⟨_, _, _, _, rfl⟩ fun p x q ρ s _ hi => by
      obtain ⟨a, b, c, d, rfl⟩ := hi
      obtain ⟨a', b', e⟩ := in_loop (encT T) x T (pr rgt p T) (pr req p T) (pr rlt p T) c d
      refine ⟨[some (encT T), some (.int (pr rgt p T)), some (.int (pr req p T)), some (.int (pr rlt p T)), some (.int x.1), some (.bool x.2), c, d], _, (), rfl, ev_for (s' := ()) rfl e, ⟨some (.int x.1), some (.bool x.2), a', b', ?_⟩⟩
      rw [pr_append, pr_append, pr_append, pr_cons, pr_cons, pr_cons, pr_nil, pr_nil, pr_nil, Int.add_zero, Int.add_zero, Int.add_zero]
  obtain ⟨a, b, c, d, rfl⟩ := i
  exact ev_seq (ev_for (s' := ()) rfl e) rfl
theorem m_pair_counts_eq {T : List Th} (g : GoodT T) : m_pair_counts [encT T] = .ok (.tuple [.int (pr rgt T T), .int (pr req T T), .int (pr rlt T T)]) :=
  mBody_of (ev_check (ev_callF (s1 := ()) rfl (m_check_things_eq g)) (ret_of (ev_callF rfl (m_outcomes_eq T)) rfl))
/-! ### put together -/
theorem pAdd_lists (xs ys : List PD) (h : xs.length + ys.length ≤ 1000) : pAdd (.list xs) (.list ys) = .ok (.list (xs ++ ys)) := by
  show (if xs.length + ys.length ≤ sizeLine then _ else _) = _
  rw [if_pos (by rw [szL]; omega)]
theorem pAdd_encT {T U : List Th} (h : T.length + U.length ≤ 1000) : pAdd (encT T) (encT U) = .ok (encT (T ++ U)) := by
  unfold encT
  rw [pAdd_lists _ _ (by rw [List.length_map, List.length_map]; exact h), List.map_append]
theorem m_joined_eq {T U : List Th} (g : GoodT T) (h : GoodT U) (k : T.length + U.length ≤ 12) : m_joined [encT T, encT U] = .ok (encT (T ++ U)) := by
  have g2 : GoodT (T ++ U) := ⟨by rw [List.length_append]; have := g.l1; omega, by rw [List.length_append]; omega, fun x hx => by
    rcases List.mem_append.mp hx with z | z
    · exact g.sc x z
    · exact h.sc x z⟩
  exact mBody_of (ev_check (ev_callF (s1 := ()) rfl (m_check_things_eq g)) (ev_check (ev_callF (s1 := ()) rfl (m_check_things_eq h)) (ev_let (ev_op (s2 := ()) rfl rfl (pAdd_encT (by omega))) (ev_check (ev_callF (s1 := ()) rfl (m_check_things_eq g2)) rfl))))
/-! ### costs -/
def cst (T : List Th) (a b t : Int) : Int := a * fa T t + b * (tr T 0 - tr T t)
def ths (T : List Th) : List Int := 100 :: scs T
theorem m_check_cost_eq {a : Int} (h : 0 ≤ a ∧ a ≤ 1000) : m_check_cost [.int a] = .ok .none := by
  unfold m_check_cost b_check_cost
  walk_at "ev"
  rw [m_is_int_int, decide_eq_true h.1, decide_eq_true h.2]
  rfl
theorem m_check_costs_eq {a b : Int} (h : 0 ≤ a ∧ a ≤ 1000) (k : 0 ≤ b ∧ b ≤ 1000) : m_check_costs [.int a, .int b] = .ok .none := by
  unfold m_check_costs b_check_costs
  walk_at "ev"
  rw [m_check_cost_eq h]
  walk_at "ev"
  rw [m_check_cost_eq k]
  rfl
theorem m_thresholds_of_eq {T : List Th} (g : GoodT T) : m_thresholds_of [encT T] = .ok (.list ((ths T).map PyData.int)) := by
  have h1 := scs_len T
  have h2 := g.l2
  exact mBody_of (ret_of (ev_op (s2 := ()) rfl (ev_callF rfl (m_scores_of_eq g.l64)) (pAdd_lists _ _ (by simp; omega))) rfl)
theorem m_cost_of_eq {T : List Th} (g : GoodT T) {a b : Int} (h : 0 ≤ a ∧ a ≤ 1000) (k : 0 ≤ b ∧ b ≤ 1000) (t : Int) : m_cost_of [encT T, .int t, .int a, .int b] = .ok (.int (cst T a b t)) := by
  refine mBody_of ?_
  unfold b_cost_of
  refine ev_unp (s1 := ()) (ev_callF rfl (m_counts_eq g.l1000 t)) (ρ' := [some (encT T), some (.int t), some (.int a), some (.int b), some (.int (fa T t)), some (.int (tr T t))]) rfl ?_
  refine ret_of (ev_op (s1 := ()) (s2 := ()) (ev_op (s2 := ()) rfl rfl (pMul_i (by omega))) (ev_op (s1 := ()) (s2 := ()) rfl (ev_op (s1 := ()) (s2 := ()) (ev_op (s1 := ()) (s2 := ()) (ev_callF rfl (m_counts_eq g.l1000 0)) rfl (pIx_t1 _ _ _)) rfl (pSub_i _ _)) (pMul_i (by omega))) (pAdd_i _ _)) rfl
theorem pMin_ints (a : Int) (l : List Int) : pMin [.list ((a :: l).map PyData.int)] = .ok (.int (minL a l)) := by
  show (match toInts ((a :: l).map PyData.int) with | some (x :: r) => R.ok (PyData.int (minL x r)) | _ => R.bad) = _
  rw [toInts_map]
theorem m_least_cost_eq {T : List Th} (g : GoodT T) {a b : Int} (h : 0 ≤ a ∧ a ≤ 1000) (k : 0 ≤ b ∧ b ≤ 1000) : m_least_cost [encT T, .int a, .int b] = .ok (.int (minL (cst T a b 100) ((scs T).map (cst T a b)))) := by
  have h1 := scs_len T
  have h2 := g.l2
  refine mBody_of (ev_check (ev_callF (s1 := ()) rfl (m_check_things_eq g)) (ev_check (ev_callF (s1 := ()) rfl (m_check_costs_eq h k)) (ret_of (ev_call (s1 := ()) (ev_a1 (cComp_map (ths T) PyData.int (fun t => .int (cst T a b t)) ?_ (by simp [ths]; omega) fun t _ => ⟨_, rfl, ev_callF rfl (m_cost_of_eq g h k t), rfl⟩)) ?_) rfl)))
  · unfold iLst
    rw [ev_callF (s1 := ()) rfl (m_thresholds_of_eq g)]
    rfl
  · have := pMin_ints (cst T a b 100) ((scs T).map (cst T a b))
    rw [List.map_cons, List.map_map] at this
    exact this
/-- every threshold's alarms are those of one of the program's own -/
theorem cnt_ths {T : List Th} (g : GoodT T) {t : Int} (h : 0 ≤ t) : ∃ u ∈ ths T, cnt T t = cnt T u := by
  have key : ∀ k : Nat, ∀ u : Int, u + (k : Int) = 100 → ∃ v ∈ ths T, cnt T u = cnt T v := by
    intro k
    induction k with
    | zero => intro u e; exact ⟨100, by simp [ths], by rw [show u = 100 by omega]⟩
    | succ k ih =>
      intro u e
      by_cases m : u ∈ scs T
      · exact ⟨u, by simp [ths, m], rfl⟩
      · rw [cnt_same T m]
        exact ih (u + 1) (by omega)
  by_cases h1 : t ≤ 100
  · exact key (100 - t).toNat t (by omega)
  · exact ⟨100, by simp [ths], by rw [cnt_top g (by omega), cnt_top g (by omega)]⟩
theorem cst_cnt {T : List Th} {a b t u : Int} (h : cnt T t = cnt T u) : cst T a b t = cst T a b u := by
  unfold cst
  have e1 : fa T t = fa T u := congrArg Prod.fst h
  have e2 : tr T t = tr T u := congrArg Prod.snd h
  rw [e1, e2]
def lcs (T : List Th) (a b : Int) : Int := minL (cst T a b 100) ((scs T).map (cst T a b))
theorem lcs_le {T : List Th} (g : GoodT T) {a b t : Int} (h : 0 ≤ t) : lcs T a b ≤ cst T a b t := by
  obtain ⟨u, hu, e⟩ := cnt_ths g h
  rw [cst_cnt e]
  have := minL_le ((scs T).map (cst T a b)) (cst T a b 100)
  rcases List.mem_cons.mp hu with z | z
  · rw [z]; exact this.1
  · exact this.2.1 _ (List.mem_map.mpr ⟨u, z, rfl⟩)
theorem lcs_mem {T : List Th} (g : GoodT T) (a b : Int) : ∃ t, 0 ≤ t ∧ t ≤ 100 ∧ lcs T a b = cst T a b t ∧ t ∈ ths T := by
  have := minL_le ((scs T).map (cst T a b)) (cst T a b 100)
  rcases this.2.2 with e | e
  · exact ⟨100, by decide, by decide, e, by simp [ths]⟩
  · obtain ⟨t, ht, e⟩ := List.mem_map.mp e
    obtain ⟨x, hx, q⟩ := mem_scs.mp ht
    have := g.sc x hx
    exact ⟨t, by omega, by omega, e.symm, by simp [ths, ht]⟩
end DL

/-! M7: one thing more -/
namespace DL
open PySem PySem.Spec PyProof.Rows L2
local macro_rules | `(tactic| walk_at "ev") => `(tactic| simp only [szL, Nat.reduceLeDiff, mBody, mBodyD, outP, outD, cVar, cC, cOp, cUn, cTest, cAndT, cOrT, cNotT, cAndV, cOrV, cIf, aNil, aCons, cTup, cLst, cSl, oNone, oSome, cCall, cCallF, cCallD, cMeth, noX', isL_list, isL_encP, tYesD, bnd_ok, bnd_exc, bnd_bad, lft_ok, lft_exc, lft_bad, isOk_ok, isOk_exc, isOk_bad, isD_int, isD_bool, isD_none, isD_str, isD_list, isD_tuple, isD_eP, isD_eT, isD_encP, isD_encT, allD, List.all_cons, List.all_nil, Bool.and_self, Bool.and_true, Bool.true_and, if_true, if_false, Bool.false_eq_true, ite_true, ite_false, reduceIte, List.length_cons, List.length_nil, List.map_cons, List.map_nil, List.cons_append, List.nil_append, List.replicate_succ, List.replicate_zero, List.getElem?_cons_zero, List.getElem?_cons_succ, List.set_cons_zero, List.set_cons_succ, wipeD, sSeq, sSet, sAsg, sRet, sIf, sExpr, sNil, sRaise, sSetF, sApp, sAug, sAugL, sPar, sPar3, fLst, bNm, bTup, bCons, bNil, pNot, pIsi, isiT, tyN, pNeg, Nat.reduceAdd, decide_true, decide_false, Bool.not_true, Bool.not_false, noX_ok, pLe_i, pLt_i, pGt_i, pGe_i, pAdd_i, pSub_i, pLen_l, pLen_t, pIx_t0, pIx_t1, pEq_i, pNe_i])
local macro_rules | `(tactic| walk_at "evs") => `(tactic| simp [szL, mBody, mBodyD, outP, outD, cVar, cC, cOp, cUn, cTest, cAndT, cOrT, cNotT, cAndV, cOrV, cIf, aNil, aCons, cTup, cLst, cSl, oNone, oSome, cCall, cCallF, cCallD, cMeth, noX', isL_list, isL_encP, tYesD, bnd_ok, bnd_exc, bnd_bad, lft_ok, lft_exc, lft_bad, isOk_ok, isOk_exc, isOk_bad, isD_int, isD_bool, isD_none, isD_str, isD_list, isD_tuple, isD_eP, isD_eT, isD_encP, isD_encT, allD, List.all_cons, List.all_nil, List.map_cons, List.map_nil, List.cons_append, List.nil_append, List.replicate_succ, List.replicate_zero, List.getElem?_cons_zero, List.getElem?_cons_succ, List.set_cons_zero, List.set_cons_succ, wipeD, sSeq, sSet, sAsg, sRet, sIf, sExpr, sNil, sRaise, sSetF, sApp, sAug, sAugL, sPar, sPar3, fLst, bNm, bTup, bCons, bNil, pNot, pIsi, isiT, tyN, pNeg, noX_ok, pLe_i, pLt_i, pGt_i, pGe_i, pAdd_i, pSub_i, pLen_l, pLen_t, pIx_t0, pIx_t1, pEq_i, pNe_i])
local macro_rules | `(tactic| walk_at "evx") => `(tactic| simp [szL, mBody, mBodyD, outP, outD, cVar, cC, cOp, cUn, cTest, cAndT, cOrT, cNotT, cAndV, cOrV, cIf, aNil, aCons, cTup, cLst, cSl, oNone, oSome, cCall, cCallF, cCallD, cMeth, noX', isL_list, isL_encP, tYesD, bnd_ok, bnd_exc, bnd_bad, lft_ok, lft_exc, lft_bad, isOk_ok, isOk_exc, isOk_bad, isD_int, isD_bool, isD_none, isD_str, isD_list, isD_tuple, isD_eP, isD_eT, isD_encP, isD_encT, allD, List.all_cons, List.all_nil, List.map_cons, List.map_nil, List.cons_append, List.nil_append, List.replicate_succ, List.replicate_zero, List.getElem?_cons_zero, List.getElem?_cons_succ, List.set_cons_zero, List.set_cons_succ, wipeD, sSeq, sSet, sAsg, sRet, sIf, sExpr, sNil, sRaise, sSetF, sApp, sAug, sAugL, sPar, sPar3, fLst, bNm, bTup, bCons, bNil, pNot, pIsi, isiT, tyN, pNeg, noX_ok, pLe_i, pLt_i, pGt_i, pGe_i, pAdd_i, pSub_i, pLen_l, pLen_t, pIx_t0, pIx_t1, pEq_i, pNe_i, *])
theorem fa_app (T U : List Th) (t : Int) : fa (T ++ U) t = fa T t + fa U t := by
  unfold fa
  rw [List.filter_append, List.length_append]; omega
theorem tr_app (T U : List Th) (t : Int) : tr (T ++ U) t = tr T t + tr U t := by
  unfold tr
  rw [List.filter_append, List.length_append]; omega
theorem fa_one (x : Th) (t : Int) : fa [x] t = if (decide (t ≤ x.1) && !x.2) = true then 1 else 0 := by
  unfold fa
  cases h : decide (t ≤ x.1) && !x.2 with
  | true => rw [List.filter_cons_of_pos (by exact h)]; rfl
  | false => rw [List.filter_cons_of_neg (by simp [h])]; rfl
theorem tr_one (x : Th) (t : Int) : tr [x] t = if (decide (t ≤ x.1) && x.2) = true then 1 else 0 := by
  unfold tr
  cases h : decide (t ≤ x.1) && x.2 with
  | true => rw [List.filter_cons_of_pos (by exact h)]; rfl
  | false => rw [List.filter_cons_of_neg (by simp [h])]; rfl
theorem GoodT.app {T U : List Th} (g : GoodT T) (h : ∀ x ∈ U, 0 ≤ x.1 ∧ x.1 ≤ 99) (k : T.length + U.length ≤ 12) : GoodT (T ++ U) := ⟨by rw [List.length_append]; have := g.l1; omega, by rw [List.length_append]; omega, fun x hx => by
  rcases List.mem_append.mp hx with z | z
  · exact g.sc x z
  · exact h x z⟩
/-- the scores of the others -/
def oth (T : List Th) (m : Bool) : List Int := (T.filter fun y => y.2 != m).map (·.1)
theorem prx_true (r : Int → Int → Bool) (x : Th) (h : x.2 = true) : ∀ T : List Th, prx r x T = (((oth T true).filter fun y => r x.1 y).length : Int)
  | [] => rfl
  | y :: T => by
    have ih := prx_true r x h T
    rw [prx_cons, ih]
    unfold oth
    cases hy : y.2 with
    | true => rw [List.filter_cons_of_neg (by simp [hy])]; simp [h]
    | false =>
      rw [List.filter_cons_of_pos (by simp [hy]), List.map_cons]
      cases hr : r x.1 y.1 with
      | true => rw [List.filter_cons_of_pos (by simp [hr]), List.length_cons]; simp [h]; omega
      | false => rw [List.filter_cons_of_neg (by simp [hr])]; simp [h]
theorem prx_false (r : Int → Int → Bool) (x : Th) (h : x.2 = false) : ∀ T : List Th, prx r x T = 0
  | [] => rfl
  | y :: T => by
    rw [prx_cons, prx_false r x h T]
    simp [h]
theorem pr_one_true (r : Int → Int → Bool) (x : Th) (h : x.2 = true) : ∀ T : List Th, pr r T [x] = 0
  | [] => rfl
  | y :: T => by
    rw [pr_cons, pr_one_true r x h T, prx_cons]
    simp [h, prx_nil]
theorem pr_one_false (r : Int → Int → Bool) (x : Th) (h : x.2 = false) : ∀ T : List Th, pr r T [x] = (((oth T false).filter fun y => r y x.1).length : Int)
  | [] => rfl
  | y :: T => by
    have ih := pr_one_false r x h T
    rw [pr_cons, ih, prx_cons, prx_nil]
    unfold oth
    cases hy : y.2 with
    | false => rw [List.filter_cons_of_neg (by simp [hy])]; simp [h]
    | true =>
      rw [List.filter_cons_of_pos (by simp [hy]), List.map_cons]
      cases hr : r y.1 x.1 with
      | true => rw [List.filter_cons_of_pos (by simp [hr]), List.length_cons]; simp [h]; omega
      | false => rw [List.filter_cons_of_neg (by simp [hr])]; simp [h]
theorem pr_more (r : Int → Int → Bool) (T : List Th) (x : Th) : pr r (T ++ [x]) (T ++ [x]) = pr r T T + (if x.2 = true then (((oth T x.2).filter fun y => r x.1 y).length : Int) else (((oth T x.2).filter fun y => r y x.1).length : Int)) := by
  rw [pr_append, pr_app2, pr_cons, pr_nil, prx_append, prx_cons, prx_nil]
  cases h : x.2 with
  | true => rw [pr_one_true r x h, prx_true r x h]; simp [h]
  | false => rw [pr_one_false r x h, prx_false r x h]; simp [h]
/-- below, same, above: all -/
theorem three (s : Int) : ∀ l : List Int, (l.length : Int) = ((l.filter fun y => decide (y < s)).length : Int) + (l.count s : Int) + ((l.filter fun y => decide (s < y)).length : Int)
  | [] => rfl
  | y :: l => by
    have ih := three s l
    rw [List.count_cons]
    by_cases h1 : y < s
    · rw [List.filter_cons_of_pos (by simpa using h1), List.filter_cons_of_neg (by simp; omega)]
      have : (y == s) = false := by simp; omega
      simp only [List.length_cons, this]; simp; omega
    · by_cases h2 : y = s
      · rw [List.filter_cons_of_neg (by simpa using h1), List.filter_cons_of_neg (by simp; omega)]
        simp only [List.length_cons, h2]; simp; omega
      · rw [List.filter_cons_of_neg (by simpa using h1), List.filter_cons_of_pos (by simp; omega)]
        have : (y == s) = false := by simp [h2]
        simp only [List.length_cons, this]; simp; omega
theorem count_filter (s : Int) : ∀ l : List Int, (l.count s : Int) = ((l.filter fun y => decide (s = y)).length : Int)
  | [] => rfl
  | y :: l => by
    have ih := count_filter s l
    rw [List.count_cons]
    by_cases h : s = y
    · rw [List.filter_cons_of_pos (by simpa using h), List.length_cons]
      have : (y == s) = true := by simp [h]
      simp only [this]; simp; omega
    · rw [List.filter_cons_of_neg (by simpa using h)]
      have : (y == s) = false := by simp; exact fun z => h z.symm
      simp only [this]; simpa using ih
theorem pr_more3 (T : List Th) (x : Th) :
    let above : Int := (((oth T x.2).filter fun y => decide (y < x.1)).length : Int)
    let same : Int := ((oth T x.2).count x.1 : Int)
    let below : Int := ((oth T x.2).length : Int) - above - same
    (x.2 = true → pr rgt (T ++ [x]) (T ++ [x]) = pr rgt T T + above ∧ pr req (T ++ [x]) (T ++ [x]) = pr req T T + same ∧ pr rlt (T ++ [x]) (T ++ [x]) = pr rlt T T + below) ∧
    (x.2 = false → pr rgt (T ++ [x]) (T ++ [x]) = pr rgt T T + below ∧ pr req (T ++ [x]) (T ++ [x]) = pr req T T + same ∧ pr rlt (T ++ [x]) (T ++ [x]) = pr rlt T T + above) := by
  intro above same below
  have e1 := pr_more rgt T x
  have e2 := pr_more req T x
  have e3 := pr_more rlt T x
  have h3 := three x.1 (oth T x.2)
  have hc := count_filter x.1 (oth T x.2)
  have hb : below = (((oth T x.2).filter fun y => decide (x.1 < y)).length : Int) := by
    show ((oth T x.2).length : Int) - (((oth T x.2).filter fun y => decide (y < x.1)).length : Int) - ((oth T x.2).count x.1 : Int) = _
    omega
  constructor
  · intro h
    rw [if_pos h] at e1 e2 e3
    refine ⟨e1, ?_, ?_⟩
    · rw [e2]; show pr req T T + _ = pr req T T + ((oth T x.2).count x.1 : Int); rw [hc]; rfl
    · rw [e3, hb]; rfl
  · intro h
    rw [if_neg (by simp [h])] at e1 e2 e3
    refine ⟨?_, ?_, ?_⟩
    · rw [e1, hb]; rfl
    · rw [e2]
      show pr req T T + _ = pr req T T + ((oth T x.2).count x.1 : Int)
      rw [hc]
      have : (fun y => req y x.1) = fun y => decide (x.1 = y) := by
        funext y
        unfold req
        by_cases z : y = x.1
        · subst z; simp
        · have z' : ¬ x.1 = y := fun q => z q.symm
          simp [z, z']
      rw [this]
    · rw [e3]; rfl
/-! ### unlike scores -/
theorem len_insU_mem {k : Int} : ∀ {l : List Int}, l.Pairwise (· < ·) → ((insU k l).length : Int) = l.length + (if k ∈ l then 0 else 1)
  | [], _ => by simp [insU]
  | x :: r, h => by
    have h' := List.pairwise_cons.mp h
    have ih := len_insU_mem (k := k) h'.2
    unfold insU
    by_cases h1 : k < x
    · have : k ∉ x :: r := fun m => by
        rcases List.mem_cons.mp m with z | z
        · omega
        · have := h'.1 k z; omega
      rw [if_pos h1, if_neg this]; simp
    · rw [if_neg h1]
      by_cases h2 : k = x
      · rw [if_pos h2, if_pos (by simp [h2])]; simp
      · rw [if_neg h2]
        have : (k ∈ x :: r) ↔ k ∈ r := by simp [h2]
        simp only [this, List.length_cons]
        omega
theorem sortU_more (l : List Int) (k : Int) : sortU (l ++ [k]) = insU k (sortU l) := by
  refine sorted_eq lt_sortU (lt_insU lt_sortU) fun j => ?_
  rw [mem_sortU, mem_insU, mem_sortU]
  simp only [List.mem_append, List.mem_cons, List.not_mem_nil, or_false]
  exact Or.comm
theorem scs_more (T : List Th) (x : Th) : ((scs (T ++ [x])).length : Int) = (scs T).length + (if x.1 ∈ T.map (·.1) then 0 else 1) := by
  unfold scs
  rw [List.length_reverse, List.length_reverse, List.map_append, show ([x] : List Th).map (·.1) = [x.1] from rfl, sortU_more, len_insU_mem lt_sortU]
  simp only [mem_sortU]
theorem any_int (p : Int) : ∀ P : List Int, (P.map PyData.int).any (fun z => PyData.eqv z (.int p)) = decide (p ∈ P)
  | [] => rfl
  | q :: P => by
    rw [List.map_cons, List.any_cons, any_int p P, eqv_int]
    by_cases h : q = p
    · subst h; simp
    · have h' : p ≠ q := fun z => h z.symm
      simp [h, h']
theorem pIn_ints (p : Int) (P : List Int) : pIn (.int p) (.list (P.map PyData.int)) = .ok (.bool (decide (p ∈ P))) := by
  show (if SeqAt.shaped (.int p) && SeqAt.shaped (.list (P.map PyData.int)) then _ else _) = _
  rw [shaped_int, shaped_ints]
  rw [any_int]
  rfl
/-! ### costs -/
theorem tr0_more (T : List Th) (x : Th) (h : 0 ≤ x.1) : tr (T ++ [x]) 0 = tr T 0 + (if x.2 = true then 1 else 0) := by
  rw [tr_app, tr_one]
  simp [h]
theorem cst_more (T : List Th) (x : Th) (h : 0 ≤ x.1) (t : Int) : cst T 1 2 t ≤ cst (T ++ [x]) 1 2 t ∧ (x.2 = true → cst (T ++ [x]) 1 2 t ≤ cst T 1 2 t + 2) := by
  unfold cst
  rw [tr0_more T x h, fa_app, tr_app, fa_one, tr_one]
  cases hx : x.2 with
  | true =>
    by_cases ht : t ≤ x.1
    · simp [ht]; omega
    · simp [ht]; omega
  | false =>
    by_cases ht : t ≤ x.1
    · simp [ht]; omega
    · simp [ht]
theorem lcs_more {T : List Th} (g : GoodT T) (x : Th) (h : 0 ≤ x.1) (g2 : GoodT (T ++ [x])) : lcs T 1 2 ≤ lcs (T ++ [x]) 1 2 ∧ (x.2 = true → lcs (T ++ [x]) 1 2 ≤ lcs T 1 2 + 2) := by
  constructor
  · obtain ⟨t, t0, t1, e, _⟩ := lcs_mem g2 1 2
    rw [e]
    have h1 := lcs_le g (a := 1) (b := 2) t0
    have h2 := (cst_more T x h t).1
    omega
  · intro hx
    obtain ⟨t, t0, t1, e, _⟩ := lcs_mem g 1 2
    rw [e]
    have h1 := lcs_le g2 (a := 1) (b := 2) t0
    have h2 := (cst_more T x h t).2 hx
    omega
/-! ### most true -/
theorem pts_mem {T : List Th} (g : GoodT T) {p : Pt} : p ∈ pts T ↔ ∃ t ∈ ths T, p = cnt T t := by
  unfold pts ths
  rw [← cnt_top g (Int.le_refl 100), ← List.map_cons, List.mem_map]
  constructor
  · rintro ⟨t, h, e⟩; exact ⟨t, h, e.symm⟩
  · rintro ⟨t, h, e⟩; exact ⟨t, h, e.symm⟩
theorem cnt_mem {T : List Th} (g : GoodT T) {t : Int} (h : 0 ≤ t) : cnt T t ∈ pts T := by
  obtain ⟨u, hu, e⟩ := cnt_ths g h
  exact (pts_mem g).mpr ⟨u, hu, e⟩
theorem pts_cnt {T : List Th} (g : GoodT T) {p : Pt} (h : p ∈ pts T) : ∃ t, 0 ≤ t ∧ t ≤ 100 ∧ p = cnt T t := by
  obtain ⟨t, ht, e⟩ := (pts_mem g).mp h
  rcases List.mem_cons.mp ht with z | z
  · exact ⟨t, by omega, by omega, e⟩
  · obtain ⟨x, hx, q⟩ := mem_scs.mp z
    have := g.sc x hx
    exact ⟨t, by omega, by omega, e⟩
theorem mxD_mem {l : List Int} {v : Int} (h : mxD l = .ok (.int v)) : v ∈ l ∧ ∀ y ∈ l, y ≤ v := by
  cases l with
  | nil => exact nomatch h
  | cons x r =>
    rw [mxD_cons] at h
    injection h with h
    injection h with h
    have := maxL_ge r x
    rw [h] at this
    refine ⟨?_, fun y hy => ?_⟩
    · rcases this.2.2 with e | e
      · rw [e]; simp
      · exact List.mem_cons_of_mem _ e
    · rcases List.mem_cons.mp hy with e | e
      · rw [e]; exact this.1
      · exact this.2.1 y e
theorem mem_ysUpTo {P : List Pt} {f y : Int} : y ∈ ysUpTo P f ↔ ∃ p ∈ P, p.1 ≤ f ∧ p.2 = y := by
  unfold ysUpTo
  simp only [List.mem_map, List.mem_filter, decide_eq_true_eq, and_assoc]
theorem most_high {T : List Th} (g : GoodT T) (g2 : GoodT (T ++ [(99, true)])) {v w : Int} (h1 : mxD (ysUpTo (pts T) 0) = .ok (.int v)) (h2 : mxD (ysUpTo (pts (T ++ [(99, true)])) 0) = .ok (.int w)) : v ≤ w := by
  obtain ⟨p, hp, hp0, hpv⟩ := mem_ysUpTo.mp (mxD_mem h1).1
  obtain ⟨t, t0, t1, e⟩ := pts_cnt g hp
  have hm := cnt_mem g2 t0
  have e1 : fa (T ++ [(99, true)]) t = fa T t := by
    rw [fa_app, fa_one]; simp
  have e2 : tr T t ≤ tr (T ++ [(99, true)]) t := by
    rw [tr_app]
    have := tr_nn [(99, true)] t
    omega
  have hq : p.1 = fa T t := by rw [e]; rfl
  have hq2 : p.2 = tr T t := by rw [e]; rfl
  have := (mxD_mem h2).2 (tr (T ++ [(99, true)]) t) (mem_ysUpTo.mpr ⟨_, hm, by show fa (T ++ [(99, true)]) t ≤ 0; omega, rfl⟩)
  omega
end DL

/-! H1: the hull, plain -/
namespace DL
open PySem PySem.Spec PyProof.Rows L2
theorem slope_le {u1 u2 v1 v2 w1 w2 : Int} (hu1 : 0 ≤ u1) (hu2 : 0 ≤ u2) (hw1 : 0 ≤ w1) (hw2 : 0 ≤ w2) (hv1 : 0 ≤ v1) (hv2 : 0 ≤ v2) (hv : v1 ≠ 0 ∨ v2 ≠ 0) (h1 : u1 * v2 ≤ u2 * v1) (h2 : v1 * w2 ≤ v2 * w1) : u1 * w2 ≤ u2 * w1 := by
  by_cases h : 0 < v2
  · have e1 := Int.mul_le_mul_of_nonneg_right h1 hw2
    have e2 := Int.mul_le_mul_of_nonneg_left h2 hu2
    have e3 : v2 * (u1 * w2) ≤ v2 * (u2 * w1) := by grind
    exact Int.le_of_mul_le_mul_left e3 h
  · have z : v2 = 0 := by omega
    have hv1' : 0 < v1 := by omega
    rw [z, Int.zero_mul] at h2
    have : w2 = 0 := by
      by_cases q : 0 < w2
      · have := Int.mul_pos hv1' q
        omega
      · omega
    rw [this, Int.mul_zero]
    exact Int.mul_nonneg hu2 hw1
theorem slope_lt {u1 u2 v1 v2 w1 w2 : Int} (hu1 : 0 ≤ u1) (hu2 : 0 ≤ u2) (hw1 : 0 ≤ w1) (hw2 : 0 ≤ w2) (hv1 : 0 ≤ v1) (hv2 : 0 ≤ v2) (hw : w1 ≠ 0 ∨ w2 ≠ 0) (h1 : u1 * v2 < u2 * v1) (h2 : v1 * w2 ≤ v2 * w1) : u1 * w2 < u2 * w1 := by
  have hp : 0 < u2 * v1 := Int.lt_of_le_of_lt (Int.mul_nonneg hu1 hv2) h1
  have hu2' : 0 < u2 := by
    by_cases q : u2 = 0
    · rw [q, Int.zero_mul] at hp; omega
    · omega
  have hv1' : 0 < v1 := by
    by_cases q : v1 = 0
    · rw [q, Int.mul_zero] at hp; omega
    · omega
  by_cases hw2' : w2 = 0
  · rw [hw2', Int.mul_zero]
    exact Int.mul_pos hu2' (by omega)
  · have k : 0 < w2 := by omega
    have hv2' : 0 < v2 := by
      by_cases q : v2 = 0
      · rw [q, Int.zero_mul] at h2
        have := Int.mul_pos hv1' k
        omega
      · omega
    have e1 := Int.mul_lt_mul_of_pos_right h1 k
    have e2 := Int.mul_le_mul_of_nonneg_left h2 hu2
    have e3 : v2 * (u1 * w2) < v2 * (u2 * w1) := by grind
    exact Int.lt_of_mul_lt_mul_left e3 (Int.le_of_lt hv2')
/-- the way turns: > 0 to the left -/
def turn (a b c : Pt) : Int := (b.1 - a.1) * (c.2 - a.2) - (b.2 - a.2) * (c.1 - a.1)
theorem turn_self1 (a b : Pt) : turn a b a = 0 := by unfold turn; grind
theorem turn_self2 (a b : Pt) : turn a b b = 0 := by unfold turn; grind
theorem Up.x {p q : Pt} (h : Up p q) : 0 ≤ q.1 - p.1 := by have := h.1; omega
theorem Up.y {p q : Pt} (h : Up p q) : 0 ≤ q.2 - p.2 := by have := h.2.1; omega
theorem Up.nz {p q : Pt} (h : Up p q) : q.1 - p.1 ≠ 0 ∨ q.2 - p.2 ≠ 0 := by
  by_cases h1 : q.1 - p.1 = 0
  · by_cases h2 : q.2 - p.2 = 0
    · exact absurd (Prod.ext (by omega) (by omega)) h.2.2
    · exact .inr h2
  · exact .inl h1
theorem Up.trans {p q r : Pt} (h : Up p q) (k : Up q r) : Up p r := by
  refine ⟨Int.le_trans h.1 k.1, Int.le_trans h.2.1 k.2.1, fun e => ?_⟩
  subst e
  exact h.2.2 (Prod.ext (Int.le_antisymm h.1 k.1) (Int.le_antisymm h.2.1 k.2.1))
def UpE (p q : Pt) : Prop := p = q ∨ Up p q
theorem UpE.x {p q : Pt} (h : UpE p q) : 0 ≤ q.1 - p.1 := by
  rcases h with h | h
  · subst h; omega
  · exact h.x
theorem UpE.y {p q : Pt} (h : UpE p q) : 0 ≤ q.2 - p.2 := by
  rcases h with h | h
  · subst h; omega
  · exact h.y
/-- beyond b: a turn to the right at b and one at c is one at b to beyond -/
theorem turn_far {a b c p : Pt} (h1 : Up a b) (h2 : Up b c) (h3 : Up c p) (t1 : turn a b c < 0) (t2 : turn b c p < 0) : turn a b p < 0 := by
  have hp := h2.trans h3
  have := slope_lt (u1 := b.1 - a.1) (u2 := b.2 - a.2) (v1 := c.1 - b.1) (v2 := c.2 - b.2) (w1 := p.1 - b.1) (w2 := p.2 - b.2) h1.x h1.y hp.x hp.y h2.x h2.y hp.nz (by unfold turn at t1; grind) (by unfold turn at t2; grind)
  unfold turn; grind
/-- q before b, p beyond: under the line from b to p -/
theorem turn_before {a b p q : Pt} (h1 : Up a b) (h2 : Up b p) (h3 : UpE q b) (t1 : turn a b q ≤ 0) (t2 : turn a b p ≤ 0) : turn b p q ≤ 0 := by
  have := slope_le (u1 := b.1 - q.1) (u2 := b.2 - q.2) (v1 := b.1 - a.1) (v2 := b.2 - a.2) (w1 := p.1 - b.1) (w2 := p.2 - b.2) h3.x h3.y h2.x h2.y h1.x h1.y h1.nz (by unfold turn at t1; grind) (by unfold turn at t2; grind)
  unfold turn; grind
/-- q beyond a: under the line from a to p, if b is -/
theorem turn_over {a b p q : Pt} (h1 : Up a b) (h2 : Up a p) (h3 : Up a q) (t1 : turn a b q ≤ 0) (t2 : 0 ≤ turn a b p) : turn a p q ≤ 0 := by
  have := slope_le (u1 := p.1 - a.1) (u2 := p.2 - a.2) (v1 := b.1 - a.1) (v2 := b.2 - a.2) (w1 := q.1 - a.1) (w2 := q.2 - a.2) h2.x h2.y h3.x h3.y h1.x h1.y h1.nz (by unfold turn at t2; grind) (by unfold turn at t1; grind)
  unfold turn; grind
/-! ### the stack -/
def pop : List Pt → Pt → List Pt
  | b :: a :: r, p => if 0 ≤ turn a b p then pop (a :: r) p else b :: a :: r
  | st, _ => st
def crn (P : List Pt) : List Pt := (P.foldl (fun st p => p :: pop st p) []).reverse
/-- a chain, the last point first: each edge has all of Q on it or under it, each turn is to the right -/
inductive Ch (Q : List Pt) : List Pt → Prop
  | one {b : Pt} (h : ∀ q ∈ Q, UpE b q) (m : b ∈ Q) : Ch Q [b]
  | two {a b : Pt} (c : Ch Q [a]) (m : b ∈ Q) (u : Up a b) (h : ∀ q ∈ Q, turn a b q ≤ 0) : Ch Q [b, a]
  | more {a b c : Pt} {r : List Pt} (k : Ch Q (b :: a :: r)) (m : c ∈ Q) (u : Up b c) (h : ∀ q ∈ Q, turn b c q ≤ 0) (t : turn a b c < 0) : Ch Q (c :: b :: a :: r)
theorem Ch.mem {Q st : List Pt} (h : Ch Q st) : ∀ b ∈ st, b ∈ Q := by
  induction h with
  | one h m => intro b hb; simp at hb; subst hb; exact m
  | two c m u h ih =>
    intro b hb
    rcases List.mem_cons.mp hb with e | e
    · rw [e]; exact m
    · exact ih b e
  | more k m u h t ih =>
    intro b hb
    rcases List.mem_cons.mp hb with e | e
    · rw [e]; exact m
    · exact ih b e
theorem Ch.tail {Q : List Pt} {b a : Pt} {r : List Pt} (h : Ch Q (b :: a :: r)) : Ch Q (a :: r) := by
  cases h with
  | two c m u h => exact c
  | more k m u h t => exact k
theorem Ch.edge {Q : List Pt} {b a : Pt} {r : List Pt} (h : Ch Q (b :: a :: r)) : Up a b ∧ (∀ q ∈ Q, turn a b q ≤ 0) := by
  cases h with
  | two c m u h => exact ⟨u, h⟩
  | more k m u h t => exact ⟨u, h⟩
/-- a chain has room for one point more that lies under its last edge's line -/
theorem Ch.far {Q : List Pt} {p : Pt} (hp : ∀ q ∈ Q, Up q p) : ∀ {st : List Pt}, Ch Q st → (∀ b a r, st = b :: a :: r → turn a b p < 0) → Ch (Q ++ [p]) st := by
  have up' : ∀ b ∈ Q, ∀ q ∈ Q ++ [p], (∀ q ∈ Q, UpE b q) → UpE b q := fun b hb q hq h => by
    rcases List.mem_append.mp hq with z | z
    · exact h q z
    · simp at z; subst z; exact .inr (hp b hb)
  intro st h
  induction h with
  | one h m => exact fun _ => .one (fun q hq => up' _ m q hq h) (by simp [m])
  | @two a b c m u h ih =>
    intro t
    have ht := t b a [] rfl
    refine .two (ih fun _ _ _ e => by cases e) (by simp [m]) u fun q hq => ?_
    rcases List.mem_append.mp hq with z | z
    · exact h q z
    · simp at z; subst z; omega
  | @more a b c r k m u h t ih =>
    intro t'
    have ht := t' c b (a :: r) rfl
    refine .more (ih fun b' a' r' e => ?_) (by simp [m]) u (fun q hq => ?_) t
    · injection e with e1 e2
      injection e2 with e2 e3
      subst e1; subst e2
      exact turn_far k.edge.1 u (hp c m) t ht
    · rcases List.mem_append.mp hq with z | z
      · exact h q z
      · simp at z; subst z; omega
theorem pop_ch {Q : List Pt} {p : Pt} (hp : ∀ q ∈ Q, Up q p) (tot : ∀ a ∈ Q, ∀ q ∈ Q, UpE q a ∨ Up a q) : ∀ (st : List Pt), Ch Q st → (∀ b r, st = b :: r → ∀ q ∈ Q, UpE q b ∨ turn b p q ≤ 0) → Ch (Q ++ [p]) (p :: pop st p)
  | [], h, _ => by cases h
  | [b], h, hq => by
    have hb : b ∈ Q := h.mem b (by simp)
    show Ch (Q ++ [p]) [p, b]
    refine .two (h.far hp fun _ _ _ e => by cases e) (by simp) (hp b hb) fun q hq' => ?_
    rcases List.mem_append.mp hq' with z | z
    · rcases hq b [] rfl q z with e | e
      · have hbq : UpE b q := by cases h with | one h m => exact h q z
        have : q = b := by
          rcases e with e | e
          · exact e
          · rcases hbq with f | f
            · exact f.symm
            · exact absurd rfl (e.trans f).2.2
        rw [this, turn_self1]; omega
      · exact e
    · simp at z; subst z; rw [turn_self2]; omega
  | b :: a :: r, h, hq => by
    have ha : a ∈ Q := h.mem a (by simp)
    have hb : b ∈ Q := h.mem b (by simp)
    unfold pop
    by_cases t : 0 ≤ turn a b p
    · rw [if_pos t]
      refine pop_ch hp tot (a :: r) h.tail fun b' r' e q hq' => ?_
      injection e with e1 _
      subst e1
      rcases tot a ha q hq' with z | z
      · exact .inl z
      · exact .inr (turn_over h.edge.1 (hp a ha) z (h.edge.2 q hq') t)
    · rw [if_neg t]
      have hf := h.far hp fun b' a' r' e => by
        injection e with e1 e2
        injection e2 with e2 e3
        subst e1; subst e2
        omega
      refine .more hf (by simp) (hp b hb) (fun q hq' => ?_) (by omega)
      rcases List.mem_append.mp hq' with z | z
      · rcases hq b (a :: r) rfl q z with e | e
        · exact turn_before h.edge.1 (hp b hb) e (h.edge.2 q z) (by omega)
        · exact e
      · simp at z; subst z; rw [turn_self2]; omega
theorem pop_sub (p : Pt) : ∀ st : List Pt, ∃ r, st = r ++ pop st p
  | [] => ⟨[], rfl⟩
  | [b] => ⟨[], rfl⟩
  | b :: a :: r => by
    unfold pop
    by_cases t : 0 ≤ turn a b p
    · rw [if_pos t]
      obtain ⟨x, e⟩ := pop_sub p (a :: r)
      exact ⟨b :: x, by rw [List.cons_append, ← e]⟩
    · rw [if_neg t]; exact ⟨[], rfl⟩
/-- behind all points of a rising list -/
theorem fold_ch : ∀ (P : List Pt) (Q st : List Pt) (l : Pt), (Q ++ P).Pairwise Up → Ch Q st → Q.getLast? = some l → st.head? = some l → Ch (Q ++ P) (P.foldl (fun st p => p :: pop st p) st) ∧ (P.foldl (fun st p => p :: pop st p) st).head? = (Q ++ P).getLast?
  | [], Q, st, l, _, h, e1, e2 => by rw [List.append_nil]; exact ⟨h, by rw [e1]; exact e2⟩
  | p :: P, Q, st, l, hp, h, e1, e2 => by
    have hpw := List.pairwise_append.mp hp
    have hpq : ∀ q ∈ Q, Up q p := fun q hq => hpw.2.2 q hq p (by simp)
    have tot : ∀ a ∈ Q, ∀ q ∈ Q, UpE q a ∨ Up a q := by
      have aux : ∀ {l : List Pt}, l.Pairwise Up → ∀ a ∈ l, ∀ q ∈ l, UpE q a ∨ Up a q := by
        intro l
        induction l with
        | nil => intro _ a ha; cases ha
        | cons x l ih =>
          intro hl a ha q hq
          have hl' := List.pairwise_cons.mp hl
          rcases List.mem_cons.mp ha with ea | ea
          · rcases List.mem_cons.mp hq with eq | eq
            · exact .inl (.inl (by rw [ea, eq]))
            · exact .inr (by rw [ea]; exact hl'.1 q eq)
          · rcases List.mem_cons.mp hq with eq | eq
            · exact .inl (.inr (by rw [eq]; exact hl'.1 a ea))
            · exact ih hl'.2 a ea q eq
      exact aux hpw.1
    have lastTop : ∀ q ∈ Q, UpE q l := by
      intro q hq
      have hn : Q ≠ [] := fun z => by rw [z] at hq; cases hq
      have hl : l = Q.getLast hn := by
        have := List.getLast?_eq_some_getLast hn
        rw [this] at e1
        injection e1 with e1
        exact e1.symm
      have hq' := hq
      rw [← List.dropLast_concat_getLast hn] at hq'
      rcases List.mem_append.mp hq' with z | z
      · refine .inr ?_
        have hpw2 := hpw.1
        rw [← List.dropLast_concat_getLast hn] at hpw2
        rw [hl]
        exact (List.pairwise_append.mp hpw2).2.2 q z _ (by simp)
      · simp only [List.mem_cons, List.not_mem_nil, or_false] at z
        rw [hl]; exact .inl z
    have h' := pop_ch hpq tot st h fun b r e q hq => by
      rw [e] at e2
      simp at e2
      subst e2
      exact .inl (lastTop q hq)
    have := fold_ch P (Q ++ [p]) (p :: pop st p) p (by rw [List.append_assoc]; exact hp) h' (by simp) rfl
    rw [List.append_assoc] at this
    exact this
/-- what a hull is -/
structure Hull (P C : List Pt) : Prop where
  ch : Ch P C.reverse
  hd : C.head? = P.head?
  lst : C.getLast? = P.getLast?
theorem Ch.bottom {Q : List Pt} : ∀ {st : List Pt}, Ch Q st → ∃ b, st.getLast? = some b ∧ b ∈ Q ∧ ∀ q ∈ Q, UpE b q := by
  intro st h
  induction h with
  | one h m => exact ⟨_, rfl, m, h⟩
  | two c m u h ih => obtain ⟨b, e, m, h⟩ := ih; exact ⟨b, by rw [List.getLast?_cons_cons]; exact e, m, h⟩
  | more k m u h t ih => obtain ⟨b, e, m, h⟩ := ih; exact ⟨b, by rw [List.getLast?_cons_cons]; exact e, m, h⟩
theorem crn_hull {P : List Pt} (hp : P.Pairwise Up) (hn : P ≠ []) : Hull P (crn P) := by
  cases P with
  | nil => exact absurd rfl hn
  | cons p P =>
    have h0 : Ch [p] [p] := .one (fun q hq => by simp at hq; exact .inl hq.symm) (by simp)
    have := fold_ch P [p] [p] p hp h0 rfl rfl
    have e : crn (p :: P) = (P.foldl (fun st p => p :: pop st p) [p]).reverse := rfl
    refine ⟨by rw [e, List.reverse_reverse]; exact this.1, ?_, ?_⟩
    · rw [e, List.head?_reverse]
      obtain ⟨b, e1, m, h⟩ := this.1.bottom
      rw [e1]
      have hb := h p (by simp)
      rcases hb with z | z
      · rw [z]; rfl
      · have hm : UpE p b := by
          rcases List.mem_cons.mp m with q | q
          · exact .inl q.symm
          · exact .inr ((List.pairwise_cons.mp hp).1 b q)
        rcases hm with q | q
        · rw [q]; rfl
        · exact absurd rfl (z.trans q).2.2
    · rw [e, List.getLast?_reverse]
      exact this.2
end DL

/-! H2: corners_of evaluated; hulls read forward -/
namespace DL
open PySem PySem.Spec PyProof.Rows L2
local macro_rules | `(tactic| walk_at "ev") => `(tactic| simp only [szL, Nat.reduceLeDiff, mBody, mBodyD, outP, outD, cVar, cC, cOp, cUn, cTest, cAndT, cOrT, cNotT, cAndV, cOrV, cIf, aNil, aCons, cTup, cLst, cSl, oNone, oSome, cCall, cCallF, cCallD, cMeth, noX', isL_list, isL_encP, tYesD, bnd_ok, bnd_exc, bnd_bad, lft_ok, lft_exc, lft_bad, isOk_ok, isOk_exc, isOk_bad, isD_int, isD_bool, isD_none, isD_str, isD_list, isD_tuple, isD_eP, isD_eT, isD_encP, isD_encT, allD, List.all_cons, List.all_nil, Bool.and_self, Bool.and_true, Bool.true_and, if_true, if_false, Bool.false_eq_true, ite_true, ite_false, reduceIte, List.length_cons, List.length_nil, List.map_cons, List.map_nil, List.cons_append, List.nil_append, List.replicate_succ, List.replicate_zero, List.getElem?_cons_zero, List.getElem?_cons_succ, List.set_cons_zero, List.set_cons_succ, wipeD, sSeq, sSet, sAsg, sRet, sIf, sExpr, sNil, sRaise, sSetF, sApp, sAug, sAugL, sPar, sPar3, fLst, bNm, bTup, bCons, bNil, pNot, pIsi, isiT, tyN, pNeg, Nat.reduceAdd, decide_true, decide_false, Bool.not_true, Bool.not_false, noX_ok, pLe_i, pLt_i, pGt_i, pGe_i, pAdd_i, pSub_i, pLen_l, pLen_t, pIx_t0, pIx_t1, pEq_i, pNe_i])
local macro_rules | `(tactic| walk_at "evs") => `(tactic| simp [szL, mBody, mBodyD, outP, outD, cVar, cC, cOp, cUn, cTest, cAndT, cOrT, cNotT, cAndV, cOrV, cIf, aNil, aCons, cTup, cLst, cSl, oNone, oSome, cCall, cCallF, cCallD, cMeth, noX', isL_list, isL_encP, tYesD, bnd_ok, bnd_exc, bnd_bad, lft_ok, lft_exc, lft_bad, isOk_ok, isOk_exc, isOk_bad, isD_int, isD_bool, isD_none, isD_str, isD_list, isD_tuple, isD_eP, isD_eT, isD_encP, isD_encT, allD, List.all_cons, List.all_nil, List.map_cons, List.map_nil, List.cons_append, List.nil_append, List.replicate_succ, List.replicate_zero, List.getElem?_cons_zero, List.getElem?_cons_succ, List.set_cons_zero, List.set_cons_succ, wipeD, sSeq, sSet, sAsg, sRet, sIf, sExpr, sNil, sRaise, sSetF, sApp, sAug, sAugL, sPar, sPar3, fLst, bNm, bTup, bCons, bNil, pNot, pIsi, isiT, tyN, pNeg, noX_ok, pLe_i, pLt_i, pGt_i, pGe_i, pAdd_i, pSub_i, pLen_l, pLen_t, pIx_t0, pIx_t1, pEq_i, pNe_i])
local macro_rules | `(tactic| walk_at "evx") => `(tactic| simp [szL, mBody, mBodyD, outP, outD, cVar, cC, cOp, cUn, cTest, cAndT, cOrT, cNotT, cAndV, cOrV, cIf, aNil, aCons, cTup, cLst, cSl, oNone, oSome, cCall, cCallF, cCallD, cMeth, noX', isL_list, isL_encP, tYesD, bnd_ok, bnd_exc, bnd_bad, lft_ok, lft_exc, lft_bad, isOk_ok, isOk_exc, isOk_bad, isD_int, isD_bool, isD_none, isD_str, isD_list, isD_tuple, isD_eP, isD_eT, isD_encP, isD_encT, allD, List.all_cons, List.all_nil, List.map_cons, List.map_nil, List.cons_append, List.nil_append, List.replicate_succ, List.replicate_zero, List.getElem?_cons_zero, List.getElem?_cons_succ, List.set_cons_zero, List.set_cons_succ, wipeD, sSeq, sSet, sAsg, sRet, sIf, sExpr, sNil, sRaise, sSetF, sApp, sAug, sAugL, sPar, sPar3, fLst, bNm, bTup, bCons, bNil, pNot, pIsi, isiT, tyN, pNeg, noX_ok, pLe_i, pLt_i, pGt_i, pGe_i, pAdd_i, pSub_i, pLen_l, pLen_t, pIx_t0, pIx_t1, pEq_i, pNe_i, *])
def Sm (p : Pt) : Prop := -1000 ≤ p.1 ∧ p.1 ≤ 1000 ∧ -1000 ≤ p.2 ∧ p.2 ≤ 1000
theorem m_way_turn_eq {a b c : Pt} (ha : Sm a) (hb : Sm b) (hc : Sm c) : m_way_turn [eP a, eP b, eP c] = .ok (.int (turn a b c)) := by
  refine mBody_of ?_
  unfold b_way_turn
  obtain ⟨a1, a2, a3, a4⟩ := ha
  obtain ⟨b1, b2, b3, b4⟩ := hb
  refine ev_seq (s' := ()) (ρ' := [some (eP a), some (eP b), some (eP c), some (.int (b.1 - a.1)), some (.int (b.2 - a.2))]) ?_ (ret_of (ev_op (s1 := ()) (s2 := ()) (ev_op (s1 := ()) rfl (ev_op (s1 := ()) (ev_op (s2 := ()) rfl rfl (eP_1 _)) (ev_op (s2 := ()) rfl rfl (eP_1 _)) (pSub_i _ _)) (pMul_i (by omega))) (ev_op (s1 := ()) rfl (ev_op (s1 := ()) (ev_op (s2 := ()) rfl rfl (eP_0 _)) (ev_op (s2 := ()) rfl rfl (eP_0 _)) (pSub_i _ _)) (pMul_i (by omega))) (pSub_i _ _)) rfl)
  unfold sPar
  rw [ev_aC (s2 := ()) (ev_op (s1 := ()) (ev_op (s2 := ()) rfl rfl (eP_0 _)) (ev_op (s2 := ()) rfl rfl (eP_0 _)) (pSub_i _ _)) (ev_a1 (ev_op (s1 := ()) (ev_op (s2 := ()) rfl rfl (eP_1 _)) (ev_op (s2 := ()) rfl rfl (eP_1 _)) (pSub_i _ _)))]
  rfl
theorem atI_neg {a : Type} (l : List a) (k : Nat) (h1 : 1 ≤ k) (h2 : k ≤ l.length) : L2.atI l (-(k : Int)) = l[l.length - k]? := by
  unfold L2.atI ixN
  rw [if_neg (by omega), if_pos (by omega)]
  show l[(-(k : Int) + (l.length : Int)).toNat]? = _
  congr 1
  omega
theorem pIx_neg {a : Type} (e : a → PD) (l : List a) (k : Nat) (x : a) (h1 : 1 ≤ k) (h2 : k ≤ l.length) (hx : l[l.length - k]? = some x) : pIx (.list (l.map e)) (.int (-(k : Int))) = .ok (e x) := by
  show (match L2.atI (l.map e) (-(k : Int)) with | some d => R.ok d | none => R.bad) = _
  rw [atI_neg _ _ h1 (by rw [List.length_map]; exact h2), List.length_map, List.getElem?_map, hx]
  rfl
theorem cut_dl {a : Type} (xs : List a) : cutD xs none (some (-1)) = xs.dropLast := by
  unfold cutD
  rw [HT.sIx_none]
  have : HT.sIx xs.length xs.length (some (-1)) = xs.length - 1 := by
    unfold HT.sIx
    cases xs with
    | nil => rfl
    | cons x r => simp; omega
  rw [this, List.drop_zero, Nat.sub_zero, List.dropLast_eq_take]
def wTest : Env → Unit → R (Bool × Unit) := cAndT (cTest (cOp pGe (cCall pLen (aCons (cVar 1) aNil)) (cC (.int 2)))) (cTest (cOp pGe (cCallF 3 m_way_turn (aCons (cOp pIx (cVar 1) (cUn pNeg (cC (.int 2)))) (aCons (cOp pIx (cVar 1) (cUn pNeg (cC (.int 1)))) (aCons (cVar 2) aNil)))) (cC (.int 0))))
def wBody : Env → Unit → R (Fl × Unit) := sSetF 1 (fSl 1 oNone (oSome (cUn pNeg (cC (.int 1)))))
theorem len_encP (P : List Pt) : pLen [encP P] = .ok (.int P.length) := by
  show R.ok (PyData.int ((P.map eP).length : Int)) = _
  rw [List.length_map]
theorem wTest_eq (P : Option PD) (st : List Pt) (p : Pt) (hs : ∀ q ∈ st, Sm q) (hp : Sm p) : wTest [P, some (encP st.reverse), some (eP p)] () = .ok ((match st with | b :: a :: _ => decide (0 ≤ turn a b p) | _ => false), ()) := by
  unfold wTest
  have hl : cTest (cOp pGe (cCall pLen (aCons (cVar 1) aNil)) (cC (.int 2))) [P, some (encP st.reverse), some (eP p)] () = .ok (decide (2 ≤ (st.length : Int)), ()) := by
    refine ev_test (ev_op (s1 := ()) (s2 := ()) (ev_call (ev_a1 rfl) (len_encP _)) rfl ?_)
    rw [pGe_i, List.length_reverse]
  match st, hs with
  | [], _ => unfold cAndT; rw [hl]; rfl
  | [b], _ => unfold cAndT; rw [hl]; rfl
  | b :: a :: r, hs =>
    have e : (b :: a :: r).reverse = r.reverse ++ [a, b] := by simp
    refine ev_and_t (s' := ()) (by rw [hl, decide_eq_true (by simp only [List.length_cons]; omega)]) (ev_test ?_)
    have ll : (r.reverse ++ [a, b]).length = r.length + 2 := by simp
    have h1 : pIx (encP (b :: a :: r).reverse) (.int (-1)) = .ok (eP b) := by
      rw [e]
      refine pIx_neg eP _ 1 b (by omega) (by omega) ?_
      rw [ll, List.getElem?_append_right (by simp)]; simp
    have h2 : pIx (encP (b :: a :: r).reverse) (.int (-2)) = .ok (eP a) := by
      rw [e]
      refine pIx_neg eP _ 2 a (by omega) (by omega) ?_
      rw [ll, List.getElem?_append_right (by simp)]; simp
    refine ev_op (s1 := ()) (s2 := ()) (ev_callF (ev_aC (s1 := ()) (s2 := ()) (ev_op (s1 := ()) (s2 := ()) rfl rfl h2) (ev_aC (s1 := ()) (s2 := ()) (ev_op (s1 := ()) (s2 := ()) rfl rfl h1) (ev_a1 rfl))) (m_way_turn_eq (hs a (by simp)) (hs b (by simp)) hp)) rfl (pGe_i _ _)
theorem wBody_eq (P : Option PD) (b : Pt) (st : List Pt) (q : Option PD) : wBody [P, some (encP (b :: st).reverse), q] () = .ok (.nx [P, some (encP st.reverse), q], ()) := by
  unfold wBody sSetF fSl
  show bnd (.ok (cutD ((b :: st).reverse.map eP) none (some (-1)), ())) _ = _
  have e : ((b :: st).reverse.map eP).dropLast = st.reverse.map eP := by
    rw [List.reverse_cons, List.map_append]
    exact List.dropLast_concat
  rw [bnd_ok, cut_dl, e]
  rfl
theorem wLoop_eq (P : Option PD) (p : Pt) (hp : Sm p) : ∀ (st : List Pt) (n : Nat), (∀ q ∈ st, Sm q) → st.length + 2 ≤ n → sWhGo wTest wBody n [P, some (encP st.reverse), some (eP p)] () = .ok (.nx [P, some (encP (pop st p).reverse), some (eP p)], ())
  | st, 0, _, h => by omega
  | [], n + 1, hs, _ => by unfold sWhGo; rw [wTest_eq P _ p hs hp, bnd_ok]; rfl
  | [b], n + 1, hs, _ => by unfold sWhGo; rw [wTest_eq P _ p hs hp, bnd_ok]; rfl
  | b :: a :: r, n + 1, hs, h => by
    unfold sWhGo pop
    rw [wTest_eq P _ p hs hp, bnd_ok]
    by_cases t : 0 ≤ turn a b p
    · rw [if_pos (by simpa using t), if_pos t, wBody_eq]
      exact wLoop_eq P p hp (a :: r) n (fun q hq => hs q (List.mem_cons_of_mem _ hq)) (by simp only [List.length_cons] at h ⊢; omega)
    · rw [if_neg (by simpa using t), if_neg t]
theorem pop_len (p : Pt) (st : List Pt) : (pop st p).length ≤ st.length := by
  obtain ⟨r, e⟩ := pop_sub p st
  have := congrArg List.length e
  rw [List.length_append] at this
  omega
theorem pop_mem {p q : Pt} {st : List Pt} (h : q ∈ pop st p) : q ∈ st := by
  obtain ⟨r, e⟩ := pop_sub p st
  rw [e]
  exact List.mem_append_right _ h
theorem m_corners_of_eq {P : List Pt} (h : ∀ p ∈ P, Sm p) (hl : P.length ≤ 1000) : m_corners_of [encP P] = .ok (encP (crn P)) := by
  refine mBody_of ?_
  unfold b_corners_of
  refine ev_seq (s' := ()) (ρ' := [some (encP P), some (encP []), none]) rfl ?_
  obtain ⟨ρ', s', e, i⟩ := sForGo_inv (d := Unit) (bd := bNm 2) (body := sSeq (sWhile (fuLen 1) wTest wBody) (sApp 1 (cVar 2))) eP
    (fun pre ρ _ => ∃ c, ρ = [some (encP P), some (encP (crn pre)), c] ∧ (crn pre).length ≤ pre.length ∧ ∀ q ∈ crn pre, q ∈ pre) P [] [some (encP P), some (encP []), none] () ⟨none, rfl, Nat.le_refl _, fun q hq => hq⟩ fun pre p q ρ s hpq hi => by
      obtain ⟨c, rfl, hl2, hm⟩ := hi
      rw [List.nil_append] at hpq
      have hpre : pre.length < 1000 := by
        have := congrArg List.length hpq
        simp only [List.length_append, List.length_cons] at this
        omega
      have hpS : Sm p := h p (by rw [hpq]; simp)
      have hS : ∀ q ∈ (crn pre).reverse, Sm q := fun q hq => h q (by rw [hpq]; exact List.mem_append_left _ (hm q (List.mem_reverse.mp hq)))
      have hcr : crn (pre ++ [p]) = (pop (crn pre).reverse p).reverse ++ [p] := by
        unfold crn
        rw [List.foldl_append, List.reverse_reverse]
        simp
      have hw := wLoop_eq (some (encP P)) p hpS (crn pre).reverse ((crn pre).length + 2) hS (by rw [List.length_reverse]; omega)
      rw [List.reverse_reverse] at hw
      have hpl := pop_len p (crn pre).reverse
      rw [List.length_reverse] at hpl
      refine ⟨[some (encP P), some (encP (crn pre)), some (eP p)], [some (encP P), some (encP (crn (pre ++ [p]))), some (eP p)], (), rfl, ?_, ⟨some (eP p), rfl, ?_, ?_⟩⟩
      · refine ev_seq (s' := ()) (ρ' := [some (encP P), some (encP (pop (crn pre).reverse p).reverse), some (eP p)]) ?_ ?_
        · unfold sWhile
          rw [show fuLen 1 [some (encP P), some (encP (crn pre)), some (eP p)] = (crn pre).length + 2 by
            show ((crn pre).map eP).length + 2 = _
            rw [List.length_map]]
          exact hw
        · unfold sApp
          show (if isD (eP p) && decide (((pop (crn pre).reverse p).reverse.map eP).length < sizeLine) then R.ok (Fl.nx ([some (encP P), some (encP (pop (crn pre).reverse p).reverse), some (eP p)].set 1 (some (.list ((pop (crn pre).reverse p).reverse.map eP ++ [eP p])))), ()) else .bad) = _
          rw [decide_eq_true (by rw [List.length_map, List.length_reverse, szL]; omega), hcr]
          unfold encP
          rw [List.map_append]
          rfl
      · rw [hcr]
        simp only [List.length_append, List.length_reverse, List.length_cons, List.length_nil]
        omega
      · intro q hq
        rw [hcr] at hq
        rcases List.mem_append.mp hq with z | z
        · exact List.mem_append_left _ (hm q (List.mem_reverse.mp (pop_mem (List.mem_reverse.mp z))))
        · exact List.mem_append_right _ z
  obtain ⟨c, rfl, _, _⟩ := i
  exact ev_seq (ev_for (s' := ()) rfl e) rfl
/-! ### a hull read forward -/
theorem Ch.drop {Q : List Pt} : ∀ {x st : List Pt}, st ≠ [] → Ch Q (x ++ st) → Ch Q st
  | [], _, _, h => h
  | [c], a :: r, _, h => h.tail
  | c :: b :: x, st, hn, h => Ch.drop (x := b :: x) hn h.tail
theorem Hull.edge {P C : List Pt} (h : Hull P C) {x y : List Pt} {a b : Pt} (e : C = x ++ a :: b :: y) : Up a b ∧ (∀ q ∈ P, turn a b q ≤ 0) := by
  have hc := h.ch
  rw [e] at hc
  simp only [List.reverse_append, List.reverse_cons, List.append_assoc, List.singleton_append] at hc
  exact (Ch.drop (x := y.reverse) (by simp) hc).edge
theorem Hull.turn3 {P C : List Pt} (h : Hull P C) {x y : List Pt} {a b c : Pt} (e : C = x ++ a :: b :: c :: y) : turn a b c < 0 := by
  have hc := h.ch
  rw [e] at hc
  simp only [List.reverse_append, List.reverse_cons, List.append_assoc, List.singleton_append] at hc
  have := Ch.drop (x := y.reverse) (st := c :: b :: a :: x.reverse) (by simp) (by simpa using hc)
  cases this with
  | more k m u h t => exact t
theorem Hull.mem {P C : List Pt} (h : Hull P C) {q : Pt} (hq : q ∈ C) : q ∈ P := h.ch.mem q (List.mem_reverse.mpr hq)
theorem crn_len (P : List Pt) : (crn P).length ≤ P.length := by
  have : ∀ (P st : List Pt), (P.foldl (fun st p => p :: pop st p) st).length ≤ st.length + P.length := by
    intro P
    induction P with
    | nil => intro st; simp
    | cons p P ih =>
      intro st
      have := ih (p :: pop st p)
      have h2 := pop_len p st
      simp only [List.foldl_cons, List.length_cons] at this ⊢
      omega
  unfold crn
  rw [List.length_reverse]
  have := this P []
  simpa using this
end DL

/-! M8: costs over the hull -/
namespace DL
open PySem PySem.Spec PyProof.Rows L2
local macro_rules | `(tactic| walk_at "ev") => `(tactic| simp only [szL, Nat.reduceLeDiff, mBody, mBodyD, outP, outD, cVar, cC, cOp, cUn, cTest, cAndT, cOrT, cNotT, cAndV, cOrV, cIf, aNil, aCons, cTup, cLst, cSl, oNone, oSome, cCall, cCallF, cCallD, cMeth, noX', isL_list, isL_encP, tYesD, bnd_ok, bnd_exc, bnd_bad, lft_ok, lft_exc, lft_bad, isOk_ok, isOk_exc, isOk_bad, isD_int, isD_bool, isD_none, isD_str, isD_list, isD_tuple, isD_eP, isD_eT, isD_encP, isD_encT, allD, List.all_cons, List.all_nil, Bool.and_self, Bool.and_true, Bool.true_and, if_true, if_false, Bool.false_eq_true, ite_true, ite_false, reduceIte, List.length_cons, List.length_nil, List.map_cons, List.map_nil, List.cons_append, List.nil_append, List.replicate_succ, List.replicate_zero, List.getElem?_cons_zero, List.getElem?_cons_succ, List.set_cons_zero, List.set_cons_succ, wipeD, sSeq, sSet, sAsg, sRet, sIf, sExpr, sNil, sRaise, sSetF, sApp, sAug, sAugL, sPar, sPar3, fLst, bNm, bTup, bCons, bNil, pNot, pIsi, isiT, tyN, pNeg, Nat.reduceAdd, decide_true, decide_false, Bool.not_true, Bool.not_false, noX_ok, pLe_i, pLt_i, pGt_i, pGe_i, pAdd_i, pSub_i, pLen_l, pLen_t, pIx_t0, pIx_t1, pEq_i, pNe_i])
local macro_rules | `(tactic| walk_at "evs") => `(tactic| simp [szL, mBody, mBodyD, outP, outD, cVar, cC, cOp, cUn, cTest, cAndT, cOrT, cNotT, cAndV, cOrV, cIf, aNil, aCons, cTup, cLst, cSl, oNone, oSome, cCall, cCallF, cCallD, cMeth, noX', isL_list, isL_encP, tYesD, bnd_ok, bnd_exc, bnd_bad, lft_ok, lft_exc, lft_bad, isOk_ok, isOk_exc, isOk_bad, isD_int, isD_bool, isD_none, isD_str, isD_list, isD_tuple, isD_eP, isD_eT, isD_encP, isD_encT, allD, List.all_cons, List.all_nil, List.map_cons, List.map_nil, List.cons_append, List.nil_append, List.replicate_succ, List.replicate_zero, List.getElem?_cons_zero, List.getElem?_cons_succ, List.set_cons_zero, List.set_cons_succ, wipeD, sSeq, sSet, sAsg, sRet, sIf, sExpr, sNil, sRaise, sSetF, sApp, sAug, sAugL, sPar, sPar3, fLst, bNm, bTup, bCons, bNil, pNot, pIsi, isiT, tyN, pNeg, noX_ok, pLe_i, pLt_i, pGt_i, pGe_i, pAdd_i, pSub_i, pLen_l, pLen_t, pIx_t0, pIx_t1, pEq_i, pNe_i])
local macro_rules | `(tactic| walk_at "evx") => `(tactic| simp [szL, mBody, mBodyD, outP, outD, cVar, cC, cOp, cUn, cTest, cAndT, cOrT, cNotT, cAndV, cOrV, cIf, aNil, aCons, cTup, cLst, cSl, oNone, oSome, cCall, cCallF, cCallD, cMeth, noX', isL_list, isL_encP, tYesD, bnd_ok, bnd_exc, bnd_bad, lft_ok, lft_exc, lft_bad, isOk_ok, isOk_exc, isOk_bad, isD_int, isD_bool, isD_none, isD_str, isD_list, isD_tuple, isD_eP, isD_eT, isD_encP, isD_encT, allD, List.all_cons, List.all_nil, List.map_cons, List.map_nil, List.cons_append, List.nil_append, List.replicate_succ, List.replicate_zero, List.getElem?_cons_zero, List.getElem?_cons_succ, List.set_cons_zero, List.set_cons_succ, wipeD, sSeq, sSet, sAsg, sRet, sIf, sExpr, sNil, sRaise, sSetF, sApp, sAug, sAugL, sPar, sPar3, fLst, bNm, bTup, bCons, bNil, pNot, pIsi, isiT, tyN, pNeg, noX_ok, pLe_i, pLt_i, pGt_i, pGe_i, pAdd_i, pSub_i, pLen_l, pLen_t, pIx_t0, pIx_t1, pEq_i, pNe_i, *])
theorem ev_app {d : Type} {i : Nat} {e : Env → d → R (PD × d)} {ρ : Env} {s s1 : d} {ds : List PD} {x : PD} (h : ρ[i]? = some (some (.list ds))) (he : e ρ s = .ok (x, s1)) (hx : isD x = true) (hl : ds.length < 1000) : sApp i e ρ s = .ok (.nx (ρ.set i (some (.list (ds ++ [x])))), s1) := by
  unfold sApp
  rw [h]
  show bnd (e ρ s) _ = _
  rw [he, bnd_ok, hx, decide_eq_true (by rw [szL]; omega)]
  rfl
theorem cComp_mapI {d a : Type} {it : Env → d → R (List PD × d)} {b : Bd} {own : List Nat} {f : Env → d → R (PD × d)} {ρ : Env} {s : d} (xs : List a) (enc : a → PD) (val : a → Int) (hi : it ρ s = .ok (xs.map enc, s)) (hl : xs.length ≤ 100000)
    (h : ∀ x ∈ xs, ∃ ρ1, b (enc x) (wipeD ρ own) = some ρ1 ∧ f ρ1 s = .ok (.int (val x), s)) : cComp it b own tYesD f ρ s = .ok (.list ((xs.map val).map PyData.int), s) := by
  rw [List.map_map]
  exact cComp_map xs enc (fun x => .int (val x)) hi hl fun x hx => by
    obtain ⟨ρ1, h1, h2⟩ := h x hx
    exact ⟨ρ1, h1, h2, rfl⟩
theorem cComp_pureI {d a : Type} {it : Env → d → R (List PD × d)} {b : Bd} {own : List Nat} {t : Env → d → R (Bool × d)} {f : Env → d → R (PD × d)} {ρ : Env} {s : d} (xs : List a) (enc : a → PD) (keep : a → Bool) (val : a → Int) (hi : it ρ s = .ok (xs.map enc, s)) (hl : xs.length ≤ 100000)
    (h : ∀ x ∈ xs, ∃ ρ1, b (enc x) (wipeD ρ own) = some ρ1 ∧ t ρ1 s = .ok (keep x, s) ∧ (keep x = true → f ρ1 s = .ok (.int (val x), s))) : cComp it b own t f ρ s = .ok (.list (((xs.filter keep).map val).map PyData.int), s) := by
  rw [List.map_map]
  exact cComp_pure xs enc keep (fun x => .int (val x)) hi hl fun x hx => by
    obtain ⟨ρ1, h1, h2, h3⟩ := h x hx
    exact ⟨ρ1, h1, h2, fun z => ⟨h3 z, rfl⟩⟩
theorem cComp_mapP {d a : Type} {it : Env → d → R (List PD × d)} {b : Bd} {own : List Nat} {f : Env → d → R (PD × d)} {ρ : Env} {s : d} (xs : List a) (enc : a → PD) (val : a → Pt) (hi : it ρ s = .ok (xs.map enc, s)) (hl : xs.length ≤ 100000)
    (h : ∀ x ∈ xs, ∃ ρ1, b (enc x) (wipeD ρ own) = some ρ1 ∧ f ρ1 s = .ok (eP (val x), s)) : cComp it b own tYesD f ρ s = .ok (encP (xs.map val), s) := by
  unfold encP
  rw [List.map_map]
  exact cComp_map xs enc (fun x => eP (val x)) hi hl fun x hx => by
    obtain ⟨ρ1, h1, h2⟩ := h x hx
    exact ⟨ρ1, h1, h2, rfl⟩
theorem cComp_pureP {d a : Type} {it : Env → d → R (List PD × d)} {b : Bd} {own : List Nat} {t : Env → d → R (Bool × d)} {f : Env → d → R (PD × d)} {ρ : Env} {s : d} (xs : List a) (enc : a → PD) (keep : a → Bool) (val : a → Pt) (hi : it ρ s = .ok (xs.map enc, s)) (hl : xs.length ≤ 100000)
    (h : ∀ x ∈ xs, ∃ ρ1, b (enc x) (wipeD ρ own) = some ρ1 ∧ t ρ1 s = .ok (keep x, s) ∧ (keep x = true → f ρ1 s = .ok (eP (val x), s))) : cComp it b own t f ρ s = .ok (encP ((xs.filter keep).map val), s) := by
  unfold encP
  rw [List.map_map]
  exact cComp_pure xs enc keep (fun x => eP (val x)) hi hl fun x hx => by
    obtain ⟨ρ1, h1, h2, h3⟩ := h x hx
    exact ⟨ρ1, h1, h2, fun z => ⟨h3 z, rfl⟩⟩
/-! ### least of a list -/
def mnI : List Int → Int
  | x :: r => minL x r
  | [] => 0
theorem mnI_spec {l : List Int} (h : l ≠ []) : mnI l ∈ l ∧ ∀ y ∈ l, mnI l ≤ y := by
  cases l with
  | nil => exact absurd rfl h
  | cons x r =>
    have := minL_le r x
    refine ⟨?_, fun y hy => ?_⟩
    · show minL x r ∈ _
      rcases this.2.2 with e | e
      · rw [e]; simp
      · exact List.mem_cons_of_mem _ e
    · show minL x r ≤ _
      rcases List.mem_cons.mp hy with e | e
      · rw [e]; exact this.1
      · exact this.2.1 y e
theorem mnI_eq {l : List Int} {m : Int} (h1 : m ∈ l) (h2 : ∀ y ∈ l, m ≤ y) : mnI l = m := by
  have := mnI_spec (l := l) (fun z => by rw [z] at h1; cases h1)
  have a := this.2 m h1
  have b := h2 _ this.1
  omega
theorem pMin_l {l : List Int} (h : l ≠ []) : pMin [.list (l.map PyData.int)] = .ok (.int (mnI l)) := by
  cases l with
  | nil => exact absurd rfl h
  | cons x r => exact pMin_ints x r
theorem mem_up {n : Nat} {t : Int} : t ∈ up n ↔ 0 ≤ t ∧ t < n := by
  unfold up
  simp only [List.mem_map, List.mem_range]
  constructor
  · rintro ⟨i, hi, rfl⟩; omega
  · rintro ⟨h1, h2⟩; exact ⟨t.toNat, by omega, by omega⟩
theorem up_get {n : Nat} {t : Int} (h : t ∈ up n) : (up n)[t.toNat]? = some t := by
  have := mem_up.mp h
  unfold up
  rw [List.getElem?_map, List.getElem?_range (by omega)]
  show some ((t.toNat : Nat) : Int) = some t
  rw [Int.toNat_of_nonneg this.1]
theorem pIx_up {n : Nat} {t : Int} (e : Int → PD) (h : t ∈ up n) : pIx (.list ((up n).map e)) (.int t) = .ok (e t) := by
  have h1 := mem_up.mp h
  have := pIx_nat e (up n) t.toNat t (up_get h)
  rw [Int.toNat_of_nonneg h1.1] at this
  exact this
theorem iRg1_n {d : Type} {e : Env → d → R (PD × d)} {ρ : Env} {s s' : d} {n : Nat} (h : e ρ s = .ok (.int n, s')) (hn : n ≤ 1000000) : iRg1 (aCons e aNil) ρ s = .ok ((List.range n).map fun (k : Nat) => PyData.int (k : Int), s') := by
  unfold iRg1
  rw [ev_a1 h, bnd_ok]
  show (if in62 (n : Int) = true then R.ok (rngL 0 1 ((n : Int)).toNat, s') else R.bad) = _
  rw [if_pos (in62_ok (by omega) (by omega)), rngL_01, List.map_map, Int.toNat_natCast]
  rfl
theorem enumD_map {a : Type} (e : a → PD) (z : a) (l : List a) : enumD 0 (l.map e) = (List.range l.length).map fun (k : Nat) => PyData.tuple [.int (k : Int), e (l.getD k z)] := by
  apply List.ext_getElem?
  intro i
  by_cases hi : i < l.length
  · cases h : (enumD 0 (l.map e))[i]? with
    | none =>
      have := List.getElem?_eq_none_iff.mp h
      rw [enumD_len, List.length_map] at this
      omega
    | some d =>
      obtain ⟨x, hx, rfl⟩ := enumD_get 0 _ i d h
      rw [List.getElem?_map, List.getElem?_range hi]
      rw [List.getElem?_map, List.getElem?_eq_getElem hi] at hx
      simp only [Option.map_some, Option.some.injEq] at hx ⊢
      rw [← hx, List.getD_eq_getElem?_getD, List.getElem?_eq_getElem hi]
      simp
  · rw [List.getElem?_eq_none (by rw [enumD_len, List.length_map]; omega), List.getElem?_eq_none (by rw [List.length_map, List.length_range]; omega)]
/-! ### the least cost, the best thresholds -/
theorem lcs_mn {T : List Th} (g : GoodT T) (a b : Int) : mnI ((up 101).map (cst T a b)) = lcs T a b := by
  obtain ⟨t, t0, t1, e, _⟩ := lcs_mem g a b
  refine mnI_eq ?_ fun y hy => ?_
  · rw [e]; exact List.mem_map.mpr ⟨t, mem_up.mpr ⟨t0, by omega⟩, rfl⟩
  · obtain ⟨u, hu, rfl⟩ := List.mem_map.mp hy
    exact lcs_le g (mem_up.mp hu).1
def bths (T : List Th) (a b : Int) : List Int := (up 101).filter fun t => decide (cst T a b t = mnI ((up 101).map (cst T a b)))
theorem up_ne {n : Nat} (h : 0 < n) {b : Type} (f : Int → b) : (up n).map f ≠ [] := fun z => by
  have := congrArg List.length z
  rw [List.length_map, up_len] at this
  simp at this; omega
theorem bths_ev {d : Type} {ρ : Env} {s : d} {T : List Th} {a b : Int} {i j : Nat} (h : ∀ t : Int, cVar i (((wipeD ρ [j]).set j (some (.int t)))) s = .ok (.list (((up 101).map (cst T a b)).map PyData.int), s)) (hj : ∀ t : Int, cVar j (((wipeD ρ [j]).set j (some (.int t)))) s = .ok (.int t, s)) :
    cComp (iRg1 (aCons (cC (.int 101)) aNil)) (bNm j) [j] (cTest (cOp pEq (cOp pIx (cVar i) (cVar j)) (cCall pMin (aCons (cVar i) aNil)))) (cVar j) ρ s = .ok (.list ((bths T a b).map PyData.int), s) := by
  refine cComp_pure (up 101) PyData.int (fun t => decide (cst T a b t = mnI ((up 101).map (cst T a b)))) PyData.int (iRg1_up 101 (by decide)) (by rw [up_len]; decide) fun t ht => ⟨_, rfl, ev_test (ev_op (ev_op (h t) (hj t) ?_) (ev_call (ev_a1 (h t)) (pMin_l (up_ne (by decide) _))) (pEq_i _ _)), fun _ => ⟨hj t, rfl⟩⟩
  rw [List.map_map]
  exact pIx_up _ ht
theorem m_best_thresholds_eq {T : List Th} (g : GoodT T) {a b : Int} (h : 0 ≤ a ∧ a ≤ 1000) (k : 0 ≤ b ∧ b ≤ 1000) : m_best_thresholds [encT T, .int a, .int b] = .ok (.list ((bths T a b).map PyData.int)) := by
  refine mBody_of (ev_check (ev_callF (s1 := ()) rfl (m_check_things_eq g)) (ev_check (ev_callF (s1 := ()) rfl (m_check_costs_eq h k)) (ev_let (s1 := ()) (v := .list (((up 101).map (cst T a b)).map PyData.int)) ?_ (ret_of (bths_ev (fun _ => rfl) (fun _ => rfl)) rfl))))
  rw [List.map_map]
  exact cComp_map (up 101) PyData.int (fun t => .int (cst T a b t)) (iRg1_up 101 (by decide)) (by rw [up_len]; decide) fun t _ => ⟨_, rfl, ev_callF rfl (m_cost_of_eq g h k t), rfl⟩
theorem m_cost_at_eq {T : List Th} (g : GoodT T) {a b t : Int} (h : 0 ≤ a ∧ a ≤ 1000) (k : 0 ≤ b ∧ b ≤ 1000) (ht : 0 ≤ t ∧ t ≤ 100) : m_cost_at [encT T, .int t, .int a, .int b] = .ok (.int (cst T a b t)) :=
  mBody_of (ev_check (ev_callF (s1 := ()) rfl (m_check_things_eq g)) (ev_check (ev_callF (s1 := ()) rfl (m_check_threshold_eq ht)) (ev_check (ev_callF (s1 := ()) rfl (m_check_costs_eq h k)) (ret_of (ev_callF rfl (m_cost_of_eq g h k t)) rfl))))
/-! ### the best points -/
def cpt (a b F : Int) (p : Pt) : Int := a * p.1 + b * (F - p.2)
def bpts (P : List Pt) (a b F : Int) : List Pt := P.filter fun p => decide (cpt a b F p = mnI (P.map (cpt a b F)))
theorem mem_bpts {P : List Pt} {a b F : Int} (hn : P ≠ []) {p : Pt} : p ∈ bpts P a b F ↔ p ∈ P ∧ ∀ q ∈ P, cpt a b F p ≤ cpt a b F q := by
  unfold bpts
  rw [List.mem_filter, decide_eq_true_eq]
  have hs := mnI_spec (l := P.map (cpt a b F)) (by simp [hn])
  constructor
  · rintro ⟨h1, h2⟩
    refine ⟨h1, fun q hq => ?_⟩
    rw [h2]
    exact hs.2 _ (List.mem_map.mpr ⟨q, hq, rfl⟩)
  · rintro ⟨h1, h2⟩
    refine ⟨h1, (mnI_eq (List.mem_map.mpr ⟨p, h1, rfl⟩) fun y hy => ?_).symm⟩
    obtain ⟨q, hq, rfl⟩ := List.mem_map.mp hy
    exact h2 q hq
theorem cpt_ev {d : Type} {ρ : Env} {s : d} {i j k m l : Nat} {a b F : Int} {p : Pt} (ha : 0 ≤ a ∧ a ≤ 1000) (hb : 0 ≤ b ∧ b ≤ 1000) (h1 : cVar i ρ s = .ok (.int a, s)) (h2 : cVar j ρ s = .ok (.int b, s)) (h3 : cVar k ρ s = .ok (.int F, s)) (h4 : cVar l ρ s = .ok (.int p.1, s)) (h5 : cVar m ρ s = .ok (.int p.2, s)) :
    cOp pAdd (cOp pMul (cVar i) (cVar l)) (cOp pMul (cVar j) (cOp pSub (cVar k) (cVar m))) ρ s = .ok (.int (cpt a b F p), s) :=
  ev_op (ev_op h1 h4 (pMul_i (by omega))) (ev_op h2 (ev_op h3 h5 (pSub_i _ _)) (pMul_i (by omega))) (pAdd_i _ _)
theorem zip_map_self {a b : Type} (f : a → b) : ∀ l : List a, l.zip (l.map f) = l.map fun x => (x, f x)
  | [] => rfl
  | x :: l => by simp [zip_map_self f l]
theorem m_best_points_eq {T : List Th} (g : GoodT T) {a b : Int} (h : 0 ≤ a ∧ a ≤ 1000) (k : 0 ≤ b ∧ b ≤ 1000) : m_best_points [encT T, .int a, .int b] = .ok (encP (bpts (pts T) a b (tr T 0))) := by
  have hpl := pts_len T
  have hsl := scs_len T
  have hg := g.l2
  refine mBody_of (ev_check (ev_callF (s1 := ()) rfl (m_check_things_eq g)) (ev_check (ev_callF (s1 := ()) rfl (m_check_costs_eq h k)) (ev_let (s1 := ()) (v := .int (tr T 0)) (ev_op (s1 := ()) (ev_callF rfl (m_counts_eq g.l1000 0)) rfl (pIx_t1 _ _ _)) (ev_let (s1 := ()) (ev_callF rfl (m_points_of_eq g.l64)) (ev_let (s1 := ()) (v := .list (((pts T).map (cpt a b (tr T 0))).map PyData.int)) ?_ (ret_of ?_ rfl))))))
  · rw [List.map_map]
    exact cComp_map (pts T) eP (fun p => .int (cpt a b (tr T 0) p)) rfl (by omega) fun p _ => ⟨_, rfl, cpt_ev h k rfl rfl rfl rfl rfl, rfl⟩
  · have := cComp_pure (d := Unit) (it := iZp (aCons (cVar 4) (aCons (cVar 5) aNil))) (b := bTup (bCons (bNm 8) (bCons (bNm 9) bNil))) (own := [8, 9]) (t := cTest (cOp pEq (cVar 9) (cCall pMin (aCons (cVar 5) aNil)))) (f := cVar 8) (ρ := [some (encT T), some (.int a), some (.int b), some (.int (tr T 0)), some (encP (pts T)), some (.list (((pts T).map (cpt a b (tr T 0))).map PyData.int)), none, none, none, none]) (s := ()) (pts T) (fun p => .tuple [eP p, .int (cpt a b (tr T 0) p)]) (fun p => decide (cpt a b (tr T 0) p = mnI ((pts T).map (cpt a b (tr T 0))))) eP ?_ (by omega) fun p _ => ⟨_, rfl, ev_test (ev_op rfl (ev_call (ev_a1 rfl) (pMin_l (by simp [pts]))) (pEq_i _ _)), fun _ => ⟨rfl, rfl⟩⟩
    · exact this
    · show R.ok (zipD ((pts T).map eP) (((pts T).map (cpt a b (tr T 0))).map PyData.int), ()) = _
      rw [zipD_map, zip_map_self, List.map_map]
      rfl
/-! ### the corners' ranges -/
def dif (p q : Pt) : Pt := (q.1 - p.1, q.2 - p.2)
def gt (C : List Pt) (k : Nat) : Pt := C.getD k (0, 0)
def bef (C : List Pt) (k : Nat) : Option Pt := if 0 < k then some (dif (gt C (k - 1)) (gt C k)) else none
def aft (C : List Pt) (k : Nat) : Option Pt := if k + 1 < C.length then some (dif (gt C k) (gt C (k + 1))) else none
def encO : Option Pt → PD
  | some p => eP p
  | none => .none
def rngT (C : List Pt) (k : Nat) : PD := .tuple [eP (gt C k), encO (bef C k), encO (aft C k)]
theorem gt_get {C : List Pt} {k : Nat} (h : k < C.length) : C[k]? = some (gt C k) := by
  unfold gt
  rw [List.getD_eq_getElem?_getD, List.getElem?_eq_getElem h]
  rfl
theorem pIx_gt {C : List Pt} {k : Nat} (h : k < C.length) : pIx (encP C) (.int (k : Int)) = .ok (eP (gt C k)) := pIx_nat eP C k _ (gt_get h)
theorem m_hull_eq {T : List Th} (g : GoodT T) : m_hull [encT T] = .ok (encP (crn (pts T))) := by
  have hpl := pts_len T
  have hsl := scs_len T
  have hg := g.l2
  exact mBody_of (ev_check (ev_callF (s1 := ()) rfl (m_check_things_eq g)) (ret_of (ev_callF (ev_a1 (ev_callF rfl (m_points_of_eq g.l64))) (m_corners_of_eq (fun p hp => by have := pts_rng g p hp; unfold Sm; omega) (by omega))) rfl))
def slp (C : List Pt) : List Pt := (C.zip (C.drop 1)).map fun p => dif p.1 p.2
theorem slp_len (C : List Pt) : (slp C).length = C.length - 1 := by
  unfold slp
  rw [List.length_map, List.length_zip, List.length_drop]; omega
theorem slp_get {C : List Pt} {k : Nat} (h : k + 1 < C.length) : (slp C)[k]? = some (dif (gt C k) (gt C (k + 1))) := by
  unfold slp
  rw [List.getElem?_map, List.getElem?_zip_eq_some (z := (gt C k, gt C (k + 1))) |>.mpr ⟨gt_get (by omega), by rw [List.getElem?_drop, Nat.add_comm]; exact gt_get h⟩]
  rfl
theorem slp_ix {C : List Pt} {k : Nat} (h : k + 1 < C.length) : pIx (encP (slp C)) (.int (k : Int)) = .ok (eP (dif (gt C k) (gt C (k + 1)))) := pIx_nat eP (slp C) k _ (slp_get h)
theorem m_cost_ranges_eq {T : List Th} (g : GoodT T) : m_cost_ranges [encT T] = .ok (.list ((List.range (crn (pts T)).length).map (rngT (crn (pts T))))) := by
  have hpl := pts_len T
  have hsl := scs_len T
  have hg := g.l2
  have hcl := crn_len (pts T)
  generalize hC : crn (pts T) = C at hcl
  refine mBody_of (ev_check (ev_callF (s1 := ()) rfl (m_check_things_eq g)) (ev_let (s1 := ()) (v := encP C) ?_ (ev_let (s1 := ()) (v := encP (slp C)) ?_ (ev_seq (s' := ()) (ρ' := [some (encT T), some (encP C), some (encP (slp C)), some (.list []), none, none, none, none]) rfl ?_))))
  · rw [← hC]
    exact ev_callF (ev_a1 (ev_callF rfl (m_points_of_eq g.l64))) (m_corners_of_eq (fun p hp => by have := pts_rng g p hp; unfold Sm; omega) (by omega))
  · unfold encP slp
    rw [List.map_map]
    refine cComp_map (C.zip (C.drop 1)) (fun p => .tuple [eP p.1, eP p.2]) (fun p => eP (dif p.1 p.2)) ?_ (by rw [List.length_zip]; omega) fun p _ => ⟨_, rfl, ev_tup (ev_aC (s2 := ()) (ev_op (s1 := ()) (ev_op (s2 := ()) rfl rfl (eP_0 _)) (ev_op (s2 := ()) rfl rfl (eP_0 _)) (pSub_i _ _)) (ev_a1 (ev_op (s1 := ()) (ev_op (s2 := ()) rfl rfl (eP_1 _)) (ev_op (s2 := ()) rfl rfl (eP_1 _)) (pSub_i _ _)))), rfl⟩
    rw [← zipD_map, List.map_drop, ← cut_1]
    rfl
  · obtain ⟨ρ', s', e, i⟩ := sForGo_inv (d := Unit) (bd := bTup (bCons (bNm 4) (bCons (bNm 5) bNil))) (body := sApp 3 (cTup (aCons (cVar 5) (aCons (cIf (cTest (cOp pGt (cVar 4) (cC (.int 0)))) (cOp pIx (cVar 2) (cOp pSub (cVar 4) (cC (.int 1)))) (cC .none)) (aCons (cIf (cTest (cOp pLt (cVar 4) (cCall pLen (aCons (cVar 2) aNil)))) (cOp pIx (cVar 2) (cVar 4)) (cC .none)) aNil)))))
      (fun (k : Nat) => PyData.tuple [.int (k : Int), eP (gt C k)]) (fun pre ρ _ => ∃ a b, ρ = [some (encT T), some (encP C), some (encP (slp C)), some (.list (pre.map (rngT C))), a, b, none, none]) (List.range C.length) [] [some (encT T), some (encP C), some (encP (slp C)), some (.list []), none, none, none, none] () ⟨none, none, rfl⟩ fun pre k q ρ s hpq hi => by
        obtain ⟨a, b, rfl⟩ := hi
        rw [List.nil_append] at hpq
        have hk : k < C.length := by
          have : k ∈ List.range C.length := by rw [hpq]; simp
          simpa using this
        have hpre : pre.length < 1000 := by
          have := congrArg List.length hpq
          rw [List.length_range, List.length_append] at this
          omega
        refine ⟨_, [some (encT T), some (encP C), some (encP (slp C)), some (.list ((pre ++ [k]).map (rngT C))), some (.int (k : Int)), some (eP (gt C k)), none, none], (), rfl, ?_, ⟨_, _, rfl⟩⟩
        have hb : cIf (cTest (cOp pGt (cVar 4) (cC (.int 0)))) (cOp pIx (cVar 2) (cOp pSub (cVar 4) (cC (.int 1)))) (cC .none) [some (encT T), some (encP C), some (encP (slp C)), some (.list (pre.map (rngT C))), some (.int (k : Int)), some (eP (gt C k)), none, none] () = .ok (encO (bef C k), ()) := by
          unfold cIf bef
          rw [ev_test (b := decide (0 < k)) (s' := ()) (ev_op (s1 := ()) rfl rfl (by rw [pGt_i]; congr 2; simp)), bnd_ok]
          by_cases h : 0 < k
          · rw [if_pos (by simpa using h), if_pos h]
            refine ev_op (s1 := ()) rfl (ev_op (s1 := ()) rfl rfl (pSub_i _ _)) ?_
            rw [show (k : Int) - 1 = ((k - 1 : Nat) : Int) by omega, slp_ix (by omega), show k - 1 + 1 = k by omega]
            rfl
          · rw [if_neg (by simpa using h), if_neg h]; rfl
        have hf : cIf (cTest (cOp pLt (cVar 4) (cCall pLen (aCons (cVar 2) aNil)))) (cOp pIx (cVar 2) (cVar 4)) (cC .none) [some (encT T), some (encP C), some (encP (slp C)), some (.list (pre.map (rngT C))), some (.int (k : Int)), some (eP (gt C k)), none, none] () = .ok (encO (aft C k), ()) := by
          unfold cIf aft
          rw [ev_test (b := decide (k + 1 < C.length)) (s' := ()) (ev_op (s1 := ()) rfl (ev_call (ev_a1 rfl) (len_encP _)) (by rw [pLt_i, slp_len]; congr 2; simp; omega)), bnd_ok]
          by_cases h : k + 1 < C.length
          · rw [if_pos (by simpa using h), if_pos h]
            exact ev_op (s1 := ()) rfl rfl (slp_ix h)
          · rw [if_neg (by simpa using h), if_neg h]; rfl
        have hdO : ∀ o, isD (encO o) = true := fun o => by cases o <;> rfl
        have ht := ev_tup (ev_aC (s1 := ()) (s2 := ()) (a := cVar 5) (x := eP (gt C k)) rfl (ev_aC (s1 := ()) (s2 := ()) hb (ev_a1 (s1 := ()) hf))) (by simp [allD, isD_eP, hdO])
        refine (ev_app rfl ht rfl (by rw [List.length_map]; omega)).trans ?_
        rw [List.map_append]
        rfl
    obtain ⟨a, b, rfl⟩ := i
    refine ev_seq (ev_for (s' := ()) ?_ e) rfl
    show R.ok (enumD 0 (C.map eP), ()) = _
    rw [enumD_map eP (0, 0)]
    rfl
/-! ### a corner is best exactly if its steps say so -/
def low (a b : Int) (o : Option Pt) : Bool := match o with
  | some d => decide (a * d.1 ≤ b * d.2)
  | none => true
def high (a b : Int) (o : Option Pt) : Bool := match o with
  | some d => decide (b * d.2 ≤ a * d.1)
  | none => true
theorem split2 {C : List Pt} {k : Nat} (h : k + 1 < C.length) : ∃ x y, C = x ++ gt C k :: gt C (k + 1) :: y := by
  refine ⟨C.take k, C.drop (k + 2), ?_⟩
  have h1 : C.drop k = gt C k :: C.drop (k + 1) := by
    rw [List.drop_eq_getElem_cons (by omega)]
    congr 1
    have := gt_get (C := C) (k := k) (by omega)
    rw [List.getElem?_eq_getElem (by omega)] at this
    exact Option.some.inj this
  have h2 : C.drop (k + 1) = gt C (k + 1) :: C.drop (k + 2) := by
    rw [List.drop_eq_getElem_cons (by omega)]
    congr 1
    have := gt_get (C := C) (k := k + 1) (by omega)
    rw [List.getElem?_eq_getElem (by omega)] at this
    exact Option.some.inj this
  rw [← h2, ← h1, List.take_append_drop]
theorem pw_tot {l : List Pt} (h : l.Pairwise Up) : ∀ a ∈ l, ∀ q ∈ l, UpE q a ∨ Up a q := by
  induction l with
  | nil => intro a ha; cases ha
  | cons x l ih =>
    intro a ha q hq
    have hl' := List.pairwise_cons.mp h
    rcases List.mem_cons.mp ha with ea | ea
    · rcases List.mem_cons.mp hq with eq | eq
      · exact .inl (.inl (by rw [ea, eq]))
      · exact .inr (by rw [ea]; exact hl'.1 q eq)
    · rcases List.mem_cons.mp hq with eq | eq
      · exact .inl (.inr (by rw [eq]; exact hl'.1 a ea))
      · exact ih hl'.2 a ea q eq
theorem pw_first {l : List Pt} (h : l.Pairwise Up) {p : Pt} (e : l.head? = some p) : ∀ q ∈ l, UpE p q := by
  cases l with
  | nil => cases e
  | cons x l =>
    injection e with e
    subst e
    intro q hq
    rcases List.mem_cons.mp hq with z | z
    · exact .inl z.symm
    · exact .inr ((List.pairwise_cons.mp h).1 q z)
theorem pw_last {l : List Pt} (h : l.Pairwise Up) {p : Pt} (e : l.getLast? = some p) : ∀ q ∈ l, UpE q p := by
  intro q hq
  have hn : l ≠ [] := fun z => by rw [z] at hq; cases hq
  have hl : p = l.getLast hn := by
    rw [List.getLast?_eq_some_getLast hn] at e
    injection e with e
    exact e.symm
  rw [← List.dropLast_concat_getLast hn] at hq h
  rcases List.mem_append.mp hq with z | z
  · refine .inr ?_
    rw [hl]
    exact (List.pairwise_append.mp h).2.2 q z _ (by simp)
  · simp only [List.mem_cons, List.not_mem_nil, or_false] at z
    rw [hl]; exact .inl z
theorem UpE.anti {p q : Pt} (h : UpE p q) (k : Up q p) : False := by
  rcases h with e | e
  · exact k.2.2 e.symm
  · exact (e.trans k).2.2 rfl
theorem gt_mem {C : List Pt} {k : Nat} (h : k < C.length) : gt C k ∈ C := by
  have := gt_get h
  exact List.mem_of_getElem? this
theorem corner_best {P C : List Pt} (hp : P.Pairwise Up) (H : Hull P C) {a b F : Int} (ha : 0 ≤ a) (hb : 0 ≤ b) {k : Nat} (hk : k < C.length) : (low a b (bef C k) && high a b (aft C k)) = true ↔ gt C k ∈ P ∧ ∀ q ∈ P, cpt a b F (gt C k) ≤ cpt a b F q := by
  have hm : gt C k ∈ P := H.mem (gt_mem hk)
  constructor
  · intro h
    rw [Bool.and_eq_true] at h
    refine ⟨hm, fun q hq => ?_⟩
    rcases pw_tot hp (gt C k) hm q hq with e | e
    · rcases e with e | e
      · rw [e]; exact Int.le_refl _
      · -- before it
        have hk0 : 0 < k := by
          by_cases z : 0 < k
          · exact z
          · have z' : k = 0 := by omega
            subst z'
            have h1 : P.head? = some (gt C 0) := by
              rw [← H.hd, List.head?_eq_getElem?]
              exact gt_get hk
            exact ((pw_first hp h1 q hq).anti e).elim
        have hl := h.1
        unfold low bef at hl
        rw [if_pos hk0] at hl
        simp only [decide_eq_true_eq] at hl
        obtain ⟨x, y, es⟩ := split2 (C := C) (k := k - 1) (by omega)
        rw [show k - 1 + 1 = k by omega] at es
        obtain ⟨u, hu⟩ := H.edge es
        have ht := hu q hq
        unfold dif at hl
        have := slope_le (u1 := a) (u2 := b) (v1 := (gt C k).2 - (gt C (k - 1)).2) (v2 := (gt C k).1 - (gt C (k - 1)).1) (w1 := (gt C k).2 - q.2) (w2 := (gt C k).1 - q.1) ha hb e.y e.x u.y u.x (by rcases u.nz with z | z; exact .inr z; exact .inl z) hl (by unfold turn at ht; grind)
        unfold cpt; grind
    · -- behind it
      have hk1 : k + 1 < C.length := by
        by_cases z : k + 1 < C.length
        · exact z
        · have z' : k = C.length - 1 := by omega
          have h1 : P.getLast? = some (gt C k) := by
            rw [← H.lst, List.getLast?_eq_getElem?, ← z']
            exact gt_get hk
          exact ((pw_last hp h1 q hq).anti e).elim
      have hl := h.2
      unfold high aft at hl
      rw [if_pos hk1] at hl
      simp only [decide_eq_true_eq] at hl
      obtain ⟨x, y, es⟩ := split2 hk1
      obtain ⟨u, hu⟩ := H.edge es
      have ht := hu q hq
      unfold dif at hl
      have := slope_le (u1 := b) (u2 := a) (v1 := (gt C (k + 1)).1 - (gt C k).1) (v2 := (gt C (k + 1)).2 - (gt C k).2) (w1 := q.1 - (gt C k).1) (w2 := q.2 - (gt C k).2) hb ha e.x e.y u.x u.y u.nz hl (by unfold turn at ht; grind)
      unfold cpt; grind
  · rintro ⟨_, h⟩
    rw [Bool.and_eq_true]
    constructor
    · unfold low bef
      by_cases hk0 : 0 < k
      · rw [if_pos hk0]
        simp only [decide_eq_true_eq]
        have := h (gt C (k - 1)) (H.mem (gt_mem (by omega)))
        unfold cpt at this
        unfold dif
        grind
      · rw [if_neg hk0]
    · unfold high aft
      by_cases hk1 : k + 1 < C.length
      · rw [if_pos hk1]
        simp only [decide_eq_true_eq]
        have := h (gt C (k + 1)) (H.mem (gt_mem (by omega)))
        unfold cpt at this
        unfold dif
        grind
      · rw [if_neg hk1]
/-- some corner is best -/
theorem some_corner {C : List Pt} (hn : 0 < C.length) (a b : Int) : ∃ k, k < C.length ∧ (low a b (bef C k) && high a b (aft C k)) = true := by
  have key : ∀ j k, j + k = C.length - 1 → low a b (bef C k) = true → ∃ m, m < C.length ∧ (low a b (bef C m) && high a b (aft C m)) = true := by
    intro j
    induction j with
    | zero =>
      intro k hk hl
      refine ⟨k, by omega, ?_⟩
      rw [hl]
      unfold high aft
      rw [if_neg (by omega)]
      rfl
    | succ j ih =>
      intro k hk hl
      cases hh : high a b (aft C k) with
      | true => exact ⟨k, by omega, by rw [hl, hh]; rfl⟩
      | false =>
        refine ih (k + 1) (by omega) ?_
        unfold high aft at hh
        rw [if_pos (by omega)] at hh
        simp only [decide_eq_false_iff_not] at hh
        unfold low bef
        rw [if_pos (by omega)]
        simp only [decide_eq_true_eq, Nat.add_sub_cancel]
        omega
  exact key (C.length - 1) 0 (by omega) rfl
theorem rng_gt (P : List Pt) : (List.range P.length).map (gt P) = P := by
  apply List.ext_getElem?
  intro i
  by_cases hi : i < P.length
  · rw [List.getElem?_map, List.getElem?_range hi, gt_get hi]; rfl
  · rw [List.getElem?_eq_none (by rw [List.length_map, List.length_range]; omega), List.getElem?_eq_none (by omega)]
theorem filter_rng (P : List Pt) (p : Pt → Bool) : ((List.range P.length).filter fun k => p (gt P k)).map (gt P) = P.filter p := by
  conv => rhs; rw [← rng_gt P]
  rw [List.filter_map]
  rfl
end DL

/-! F1: fractions -/
namespace DL
open PySem PySem.Spec PyProof.Rows L2
local macro_rules | `(tactic| walk_at "ev") => `(tactic| simp only [szL, Nat.reduceLeDiff, mBody, mBodyD, outP, outD, cVar, cC, cOp, cUn, cTest, cAndT, cOrT, cNotT, cAndV, cOrV, cIf, aNil, aCons, cTup, cLst, cSl, oNone, oSome, cCall, cCallF, cCallD, cMeth, noX', isL_list, isL_encP, tYesD, bnd_ok, bnd_exc, bnd_bad, lft_ok, lft_exc, lft_bad, isOk_ok, isOk_exc, isOk_bad, isD_int, isD_bool, isD_none, isD_str, isD_list, isD_tuple, isD_eP, isD_eT, isD_encP, isD_encT, allD, List.all_cons, List.all_nil, Bool.and_self, Bool.and_true, Bool.true_and, if_true, if_false, Bool.false_eq_true, ite_true, ite_false, reduceIte, List.length_cons, List.length_nil, List.map_cons, List.map_nil, List.cons_append, List.nil_append, List.replicate_succ, List.replicate_zero, List.getElem?_cons_zero, List.getElem?_cons_succ, List.set_cons_zero, List.set_cons_succ, wipeD, sSeq, sSet, sAsg, sRet, sIf, sExpr, sNil, sRaise, sSetF, sApp, sAug, sAugL, sPar, sPar3, fLst, bNm, bTup, bCons, bNil, pNot, pIsi, isiT, tyN, pNeg, Nat.reduceAdd, decide_true, decide_false, Bool.not_true, Bool.not_false, noX_ok, pLe_i, pLt_i, pGt_i, pGe_i, pAdd_i, pSub_i, pLen_l, pLen_t, pIx_t0, pIx_t1, pEq_i, pNe_i])
local macro_rules | `(tactic| walk_at "evs") => `(tactic| simp [szL, mBody, mBodyD, outP, outD, cVar, cC, cOp, cUn, cTest, cAndT, cOrT, cNotT, cAndV, cOrV, cIf, aNil, aCons, cTup, cLst, cSl, oNone, oSome, cCall, cCallF, cCallD, cMeth, noX', isL_list, isL_encP, tYesD, bnd_ok, bnd_exc, bnd_bad, lft_ok, lft_exc, lft_bad, isOk_ok, isOk_exc, isOk_bad, isD_int, isD_bool, isD_none, isD_str, isD_list, isD_tuple, isD_eP, isD_eT, isD_encP, isD_encT, allD, List.all_cons, List.all_nil, List.map_cons, List.map_nil, List.cons_append, List.nil_append, List.replicate_succ, List.replicate_zero, List.getElem?_cons_zero, List.getElem?_cons_succ, List.set_cons_zero, List.set_cons_succ, wipeD, sSeq, sSet, sAsg, sRet, sIf, sExpr, sNil, sRaise, sSetF, sApp, sAug, sAugL, sPar, sPar3, fLst, bNm, bTup, bCons, bNil, pNot, pIsi, isiT, tyN, pNeg, noX_ok, pLe_i, pLt_i, pGt_i, pGe_i, pAdd_i, pSub_i, pLen_l, pLen_t, pIx_t0, pIx_t1, pEq_i, pNe_i])
local macro_rules | `(tactic| walk_at "evx") => `(tactic| simp [szL, mBody, mBodyD, outP, outD, cVar, cC, cOp, cUn, cTest, cAndT, cOrT, cNotT, cAndV, cOrV, cIf, aNil, aCons, cTup, cLst, cSl, oNone, oSome, cCall, cCallF, cCallD, cMeth, noX', isL_list, isL_encP, tYesD, bnd_ok, bnd_exc, bnd_bad, lft_ok, lft_exc, lft_bad, isOk_ok, isOk_exc, isOk_bad, isD_int, isD_bool, isD_none, isD_str, isD_list, isD_tuple, isD_eP, isD_eT, isD_encP, isD_encT, allD, List.all_cons, List.all_nil, List.map_cons, List.map_nil, List.cons_append, List.nil_append, List.replicate_succ, List.replicate_zero, List.getElem?_cons_zero, List.getElem?_cons_succ, List.set_cons_zero, List.set_cons_succ, wipeD, sSeq, sSet, sAsg, sRet, sIf, sExpr, sNil, sRaise, sSetF, sApp, sAug, sAugL, sPar, sPar3, fLst, bNm, bTup, bCons, bNil, pNot, pIsi, isiT, tyN, pNeg, noX_ok, pLe_i, pLt_i, pGt_i, pGe_i, pAdd_i, pSub_i, pLen_l, pLen_t, pIx_t0, pIx_t1, pEq_i, pNe_i, *])
/-! ### the greatest common divisor -/
theorem gcd_step {a b : Int} (ha : 0 ≤ a) (hb : 0 < b) : Int.gcd b (a % b) = Int.gcd a b := by
  have e : (a % b).natAbs = a.natAbs % b.natAbs := by
    have h1 : a = (a.natAbs : Int) := by omega
    have h2 : b = (b.natAbs : Int) := by omega
    rw [h1, h2, ← Int.natCast_emod, Int.natAbs_natCast, Int.natAbs_natCast, Int.natAbs_natCast]
  show Nat.gcd b.natAbs (a % b).natAbs = Nat.gcd a.natAbs b.natAbs
  rw [e, Nat.gcd_comm a.natAbs, Nat.gcd_rec b.natAbs a.natAbs, Nat.gcd_comm]
theorem gcd_loop {i j : Nat} (mk : Int → Int → Env) (h1 : ∀ a b, cVar i (mk a b) () = .ok (.int a, ())) (h2 : ∀ a b, cVar j (mk a b) () = .ok (.int b, ())) (h3 : ∀ a b x y, ((mk a b).set i (some (.int x))).set j (some (.int y)) = mk x y) : ∀ (n : Nat) (a b : Int), 0 ≤ a → 0 ≤ b → b.natAbs + 2 ≤ n →
    sWhGo (cTest (cOp pNe (cVar j) (cC (.int 0)))) (sPar i j (aCons (cVar j) (aCons (cOp pMod (cVar i) (cVar j)) aNil))) n (mk a b) () = .ok (.nx (mk (Int.gcd a b : Int) 0), ())
  | 0, _, _, _, _, h => by omega
  | n + 1, a, b, ha, hb, h => by
    unfold sWhGo
    rw [ev_test (b := !decide (b = 0)) (s' := ()) (ev_op (s1 := ()) (h2 a b) rfl (pNe_i _ _)), bnd_ok]
    by_cases hz : b = 0
    · subst hz
      rw [if_neg (by simp)]
      have : (Int.gcd a 0 : Int) = a := by rw [Int.gcd_zero_right]; omega
      rw [this]
    · have hb' : 0 < b := by omega
      rw [if_pos (by simp [hz])]
      have hbody : sPar i j (aCons (cVar j) (aCons (cOp pMod (cVar i) (cVar j)) aNil)) (mk a b) () = .ok (.nx (mk b (a % b)), ()) := by
        unfold sPar
        rw [ev_aC (s2 := ()) (h2 a b) (ev_a1 (ev_op (s1 := ()) (z := .int (a % b)) (h1 a b) (h2 a b) (by show (if 0 < b then _ else _) = _; rw [if_pos hb']))), bnd_ok]
        dsimp only
        rw [h3]
      rw [hbody]
      dsimp only
      have hm1 := Int.emod_nonneg a (by omega : b ≠ 0)
      have hm2 := Int.emod_lt_of_pos a hb'
      rw [gcd_loop mk h1 h2 h3 n b (a % b) hb hm1 (by omega), gcd_step ha hb']
theorem pAbs_i (i : Int) : pAbs [.int i] = .ok (.int (i.natAbs : Int)) := by
  show R.ok (PyData.int (if i < 0 then -i else i)) = _
  congr 2
  split <;> omega
theorem m_common_eq (a b : Int) : m_common [.int a, .int b] = .ok (.int (Int.gcd a b : Int)) := by
  refine mBody_of ?_
  unfold b_common
  refine ev_seq (s' := ()) (ρ' := [some (.int (a.natAbs : Int)), some (.int (b.natAbs : Int))]) ?_ ?_
  · unfold sPar
    rw [ev_aC (s2 := ()) (ev_call (s1 := ()) (ev_a1 rfl) (pAbs_i a)) (ev_a1 (ev_call (s1 := ()) (ev_a1 rfl) (pAbs_i b)))]
    rfl
  · refine ev_seq (s' := ()) (ρ' := [some (.int (Int.gcd a b : Int)), some (.int 0)]) ?_ rfl
    unfold sWhile
    have := gcd_loop (i := 0) (j := 1) (fun a b => [some (.int a), some (.int b)]) (fun _ _ => rfl) (fun _ _ => rfl) (fun _ _ _ _ => rfl) (fuInt 1 [some (.int (a.natAbs : Int)), some (.int (b.natAbs : Int))]) a.natAbs b.natAbs (by omega) (by omega) (by show _ ≤ ((b.natAbs : Int)).natAbs + 2; omega)
    rw [this]
    have e : Int.gcd (a.natAbs : Int) (b.natAbs : Int) = Int.gcd a b := by
      show Nat.gcd ((a.natAbs : Int)).natAbs ((b.natAbs : Int)).natAbs = Nat.gcd a.natAbs b.natAbs
      rw [Int.natAbs_natCast, Int.natAbs_natCast]
    rw [e]
/-! ### lowest terms -/
def lowQ (n d : Int) : Pt := (n / (Int.gcd n d : Int), d / (Int.gcd n d : Int))
theorem gcd_pos' {n d : Int} (h : 0 < d) : 0 < (Int.gcd n d : Int) := by
  have : 0 < Int.gcd n d := Int.gcd_pos_of_ne_zero_right _ (by omega)
  omega
theorem gcd_le' {n d : Int} (h : 0 < d) : (Int.gcd n d : Int) ≤ d := Int.le_of_dvd h (Int.gcd_dvd_right ..)
theorem pDiv_i {i j : Int} (h : 0 < j) (k : j < 1073741824) : pDiv (.int i) (.int j) = .ok (.int (i / j)) := by
  show (if decide (0 < j) && decide (j < 1073741824) then _ else _) = _
  rw [decide_eq_true h, decide_eq_true k]
  rfl
theorem m_lowest_eq {n d : Int} (h : 0 < d) (k : d < 1073741824) : m_lowest [.int n, .int d] = .ok (eP (lowQ n d)) := by
  refine mBody_of ?_
  unfold b_lowest
  have hg := gcd_pos' (n := n) h
  have hl := gcd_le' (n := n) h
  refine ev_seq (s' := ()) (ev_if_f (s' := ()) (ev_test (ev_op (s1 := ()) rfl rfl (by rw [pLt_i, decide_eq_false (by omega)]))) rfl) (ev_let (s1 := ()) (ev_callF rfl (m_common_eq n d)) (ret_of (ev_tup (ev_aC (s2 := ()) (ev_op (s1 := ()) rfl rfl (pDiv_i hg (by omega))) (ev_a1 (ev_op (s1 := ()) rfl rfl (pDiv_i hg (by omega)))))) rfl))
theorem m__law_low_eq {n d : Int} (h : 0 < d) (k : d < 1073741824) : m__law_low [.int n, .int d] = .ok (eP (lowQ n d)) := by
  refine mBody_of ?_
  unfold b__law_low
  have hg := gcd_pos' (n := n) h
  have hl := gcd_le' (n := n) h
  refine ev_seq (s' := ()) (ρ' := [some (.int n), some (.int d), some (.int (n.natAbs : Int)), some (.int d)]) ?_ ?_
  · unfold sPar
    rw [ev_aC (s2 := ()) (ev_call (s1 := ()) (ev_a1 rfl) (pAbs_i n)) (ev_a1 rfl)]
    rfl
  · refine ev_seq (s' := ()) (ρ' := [some (.int n), some (.int d), some (.int (Int.gcd n d : Int)), some (.int 0)]) ?_ ?_
    · unfold sWhile
      have := gcd_loop (i := 2) (j := 3) (fun a b => [some (.int n), some (.int d), some (.int a), some (.int b)]) (fun _ _ => rfl) (fun _ _ => rfl) (fun _ _ _ _ => rfl) (fuInt 3 [some (.int n), some (.int d), some (.int (n.natAbs : Int)), some (.int d)]) n.natAbs d (by omega) (by omega) (by show _ ≤ d.natAbs + 2; omega)
      rw [this]
      have e : Int.gcd (n.natAbs : Int) d = Int.gcd n d := by
        show Nat.gcd ((n.natAbs : Int)).natAbs d.natAbs = Nat.gcd n.natAbs d.natAbs
        rw [Int.natAbs_natCast]
      rw [e]
    · exact ret_of (ev_tup (ev_aC (s2 := ()) (ev_op (s1 := ()) rfl rfl (pDiv_i hg (by omega))) (ev_a1 (ev_op (s1 := ()) rfl rfl (pDiv_i hg (by omega)))))) rfl
def IsLow (p : Pt) : Prop := 0 < p.2 ∧ Int.gcd p.1 p.2 = 1
theorem lowQ_val {n d : Int} (h : 0 < d) : n = (lowQ n d).1 * (Int.gcd n d : Int) ∧ d = (lowQ n d).2 * (Int.gcd n d : Int) := by
  unfold lowQ
  exact ⟨(Int.ediv_mul_cancel (Int.gcd_dvd_left ..)).symm, (Int.ediv_mul_cancel (Int.gcd_dvd_right ..)).symm⟩
theorem lowQ_low {n d : Int} (h : 0 < d) : IsLow (lowQ n d) := by
  have hg := gcd_pos' (n := n) h
  refine ⟨?_, ?_⟩
  · show 0 < d / (Int.gcd n d : Int)
    exact Int.ediv_pos_of_pos_of_dvd h (by omega) (Int.gcd_dvd_right ..)
  · show Int.gcd (n / (Int.gcd n d : Int)) (d / (Int.gcd n d : Int)) = 1
    exact Int.gcd_ediv_gcd_ediv_gcd (by omega)
def EqQ (p q : Pt) : Prop := p.1 * q.2 = q.1 * p.2
theorem dvd_cop {a b c : Int} (h : b ∣ a * c) (g : Int.gcd a b = 1) : b ∣ c := by
  rw [← Int.natAbs_dvd_natAbs] at h ⊢
  rw [Int.natAbs_mul] at h
  have g' : Nat.Coprime b.natAbs a.natAbs := by
    show Nat.gcd b.natAbs a.natAbs = 1
    rw [Nat.gcd_comm]; exact g
  exact g'.dvd_of_dvd_mul_left h
theorem low_unique {p q : Pt} (hp : IsLow p) (hq : IsLow q) (h : EqQ p q) : p = q := by
  unfold EqQ at h
  have c1 : p.2 ∣ q.2 := by
    have : p.2 ∣ p.1 * q.2 := ⟨q.1, by rw [h]; exact Int.mul_comm _ _⟩
    exact dvd_cop this hp.2
  have c2 : q.2 ∣ p.2 := by
    have : q.2 ∣ q.1 * p.2 := ⟨p.1, by rw [← h]; exact Int.mul_comm _ _⟩
    exact dvd_cop this hq.2
  have e2 : p.2 = q.2 := Int.dvd_antisymm (by have := hp.1; omega) (by have := hq.1; omega) c1 c2
  have e1 : p.1 = q.1 := by
    rw [e2] at h
    exact Int.eq_of_mul_eq_mul_right (by have := hq.1; omega) h
  exact Prod.ext e1 e2
/-! ### order -/
def ltQ (p q : Pt) : Bool := decide (p.1 * q.2 < q.1 * p.2)
def LeQ (p q : Pt) : Prop := p.1 * q.2 ≤ q.1 * p.2
theorem LeQ.trans {p q r : Pt} (hp : 0 < p.2) (hq : 0 < q.2) (hr : 0 < r.2) (h1 : LeQ p q) (h2 : LeQ q r) : LeQ p r := by
  unfold LeQ at *
  have e1 := Int.mul_le_mul_of_nonneg_right h1 (Int.le_of_lt hr)
  have e2 := Int.mul_le_mul_of_nonneg_right h2 (Int.le_of_lt hp)
  have e3 : q.2 * (p.1 * r.2) ≤ q.2 * (r.1 * p.2) := by grind
  exact Int.le_of_mul_le_mul_left e3 hq
theorem LeQ.anti {p q : Pt} (h1 : LeQ p q) (h2 : LeQ q p) : EqQ p q := Int.le_antisymm h1 h2
theorem LeQ.low {n d : Int} (h : 0 < d) {q : Pt} : LeQ (lowQ n d) q ↔ LeQ (n, d) q := by
  obtain ⟨e1, e2⟩ := lowQ_val (n := n) h
  have hg := gcd_pos' (n := n) h
  generalize hG : (Int.gcd n d : Int) = G at e1 e2 hg
  generalize lowQ n d = l at e1 e2 ⊢
  unfold LeQ
  show l.1 * q.2 ≤ q.1 * l.2 ↔ n * q.2 ≤ q.1 * d
  rw [e1, e2]
  constructor
  · intro h
    have := Int.mul_le_mul_of_nonneg_right h (Int.le_of_lt hg)
    grind
  · intro h
    refine Int.le_of_mul_le_mul_right (a := G) ?_ hg
    grind
theorem LeQ.low' {n d : Int} (h : 0 < d) {q : Pt} : LeQ q (lowQ n d) ↔ LeQ q (n, d) := by
  obtain ⟨e1, e2⟩ := lowQ_val (n := n) h
  have hg := gcd_pos' (n := n) h
  generalize hG : (Int.gcd n d : Int) = G at e1 e2 hg
  generalize lowQ n d = l at e1 e2 ⊢
  unfold LeQ
  show q.1 * l.2 ≤ l.1 * q.2 ↔ q.1 * d ≤ n * q.2
  rw [e1, e2]
  constructor
  · intro h
    have := Int.mul_le_mul_of_nonneg_right h (Int.le_of_lt hg)
    grind
  · intro h
    refine Int.le_of_mul_le_mul_right (a := G) ?_ hg
    grind
/-- the greater -/
def mxQ (b q : Pt) : Pt := if ltQ b q = true then q else b
theorem mxQ_spec {L : List Pt} : ∀ {b : Pt}, (∀ x ∈ b :: L, 0 < x.2) → L.foldl mxQ b ∈ b :: L ∧ ∀ x ∈ b :: L, LeQ x (L.foldl mxQ b) := by
  induction L with
  | nil =>
    intro b h
    refine ⟨by simp, fun x hx => ?_⟩
    simp at hx
    subst hx
    exact Int.le_refl _
  | cons q L ih =>
    intro b h
    have hb := h b (by simp)
    have hq := h q (by simp)
    have hm : 0 < (mxQ b q).2 := by unfold mxQ; split <;> assumption
    obtain ⟨i1, i2⟩ := ih (b := mxQ b q) fun x hx => by
      rcases List.mem_cons.mp hx with e | e
      · rw [e]; exact hm
      · exact h x (by simp [e])
    rw [List.foldl_cons]
    have hr : 0 < (L.foldl mxQ (mxQ b q)).2 := by
      rcases List.mem_cons.mp i1 with e | e
      · rw [e]; exact hm
      · exact h _ (by simp [e])
    have hmm : (mxQ b q = q ∨ mxQ b q = b) ∧ LeQ b (mxQ b q) ∧ LeQ q (mxQ b q) := by
      unfold mxQ ltQ
      by_cases c : b.1 * q.2 < q.1 * b.2
      · rw [if_pos (by simpa using c)]
        exact ⟨.inl rfl, Int.le_of_lt c, Int.le_refl _⟩
      · rw [if_neg (by simpa using c)]
        exact ⟨.inr rfl, Int.le_refl _, by unfold LeQ; omega⟩
    refine ⟨?_, fun x hx => ?_⟩
    · rcases List.mem_cons.mp i1 with e | e
      · rcases hmm.1 with z | z
        · rw [e, z]; simp
        · rw [e, z]; simp
      · exact List.mem_cons_of_mem _ (List.mem_cons_of_mem _ e)
    · have hi := i2 (mxQ b q) (by simp)
      rcases List.mem_cons.mp hx with e | e
      · rw [e]; exact hmm.2.1.trans hb hm hr hi
      · rcases List.mem_cons.mp e with e | e
        · rw [e]; exact hmm.2.2.trans hq hm hr hi
        · exact i2 x (by simp [e])
def B64 (p : Pt) : Prop := -(2 ^ 64) < p.1 ∧ p.1 < 2 ^ 64
theorem m_less_eq {p q : Pt} (hp : B64 p) (hq : B64 q) : m_less [eP p, eP q] = .ok (.bool (ltQ p q)) :=
  mBody_of (ret_of (ev_op (s1 := ()) (s2 := ()) (ev_op (s1 := ()) (ev_op (s2 := ()) rfl rfl (eP_0 _)) (ev_op (s2 := ()) rfl rfl (eP_1 _)) (pMul_i hp)) (ev_op (s1 := ()) (ev_op (s2 := ()) rfl rfl (eP_0 _)) (ev_op (s2 := ()) rfl rfl (eP_1 _)) (pMul_i hq)) (pLt_i _ _)) rfl)
theorem m__law_below_eq {p q : Pt} (hp : B64 p) (hq : B64 q) : m__law_below [eP p, eP q] = .ok (.bool (ltQ p q)) :=
  mBody_of (ret_of (ev_op (s1 := ()) (s2 := ()) (ev_op (s1 := ()) (ev_op (s2 := ()) rfl rfl (eP_0 _)) (ev_op (s2 := ()) rfl rfl (eP_1 _)) (pMul_i hp)) (ev_op (s1 := ()) (ev_op (s2 := ()) rfl rfl (eP_0 _)) (ev_op (s2 := ()) rfl rfl (eP_1 _)) (pMul_i hq)) (pLt_i _ _)) rfl)
end DL

/-! F2: heights of the hull -/
namespace DL
open PySem PySem.Spec PyProof.Rows L2
local macro_rules | `(tactic| walk_at "ev") => `(tactic| simp only [szL, Nat.reduceLeDiff, mBody, mBodyD, outP, outD, cVar, cC, cOp, cUn, cTest, cAndT, cOrT, cNotT, cAndV, cOrV, cIf, aNil, aCons, cTup, cLst, cSl, oNone, oSome, cCall, cCallF, cCallD, cMeth, noX', isL_list, isL_encP, tYesD, bnd_ok, bnd_exc, bnd_bad, lft_ok, lft_exc, lft_bad, isOk_ok, isOk_exc, isOk_bad, isD_int, isD_bool, isD_none, isD_str, isD_list, isD_tuple, isD_eP, isD_eT, isD_encP, isD_encT, allD, List.all_cons, List.all_nil, Bool.and_self, Bool.and_true, Bool.true_and, if_true, if_false, Bool.false_eq_true, ite_true, ite_false, reduceIte, List.length_cons, List.length_nil, List.map_cons, List.map_nil, List.cons_append, List.nil_append, List.replicate_succ, List.replicate_zero, List.getElem?_cons_zero, List.getElem?_cons_succ, List.set_cons_zero, List.set_cons_succ, wipeD, sSeq, sSet, sAsg, sRet, sIf, sExpr, sNil, sRaise, sSetF, sApp, sAug, sAugL, sPar, sPar3, fLst, bNm, bTup, bCons, bNil, pNot, pIsi, isiT, tyN, pNeg, Nat.reduceAdd, decide_true, decide_false, Bool.not_true, Bool.not_false, noX_ok, pLe_i, pLt_i, pGt_i, pGe_i, pAdd_i, pSub_i, pLen_l, pLen_t, pIx_t0, pIx_t1, pEq_i, pNe_i])
local macro_rules | `(tactic| walk_at "evs") => `(tactic| simp [szL, mBody, mBodyD, outP, outD, cVar, cC, cOp, cUn, cTest, cAndT, cOrT, cNotT, cAndV, cOrV, cIf, aNil, aCons, cTup, cLst, cSl, oNone, oSome, cCall, cCallF, cCallD, cMeth, noX', isL_list, isL_encP, tYesD, bnd_ok, bnd_exc, bnd_bad, lft_ok, lft_exc, lft_bad, isOk_ok, isOk_exc, isOk_bad, isD_int, isD_bool, isD_none, isD_str, isD_list, isD_tuple, isD_eP, isD_eT, isD_encP, isD_encT, allD, List.all_cons, List.all_nil, List.map_cons, List.map_nil, List.cons_append, List.nil_append, List.replicate_succ, List.replicate_zero, List.getElem?_cons_zero, List.getElem?_cons_succ, List.set_cons_zero, List.set_cons_succ, wipeD, sSeq, sSet, sAsg, sRet, sIf, sExpr, sNil, sRaise, sSetF, sApp, sAug, sAugL, sPar, sPar3, fLst, bNm, bTup, bCons, bNil, pNot, pIsi, isiT, tyN, pNeg, noX_ok, pLe_i, pLt_i, pGt_i, pGe_i, pAdd_i, pSub_i, pLen_l, pLen_t, pIx_t0, pIx_t1, pEq_i, pNe_i])
local macro_rules | `(tactic| walk_at "evx") => `(tactic| simp [szL, mBody, mBodyD, outP, outD, cVar, cC, cOp, cUn, cTest, cAndT, cOrT, cNotT, cAndV, cOrV, cIf, aNil, aCons, cTup, cLst, cSl, oNone, oSome, cCall, cCallF, cCallD, cMeth, noX', isL_list, isL_encP, tYesD, bnd_ok, bnd_exc, bnd_bad, lft_ok, lft_exc, lft_bad, isOk_ok, isOk_exc, isOk_bad, isD_int, isD_bool, isD_none, isD_str, isD_list, isD_tuple, isD_eP, isD_eT, isD_encP, isD_encT, allD, List.all_cons, List.all_nil, List.map_cons, List.map_nil, List.cons_append, List.nil_append, List.replicate_succ, List.replicate_zero, List.getElem?_cons_zero, List.getElem?_cons_succ, List.set_cons_zero, List.set_cons_succ, wipeD, sSeq, sSet, sAsg, sRet, sIf, sExpr, sNil, sRaise, sSetF, sApp, sAug, sAugL, sPar, sPar3, fLst, bNm, bTup, bCons, bNil, pNot, pIsi, isiT, tyN, pNeg, noX_ok, pLe_i, pLt_i, pGt_i, pGe_i, pAdd_i, pSub_i, pLen_l, pLen_t, pIx_t0, pIx_t1, pEq_i, pNe_i, *])
def ins (pl : Pt) (e : Pt × Pt) : Bool := decide (e.1.1 * pl.2 ≤ pl.1) && decide (pl.1 ≤ e.2.1 * pl.2)
/-- the height over a place of the line from a to b, not lowest -/
def chN (pl a b : Pt) : Int := a.2 * (b.1 - a.1) * pl.2 + (pl.1 - a.1 * pl.2) * (b.2 - a.2)
def chD (pl a b : Pt) : Int := (b.1 - a.1) * pl.2
def cand (pl : Pt) (e : Pt × Pt) : Pt := if e.2.1 - e.1.1 = 0 then (e.2.2, 1) else lowQ (chN pl e.1 e.2) (chD pl e.1 e.2)
def hofL (E : List (Pt × Pt)) (pl : Pt) : Pt := ((E.filter (ins pl)).map (cand pl)).foldl mxQ (0, 1)
def edges (C : List Pt) : List (Pt × Pt) := C.zip (C.drop 1)
def hof (C : List Pt) (pl : Pt) : Pt := hofL (edges C) pl
theorem hofL_more (E : List (Pt × Pt)) (e : Pt × Pt) (pl : Pt) : hofL (E ++ [e]) pl = if ins pl e = true then mxQ (hofL E pl) (cand pl e) else hofL E pl := by
  unfold hofL
  rw [List.filter_append]
  cases h : ins pl e with
  | true => rw [List.filter_cons_of_pos h]; simp
  | false => rw [List.filter_cons_of_neg (by simp [h])]; simp
structure OkPl (pl : Pt) : Prop where
  n : 0 ≤ pl.1
  n2 : pl.1 ≤ 12000
  d : 1 ≤ pl.2
  d2 : pl.2 ≤ 1000
/-- an edge of a rising chain in the small square -/
structure OkE (e : Pt × Pt) : Prop where
  x : 0 ≤ e.1.1
  y : 0 ≤ e.1.2
  u : e.1.1 ≤ e.2.1
  v : e.1.2 ≤ e.2.2
  x2 : e.2.1 ≤ 12
  y2 : e.2.2 ≤ 12
theorem mul_bd {a b A B : Int} (ha : 0 ≤ a) (hA : a ≤ A) (hb : 0 ≤ b) (hB : b ≤ B) : 0 ≤ a * b ∧ a * b ≤ A * B := by
  refine ⟨Int.mul_nonneg ha hb, ?_⟩
  have h1 := Int.mul_le_mul_of_nonneg_right hA hb
  have h2 := Int.mul_le_mul_of_nonneg_left hB (by omega : 0 ≤ A)
  omega
theorem chN_bd {pl : Pt} {e : Pt × Pt} (h : OkPl pl) (k : OkE e) (i : ins pl e = true) : 0 ≤ chN pl e.1 e.2 ∧ chN pl e.1 e.2 ≤ 1000000 := by
  unfold ins at i
  rw [Bool.and_eq_true, decide_eq_true_eq, decide_eq_true_eq] at i
  obtain ⟨n1, n2, d1, d2⟩ := h
  obtain ⟨x, y, u, v, x2, y2⟩ := k
  have b1 := mul_bd (a := e.1.2) (b := e.2.1 - e.1.1) (A := 12) (B := 12) y (by omega) (by omega) (by omega)
  have b2 := mul_bd (a := e.1.2 * (e.2.1 - e.1.1)) (b := pl.2) (A := 12 * 12) (B := 1000) b1.1 b1.2 (by omega) d2
  have b0 := mul_bd (a := e.1.1) (b := pl.2) (A := 12) (B := 1000) x (by omega) (by omega) d2
  have b3 := mul_bd (a := pl.1 - e.1.1 * pl.2) (b := e.2.2 - e.1.2) (A := 12000) (B := 12) (by omega) (by omega) (by omega) (by omega)
  unfold chN
  omega
theorem chD_bd {pl : Pt} {e : Pt × Pt} (h : OkPl pl) (k : OkE e) (z : ¬ e.2.1 - e.1.1 = 0) : 0 < chD pl e.1 e.2 ∧ chD pl e.1 e.2 ≤ 12000 := by
  obtain ⟨n1, n2, d1, d2⟩ := h
  obtain ⟨x, y, u, v, x2, y2⟩ := k
  have b1 := mul_bd (a := e.2.1 - e.1.1) (b := pl.2) (A := 12) (B := 1000) (by omega) (by omega) (by omega) d2
  have b2 : 0 < (e.2.1 - e.1.1) * pl.2 := Int.mul_pos (by omega) (by omega)
  unfold chD
  omega
theorem lowQ_num {n d : Int} (h : 0 < d) (hn : 0 ≤ n) : 0 ≤ (lowQ n d).1 ∧ (lowQ n d).1 ≤ n := by
  have hg := gcd_pos' (n := n) h
  unfold lowQ
  exact ⟨Int.ediv_nonneg hn (by omega), Int.ediv_le_self _ hn⟩
def Nm (p : Pt) : Prop := 0 ≤ p.1 ∧ p.1 ≤ 1000000 ∧ IsLow p
theorem Nm.b {p : Pt} (h : Nm p) : B64 p := by have := h.1; have := h.2.1; unfold B64; omega
theorem low1 (a : Int) : IsLow (a, 1) := ⟨Int.one_pos, Int.gcd_one_right ..⟩
theorem cand_nm {pl : Pt} {e : Pt × Pt} (h : OkPl pl) (k : OkE e) (i : ins pl e = true) : Nm (cand pl e) := by
  unfold cand
  by_cases z : e.2.1 - e.1.1 = 0
  · rw [if_pos z]
    have := k.y2; have := k.y; have := k.v
    exact ⟨by show 0 ≤ e.2.2; omega, by show e.2.2 ≤ _; omega, low1 _⟩
  · rw [if_neg z]
    have c1 := chN_bd h k i
    have c2 := chD_bd h k z
    have c3 := lowQ_num c2.1 c1.1
    exact ⟨c3.1, by omega, lowQ_low c2.1⟩
theorem mxQ_nm {p q : Pt} (hp : Nm p) (hq : Nm q) : Nm (mxQ p q) := by
  unfold mxQ
  split <;> assumption
theorem hofL_nm {pl : Pt} (h : OkPl pl) : ∀ E : List (Pt × Pt), (∀ e ∈ E, OkE e) → Nm (hofL E pl) := by
  suffices hs : ∀ (E : List (Pt × Pt)) (b : Pt), Nm b → (∀ e ∈ E, OkE e) → Nm (((E.filter (ins pl)).map (cand pl)).foldl mxQ b) from
    fun E hE => hs E (0, 1) ⟨by decide, by decide, low1 0⟩ hE
  intro E
  induction E with
  | nil => intro b hb _; exact hb
  | cons e E ih =>
    intro b hb hE
    cases hi : ins pl e with
    | true =>
      rw [List.filter_cons_of_pos hi, List.map_cons, List.foldl_cons]
      exact ih _ (mxQ_nm hb (cand_nm h (hE e (by simp)) hi)) fun x hx => hE x (List.mem_cons_of_mem _ hx)
    | false =>
      rw [List.filter_cons_of_neg (by simp [hi])]
      exact ih _ hb fun x hx => hE x (List.mem_cons_of_mem _ hx)
def hBody : Env → Unit → R (Fl × Unit) :=
      (sIf (cTest (cChain pLe pLe (cOp pMul (cOp pIx (cVar 3) (cC (.int 0))) (cOp pIx (cVar 1) (cC (.int 1)))) (cOp pIx (cVar 1) (cC (.int 0))) (cOp pMul (cOp pIx (cVar 4) (cC (.int 0))) (cOp pIx (cVar 1) (cC (.int 1))))))
      (sSeq (sSet 5 (cOp pSub (cOp pIx (cVar 4) (cC (.int 0))) (cOp pIx (cVar 3) (cC (.int 0)))))
      (sSeq (sIf (cTest (cOp pEq (cVar 5) (cC (.int 0))))
      (sSet 6 (cTup (aCons (cOp pIx (cVar 4) (cC (.int 1))) (aCons (cC (.int 1)) aNil))))
      (sSeq (sSet 7 (cOp pAdd (cOp pMul (cOp pMul (cOp pIx (cVar 3) (cC (.int 1))) (cVar 5)) (cOp pIx (cVar 1) (cC (.int 1)))) (cOp pMul (cOp pSub (cOp pIx (cVar 1) (cC (.int 0))) (cOp pMul (cOp pIx (cVar 3) (cC (.int 0))) (cOp pIx (cVar 1) (cC (.int 1))))) (cOp pSub (cOp pIx (cVar 4) (cC (.int 1))) (cOp pIx (cVar 3) (cC (.int 1)))))))
      (sSet 6 (cCallF 2 m_lowest (aCons (cVar 7) (aCons (cOp pMul (cVar 5) (cOp pIx (cVar 1) (cC (.int 1)))) aNil))))))
      (sSet 2 (cIf (cTest (cCallF 2 m_less (aCons (cVar 2) (aCons (cVar 6) aNil)))) (cVar 6) (cVar 2)))))
      sNil)
theorem cIf_t {d : Type} {t : Env → d → R (Bool × d)} {a b : Env → d → R (PD × d)} {ρ : Env} {s s1 : d} {r : R (PD × d)} (h : t ρ s = .ok (true, s1)) (k : a ρ s1 = r) : cIf t a b ρ s = r := by
  unfold cIf
  rw [h, bnd_ok]
  exact k
theorem cIf_f {d : Type} {t : Env → d → R (Bool × d)} {a b : Env → d → R (PD × d)} {ρ : Env} {s s1 : d} {r : R (PD × d)} (h : t ρ s = .ok (false, s1)) (k : b ρ s1 = r) : cIf t a b ρ s = r := by
  unfold cIf
  rw [h, bnd_ok]
  exact k
theorem hBody_eq {pl : Pt} (h : OkPl pl) {e : Pt × Pt} (k : OkE e) (C : Option PD) {best : Pt} (hb : Nm best) (c d f : Option PD) :
    ∃ c' d' f', hBody [C, some (eP pl), some (eP best), some (eP e.1), some (eP e.2), c, d, f] () = .ok (.nx [C, some (eP pl), some (eP (if ins pl e = true then mxQ best (cand pl e) else best)), some (eP e.1), some (eP e.2), c', d', f'], ()) := by
  obtain ⟨n1, n2, d1, d2⟩ := h
  have ok : OkPl pl := ⟨n1, n2, d1, d2⟩
  have hk := k
  obtain ⟨x, y, u, v, x2, y2⟩ := k
  have b0 := mul_bd (a := e.1.1) (b := pl.2) (A := 12) (B := 1000) x (by omega) (by omega) d2
  have ht : cTest (cChain pLe pLe (cOp pMul (cOp pIx (cVar 3) (cC (.int 0))) (cOp pIx (cVar 1) (cC (.int 1)))) (cOp pIx (cVar 1) (cC (.int 0))) (cOp pMul (cOp pIx (cVar 4) (cC (.int 0))) (cOp pIx (cVar 1) (cC (.int 1))))) [C, some (eP pl), some (eP best), some (eP e.1), some (eP e.2), c, d, f] () = .ok (ins pl e, ()) :=
    ev_test (chain_le (d := Unit) _ _ _ _ () _ _ _ (ev_op (s1 := ()) (ev_op (s2 := ()) rfl rfl (eP_0 _)) (ev_op (s2 := ()) rfl rfl (eP_1 _)) (pMul_i (by omega))) (ev_op (s2 := ()) rfl rfl (eP_0 _)) (ev_op (s1 := ()) (ev_op (s2 := ()) rfl rfl (eP_0 _)) (ev_op (s2 := ()) rfl rfl (eP_1 _)) (pMul_i (by omega))))
  unfold hBody
  cases hi : ins pl e with
  | false => exact ⟨c, d, f, ev_if_f (by rw [ht, hi]) rfl⟩
  | true =>
    have hc := cand_nm ok hk hi
    have fin : ∀ (c f : Option PD), sSet 2 (cIf (cTest (cCallF 2 m_less (aCons (cVar 2) (aCons (cVar 6) aNil)))) (cVar 6) (cVar 2)) [C, some (eP pl), some (eP best), some (eP e.1), some (eP e.2), c, some (eP (cand pl e)), f] () = .ok (.nx [C, some (eP pl), some (eP (mxQ best (cand pl e))), some (eP e.1), some (eP e.2), c, some (eP (cand pl e)), f], ()) := fun c f => by
      refine ev_set (v := eP (mxQ best (cand pl e))) ?_
      unfold mxQ
      cases hl : ltQ best (cand pl e) with
      | true => exact cIf_t (s1 := ()) (ev_test (ev_callF rfl (by rw [m_less_eq hb.b hc.b, hl]))) rfl
      | false => exact cIf_f (s1 := ()) (ev_test (ev_callF rfl (by rw [m_less_eq hb.b hc.b, hl]))) rfl
    by_cases z : e.2.1 - e.1.1 = 0
    · refine ⟨_, _, _, ev_if_t (s' := ()) (by rw [ht, hi]) (ev_let (s1 := ()) (ev_op (s1 := ()) (ev_op (s2 := ()) rfl rfl (eP_0 _)) (ev_op (s2 := ()) rfl rfl (eP_0 _)) (pSub_i _ _)) (ev_seq (s' := ()) (ρ' := [C, some (eP pl), some (eP best), some (eP e.1), some (eP e.2), some (.int (e.2.1 - e.1.1)), some (eP (cand pl e)), f]) (ev_if_t (s' := ()) (ev_test (ev_op (s1 := ()) rfl rfl (by rw [pEq_i, decide_eq_true z]))) ?_) (fin _ _)))⟩
      have hce : cand pl e = (e.2.2, 1) := by unfold cand; rw [if_pos z]
      rw [hce]
      exact ev_set (ev_tup (ev_aC (s2 := ()) (ev_op (s2 := ()) rfl rfl (eP_1 _)) (ev_a1 rfl)))
    · have c1 := chN_bd ok hk hi
      have c2 := chD_bd ok hk z
      have b1 := mul_bd (a := e.1.2) (b := e.2.1 - e.1.1) (A := 12) (B := 12) y (by omega) (by omega) (by omega)
      refine ⟨_, _, _, ev_if_t (s' := ()) (by rw [ht, hi]) (ev_let (s1 := ()) (ev_op (s1 := ()) (ev_op (s2 := ()) rfl rfl (eP_0 _)) (ev_op (s2 := ()) rfl rfl (eP_0 _)) (pSub_i _ _)) (ev_seq (s' := ()) (ρ' := [C, some (eP pl), some (eP best), some (eP e.1), some (eP e.2), some (.int (e.2.1 - e.1.1)), some (eP (cand pl e)), some (.int (chN pl e.1 e.2))]) (ev_if_f (s' := ()) (ev_test (ev_op (s1 := ()) rfl rfl (by rw [pEq_i, decide_eq_false z]))) ?_) (fin _ _)))⟩
      have hce : cand pl e = lowQ (chN pl e.1 e.2) (chD pl e.1 e.2) := by unfold cand; rw [if_neg z]
      rw [hce]
      refine ev_let (s1 := ()) (v := .int (chN pl e.1 e.2)) (ev_op (s1 := ()) (ev_op (s1 := ()) (ev_op (s1 := ()) (ev_op (s2 := ()) rfl rfl (eP_1 _)) rfl (pMul_i (by omega))) (ev_op (s2 := ()) rfl rfl (eP_1 _)) (pMul_i (by omega))) (ev_op (s1 := ()) (ev_op (s1 := ()) (ev_op (s2 := ()) rfl rfl (eP_0 _)) (ev_op (s1 := ()) (ev_op (s2 := ()) rfl rfl (eP_0 _)) (ev_op (s2 := ()) rfl rfl (eP_1 _)) (pMul_i (by omega))) (pSub_i _ _)) (ev_op (s1 := ()) (ev_op (s2 := ()) rfl rfl (eP_1 _)) (ev_op (s2 := ()) rfl rfl (eP_1 _)) (pSub_i _ _)) (pMul_i (by omega))) (pAdd_i _ _)) ?_
      exact ev_set (ev_callF (ev_aC (s2 := ()) rfl (ev_a1 (ev_op (s1 := ()) rfl (ev_op (s2 := ()) rfl rfl (eP_1 _)) (pMul_i (by omega))))) (m_lowest_eq (d := chD pl e.1 e.2) c2.1 (by omega)))
theorem zip_it {d : Type} {ρ : Env} {s : d} {i : Nat} (C : List Pt) (h : ρ[i]? = some (some (encP C))) : iZp (aCons (cVar i) (aCons (cSl pSl (cVar i) (oSome (cC (.int 1))) oNone) aNil)) ρ s = .ok ((edges C).map fun p => PyData.tuple [eP p.1, eP p.2], s) := by
  have hv : ∀ s : d, cVar i ρ s = .ok (encP C, s) := fun s => by unfold cVar; rw [h]
  have hs : cSl pSl (cVar i) (oSome (cC (.int 1))) oNone ρ s = .ok (encP (C.drop 1), s) := by
    unfold cSl
    rw [hv, bnd_ok]
    show lft (isOk (R.ok (PyData.list (cutD (C.map eP) (some 1) none)))) s = _
    rw [cut_1, ← List.map_drop]
    rfl
  unfold iZp
  rw [ev_aC (hv s) (ev_a1 hs), bnd_ok]
  show R.ok (zipD (C.map eP) ((C.drop 1).map eP), s) = _
  rw [zipD_map]
  rfl
theorem m_height_of_eq {C : List Pt} {pl : Pt} (h : OkPl pl) (hE : ∀ e ∈ edges C, OkE e) : m_height_of [encP C, eP pl] = .ok (eP (hof C pl)) := by
  refine mBody_of ?_
  unfold b_height_of
  refine ev_seq (s' := ()) (ρ' := [some (encP C), some (eP pl), some (eP (0, 1)), none, none, none, none, none]) rfl ?_
  obtain ⟨ρ', s', e, i⟩ := sForGo_inv (d := Unit) (bd := bTup (bCons (bNm 3) (bCons (bNm 4) bNil))) (body := hBody) (fun p : Pt × Pt => PyData.tuple [eP p.1, eP p.2])
    (fun pre ρ _ => ∃ a b c d f, ρ = [some (encP C), some (eP pl), some (eP (hofL pre pl)), a, b, c, d, f]) (edges C) [] [some (encP C), some (eP pl), some (eP (0, 1)), none, none, none, none, none] () ⟨_, _, _, _, _, rfl⟩ fun pre e q ρ s hpq hi => by
      obtain ⟨a, b, c, d, f, rfl⟩ := hi
      rw [List.nil_append] at hpq
      have hnm := hofL_nm h pre fun x hx => hE x (by rw [hpq]; exact List.mem_append_left _ hx)
      obtain ⟨c', d', f', hb⟩ := hBody_eq h (hE e (by rw [hpq]; simp)) (some (encP C)) hnm c d f
      refine ⟨_, _, (), rfl, hb, ⟨some (eP e.1), some (eP e.2), c', d', f', ?_⟩⟩
      rw [hofL_more]
  obtain ⟨a, b, c, d, f, rfl⟩ := i
  exact ev_seq (ev_for (s' := ()) (zip_it C rfl) e) rfl
end DL

/-! F3: the hull's heights are the greatest -/
namespace DL
open PySem PySem.Spec PyProof.Rows L2
local macro_rules | `(tactic| walk_at "ev") => `(tactic| simp only [szL, Nat.reduceLeDiff, mBody, mBodyD, outP, outD, cVar, cC, cOp, cUn, cTest, cAndT, cOrT, cNotT, cAndV, cOrV, cIf, aNil, aCons, cTup, cLst, cSl, oNone, oSome, cCall, cCallF, cCallD, cMeth, noX', isL_list, isL_encP, tYesD, bnd_ok, bnd_exc, bnd_bad, lft_ok, lft_exc, lft_bad, isOk_ok, isOk_exc, isOk_bad, isD_int, isD_bool, isD_none, isD_str, isD_list, isD_tuple, isD_eP, isD_eT, isD_encP, isD_encT, allD, List.all_cons, List.all_nil, Bool.and_self, Bool.and_true, Bool.true_and, if_true, if_false, Bool.false_eq_true, ite_true, ite_false, reduceIte, List.length_cons, List.length_nil, List.map_cons, List.map_nil, List.cons_append, List.nil_append, List.replicate_succ, List.replicate_zero, List.getElem?_cons_zero, List.getElem?_cons_succ, List.set_cons_zero, List.set_cons_succ, wipeD, sSeq, sSet, sAsg, sRet, sIf, sExpr, sNil, sRaise, sSetF, sApp, sAug, sAugL, sPar, sPar3, fLst, bNm, bTup, bCons, bNil, pNot, pIsi, isiT, tyN, pNeg, Nat.reduceAdd, decide_true, decide_false, Bool.not_true, Bool.not_false, noX_ok, pLe_i, pLt_i, pGt_i, pGe_i, pAdd_i, pSub_i, pLen_l, pLen_t, pIx_t0, pIx_t1, pEq_i, pNe_i])
local macro_rules | `(tactic| walk_at "evs") => `(tactic| simp [szL, mBody, mBodyD, outP, outD, cVar, cC, cOp, cUn, cTest, cAndT, cOrT, cNotT, cAndV, cOrV, cIf, aNil, aCons, cTup, cLst, cSl, oNone, oSome, cCall, cCallF, cCallD, cMeth, noX', isL_list, isL_encP, tYesD, bnd_ok, bnd_exc, bnd_bad, lft_ok, lft_exc, lft_bad, isOk_ok, isOk_exc, isOk_bad, isD_int, isD_bool, isD_none, isD_str, isD_list, isD_tuple, isD_eP, isD_eT, isD_encP, isD_encT, allD, List.all_cons, List.all_nil, List.map_cons, List.map_nil, List.cons_append, List.nil_append, List.replicate_succ, List.replicate_zero, List.getElem?_cons_zero, List.getElem?_cons_succ, List.set_cons_zero, List.set_cons_succ, wipeD, sSeq, sSet, sAsg, sRet, sIf, sExpr, sNil, sRaise, sSetF, sApp, sAug, sAugL, sPar, sPar3, fLst, bNm, bTup, bCons, bNil, pNot, pIsi, isiT, tyN, pNeg, noX_ok, pLe_i, pLt_i, pGt_i, pGe_i, pAdd_i, pSub_i, pLen_l, pLen_t, pIx_t0, pIx_t1, pEq_i, pNe_i])
local macro_rules | `(tactic| walk_at "evx") => `(tactic| simp [szL, mBody, mBodyD, outP, outD, cVar, cC, cOp, cUn, cTest, cAndT, cOrT, cNotT, cAndV, cOrV, cIf, aNil, aCons, cTup, cLst, cSl, oNone, oSome, cCall, cCallF, cCallD, cMeth, noX', isL_list, isL_encP, tYesD, bnd_ok, bnd_exc, bnd_bad, lft_ok, lft_exc, lft_bad, isOk_ok, isOk_exc, isOk_bad, isD_int, isD_bool, isD_none, isD_str, isD_list, isD_tuple, isD_eP, isD_eT, isD_encP, isD_encT, allD, List.all_cons, List.all_nil, List.map_cons, List.map_nil, List.cons_append, List.nil_append, List.replicate_succ, List.replicate_zero, List.getElem?_cons_zero, List.getElem?_cons_succ, List.set_cons_zero, List.set_cons_succ, wipeD, sSeq, sSet, sAsg, sRet, sIf, sExpr, sNil, sRaise, sSetF, sApp, sAug, sAugL, sPar, sPar3, fLst, bNm, bTup, bCons, bNil, pNot, pIsi, isiT, tyN, pNeg, noX_ok, pLe_i, pLt_i, pGt_i, pGe_i, pAdd_i, pSub_i, pLen_l, pLen_t, pIx_t0, pIx_t1, pEq_i, pNe_i, *])
theorem mem_edges {C : List Pt} {e : Pt × Pt} : e ∈ edges C ↔ ∃ x y, C = x ++ e.1 :: e.2 :: y := by
  unfold edges
  constructor
  · intro h
    obtain ⟨k, hk, he⟩ := List.getElem_of_mem h
    have hl : k + 1 < C.length := by rw [List.length_zip, List.length_drop] at hk; omega
    obtain ⟨x, y, ec⟩ := split2 hl
    have h1 : e.1 = gt C k ∧ e.2 = gt C (k + 1) := by
      have h2 := List.getElem?_eq_getElem hk
      rw [he, List.getElem?_zip_eq_some (z := e)] at h2
      rw [gt_get (by omega), List.getElem?_drop, Nat.add_comm, gt_get hl] at h2
      exact ⟨(Option.some.inj h2.1).symm, (Option.some.inj h2.2).symm⟩
    exact ⟨x, y, by rw [h1.1, h1.2]; exact ec⟩
  · rintro ⟨x, y, ec⟩
    rw [ec]
    clear ec
    induction x with
    | nil => simp
    | cons a x ih =>
      cases x with
      | nil => simp
      | cons b x =>
        simp only [List.cons_append, List.drop_succ_cons, List.drop_zero, List.zip_cons_cons] at ih ⊢
        exact List.mem_cons_of_mem _ ih
/-- an edge over the place -/
theorem ins_edge {pl : Pt} (hd : 1 ≤ pl.2) : ∀ (C : List Pt) (a l : Pt), C.Pairwise Up → C.head? = some a → C.getLast? = some l → 2 ≤ C.length → a.1 * pl.2 ≤ pl.1 → pl.1 ≤ l.1 * pl.2 →
    ∃ x u v y, C = x ++ u :: v :: y ∧ ins pl (u, v) = true ∧ (u.1 < v.1 ∨ (u.1 = v.1 ∧ y = []))
  | [], _, _, _, h, _, _, _, _ => by cases h
  | [_], _, _, _, _, _, h, _, _ => by simp at h
  | a :: b :: r, a', l, hp, h1, h2, _, h3, h4 => by
    injection h1 with h1
    subst h1
    have hp' := List.pairwise_cons.mp hp
    have hab : Up a b := hp'.1 b (by simp)
    have hx := hab.x
    by_cases c : pl.1 ≤ b.1 * pl.2 ∧ a.1 < b.1
    · exact ⟨[], a, b, r, rfl, by unfold ins; rw [decide_eq_true h3, decide_eq_true c.1]; rfl, .inl c.2⟩
    · have hb : b.1 * pl.2 ≤ pl.1 ∨ (a.1 = b.1) := by
        by_cases z : a.1 = b.1
        · exact .inr z
        · left
          have : a.1 < b.1 := by omega
          have : ¬ pl.1 ≤ b.1 * pl.2 := fun q => c ⟨q, this⟩
          omega
      have hb' : b.1 * pl.2 ≤ pl.1 := by
        rcases hb with z | z
        · exact z
        · rw [← z]; exact h3
      cases r with
      | nil =>
        have hl : l = b := by
          have : [a, b].getLast? = some b := rfl
          rw [this] at h2
          exact (Option.some.inj h2).symm
        subst hl
        refine ⟨[], a, l, [], rfl, by unfold ins; rw [decide_eq_true h3, decide_eq_true h4]; rfl, .inr ⟨?_, rfl⟩⟩
        by_cases z : a.1 = l.1
        · exact z
        · exact absurd ⟨h4, by omega⟩ c
      | cons c' r =>
        obtain ⟨x, u, v, y, e, i, w⟩ := ins_edge hd (b :: c' :: r) b l hp'.2 rfl (by rw [List.getLast?_cons_cons] at h2; exact h2) (by simp) hb' h4
        exact ⟨a :: x, u, v, y, by rw [e]; rfl, i, w⟩
/-- what is asked of the points -/
structure PtsOk (P : List Pt) : Prop where
  up : P.Pairwise Up
  hd : P.head? = some (0, 0)
  l2 : 2 ≤ P.length
  rng : ∀ p ∈ P, 0 ≤ p.1 ∧ p.1 ≤ 12 ∧ 0 ≤ p.2 ∧ p.2 ≤ 12
theorem PtsOk.ne {P : List Pt} (h : PtsOk P) : P ≠ [] := fun z => by have := h.l2; rw [z] at this; simp at this
theorem PtsOk.hull {P : List Pt} (h : PtsOk P) : Hull P (crn P) := crn_hull h.up h.ne
theorem CrvOk.ok {P : List Pt} (h : CrvOk P) : PtsOk P := ⟨h.up, h.hd, h.l2, h.rng⟩
theorem Ch.pw {Q : List Pt} {st : List Pt} (h : Ch Q st) : st.Pairwise fun b a => Up a b := by
  induction h with
  | one h m => simp
  | two c m u h ih =>
    refine List.pairwise_cons.mpr ⟨fun x hx => ?_, ih⟩
    simp only [List.mem_cons, List.not_mem_nil, or_false] at hx
    rw [hx]; exact u
  | more k m u h t ih =>
    refine List.pairwise_cons.mpr ⟨fun x hx => ?_, ih⟩
    rcases List.mem_cons.mp hx with e | e
    · rw [e]; exact u
    · exact ((List.pairwise_cons.mp ih).1 x e).trans u
theorem Hull.up {P C : List Pt} (h : Hull P C) : C.Pairwise Up := by
  have := h.ch.pw
  rwa [List.pairwise_reverse] at this
theorem Hull.l2 {P C : List Pt} (h : Hull P C) (k : PtsOk P) : 2 ≤ C.length := by
  obtain ⟨l, hl⟩ : ∃ l, P.getLast? = some l := by
    cases e : P.getLast? with
    | none => rw [List.getLast?_eq_none_iff] at e; exact absurd e k.ne
    | some l => exact ⟨l, rfl⟩
  have h1 := h.hd.trans k.hd
  have h2 := h.lst.trans hl
  match C, h1, h2 with
  | [a], h1, h2 =>
    have e : l = (0, 0) := by
      have e1 := Option.some.inj h1
      have e2 := Option.some.inj h2
      rw [← e2]; exact e1
    -- the first and the last of a longer rising list are unlike
    exfalso
    have hP := k.l2
    match hq : P, hP with
    | p :: q :: r, _ =>
      have hup := k.up
      have e1 := Option.some.inj k.hd
      subst e1
      have hu := List.pairwise_cons.mp hup
      have hm : l ∈ q :: r := by
        rw [List.getLast?_cons_cons] at hl
        exact List.mem_of_getLast? hl
      exact (hu.1 l hm).2.2 e.symm
  | _ :: _ :: _, _, _ => simp
theorem edge_ok {P C : List Pt} (h : PtsOk P) (H : Hull P C) : ∀ e ∈ edges C, OkE e := fun e he => by
  obtain ⟨x, y, ec⟩ := mem_edges.mp he
  have u := (H.edge ec).1
  have h1 := h.rng e.1 (H.mem (by rw [ec]; simp))
  have h2 := h.rng e.2 (H.mem (by rw [ec]; simp))
  exact ⟨h1.1, h1.2.2.1, u.1, u.2.1, h2.2.1, h2.2.2.2⟩
theorem hofL_pos {pl : Pt} (h : OkPl pl) {E : List (Pt × Pt)} (hE : ∀ e ∈ E, OkE e) : ∀ x ∈ (0, 1) :: (E.filter (ins pl)).map (cand pl), 0 < x.2 := fun x hx => by
  rcases List.mem_cons.mp hx with e | e
  · rw [e]; exact Int.one_pos
  · obtain ⟨f, hf, rfl⟩ := List.mem_map.mp e
    have := List.mem_filter.mp hf
    exact (cand_nm h (hE f this.1) this.2).2.2.1
theorem hof_ge {pl : Pt} (h : OkPl pl) {C : List Pt} (hE : ∀ e ∈ edges C, OkE e) {e : Pt × Pt} (he : e ∈ edges C) (hi : ins pl e = true) : LeQ (cand pl e) (hof C pl) :=
  (mxQ_spec (hofL_pos h hE)).2 _ (List.mem_cons_of_mem _ (List.mem_map.mpr ⟨e, List.mem_filter.mpr ⟨he, hi⟩, rfl⟩))
theorem hof_nm {pl : Pt} (h : OkPl pl) {C : List Pt} (hE : ∀ e ∈ edges C, OkE e) : Nm (hof C pl) := hofL_nm h _ hE
/-- the place lies in the square -/
theorem place_edge {P C : List Pt} (h : PtsOk P) (H : Hull P C) {pl l : Pt} (ok : OkPl pl) (hl : P.getLast? = some l) (hN : pl.1 ≤ l.1 * pl.2) : ∃ u v, (u, v) ∈ edges C ∧ ins pl (u, v) = true ∧ (u.1 < v.1 ∨ (u.1 = v.1 ∧ v = l)) := by
  obtain ⟨x, u, v, y, e, i, w⟩ := ins_edge ok.d C (0, 0) l H.up (H.hd.trans h.hd) (H.lst.trans hl) (H.l2 h) (by have := ok.n; simp; exact this) hN
  refine ⟨u, v, mem_edges.mpr ⟨x, y, e⟩, i, ?_⟩
  rcases w with w | ⟨w1, w2⟩
  · exact .inl w
  · refine .inr ⟨w1, ?_⟩
    have := H.lst.trans hl
    rw [e, w2, List.getLast?_append] at this
    exact Option.some.inj this
theorem cand_wide {pl : Pt} {u v : Pt} (w : u.1 < v.1) : cand pl (u, v) = lowQ (chN pl u v) (chD pl u v) := by
  unfold cand
  rw [if_neg (by show ¬ v.1 - u.1 = 0; omega)]
theorem chD_pos {pl : Pt} (ok : OkPl pl) {u v : Pt} (w : u.1 < v.1) : 0 < chD pl u v := Int.mul_pos (by omega) (by have := ok.d; omega)
theorem ins_iff {pl u v : Pt} : ins pl (u, v) = true ↔ u.1 * pl.2 ≤ pl.1 ∧ pl.1 ≤ v.1 * pl.2 := by
  unfold ins
  rw [Bool.and_eq_true, decide_eq_true_eq, decide_eq_true_eq]
/-- a point at or before the place is no higher -/
theorem hof_point {P C : List Pt} (h : PtsOk P) (H : Hull P C) {pl l p : Pt} (ok : OkPl pl) (hl : P.getLast? = some l) (hN : pl.1 ≤ l.1 * pl.2) (hp : p ∈ P) (hx : p.1 * pl.2 ≤ pl.1) : LeQ (p.2, 1) (hof C pl) := by
  obtain ⟨u, v, he, hi, w⟩ := place_edge h H ok hl hN
  have hE := edge_ok h H
  have hge := hof_ge ok hE he hi
  have hpos := (hof_nm ok hE).2.2.1
  have hcp := (cand_nm ok (hE _ he) hi).2.2.1
  refine LeQ.trans Int.one_pos hcp hpos ?_ hge
  rcases w with w | ⟨w1, w2⟩
  · rw [cand_wide w, LeQ.low' (chD_pos ok w)]
    obtain ⟨x, y, ec⟩ := mem_edges.mp he
    obtain ⟨hu, ht⟩ := H.edge ec
    have t := ht p hp
    have hD := ok.d
    have hv := hu.y
    have k1 := Int.mul_le_mul_of_nonneg_right (show (v.1 - u.1) * (p.2 - u.2) ≤ (v.2 - u.2) * (p.1 - u.1) by unfold turn at t; dsimp only at t; omega) (by omega : (0 : Int) ≤ pl.2)
    have k2 := Int.mul_le_mul_of_nonneg_left (show p.1 * pl.2 - u.1 * pl.2 ≤ pl.1 - u.1 * pl.2 by omega) hv
    unfold LeQ chN chD
    dsimp only at k1 k2 ⊢
    grind
  · unfold cand
    rw [if_pos (by show v.1 - u.1 = 0; omega)]
    have := pw_last h.up hl p hp
    rw [← w2] at this
    have := this.y
    show p.2 * 1 ≤ v.2 * 1
    omega
/-- a line between two points is no higher -/
theorem hof_chord {P C : List Pt} (h : PtsOk P) (H : Hull P C) {pl l p q : Pt} (ok : OkPl pl) (hl : P.getLast? = some l) (hN : pl.1 ≤ l.1 * pl.2) (hp : p ∈ P) (hq : q ∈ P) (h1 : p.1 * pl.2 < pl.1) (h2 : pl.1 < q.1 * pl.2) : p.1 < q.1 ∧ LeQ (lowQ (chN pl p q) (chD pl p q)) (hof C pl) := by
  obtain ⟨u, v, he, hi, w⟩ := place_edge h H ok hl hN
  have hE := edge_ok h H
  have hge := hof_ge ok hE he hi
  have hpos := (hof_nm ok hE).2.2.1
  have hcp := (cand_nm ok (hE _ he) hi).2.2.1
  have hD := ok.d
  have hpq : p.1 < q.1 := by
    have : p.1 * pl.2 < q.1 * pl.2 := by omega
    exact Int.lt_of_mul_lt_mul_right this (by omega)
  have hd := chD_pos ok hpq
  refine ⟨hpq, LeQ.trans (lowQ_low hd).1 hcp hpos ?_ hge⟩
  rw [LeQ.low hd]
  rcases w with w | ⟨w1, w2⟩
  · rw [cand_wide w, LeQ.low' (chD_pos ok w)]
    obtain ⟨x, y, ec⟩ := mem_edges.mp he
    obtain ⟨hu, ht⟩ := H.edge ec
    have t1 := ht p hp
    have t2 := ht q hq
    unfold turn at t1 t2
    dsimp only at t1 t2
    have k1 := Int.mul_le_mul_of_nonneg_right (show (v.1 - u.1) * (p.2 - u.2) ≤ (v.2 - u.2) * (p.1 - u.1) by omega) (by omega : (0 : Int) ≤ q.1 * pl.2 - pl.1)
    have k2 := Int.mul_le_mul_of_nonneg_right (show (v.1 - u.1) * (q.2 - u.2) ≤ (v.2 - u.2) * (q.1 - u.1) by omega) (by omega : (0 : Int) ≤ pl.1 - p.1 * pl.2)
    have k3 := Int.mul_le_mul_of_nonneg_right (Int.add_le_add k1 k2) (by omega : (0 : Int) ≤ pl.2)
    unfold LeQ chN chD
    dsimp only
    grind
  · exfalso
    have hi' := ins_iff.mp hi
    have := (pw_last h.up hl q hq).x
    rw [← w2] at this
    have h3 := Int.mul_le_mul_of_nonneg_right (show q.1 ≤ v.1 by omega) (by omega : (0 : Int) ≤ pl.2)
    rw [w1] at hi'
    omega
end DL

/-! M9: means, best_true, gain -/
namespace DL
open PySem PySem.Spec PyProof.Rows L2
local macro_rules | `(tactic| walk_at "ev") => `(tactic| simp only [szL, Nat.reduceLeDiff, mBody, mBodyD, outP, outD, cVar, cC, cOp, cUn, cTest, cAndT, cOrT, cNotT, cAndV, cOrV, cIf, aNil, aCons, cTup, cLst, cSl, oNone, oSome, cCall, cCallF, cCallD, cMeth, noX', isL_list, isL_encP, tYesD, bnd_ok, bnd_exc, bnd_bad, lft_ok, lft_exc, lft_bad, isOk_ok, isOk_exc, isOk_bad, isD_int, isD_bool, isD_none, isD_str, isD_list, isD_tuple, isD_eP, isD_eT, isD_encP, isD_encT, allD, List.all_cons, List.all_nil, Bool.and_self, Bool.and_true, Bool.true_and, if_true, if_false, Bool.false_eq_true, ite_true, ite_false, reduceIte, List.length_cons, List.length_nil, List.map_cons, List.map_nil, List.cons_append, List.nil_append, List.replicate_succ, List.replicate_zero, List.getElem?_cons_zero, List.getElem?_cons_succ, List.set_cons_zero, List.set_cons_succ, wipeD, sSeq, sSet, sAsg, sRet, sIf, sExpr, sNil, sRaise, sSetF, sApp, sAug, sAugL, sPar, sPar3, fLst, bNm, bTup, bCons, bNil, pNot, pIsi, isiT, tyN, pNeg, Nat.reduceAdd, decide_true, decide_false, Bool.not_true, Bool.not_false, noX_ok, pLe_i, pLt_i, pGt_i, pGe_i, pAdd_i, pSub_i, pLen_l, pLen_t, pIx_t0, pIx_t1, pEq_i, pNe_i])
local macro_rules | `(tactic| walk_at "evs") => `(tactic| simp [szL, mBody, mBodyD, outP, outD, cVar, cC, cOp, cUn, cTest, cAndT, cOrT, cNotT, cAndV, cOrV, cIf, aNil, aCons, cTup, cLst, cSl, oNone, oSome, cCall, cCallF, cCallD, cMeth, noX', isL_list, isL_encP, tYesD, bnd_ok, bnd_exc, bnd_bad, lft_ok, lft_exc, lft_bad, isOk_ok, isOk_exc, isOk_bad, isD_int, isD_bool, isD_none, isD_str, isD_list, isD_tuple, isD_eP, isD_eT, isD_encP, isD_encT, allD, List.all_cons, List.all_nil, List.map_cons, List.map_nil, List.cons_append, List.nil_append, List.replicate_succ, List.replicate_zero, List.getElem?_cons_zero, List.getElem?_cons_succ, List.set_cons_zero, List.set_cons_succ, wipeD, sSeq, sSet, sAsg, sRet, sIf, sExpr, sNil, sRaise, sSetF, sApp, sAug, sAugL, sPar, sPar3, fLst, bNm, bTup, bCons, bNil, pNot, pIsi, isiT, tyN, pNeg, noX_ok, pLe_i, pLt_i, pGt_i, pGe_i, pAdd_i, pSub_i, pLen_l, pLen_t, pIx_t0, pIx_t1, pEq_i, pNe_i])
local macro_rules | `(tactic| walk_at "evx") => `(tactic| simp [szL, mBody, mBodyD, outP, outD, cVar, cC, cOp, cUn, cTest, cAndT, cOrT, cNotT, cAndV, cOrV, cIf, aNil, aCons, cTup, cLst, cSl, oNone, oSome, cCall, cCallF, cCallD, cMeth, noX', isL_list, isL_encP, tYesD, bnd_ok, bnd_exc, bnd_bad, lft_ok, lft_exc, lft_bad, isOk_ok, isOk_exc, isOk_bad, isD_int, isD_bool, isD_none, isD_str, isD_list, isD_tuple, isD_eP, isD_eT, isD_encP, isD_encT, allD, List.all_cons, List.all_nil, List.map_cons, List.map_nil, List.cons_append, List.nil_append, List.replicate_succ, List.replicate_zero, List.getElem?_cons_zero, List.getElem?_cons_succ, List.set_cons_zero, List.set_cons_succ, wipeD, sSeq, sSet, sAsg, sRet, sIf, sExpr, sNil, sRaise, sSetF, sApp, sAug, sAugL, sPar, sPar3, fLst, bNm, bTup, bCons, bNil, pNot, pIsi, isiT, tyN, pNeg, noX_ok, pLe_i, pLt_i, pGt_i, pGe_i, pAdd_i, pSub_i, pLen_l, pLen_t, pIx_t0, pIx_t1, pEq_i, pNe_i, *])
theorem lowQ_den {n d : Int} (h : 0 < d) : (lowQ n d).2 ≤ d := Int.ediv_le_self _ (by omega)
theorem hof_den {pl : Pt} (h : OkPl pl) {C : List Pt} (hE : ∀ e ∈ edges C, OkE e) : (hof C pl).2 ≤ 12000 := by
  have := (mxQ_spec (hofL_pos h hE)).1
  rcases List.mem_cons.mp this with e | e
  · show (hofL (edges C) pl).2 ≤ _
    unfold hofL
    rw [e]; decide
  · obtain ⟨f, hf, e⟩ := List.mem_map.mp e
    show (hofL (edges C) pl).2 ≤ _
    unfold hofL
    rw [← e]
    have hm := List.mem_filter.mp hf
    unfold cand
    by_cases z : f.2.1 - f.1.1 = 0
    · rw [if_pos z]; show (1 : Int) ≤ 12000; decide
    · rw [if_neg z]
      have c2 := chD_bd h (hE f hm.1) z
      have := lowQ_den (n := chN pl f.1 f.2) c2.1
      omega
theorem m_is_mean_eq {pl : Pt} {most : Int} (hl : IsLow pl) (h0 : 0 ≤ pl.1) (h1 : pl.1 ≤ most * pl.2) (h2 : pl.2 ≤ 1000) (hm : 0 ≤ most ∧ most ≤ 1000) : m_is_mean [eP pl, .int most] = .ok (.bool true) := by
  have hp := hl.1
  refine mBody_of (ev_guard (s1 := ()) (ev_or_f (s' := ()) rfl (ev_or_f (s' := ()) rfl (ev_not (b := true) (ev_test (ev_callF (ev_aC (s2 := ()) (ev_op (s2 := ()) rfl rfl (eP_1 _)) rfl) ?_))))) (ret_of (ev_and (s1 := ()) (ev_callF (ev_aC (s2 := ()) (ev_op (s2 := ()) rfl rfl (eP_0 _)) (ev_aC (s1 := ()) (s2 := ()) rfl (ev_a1 (ev_op (s1 := ()) rfl (ev_op (s2 := ()) rfl rfl (eP_1 _)) (pMul_i (by omega)))))) ?_) (ev_op (s1 := ()) (ev_callF (ev_aC (s2 := ()) (ev_op (s2 := ()) rfl rfl (eP_0 _)) (ev_a1 (ev_op (s2 := ()) rfl rfl (eP_1 _)))) (m_common_eq _ _)) rfl ?_)) rfl))
  · rw [m_is_int_int, decide_eq_true (by omega), decide_eq_true h2]; rfl
  · rw [m_is_int_int, decide_eq_true h0, decide_eq_true h1]; rfl
  · rw [hl.2, pEq_i]; rfl
theorem m_check_mean_eq {pl : Pt} {most : Int} (hl : IsLow pl) (h0 : 0 ≤ pl.1) (h1 : pl.1 ≤ most * pl.2) (h2 : pl.2 ≤ 1000) (hm : 0 ≤ most ∧ most ≤ 1000) : m_check_mean [eP pl, .int most] = .ok .none := by
  unfold m_check_mean b_check_mean
  walk_at "ev"
  rw [m_is_mean_eq hl h0 h1 h2 hm]
  rfl
/-- a place over things -/
structure PlT (T : List Th) (pl : Pt) : Prop where
  low : IsLow pl
  n : 0 ≤ pl.1
  top : pl.1 ≤ fa T 0 * pl.2
  d : pl.2 ≤ 1000
theorem fa_le {T : List Th} (g : GoodT T) (t : Int) : fa T t ≤ 12 := by
  have := cnt_rng g t
  have h1 : 0 ≤ fa T t := this.1
  have h2 : 0 ≤ tr T t := this.2.1
  have h3 : fa T t + tr T t ≤ 12 := this.2.2
  omega
theorem tr_le {T : List Th} (g : GoodT T) (t : Int) : tr T t ≤ 12 := by
  have := cnt_rng g t
  have h1 : 0 ≤ fa T t := this.1
  have h2 : 0 ≤ tr T t := this.2.1
  have h3 : fa T t + tr T t ≤ 12 := this.2.2
  omega
theorem PlT.ok {T : List Th} (g : GoodT T) {pl : Pt} (h : PlT T pl) : OkPl pl := by
  have hd := h.low.1
  have h12 := fa_le g 0
  have h0 := fa_nn T 0
  have := mul_bd (a := fa T 0) (b := pl.2) (A := 12) (B := 1000) h0 h12 (by omega) h.d
  exact ⟨h.n, by have := h.top; omega, by omega, h.d⟩
theorem pts_pok {T : List Th} (g : GoodT T) : PtsOk (pts T) := (pts_ok g).ok
theorem sm_pts {T : List Th} (g : GoodT T) : ∀ p ∈ pts T, Sm p := fun p hp => by have := pts_rng g p hp; unfold Sm; omega
theorem pts_l1000 {T : List Th} (g : GoodT T) : (pts T).length ≤ 1000 := by
  have hpl := pts_len T
  have hsl := scs_len T
  have hg := g.l2
  omega
def hgt (T : List Th) (pl : Pt) : Pt := hof (crn (pts T)) pl
theorem m_best_true_eq {T : List Th} (g : GoodT T) {pl : Pt} (h : PlT T pl) : m_best_true [encT T, eP pl] = .ok (eP (hgt T pl)) := by
  have h12 := fa_le g 0
  have h0 := fa_nn T 0
  exact mBody_of (ev_check (ev_callF (s1 := ()) rfl (m_check_things_eq g)) (ev_check (ev_callF (s1 := ()) (ev_aC rfl (ev_a1 (ev_op (s1 := ()) (ev_callF rfl (m_counts_eq g.l1000 0)) rfl (eP_0 _)))) (m_check_mean_eq h.low h.n h.top h.d ⟨h0, by show fa T 0 ≤ _; omega⟩)) (ret_of (ev_callF (ev_aC (s2 := ()) (ev_callF (ev_a1 (ev_callF rfl (m_points_of_eq g.l64))) (m_corners_of_eq (sm_pts g) (pts_l1000 g))) (ev_a1 rfl)) (m_height_of_eq (h.ok g) (edge_ok (pts_pok g) (pts_pok g).hull))) rfl)))
theorem m_plus_eq {p q : Pt} (hp : B64 p) (hq : B64 q) (h1 : 0 < p.2) (h2 : 0 < q.2) (h3 : p.2 * q.2 < 1073741824) (h4 : p.2 < 1000000) : m_plus [eP p, eP q] = .ok (eP (lowQ (p.1 * q.2 + q.1 * p.2) (p.2 * q.2))) :=
  mBody_of (ret_of (ev_callF (ev_aC (s1 := ()) (s2 := ()) (ev_op (s1 := ()) (ev_op (s1 := ()) (ev_op (s2 := ()) rfl rfl (eP_0 _)) (ev_op (s2 := ()) rfl rfl (eP_1 _)) (pMul_i hp)) (ev_op (s1 := ()) (ev_op (s2 := ()) rfl rfl (eP_0 _)) (ev_op (s2 := ()) rfl rfl (eP_1 _)) (pMul_i hq)) (pAdd_i _ _)) (ev_a1 (ev_op (s1 := ()) (ev_op (s2 := ()) rfl rfl (eP_1 _)) (ev_op (s2 := ()) rfl rfl (eP_1 _)) (pMul_i (by omega))))) (m_lowest_eq (Int.mul_pos h1 h2) h3)) rfl)
theorem m__law_add_eq {p q : Pt} (hp : B64 p) (hq : B64 q) (h1 : 0 < p.2) (h2 : 0 < q.2) (h3 : p.2 * q.2 < 1073741824) (h4 : p.2 < 1000000) : m__law_add [eP p, eP q] = .ok (eP (lowQ (p.1 * q.2 + q.1 * p.2) (p.2 * q.2))) :=
  mBody_of (ret_of (ev_callF (ev_aC (s1 := ()) (s2 := ()) (ev_op (s1 := ()) (ev_op (s1 := ()) (ev_op (s2 := ()) rfl rfl (eP_0 _)) (ev_op (s2 := ()) rfl rfl (eP_1 _)) (pMul_i hp)) (ev_op (s1 := ()) (ev_op (s2 := ()) rfl rfl (eP_0 _)) (ev_op (s2 := ()) rfl rfl (eP_1 _)) (pMul_i hq)) (pAdd_i _ _)) (ev_a1 (ev_op (s1 := ()) (ev_op (s2 := ()) rfl rfl (eP_1 _)) (ev_op (s2 := ()) rfl rfl (eP_1 _)) (pMul_i (by omega))))) (m__law_low_eq (Int.mul_pos h1 h2) h3)) rfl)
/-! ### the greatest of a list -/
def mxI : List Int → Int
  | x :: r => maxL x r
  | [] => 0
theorem mxI_spec {l : List Int} (h : l ≠ []) : mxI l ∈ l ∧ ∀ y ∈ l, y ≤ mxI l := by
  cases l with
  | nil => exact absurd rfl h
  | cons x r =>
    have := maxL_ge r x
    refine ⟨?_, fun y hy => ?_⟩
    · show maxL x r ∈ _
      rcases this.2.2 with e | e
      · rw [e]; simp
      · exact List.mem_cons_of_mem _ e
    · show _ ≤ maxL x r
      rcases List.mem_cons.mp hy with e | e
      · rw [e]; exact this.1
      · exact this.2.1 y e
theorem pMax_l {l : List Int} (h : l ≠ []) : pMax [.list (l.map PyData.int)] = .ok (.int (mxI l)) := by
  cases l with
  | nil => exact absurd rfl h
  | cons x r => exact mxD_cons x r
def ysQ (P : List Pt) (pl : Pt) : List Int := (P.filter fun p => !ltQ pl (p.1, 1)).map (·.2)
theorem mem_ysQ {P : List Pt} {pl : Pt} {y : Int} : y ∈ ysQ P pl ↔ ∃ p ∈ P, p.1 * pl.2 ≤ pl.1 ∧ p.2 = y := by
  unfold ysQ ltQ
  simp only [List.mem_map, List.mem_filter, Bool.not_eq_true', decide_eq_false_iff_not, and_assoc, Int.mul_one, Int.not_lt]
theorem ysQ_ne {T : List Th} {pl : Pt} (h : 0 ≤ pl.1) : ysQ (pts T) pl ≠ [] := fun z => by
  have : (0 : Int) ∈ ysQ (pts T) pl := mem_ysQ.mpr ⟨(0, 0), by simp [pts], by simpa using h, rfl⟩
  rw [z] at this
  cases this
theorem m_gain_eq {T : List Th} (g : GoodT T) {pl : Pt} (h : PlT T pl) : m_gain [encT T, eP pl] = .ok (eP (lowQ ((hgt T pl).1 * 1 + (-(mxI (ysQ (pts T) pl))) * (hgt T pl).2) ((hgt T pl).2 * 1))) := by
  have h12 := fa_le g 0
  have h0 := fa_nn T 0
  have ok := h.ok g
  have hE := edge_ok (pts_pok g) (pts_pok g).hull
  have hn := hof_nm ok hE
  have hd := hof_den ok hE
  have hdp := hn.2.2.1
  have hms := mxI_spec (ysQ_ne (T := T) h.n)
  obtain ⟨p, hp, _, hpy⟩ := mem_ysQ.mp hms.1
  have hr := pts_rng g p hp
  have hpl1 := h.n
  have hpl2 := ok.n2
  refine mBody_of (ev_check (ev_callF (s1 := ()) rfl (m_check_things_eq g)) (ev_check (ev_callF (s1 := ()) (ev_aC rfl (ev_a1 (ev_op (s1 := ()) (ev_callF rfl (m_counts_eq g.l1000 0)) rfl (eP_0 _)))) (m_check_mean_eq h.low h.n h.top h.d ⟨h0, by show fa T 0 ≤ _; omega⟩)) (ev_let (s1 := ()) (ev_callF (ev_aC (s2 := ()) (ev_callF (ev_a1 (ev_callF rfl (m_points_of_eq g.l64))) (m_corners_of_eq (sm_pts g) (pts_l1000 g))) (ev_a1 rfl)) (m_height_of_eq ok hE)) (ev_let (s1 := ()) (ev_call (ev_a1 (cComp_pureI (pts T) eP (fun p => !ltQ pl (p.1, 1)) (·.2) ?_ (by have := pts_l1000 g; omega) ?_)) (pMax_l (ysQ_ne h.n))) (ret_of (ev_callF (ev_aC (s2 := ()) rfl (ev_a1 (ev_tup (ev_aC (s2 := ()) (ev_un (s1 := ()) rfl rfl) (ev_a1 rfl))))) (m_plus_eq (p := hgt T pl) (q := (-(mxI (ysQ (pts T) pl)), 1)) hn.b ?_ hdp Int.one_pos ?_ ?_)) rfl)))))
  · exact ev_iLst (ev_callF rfl (m_points_of_eq g.l64))
  · intro q hq
    have hq' := pts_rng g q hq
    exact ⟨_, rfl, ev_not (ev_test (ev_callF (ev_aC (s2 := ()) rfl (ev_a1 (ev_tup (ev_aC (s2 := ()) rfl (ev_a1 rfl))))) (m_less_eq (p := pl) (q := (q.1, 1)) (by unfold B64; omega) (by unfold B64; dsimp only; omega)))), fun _ => rfl⟩
  · unfold B64; dsimp only; omega
  · show (hof (crn (pts T)) pl).2 * 1 < _; omega
  · show (hof (crn (pts T)) pl).2 < _; omega
/-- the hull is no lower than a single threshold -/
theorem hgt_ge {T : List Th} (g : GoodT T) {pl : Pt} (h : PlT T pl) {p : Pt} (hp : p ∈ pts T) (hx : p.1 * pl.2 ≤ pl.1) : LeQ (p.2, 1) (hgt T pl) :=
  hof_point (pts_pok g) (pts_pok g).hull (h.ok g) (pts_last g) h.top hp hx
end DL

/-! N1: twice the area; things of a curve -/
namespace DL
open PySem PySem.Spec PyProof.Rows L2
local macro_rules | `(tactic| walk_at "ev") => `(tactic| simp only [szL, Nat.reduceLeDiff, mBody, mBodyD, outP, outD, cVar, cC, cOp, cUn, cTest, cAndT, cOrT, cNotT, cAndV, cOrV, cIf, aNil, aCons, cTup, cLst, cSl, oNone, oSome, cCall, cCallF, cCallD, cMeth, noX', isL_list, isL_encP, tYesD, bnd_ok, bnd_exc, bnd_bad, lft_ok, lft_exc, lft_bad, isOk_ok, isOk_exc, isOk_bad, isD_int, isD_bool, isD_none, isD_str, isD_list, isD_tuple, isD_eP, isD_eT, isD_encP, isD_encT, allD, List.all_cons, List.all_nil, Bool.and_self, Bool.and_true, Bool.true_and, if_true, if_false, Bool.false_eq_true, ite_true, ite_false, reduceIte, List.length_cons, List.length_nil, List.map_cons, List.map_nil, List.cons_append, List.nil_append, List.replicate_succ, List.replicate_zero, List.getElem?_cons_zero, List.getElem?_cons_succ, List.set_cons_zero, List.set_cons_succ, wipeD, sSeq, sSet, sAsg, sRet, sIf, sExpr, sNil, sRaise, sSetF, sApp, sAug, sAugL, sPar, sPar3, fLst, bNm, bTup, bCons, bNil, pNot, pIsi, isiT, tyN, pNeg, Nat.reduceAdd, decide_true, decide_false, Bool.not_true, Bool.not_false, noX_ok, pLe_i, pLt_i, pGt_i, pGe_i, pAdd_i, pSub_i, pLen_l, pLen_t, pIx_t0, pIx_t1, pEq_i, pNe_i])
local macro_rules | `(tactic| walk_at "evs") => `(tactic| simp [szL, mBody, mBodyD, outP, outD, cVar, cC, cOp, cUn, cTest, cAndT, cOrT, cNotT, cAndV, cOrV, cIf, aNil, aCons, cTup, cLst, cSl, oNone, oSome, cCall, cCallF, cCallD, cMeth, noX', isL_list, isL_encP, tYesD, bnd_ok, bnd_exc, bnd_bad, lft_ok, lft_exc, lft_bad, isOk_ok, isOk_exc, isOk_bad, isD_int, isD_bool, isD_none, isD_str, isD_list, isD_tuple, isD_eP, isD_eT, isD_encP, isD_encT, allD, List.all_cons, List.all_nil, List.map_cons, List.map_nil, List.cons_append, List.nil_append, List.replicate_succ, List.replicate_zero, List.getElem?_cons_zero, List.getElem?_cons_succ, List.set_cons_zero, List.set_cons_succ, wipeD, sSeq, sSet, sAsg, sRet, sIf, sExpr, sNil, sRaise, sSetF, sApp, sAug, sAugL, sPar, sPar3, fLst, bNm, bTup, bCons, bNil, pNot, pIsi, isiT, tyN, pNeg, noX_ok, pLe_i, pLt_i, pGt_i, pGe_i, pAdd_i, pSub_i, pLen_l, pLen_t, pIx_t0, pIx_t1, pEq_i, pNe_i])
local macro_rules | `(tactic| walk_at "evx") => `(tactic| simp [szL, mBody, mBodyD, outP, outD, cVar, cC, cOp, cUn, cTest, cAndT, cOrT, cNotT, cAndV, cOrV, cIf, aNil, aCons, cTup, cLst, cSl, oNone, oSome, cCall, cCallF, cCallD, cMeth, noX', isL_list, isL_encP, tYesD, bnd_ok, bnd_exc, bnd_bad, lft_ok, lft_exc, lft_bad, isOk_ok, isOk_exc, isOk_bad, isD_int, isD_bool, isD_none, isD_str, isD_list, isD_tuple, isD_eP, isD_eT, isD_encP, isD_encT, allD, List.all_cons, List.all_nil, List.map_cons, List.map_nil, List.cons_append, List.nil_append, List.replicate_succ, List.replicate_zero, List.getElem?_cons_zero, List.getElem?_cons_succ, List.set_cons_zero, List.set_cons_succ, wipeD, sSeq, sSet, sAsg, sRet, sIf, sExpr, sNil, sRaise, sSetF, sApp, sAug, sAugL, sPar, sPar3, fLst, bNm, bTup, bCons, bNil, pNot, pIsi, isiT, tyN, pNeg, noX_ok, pLe_i, pLt_i, pGt_i, pGe_i, pAdd_i, pSub_i, pLen_l, pLen_t, pIx_t0, pIx_t1, pEq_i, pNe_i, *])
theorem edges_len (C : List Pt) : (edges C).length = C.length - 1 := by
  unfold edges
  rw [List.length_zip, List.length_drop]; omega
theorem edges_rng (C : List Pt) : edges C = (List.range (C.length - 1)).map fun k => (gt C k, gt C (k + 1)) := by
  apply List.ext_getElem?
  intro i
  by_cases hi : i + 1 < C.length
  · rw [List.getElem?_map, List.getElem?_range (by omega)]
    unfold edges
    rw [List.getElem?_zip_eq_some (z := (gt C i, gt C (i + 1))) |>.mpr ⟨gt_get (by omega), by rw [List.getElem?_drop, Nat.add_comm]; exact gt_get hi⟩]
    rfl
  · rw [List.getElem?_eq_none (by rw [edges_len]; omega), List.getElem?_eq_none (by rw [List.length_map, List.length_range]; omega)]
def trap (e : Pt × Pt) : Int := (e.2.1 - e.1.1) * (e.1.2 + e.2.2)
def twL (E : List (Pt × Pt)) : Int := (E.map trap).sum
def twA (C : List Pt) : Int := twL (edges C)
theorem twL_more (E : List (Pt × Pt)) (e : Pt × Pt) : twL (E ++ [e]) = twL E + trap e := by
  unfold twL
  rw [List.map_append, List.sum_append]
  simp
theorem edges_sm {C : List Pt} (h : ∀ p ∈ C, Sm p) : ∀ e ∈ edges C, Sm e.1 ∧ Sm e.2 := fun e he => by
  obtain ⟨x, y, ec⟩ := mem_edges.mp he
  exact ⟨h e.1 (by rw [ec]; simp), h e.2 (by rw [ec]; simp)⟩
theorem m_double_area_eq {C : List Pt} (h : ∀ p ∈ C, Sm p) : m_double_area [encP C] = .ok (.int (twA C)) := by
  refine mBody_of ?_
  unfold b_double_area
  refine ev_let (s1 := ()) rfl ?_
  obtain ⟨ρ', s', e, i⟩ := sForGo_inv (d := Unit) (bd := bTup (bCons (bNm 2) (bCons (bNm 3) bNil))) (body := sAug 1 (cOp pMul (cOp pSub (cOp pIx (cVar 3) (cC (.int 0))) (cOp pIx (cVar 2) (cC (.int 0)))) (cOp pAdd (cOp pIx (cVar 2) (cC (.int 1))) (cOp pIx (cVar 3) (cC (.int 1)))))) (fun p : Pt × Pt => PyData.tuple [eP p.1, eP p.2])
    (fun pre ρ _ => ∃ a b, ρ = [some (encP C), some (.int (twL pre)), a, b]) (edges C) [] [some (encP C), some (.int 0), none, none] () ⟨_, _, rfl⟩ fun pre e q ρ s hpq hi => by
      obtain ⟨a, b, rfl⟩ := hi
      rw [List.nil_append] at hpq
      obtain ⟨h1, h2⟩ := edges_sm h e (by rw [hpq]; simp)
      refine ⟨[some (encP C), some (.int (twL pre)), some (eP e.1), some (eP e.2)], [some (encP C), some (.int (twL (pre ++ [e]))), some (eP e.1), some (eP e.2)], (), rfl, ?_, ⟨_, _, rfl⟩⟩
      have hm : (cOp pMul (cOp pSub (cOp pIx (cVar 3) (cC (.int 0))) (cOp pIx (cVar 2) (cC (.int 0)))) (cOp pAdd (cOp pIx (cVar 2) (cC (.int 1))) (cOp pIx (cVar 3) (cC (.int 1)))) [some (encP C), some (.int (twL pre)), some (eP e.1), some (eP e.2)] () : R (PD × Unit)) = .ok (.int (trap e), ()) :=
        ev_op (s1 := ()) (ev_op (s1 := ()) (ev_op (s2 := ()) rfl rfl (eP_0 _)) (ev_op (s2 := ()) rfl rfl (eP_0 _)) (pSub_i _ _)) (ev_op (s1 := ()) (ev_op (s2 := ()) rfl rfl (eP_1 _)) (ev_op (s2 := ()) rfl rfl (eP_1 _)) (pAdd_i _ _)) (pMul_i (by unfold Sm at h1 h2; omega))
      unfold sAug
      show bnd (cOp _ _ _ _ _) _ = _
      rw [hm, bnd_ok, twL_more]
      rfl
  obtain ⟨a, b, rfl⟩ := i
  exact ev_seq (ev_for (s' := ()) (zip_it C rfl) e) rfl
theorem m__law_twice_eq {C : List Pt} (h : ∀ p ∈ C, Sm p) (h1 : 1 ≤ C.length) (h2 : C.length ≤ 1000) : m__law_twice [encP C] = .ok (.int (twA C)) := by
  refine mBody_of ?_
  unfold b__law_twice
  refine ev_let (s1 := ()) rfl ?_
  obtain ⟨ρ', s', e, i⟩ := sForGo_inv (d := Unit) (bd := bNm 2) (body := sSeq (sAsg (bTup (bCons (bTup (bCons (bNm 3) (bCons (bNm 4) bNil))) (bCons (bTup (bCons (bNm 5) (bCons (bNm 6) bNil))) bNil))) (cTup (aCons (cOp pIx (cVar 0) (cVar 2)) (aCons (cOp pIx (cVar 0) (cOp pAdd (cVar 2) (cC (.int 1)))) aNil))))
      (sSet 1 (cOp pAdd (cVar 1) (cOp pMul (cOp pSub (cVar 5) (cVar 3)) (cOp pAdd (cVar 4) (cVar 6)))))) (fun (k : Nat) => PyData.int (k : Int))
    (fun pre ρ _ => ∃ a b c d f, ρ = [some (encP C), some (.int (twL (pre.map fun k => (gt C k, gt C (k + 1))))), a, b, c, d, f]) (List.range (C.length - 1)) [] [some (encP C), some (.int 0), none, none, none, none, none] () ⟨_, _, _, _, _, rfl⟩ fun pre k q ρ s hpq hi => by
      obtain ⟨a, b, c, d, f, rfl⟩ := hi
      rw [List.nil_append] at hpq
      have hk : k + 1 < C.length := by
        have : k ∈ List.range (C.length - 1) := by rw [hpq]; simp
        have := List.mem_range.mp this
        omega
      have g1 := h _ (gt_mem (C := C) (k := k) (by omega))
      have g2 := h _ (gt_mem (C := C) (k := k + 1) hk)
      refine ⟨_, [some (encP C), some (.int (twL ((pre ++ [k]).map fun k => (gt C k, gt C (k + 1))))), some (.int (k : Int)), some (.int (gt C k).1), some (.int (gt C k).2), some (.int (gt C (k + 1)).1), some (.int (gt C (k + 1)).2)], (), rfl, ?_, ⟨_, _, _, _, _, rfl⟩⟩
      refine ev_unp (s1 := ()) (ev_tup (ev_aC (s2 := ()) (ev_op (s1 := ()) rfl rfl (pIx_gt (by omega))) (ev_a1 (ev_op (s1 := ()) rfl (ev_op (s2 := ()) rfl rfl (pAdd_i _ _)) (pIx_gt hk))))) (ρ' := [some (encP C), some (.int (twL (pre.map fun k => (gt C k, gt C (k + 1))))), some (.int (k : Int)), some (.int (gt C k).1), some (.int (gt C k).2), some (.int (gt C (k + 1)).1), some (.int (gt C (k + 1)).2)]) rfl ?_
      rw [List.map_append, List.map_cons, List.map_nil, twL_more]
      exact ev_set (ev_op (s1 := ()) rfl (ev_op (s1 := ()) (ev_op (s1 := ()) rfl rfl (pSub_i _ _)) (ev_op (s1 := ()) rfl rfl (pAdd_i _ _)) (pMul_i (by unfold Sm at g1 g2; omega))) (pAdd_i _ _))
  obtain ⟨a, b, c, d, f, rfl⟩ := i
  refine ev_seq (ev_for (s' := ()) (iRg1_n (n := C.length - 1) (ev_op (s1 := ()) (ev_call (ev_a1 rfl) (len_encP C)) rfl (by rw [pSub_i]; congr 2; omega)) (by omega)) e) ?_
  unfold twA
  rw [edges_rng]
  rfl
/-! ### checks of curves -/
theorem m_check_points_eq {P : List Pt} (g : CrvOk P) : m_check_points [encP P] = .ok .none := by
  unfold m_check_points b_check_points
  walk_at "ev"
  rw [m_is_points_eq g]
  rfl
theorem CrvOk.sm {P : List Pt} (g : CrvOk P) : ∀ p ∈ P, Sm p := fun p hp => by have := g.rng p hp; unfold Sm; omega
theorem m_hull_of_eq {P : List Pt} (g : CrvOk P) : m_hull_of [encP P] = .ok (encP (crn P)) :=
  mBody_of (ev_check (ev_callF (s1 := ()) rfl (m_check_points_eq g)) (ret_of (ev_callF rfl (m_corners_of_eq g.sm (by have := g.l13; omega))) rfl))
theorem m_hull_height_eq {P : List Pt} (g : CrvOk P) {l pl : Pt} (hl : P.getLast? = some l) (h : IsLow pl) (h0 : 0 ≤ pl.1) (h1 : pl.1 ≤ l.1 * pl.2) (h2 : pl.2 ≤ 1000) : m_hull_height [encP P, eP pl] = .ok (eP (hof (crn P) pl)) := by
  have hr := g.rng l (List.mem_of_getLast? hl)
  have hb := mul_bd (a := l.1) (b := pl.2) (A := 12) (B := 1000) hr.1 hr.2.1 (by have := h.1; omega) h2
  have ok : OkPl pl := ⟨h0, by omega, by have := h.1; omega, h2⟩
  exact mBody_of (ev_check (ev_callF (s1 := ()) rfl (m_check_points_eq g)) (ev_guard (s1 := ()) (ev_not (b := true) (ev_test (ev_callF (ev_aC (s2 := ()) rfl (ev_a1 (ev_op (s1 := ()) (ev_op (s1 := ()) rfl rfl (pIx_last eP P l hl)) rfl (eP_0 _)))) (m_is_mean_eq h h0 h1 h2 ⟨hr.1, by omega⟩)))) (ret_of (ev_callF (ev_aC (s2 := ()) (ev_callF rfl (m_corners_of_eq g.sm (by have := g.l13; omega))) (ev_a1 rfl)) (m_height_of_eq ok (edge_ok g.ok g.ok.hull))) rfl)))
theorem crn_sm {P : List Pt} (h : PtsOk P) : ∀ p ∈ crn P, Sm p := fun p hp => by have := h.rng p (h.hull.mem hp); unfold Sm; omega
theorem m_waste_eq {T : List Th} (g : GoodT T) : m_waste [encT T] = .ok (.int (twA (crn (pts T)) - twA (pts T))) :=
  mBody_of (ev_check (ev_callF (s1 := ()) rfl (m_check_things_eq g)) (ev_let (s1 := ()) (ev_callF rfl (m_points_of_eq g.l64)) (ret_of (ev_op (s1 := ()) (ev_callF (ev_a1 (ev_callF rfl (m_corners_of_eq (sm_pts g) (pts_l1000 g)))) (m_double_area_eq (crn_sm (pts_pok g)))) (ev_callF rfl (m_double_area_eq (sm_pts g))) (pSub_i _ _)) rfl)))
theorem m_is_bent_eq {T : List Th} (g : GoodT T) : m_is_bent [encT T] = .ok (.bool (decide (twA (crn (pts T)) = twA (pts T)))) :=
  mBody_of (ev_check (ev_callF (s1 := ()) rfl (m_check_things_eq g)) (ev_let (s1 := ()) (ev_callF rfl (m_points_of_eq g.l64)) (ret_of (ev_op (s1 := ()) (ev_callF (ev_a1 (ev_callF rfl (m_corners_of_eq (sm_pts g) (pts_l1000 g)))) (m_double_area_eq (crn_sm (pts_pok g)))) (ev_callF rfl (m_double_area_eq (sm_pts g))) (pEq_i _ _)) rfl)))
/-! ### a hull is its own hull -/
theorem pop_id : ∀ (st : List Pt) (p : Pt), (∀ b a r, st = b :: a :: r → turn a b p < 0) → pop st p = st
  | [], _, _ => rfl
  | [_], _, _ => rfl
  | b :: a :: r, p, h => by
    have := h b a r rfl
    unfold pop
    rw [if_neg (by omega)]
theorem crn_snoc (P : List Pt) (p : Pt) : crn (P ++ [p]) = (pop (crn P).reverse p).reverse ++ [p] := by
  unfold crn
  rw [List.foldl_append, List.reverse_reverse]
  simp
theorem Ch.fix {Q : List Pt} {st : List Pt} (h : Ch Q st) : crn st.reverse = st.reverse := by
  induction h with
  | one h m => rfl
  | @two a b c m u h ih =>
    show crn [a, b] = _
    rfl
  | @more a b c r k m u h t ih =>
    rw [List.reverse_cons, crn_snoc, ih, List.reverse_reverse, pop_id]
    intro b' a' r' e
    injection e with e1 e2
    injection e2 with e2 e3
    subst e1; subst e2
    exact t
theorem Hull.fix {P C : List Pt} (h : Hull P C) : crn C = C := by
  have := h.ch.fix
  rwa [List.reverse_reverse] at this
theorem hull_crv {P : List Pt} (g : CrvOk P) : CrvOk (crn P) := by
  have H := g.ok.hull
  refine ⟨H.l2 g.ok, by have := crn_len P; have := g.l13; omega, H.hd.trans g.hd, fun p hp => g.rng p (H.mem hp), H.up, fun p hp => g.last p ?_⟩
  rw [← H.lst]; exact hp
end DL

/-! N2: things with a given curve -/
namespace DL
open PySem PySem.Spec PyProof.Rows L2
local macro_rules | `(tactic| walk_at "ev") => `(tactic| simp only [szL, Nat.reduceLeDiff, mBody, mBodyD, outP, outD, cVar, cC, cOp, cUn, cTest, cAndT, cOrT, cNotT, cAndV, cOrV, cIf, aNil, aCons, cTup, cLst, cSl, oNone, oSome, cCall, cCallF, cCallD, cMeth, noX', isL_list, isL_encP, tYesD, bnd_ok, bnd_exc, bnd_bad, lft_ok, lft_exc, lft_bad, isOk_ok, isOk_exc, isOk_bad, isD_int, isD_bool, isD_none, isD_str, isD_list, isD_tuple, isD_eP, isD_eT, isD_encP, isD_encT, allD, List.all_cons, List.all_nil, Bool.and_self, Bool.and_true, Bool.true_and, if_true, if_false, Bool.false_eq_true, ite_true, ite_false, reduceIte, List.length_cons, List.length_nil, List.map_cons, List.map_nil, List.cons_append, List.nil_append, List.replicate_succ, List.replicate_zero, List.getElem?_cons_zero, List.getElem?_cons_succ, List.set_cons_zero, List.set_cons_succ, wipeD, sSeq, sSet, sAsg, sRet, sIf, sExpr, sNil, sRaise, sSetF, sApp, sAug, sAugL, sPar, sPar3, fLst, bNm, bTup, bCons, bNil, pNot, pIsi, isiT, tyN, pNeg, Nat.reduceAdd, decide_true, decide_false, Bool.not_true, Bool.not_false, noX_ok, pLe_i, pLt_i, pGt_i, pGe_i, pAdd_i, pSub_i, pLen_l, pLen_t, pIx_t0, pIx_t1, pEq_i, pNe_i])
local macro_rules | `(tactic| walk_at "evs") => `(tactic| simp [szL, mBody, mBodyD, outP, outD, cVar, cC, cOp, cUn, cTest, cAndT, cOrT, cNotT, cAndV, cOrV, cIf, aNil, aCons, cTup, cLst, cSl, oNone, oSome, cCall, cCallF, cCallD, cMeth, noX', isL_list, isL_encP, tYesD, bnd_ok, bnd_exc, bnd_bad, lft_ok, lft_exc, lft_bad, isOk_ok, isOk_exc, isOk_bad, isD_int, isD_bool, isD_none, isD_str, isD_list, isD_tuple, isD_eP, isD_eT, isD_encP, isD_encT, allD, List.all_cons, List.all_nil, List.map_cons, List.map_nil, List.cons_append, List.nil_append, List.replicate_succ, List.replicate_zero, List.getElem?_cons_zero, List.getElem?_cons_succ, List.set_cons_zero, List.set_cons_succ, wipeD, sSeq, sSet, sAsg, sRet, sIf, sExpr, sNil, sRaise, sSetF, sApp, sAug, sAugL, sPar, sPar3, fLst, bNm, bTup, bCons, bNil, pNot, pIsi, isiT, tyN, pNeg, noX_ok, pLe_i, pLt_i, pGt_i, pGe_i, pAdd_i, pSub_i, pLen_l, pLen_t, pIx_t0, pIx_t1, pEq_i, pNe_i])
local macro_rules | `(tactic| walk_at "evx") => `(tactic| simp [szL, mBody, mBodyD, outP, outD, cVar, cC, cOp, cUn, cTest, cAndT, cOrT, cNotT, cAndV, cOrV, cIf, aNil, aCons, cTup, cLst, cSl, oNone, oSome, cCall, cCallF, cCallD, cMeth, noX', isL_list, isL_encP, tYesD, bnd_ok, bnd_exc, bnd_bad, lft_ok, lft_exc, lft_bad, isOk_ok, isOk_exc, isOk_bad, isD_int, isD_bool, isD_none, isD_str, isD_list, isD_tuple, isD_eP, isD_eT, isD_encP, isD_encT, allD, List.all_cons, List.all_nil, List.map_cons, List.map_nil, List.cons_append, List.nil_append, List.replicate_succ, List.replicate_zero, List.getElem?_cons_zero, List.getElem?_cons_succ, List.set_cons_zero, List.set_cons_succ, wipeD, sSeq, sSet, sAsg, sRet, sIf, sExpr, sNil, sRaise, sSetF, sApp, sAug, sAugL, sPar, sPar3, fLst, bNm, bTup, bCons, bNil, pNot, pIsi, isiT, tyN, pNeg, noX_ok, pLe_i, pLt_i, pGt_i, pGe_i, pAdd_i, pSub_i, pLen_l, pLen_t, pIx_t0, pIx_t1, pEq_i, pNe_i, *])
/-- the things of one step -/
def stp (e : Pt × Pt) (s : Int) : List Th := List.replicate (e.2.1 - e.1.1).toNat (s, false) ++ List.replicate (e.2.2 - e.1.2).toNat (s, true)
def tE : List (Pt × Pt) → List Th
  | [] => []
  | e :: E => stp e ((E.length : Int) + 1) ++ tE E
theorem tE_rng : ∀ E : List (Pt × Pt), tE E = ((List.range E.length).map fun k => stp (E.getD k ((0, 0), (0, 0))) ((E.length : Int) - (k : Int))).flatten
  | [] => rfl
  | e :: E => by
    rw [List.length_cons, List.range_succ_eq_map, List.map_cons, List.flatten_cons, List.map_map, tE, tE_rng E]
    have e2 : (List.range E.length).map (fun k => stp (E.getD k ((0, 0), (0, 0))) ((E.length : Int) - (k : Int))) = (List.range E.length).map ((fun (k : Nat) => stp ((e :: E).getD k ((0, 0), (0, 0))) (((E.length + 1 : Nat) : Int) - (k : Int))) ∘ Nat.succ) := by
      apply List.map_congr_left
      intro k _
      show stp _ _ = stp ((e :: E).getD (k + 1) _) _
      rw [List.getD_cons_succ]
      congr 1
      omega
    rw [e2]
    congr 1
def UpEd (e : Pt × Pt) : Prop := Up e.1 e.2
theorem mem_stp {e : Pt × Pt} {s : Int} {x : Th} (h : x ∈ stp e s) : x.1 = s := by
  unfold stp at h
  rcases List.mem_append.mp h with z | z
  · rw [List.eq_of_mem_replicate z]
  · rw [List.eq_of_mem_replicate z]
theorem stp_ne {e : Pt × Pt} (h : UpEd e) (s : Int) : ∃ x ∈ stp e s, x.1 = s := by
  unfold stp
  have h1 := h.x
  have h2 := h.y
  rcases h.nz with z | z
  · exact ⟨(s, false), List.mem_append_left _ (List.mem_replicate.mpr ⟨by omega, rfl⟩), rfl⟩
  · exact ⟨(s, true), List.mem_append_right _ (List.mem_replicate.mpr ⟨by omega, rfl⟩), rfl⟩
theorem tE_sc : ∀ (E : List (Pt × Pt)), (∀ e ∈ E, UpEd e) → ∀ t : Int, (∃ x ∈ tE E, x.1 = t) ↔ 1 ≤ t ∧ t ≤ E.length
  | [], _, t => by
    constructor
    · rintro ⟨x, h, _⟩; cases h
    · rintro ⟨h1, h2⟩; simp at h2; omega
  | e :: E, h, t => by
    have ih := tE_sc E (fun e he => h e (List.mem_cons_of_mem _ he)) t
    unfold tE
    rw [List.length_cons]
    constructor
    · rintro ⟨x, hx, rfl⟩
      rcases List.mem_append.mp hx with z | z
      · rw [mem_stp z]; omega
      · have := ih.mp ⟨x, z, rfl⟩; omega
    · rintro ⟨h1, h2⟩
      by_cases c : t ≤ E.length
      · obtain ⟨x, hx, e⟩ := ih.mpr ⟨h1, c⟩
        exact ⟨x, List.mem_append_right _ hx, e⟩
      · obtain ⟨x, hx, e⟩ := stp_ne (h e (by simp)) ((E.length : Int) + 1)
        exact ⟨x, List.mem_append_left _ hx, by omega⟩
theorem fa_rep (n : Nat) (s t : Int) (b : Bool) : fa (List.replicate n (s, b)) t = if (decide (t ≤ s) && !b) = true then (n : Int) else 0 := by
  unfold fa
  rw [List.filter_replicate]
  split
  · rw [List.length_replicate]
  · rfl
theorem tr_rep (n : Nat) (s t : Int) (b : Bool) : tr (List.replicate n (s, b)) t = if (decide (t ≤ s) && b) = true then (n : Int) else 0 := by
  unfold tr
  rw [List.filter_replicate]
  split
  · rw [List.length_replicate]
  · rfl
theorem cnt_stp {e : Pt × Pt} (h : UpEd e) {s t : Int} (hs : t ≤ s) : fa (stp e s) t = e.2.1 - e.1.1 ∧ tr (stp e s) t = e.2.2 - e.1.2 := by
  have h1 := h.x
  have h2 := h.y
  unfold stp
  rw [fa_app, tr_app, fa_rep, fa_rep, tr_rep, tr_rep]
  simp [hs]
  omega
theorem cnt_tE_top : ∀ (E : List (Pt × Pt)) (t : Int), (E.length : Int) < t → fa (tE E) t = 0 ∧ tr (tE E) t = 0
  | [], _, _ => ⟨rfl, rfl⟩
  | e :: E, t, h => by
    rw [List.length_cons] at h
    have ih := cnt_tE_top E t (by omega)
    unfold tE
    rw [fa_app, tr_app, ih.1, ih.2]
    unfold stp
    rw [fa_app, tr_app, fa_rep, fa_rep, tr_rep, tr_rep]
    have : ¬ t ≤ (E.length : Int) + 1 := by omega
    simp [this]
theorem edges_cons (a b : Pt) (r : List Pt) : edges (a :: b :: r) = (a, b) :: edges (b :: r) := rfl
/-- the counts of the things of a curve -/
theorem cnt_tE : ∀ (C : List Pt) (a : Pt), C.head? = some a → C.Pairwise Up → ∀ i, i + 1 < C.length → fa (tE (edges C)) (((C.length - 1 : Nat) : Int) - (i : Int)) = (gt C (i + 1)).1 - a.1 ∧ tr (tE (edges C)) (((C.length - 1 : Nat) : Int) - (i : Int)) = (gt C (i + 1)).2 - a.2
  | [], _, h, _, _, _ => by cases h
  | [_], _, _, _, _, h => by simp at h
  | a :: b :: r, a', h, hp, i, hi => by
    injection h with h
    subst h
    have hp' := List.pairwise_cons.mp hp
    have hab : UpEd (a, b) := hp'.1 b (by simp)
    have hl : ((edges (b :: r)).length : Int) = ((b :: r).length : Int) - 1 := by rw [edges_len]; simp
    rw [edges_cons]
    unfold tE
    rw [fa_app, tr_app]
    have hlen : (((a :: b :: r).length - 1 : Nat) : Int) = ((edges (b :: r)).length : Int) + 1 := by rw [hl]; simp
    rw [hlen]
    obtain ⟨s1, s2⟩ := cnt_stp hab (s := ((edges (b :: r)).length : Int) + 1) (t := ((edges (b :: r)).length : Int) + 1 - (i : Int)) (by omega)
    rw [s1, s2]
    cases i with
    | zero =>
      obtain ⟨z1, z2⟩ := cnt_tE_top (edges (b :: r)) (((edges (b :: r)).length : Int) + 1 - ((0 : Nat) : Int)) (by omega)
      rw [z1, z2]
      show b.1 - a.1 + 0 = b.1 - a.1 ∧ b.2 - a.2 + 0 = b.2 - a.2
      omega
    | succ i =>
      have ih := cnt_tE (b :: r) b rfl hp'.2 i (by simp only [List.length_cons] at hi ⊢; omega)
      have et : ((edges (b :: r)).length : Int) + 1 - ((i + 1 : Nat) : Int) = (((b :: r).length - 1 : Nat) : Int) - (i : Int) := by rw [hl]; simp; omega
      rw [et, ih.1, ih.2]
      show b.1 - a.1 + ((gt (b :: r) (i + 1)).1 - b.1) = (gt (b :: r) (i + 1)).1 - a.1 ∧ b.2 - a.2 + ((gt (b :: r) (i + 1)).2 - b.2) = (gt (b :: r) (i + 1)).2 - a.2
      omega
theorem edges_up {C : List Pt} (h : C.Pairwise Up) : ∀ e ∈ edges C, UpEd e := zip_tail_mem h
theorem scs_tE {C : List Pt} (h : C.Pairwise Up) : scs (tE (edges C)) = (List.range (C.length - 1)).map fun (i : Nat) => ((C.length - 1 : Nat) : Int) - (i : Int) := by
  have key : (scs (tE (edges C))).reverse = ((List.range (C.length - 1)).map fun (i : Nat) => ((C.length - 1 : Nat) : Int) - (i : Int)).reverse := by
    refine sorted_eq ?_ ?_ fun k => ?_
    · have := scs_gt (tE (edges C))
      rw [List.pairwise_reverse]
      exact this
    · rw [List.pairwise_reverse, List.pairwise_map]
      refine List.Pairwise.imp_of_mem ?_ List.pairwise_lt_range
      intro a b _ _ hab
      omega
    · rw [List.mem_reverse, List.mem_reverse, mem_scs, tE_sc _ (edges_up h), edges_len]
      simp only [List.mem_map, List.mem_range]
      constructor
      · rintro ⟨h1, h2⟩
        exact ⟨((C.length - 1 : Nat) - k).toNat, by omega, by omega⟩
      · rintro ⟨i, hi, rfl⟩
        omega
  have := congrArg List.reverse key
  rwa [List.reverse_reverse, List.reverse_reverse] at this
theorem pts_tE {C : List Pt} (h : C.Pairwise Up) (hd : C.head? = some (0, 0)) : pts (tE (edges C)) = C := by
  unfold pts
  rw [scs_tE h, List.map_map]
  cases C with
  | nil => cases hd
  | cons a r =>
    injection hd with hd
    subst hd
    congr 1
    apply List.ext_getElem?
    intro i
    by_cases hi : i < r.length
    · have hl : i + 1 < ((0, 0) :: r : List Pt).length := by simp only [List.length_cons]; omega
      rw [List.getElem?_map, List.getElem?_range (by simp only [List.length_cons]; omega)]
      obtain ⟨c1, c2⟩ := cnt_tE _ (0, 0) rfl h i hl
      have hg := gt_get hl
      rw [List.getElem?_cons_succ] at hg
      rw [hg]
      show some (cnt _ _) = some _
      congr 1
      refine Prod.ext ?_ ?_
      · show fa _ _ = _
        rw [c1]; simp
      · show tr _ _ = _
        rw [c2]; simp
    · rw [List.getElem?_eq_none (by rw [List.length_map, List.length_range]; simp only [List.length_cons]; omega), List.getElem?_eq_none (by omega)]
theorem stp_len {e : Pt × Pt} (h : UpEd e) (s : Int) : ((stp e s).length : Int) = (e.2.1 - e.1.1) + (e.2.2 - e.1.2) := by
  have h1 := h.x
  have h2 := h.y
  unfold stp
  rw [List.length_append, List.length_replicate, List.length_replicate]
  omega
theorem tE_len : ∀ (C : List Pt) (a l : Pt), C.head? = some a → C.getLast? = some l → C.Pairwise Up → ((tE (edges C)).length : Int) = (l.1 - a.1) + (l.2 - a.2)
  | [], _, _, h, _, _ => by cases h
  | [c], a, l, h, k, _ => by
    injection h with h
    injection k with k
    subst h
    subst k
    show (0 : Int) = (c.1 - c.1) + (c.2 - c.2)
    omega
  | a :: b :: r, a', l, h, k, hp => by
    injection h with h
    subst h
    have hp' := List.pairwise_cons.mp hp
    have ih := tE_len (b :: r) b l rfl (by rw [List.getLast?_cons_cons] at k; exact k) hp'.2
    rw [edges_cons]
    unfold tE
    rw [List.length_append]
    have := stp_len (e := (a, b)) (hp'.1 b (by simp)) (((edges (b :: r)).length : Int) + 1)
    dsimp only at this
    omega
theorem tE_good {C : List Pt} (g : CrvOk C) : GoodT (tE (edges C)) := by
  obtain ⟨l, hl⟩ : ∃ l, C.getLast? = some l := by
    cases e : C.getLast? with
    | none => rw [List.getLast?_eq_none_iff] at e; exact absurd e g.ok.ne
    | some l => exact ⟨l, rfl⟩
  have h1 := tE_len C (0, 0) l g.hd hl g.up
  have h2 := g.last l hl
  have h3 := g.l2
  have h4 := g.l13
  dsimp only at h1
  refine ⟨?_, by omega, fun x hx => ?_⟩
  · -- some thing at score 1
    obtain ⟨x, hx, _⟩ := (tE_sc (edges C) (edges_up g.up) 1).mpr ⟨by decide, by rw [edges_len]; omega⟩
    cases hq : tE (edges C) with
    | nil => rw [hq] at hx; cases hx
    | cons _ _ => simp
  · have := (tE_sc (edges C) (edges_up g.up) x.1).mp ⟨x, hx, rfl⟩
    rw [edges_len] at this
    omega
theorem pMul_rep (d : PD) (k : Int) (h : 0 ≤ k ∧ k ≤ 1000) : pMul (.list [d]) (.int k) = .ok (.list (List.replicate k.toNat d)) := by
  show (if (decide (-(2 ^ 63) ≤ k) && decide (k < 2 ^ 63) && decide ([d].length * k.toNat ≤ sizeLine)) = true then R.ok (PyData.list (List.replicate k.toNat [d]).flatten) else .bad) = _
  rw [decide_eq_true (by omega), decide_eq_true (by omega), decide_eq_true (by simp only [List.length_cons, List.length_nil, szL]; omega)]
  have : (List.replicate k.toNat [d]).flatten = List.replicate k.toNat d := by
    induction k.toNat with
    | zero => rfl
    | succ n ih => rw [List.replicate_succ, List.flatten_cons, ih, List.replicate_succ]; rfl
  rw [this]
  rfl
theorem m_things_with_eq {C : List Pt} (g : CrvOk C) : m_things_with [encP C] = .ok (encT (tE (edges C))) := by
  have h2 := g.l2
  have h13 := g.l13
  have gT := tE_good g
  let f : Nat → List Th := fun k => stp (gt C k, gt C (k + 1)) (((C.length - 1 : Nat) : Int) - (k : Int))
  have hft : tE (edges C) = ((List.range (C.length - 1)).map f).flatten := by
    rw [tE_rng, edges_len]
    congr 1
    apply List.map_congr_left
    intro k hk
    have hk' := List.mem_range.mp hk
    show stp _ _ = stp _ _
    congr 1
    rw [List.getD_eq_getElem?_getD, edges_rng, List.getElem?_map, List.getElem?_range hk']
    rfl
  refine mBody_of (ev_check (ev_callF (s1 := ()) rfl (m_check_points_eq g)) (ev_seq (s' := ()) (ρ' := [some (encP C), some (.list []), none, none, none, none]) rfl ?_))
  obtain ⟨ρ', s', e, i⟩ := sForGo_inv (d := Unit) (bd := bNm 2) (body := sSeq (sSet 3 (cOp pSub (cOp pSub (cCall pLen (aCons (cVar 0) aNil)) (cC (.int 1))) (cVar 2)))
      (sSeq (sPar 4 5 (aCons (cOp pSub (cOp pIx (cOp pIx (cVar 0) (cOp pAdd (cVar 2) (cC (.int 1)))) (cC (.int 0))) (cOp pIx (cOp pIx (cVar 0) (cVar 2)) (cC (.int 0)))) (aCons (cOp pSub (cOp pIx (cOp pIx (cVar 0) (cOp pAdd (cVar 2) (cC (.int 1)))) (cC (.int 1))) (cOp pIx (cOp pIx (cVar 0) (cVar 2)) (cC (.int 1)))) aNil)))
      (sAugL 1 (cOp pAdd (cOp pMul (cLst (aCons (cTup (aCons (cVar 3) (aCons (cC (.bool false)) aNil))) aNil)) (cVar 4)) (cOp pMul (cLst (aCons (cTup (aCons (cVar 3) (aCons (cC (.bool true)) aNil))) aNil)) (cVar 5)))))) (fun (k : Nat) => PyData.int (k : Int))
    (fun pre ρ _ => ∃ a b c d, ρ = [some (encP C), some (encT ((pre.map f).flatten)), a, b, c, d]) (List.range (C.length - 1)) [] [some (encP C), some (encT []), none, none, none, none] () ⟨_, _, _, _, rfl⟩ fun pre k q ρ s hpq hi => by
      obtain ⟨a, b, c, d, rfl⟩ := hi
      rw [List.nil_append] at hpq
      have hk : k + 1 < C.length := by
        have : k ∈ List.range (C.length - 1) := by rw [hpq]; simp
        have := List.mem_range.mp this
        omega
      have hup : UpEd (gt C k, gt C (k + 1)) := edges_up g.up _ (by rw [edges_rng]; exact List.mem_map.mpr ⟨k, List.mem_range.mpr (by omega), rfl⟩)
      have hx := hup.x
      have hy := hup.y
      dsimp only at hx hy
      have r1 := g.rng _ (gt_mem (C := C) (k := k) (by omega))
      have r2 := g.rng _ (gt_mem (C := C) (k := k + 1) hk)
      have hpl : ((pre.map f).flatten).length ≤ 1000 := by
        have : ((pre.map f).flatten).length ≤ (tE (edges C)).length := by
          rw [hft, hpq, List.map_append, List.flatten_append, List.length_append]
          omega
        have := gT.l2
        omega
      refine ⟨_, [some (encP C), some (encT (((pre ++ [k]).map f).flatten)), some (.int (k : Int)), some (.int (((C.length - 1 : Nat) : Int) - (k : Int))), some (.int ((gt C (k + 1)).1 - (gt C k).1)), some (.int ((gt C (k + 1)).2 - (gt C k).2))], (), rfl, ?_, ⟨_, _, _, _, rfl⟩⟩
      refine ev_let (s1 := ()) (v := .int (((C.length - 1 : Nat) : Int) - (k : Int))) (ev_op (s1 := ()) (ev_op (s1 := ()) (ev_call (ev_a1 rfl) (len_encP C)) rfl (pSub_i _ _)) rfl (by rw [pSub_i]; congr 2; omega)) ?_
      refine ev_seq (s' := ()) (ρ' := [some (encP C), some (encT ((pre.map f).flatten)), some (.int (k : Int)), some (.int (((C.length - 1 : Nat) : Int) - (k : Int))), some (.int ((gt C (k + 1)).1 - (gt C k).1)), some (.int ((gt C (k + 1)).2 - (gt C k).2))]) ?_ ?_
      · unfold sPar
        rw [ev_aC (s2 := ()) (ev_op (s1 := ()) (ev_op (s1 := ()) (ev_op (s1 := ()) rfl (ev_op (s2 := ()) rfl rfl (pAdd_i _ _)) (pIx_gt hk)) rfl (eP_0 _)) (ev_op (s1 := ()) (ev_op (s2 := ()) rfl rfl (pIx_gt (by omega))) rfl (eP_0 _)) (pSub_i _ _)) (ev_a1 (ev_op (s1 := ()) (ev_op (s1 := ()) (ev_op (s1 := ()) rfl (ev_op (s2 := ()) rfl rfl (pAdd_i _ _)) (pIx_gt hk)) rfl (eP_1 _)) (ev_op (s1 := ()) (ev_op (s2 := ()) rfl rfl (pIx_gt (by omega))) rfl (eP_1 _)) (pSub_i _ _)))]
        rfl
      · have hv : cOp pAdd (cOp pMul (cLst (aCons (cTup (aCons (cVar 3) (aCons (cC (.bool false)) aNil))) aNil)) (cVar 4)) (cOp pMul (cLst (aCons (cTup (aCons (cVar 3) (aCons (cC (.bool true)) aNil))) aNil)) (cVar 5)) [some (encP C), some (encT ((pre.map f).flatten)), some (.int (k : Int)), some (.int (((C.length - 1 : Nat) : Int) - (k : Int))), some (.int ((gt C (k + 1)).1 - (gt C k).1)), some (.int ((gt C (k + 1)).2 - (gt C k).2))] () = .ok (encT (f k), ()) := by
          refine ev_op (s1 := ()) (ev_op (s1 := ()) rfl rfl (pMul_rep (.tuple [.int (((C.length - 1 : Nat) : Int) - (k : Int)), .bool false]) _ ⟨hx, by omega⟩)) (ev_op (s1 := ()) rfl rfl (pMul_rep (.tuple [.int (((C.length - 1 : Nat) : Int) - (k : Int)), .bool true]) _ ⟨hy, by omega⟩)) ?_
          rw [pAdd_lists _ _ (by rw [List.length_replicate, List.length_replicate]; omega)]
          unfold encT
          show _ = R.ok (PyData.list ((stp _ _).map eT))
          unfold stp
          rw [List.map_append, List.map_replicate, List.map_replicate]
          rfl
        unfold sAugL
        show bnd (cOp _ _ _ _ _) _ = _
        rw [hv, bnd_ok]
        have hfl : (f k).length ≤ 1000 := by
          have := stp_len hup (((C.length - 1 : Nat) : Int) - (k : Int))
          dsimp only at this
          show (stp _ _).length ≤ _
          omega
        show (if (((pre.map f).flatten).map eT).length + ((f k).map eT).length ≤ sizeLine then R.ok (Fl.nx ([some (encP C), some (encT ((pre.map f).flatten)), some (.int (k : Int)), some (.int (((C.length - 1 : Nat) : Int) - (k : Int))), some (.int ((gt C (k + 1)).1 - (gt C k).1)), some (.int ((gt C (k + 1)).2 - (gt C k).2))].set 1 (some (.list (((pre.map f).flatten).map eT ++ (f k).map eT)))), ()) else .bad) = _
        rw [if_pos (by rw [List.length_map, List.length_map, szL]; omega), ← List.map_append]
        have : (((pre ++ [k]).map f).flatten) = (pre.map f).flatten ++ f k := by
          rw [List.map_append, List.flatten_append]; simp
        rw [this]
        rfl
  obtain ⟨a, b, c, d, rfl⟩ := i
  refine ev_seq (ev_for (s' := ()) (iRg1_n (n := C.length - 1) (ev_op (s1 := ()) (ev_call (ev_a1 rfl) (len_encP C)) rfl (by rw [pSub_i]; congr 2; omega)) (by omega)) e) ?_
  rw [hft]
  rfl
end DL

/-! N3: the law's heights -/
namespace DL
open PySem PySem.Spec PyProof.Rows L2
local macro_rules | `(tactic| walk_at "ev") => `(tactic| simp only [szL, Nat.reduceLeDiff, mBody, mBodyD, outP, outD, cVar, cC, cOp, cUn, cTest, cAndT, cOrT, cNotT, cAndV, cOrV, cIf, aNil, aCons, cTup, cLst, cSl, oNone, oSome, cCall, cCallF, cCallD, cMeth, noX', isL_list, isL_encP, tYesD, bnd_ok, bnd_exc, bnd_bad, lft_ok, lft_exc, lft_bad, isOk_ok, isOk_exc, isOk_bad, isD_int, isD_bool, isD_none, isD_str, isD_list, isD_tuple, isD_eP, isD_eT, isD_encP, isD_encT, allD, List.all_cons, List.all_nil, Bool.and_self, Bool.and_true, Bool.true_and, if_true, if_false, Bool.false_eq_true, ite_true, ite_false, reduceIte, List.length_cons, List.length_nil, List.map_cons, List.map_nil, List.cons_append, List.nil_append, List.replicate_succ, List.replicate_zero, List.getElem?_cons_zero, List.getElem?_cons_succ, List.set_cons_zero, List.set_cons_succ, wipeD, sSeq, sSet, sAsg, sRet, sIf, sExpr, sNil, sRaise, sSetF, sApp, sAug, sAugL, sPar, sPar3, fLst, bNm, bTup, bCons, bNil, pNot, pIsi, isiT, tyN, pNeg, Nat.reduceAdd, decide_true, decide_false, Bool.not_true, Bool.not_false, noX_ok, pLe_i, pLt_i, pGt_i, pGe_i, pAdd_i, pSub_i, pLen_l, pLen_t, pIx_t0, pIx_t1, pEq_i, pNe_i])
local macro_rules | `(tactic| walk_at "evs") => `(tactic| simp [szL, mBody, mBodyD, outP, outD, cVar, cC, cOp, cUn, cTest, cAndT, cOrT, cNotT, cAndV, cOrV, cIf, aNil, aCons, cTup, cLst, cSl, oNone, oSome, cCall, cCallF, cCallD, cMeth, noX', isL_list, isL_encP, tYesD, bnd_ok, bnd_exc, bnd_bad, lft_ok, lft_exc, lft_bad, isOk_ok, isOk_exc, isOk_bad, isD_int, isD_bool, isD_none, isD_str, isD_list, isD_tuple, isD_eP, isD_eT, isD_encP, isD_encT, allD, List.all_cons, List.all_nil, List.map_cons, List.map_nil, List.cons_append, List.nil_append, List.replicate_succ, List.replicate_zero, List.getElem?_cons_zero, List.getElem?_cons_succ, List.set_cons_zero, List.set_cons_succ, wipeD, sSeq, sSet, sAsg, sRet, sIf, sExpr, sNil, sRaise, sSetF, sApp, sAug, sAugL, sPar, sPar3, fLst, bNm, bTup, bCons, bNil, pNot, pIsi, isiT, tyN, pNeg, noX_ok, pLe_i, pLt_i, pGt_i, pGe_i, pAdd_i, pSub_i, pLen_l, pLen_t, pIx_t0, pIx_t1, pEq_i, pNe_i])
local macro_rules | `(tactic| walk_at "evx") => `(tactic| simp [szL, mBody, mBodyD, outP, outD, cVar, cC, cOp, cUn, cTest, cAndT, cOrT, cNotT, cAndV, cOrV, cIf, aNil, aCons, cTup, cLst, cSl, oNone, oSome, cCall, cCallF, cCallD, cMeth, noX', isL_list, isL_encP, tYesD, bnd_ok, bnd_exc, bnd_bad, lft_ok, lft_exc, lft_bad, isOk_ok, isOk_exc, isOk_bad, isD_int, isD_bool, isD_none, isD_str, isD_list, isD_tuple, isD_eP, isD_eT, isD_encP, isD_encT, allD, List.all_cons, List.all_nil, List.map_cons, List.map_nil, List.cons_append, List.nil_append, List.replicate_succ, List.replicate_zero, List.getElem?_cons_zero, List.getElem?_cons_succ, List.set_cons_zero, List.set_cons_succ, wipeD, sSeq, sSet, sAsg, sRet, sIf, sExpr, sNil, sRaise, sSetF, sApp, sAug, sAugL, sPar, sPar3, fLst, bNm, bTup, bCons, bNil, pNot, pIsi, isiT, tyN, pNeg, noX_ok, pLe_i, pLt_i, pGt_i, pGe_i, pAdd_i, pSub_i, pLen_l, pLen_t, pIx_t0, pIx_t1, pEq_i, pNe_i, *])
def strict (pl : Pt) (e : Pt × Pt) : Bool := decide (e.1.1 * pl.2 < pl.1) && decide (pl.1 < e.2.1 * pl.2)
def foldC (pl : Pt) (E : List (Pt × Pt)) (b : Pt) : Pt := ((E.filter (strict pl)).map (cand pl)).foldl mxQ b
def foldP (pl : Pt) (P : List Pt) (b : Pt) : Pt := ((P.filter fun p => decide (p.1 * pl.2 = pl.1)).map fun p => (p.2, (1 : Int))).foldl mxQ b
theorem foldC_more (pl : Pt) (E : List (Pt × Pt)) (e : Pt × Pt) (b : Pt) : foldC pl (E ++ [e]) b = if strict pl e = true then mxQ (foldC pl E b) (cand pl e) else foldC pl E b := by
  unfold foldC
  rw [List.filter_append]
  cases h : strict pl e with
  | true => rw [List.filter_cons_of_pos h]; simp
  | false => rw [List.filter_cons_of_neg (by simp [h])]; simp
theorem foldP_more (pl : Pt) (P : List Pt) (p : Pt) (b : Pt) : foldP pl (P ++ [p]) b = if p.1 * pl.2 = pl.1 then mxQ (foldP pl P b) (p.2, 1) else foldP pl P b := by
  unfold foldP
  rw [List.filter_append]
  by_cases h : p.1 * pl.2 = pl.1
  · rw [List.filter_cons_of_pos (by simpa using h), if_pos h]; simp
  · rw [List.filter_cons_of_neg (by simpa using h), if_neg h]; simp
theorem strict_iff {pl : Pt} {e : Pt × Pt} : strict pl e = true ↔ e.1.1 * pl.2 < pl.1 ∧ pl.1 < e.2.1 * pl.2 := by
  unfold strict
  rw [Bool.and_eq_true, decide_eq_true_eq, decide_eq_true_eq]
theorem strict_ins {pl : Pt} {e : Pt × Pt} (h : strict pl e = true) : ins pl e = true := by
  have := strict_iff.mp h
  exact ins_iff.mpr ⟨by omega, by omega⟩
theorem strict_wide {pl : Pt} (ok : OkPl pl) {e : Pt × Pt} (h : strict pl e = true) : e.1.1 < e.2.1 := by
  have := strict_iff.mp h
  exact Int.lt_of_mul_lt_mul_right (a := pl.2) (by omega) (by have := ok.d; omega)
theorem chain_lt {d : Type} (a b c : Env → d → R (PD × d)) (ρ : Env) (s : d) (x y z : Int) (ha : a ρ s = .ok (.int x, s)) (hb : b ρ s = .ok (.int y, s)) (hc : c ρ s = .ok (.int z, s)) : cChain pLt pLt a b c ρ s = .ok (.bool (decide (x < y) && decide (y < z)), s) := by
  unfold cChain
  rw [ha, bnd_ok, hb, bnd_ok, if_pos (show (isD (.int x) && isD (.int y)) = true from rfl), pLt_i]
  by_cases h : x < y
  · rw [decide_eq_true h]
    show bnd (c ρ s) _ = _
    rw [hc, bnd_ok, if_pos (show isD (.int z) = true from rfl), pLt_i]; rfl
  · rw [decide_eq_false h]; rfl
/-- one line tried -/
theorem chord_step {ρ : Env} {ia ib ic jd io : Nat} {pl best : Pt} {e : Pt × Pt} (ok : OkPl pl) (k : strict pl e = true → OkE e) (r : (0 ≤ e.1.1 ∧ e.1.1 ≤ 12 ∧ 0 ≤ e.1.2 ∧ e.1.2 ≤ 12) ∧ 0 ≤ e.2.1 ∧ e.2.1 ≤ 12 ∧ 0 ≤ e.2.2 ∧ e.2.2 ≤ 12) (hb : Nm best) (h1 : cVar 1 ρ () = .ok (eP pl, ())) (h2 : cVar 2 ρ () = .ok (eP best, ())) (ha : cVar ia ρ () = .ok (.int e.1.1, ())) (hb' : cVar ib ρ () = .ok (.int e.1.2, ())) (hc : cVar ic ρ () = .ok (.int e.2.1, ())) (hd : cVar jd ρ () = .ok (.int e.2.2, ()))
    (ho : ∀ x, cVar io (ρ.set io (some x)) () = .ok (x, ())) (ho2 : ∀ x, cVar 2 (ρ.set io (some x)) () = .ok (eP best, ())) :
    sIf (cTest (cChain pLt pLt (cOp pMul (cVar ia) (cOp pIx (cVar 1) (cC (.int 1)))) (cOp pIx (cVar 1) (cC (.int 0))) (cOp pMul (cVar ic) (cOp pIx (cVar 1) (cC (.int 1))))))
      (sSeq (sSet io (cCallF 2 m__law_low (aCons (cOp pAdd (cOp pMul (cOp pMul (cVar ib) (cOp pSub (cVar ic) (cVar ia))) (cOp pIx (cVar 1) (cC (.int 1)))) (cOp pMul (cOp pSub (cOp pIx (cVar 1) (cC (.int 0))) (cOp pMul (cVar ia) (cOp pIx (cVar 1) (cC (.int 1))))) (cOp pSub (cVar jd) (cVar ib)))) (aCons (cOp pMul (cOp pSub (cVar ic) (cVar ia)) (cOp pIx (cVar 1) (cC (.int 1)))) aNil))))
      (sSet 2 (cIf (cTest (cCallF 2 m__law_below (aCons (cVar 2) (aCons (cVar io) aNil)))) (cVar io) (cVar 2))))
      sNil ρ () = .ok (.nx (if strict pl e = true then (ρ.set io (some (eP (cand pl e)))).set 2 (some (eP (mxQ best (cand pl e)))) else ρ), ()) := by
  obtain ⟨⟨r1, r2, r3, r4⟩, r5, r6, r7, r8⟩ := r
  obtain ⟨n1, n2, d1, d2⟩ := ok
  have ok : OkPl pl := ⟨n1, n2, d1, d2⟩
  have b0 := mul_bd (a := e.1.1) (b := pl.2) (A := 12) (B := 1000) r1 r2 (by omega) d2
  have ht : cTest (cChain pLt pLt (cOp pMul (cVar ia) (cOp pIx (cVar 1) (cC (.int 1)))) (cOp pIx (cVar 1) (cC (.int 0))) (cOp pMul (cVar ic) (cOp pIx (cVar 1) (cC (.int 1))))) ρ () = .ok (strict pl e, ()) :=
    ev_test (chain_lt (d := Unit) _ _ _ _ () _ _ _ (ev_op (s1 := ()) ha (ev_op (s2 := ()) h1 rfl (eP_1 _)) (pMul_i (by omega))) (ev_op (s2 := ()) h1 rfl (eP_0 _)) (ev_op (s1 := ()) hc (ev_op (s2 := ()) h1 rfl (eP_1 _)) (pMul_i (by omega))))
  cases hi : strict pl e with
  | false => exact ev_if_f (by rw [ht, hi]) rfl
  | true =>
    have hk := k hi
    have hw := strict_wide ok hi
    have hcn := cand_nm ok hk (strict_ins hi)
    have z : ¬ e.2.1 - e.1.1 = 0 := by omega
    have c2 := chD_bd ok hk z
    have hce : cand pl e = lowQ (chN pl e.1 e.2) (chD pl e.1 e.2) := by unfold cand; rw [if_neg z]
    have b1 := mul_bd (a := e.1.2) (b := e.2.1 - e.1.1) (A := 12) (B := 12) r3 r4 (by omega) (by omega)
    refine ev_if_t (s' := ()) (by rw [ht, hi]) (ev_let (s1 := ()) (v := eP (cand pl e)) ?_ (ev_set (v := eP (mxQ best (cand pl e))) ?_))
    · rw [hce]
      refine ev_callF (ev_aC (s2 := ()) (ev_op (s1 := ()) (ev_op (s1 := ()) (ev_op (s1 := ()) hb' (ev_op (s1 := ()) hc ha (pSub_i _ _)) (pMul_i (by omega))) (ev_op (s2 := ()) h1 rfl (eP_1 _)) (pMul_i (by omega))) (ev_op (s1 := ()) (ev_op (s1 := ()) (ev_op (s2 := ()) h1 rfl (eP_0 _)) (ev_op (s1 := ()) ha (ev_op (s2 := ()) h1 rfl (eP_1 _)) (pMul_i (by omega))) (pSub_i _ _)) (ev_op (s1 := ()) hd hb' (pSub_i _ _)) (pMul_i (by omega))) (pAdd_i _ _)) (ev_a1 (ev_op (s1 := ()) (ev_op (s1 := ()) hc ha (pSub_i _ _)) (ev_op (s2 := ()) h1 rfl (eP_1 _)) (pMul_i (by omega))))) (m__law_low_eq (d := chD pl e.1 e.2) c2.1 (by omega))
    · unfold mxQ
      cases hl : ltQ best (cand pl e) with
      | true => exact cIf_t (s1 := ()) (ev_test (ev_callF (ev_aC (ho2 _) (ev_a1 (ho _))) (by rw [m__law_below_eq hb.b hcn.b, hl]))) (ho _)
      | false => exact cIf_f (s1 := ()) (ev_test (ev_callF (ev_aC (ho2 _) (ev_a1 (ho _))) (by rw [m__law_below_eq hb.b hcn.b, hl]))) (ho2 _)
theorem foldC_nm {pl : Pt} (ok : OkPl pl) : ∀ (E : List (Pt × Pt)) (b : Pt), Nm b → (∀ e ∈ E, strict pl e = true → OkE e) → Nm (foldC pl E b)
  | [], _, hb, _ => hb
  | e :: E, b, hb, h => by
    unfold foldC
    cases hi : strict pl e with
    | true =>
      rw [List.filter_cons_of_pos hi, List.map_cons, List.foldl_cons]
      exact foldC_nm ok E _ (mxQ_nm hb (cand_nm ok (h e (by simp) hi) (strict_ins hi))) fun x hx => h x (List.mem_cons_of_mem _ hx)
    | false =>
      rw [List.filter_cons_of_neg (by simp [hi])]
      exact foldC_nm ok E b hb fun x hx => h x (List.mem_cons_of_mem _ hx)
theorem foldP_nm {pl : Pt} : ∀ (P : List Pt) (b : Pt), Nm b → (∀ p ∈ P, 0 ≤ p.2 ∧ p.2 ≤ 12) → Nm (foldP pl P b)
  | [], _, hb, _ => hb
  | p :: P, b, hb, h => by
    have hp := h p (by simp)
    have hn : Nm (p.2, 1) := ⟨hp.1, by show p.2 ≤ _; omega, low1 _⟩
    unfold foldP
    by_cases hi : p.1 * pl.2 = pl.1
    · rw [List.filter_cons_of_pos (by simpa using hi), List.map_cons, List.foldl_cons]
      exact foldP_nm P _ (mxQ_nm hb hn) fun x hx => h x (List.mem_cons_of_mem _ hx)
    · rw [List.filter_cons_of_neg (by simpa using hi)]
      exact foldP_nm P b hb fun x hx => h x (List.mem_cons_of_mem _ hx)
def lhB (C : List Pt) (pl : Pt) : Pt := foldC pl (edges C) (foldP pl C (0, 1))
theorem nm01 : Nm (0, 1) := ⟨by decide, by decide, low1 0⟩
theorem okE_of {P : List Pt} (h : PtsOk P) {p q : Pt} (hp : p ∈ P) (hq : q ∈ P) (w : p.1 < q.1) : OkE (p, q) := by
  have r1 := h.rng p hp
  have r2 := h.rng q hq
  rcases pw_tot h.up p hp q hq with z | z
  · have := z.x; omega
  · exact ⟨r1.1, r1.2.2.1, z.1, z.2.1, r2.2.1, r2.2.2.2⟩
theorem m__law_height_eq {C : List Pt} (h : PtsOk C) (hl : C.length ≤ 1000) {pl : Pt} (ok : OkPl pl) : m__law_height [encP C, eP pl] = .ok (eP (lhB C pl)) := by
  refine mBody_of ?_
  unfold b__law_height
  refine ev_seq (s' := ()) (ρ' := [some (encP C), some (eP pl), some (eP (0, 1)), none, none, none, none, none, none]) rfl ?_
  obtain ⟨ρ', s', e, i⟩ := sForGo_inv (d := Unit) (bd := bTup (bCons (bNm 4) (bCons (bNm 5) bNil))) (body := (sIf (cTest (cOp pEq (cOp pMul (cVar 4) (cOp pIx (cVar 1) (cC (.int 1)))) (cOp pIx (cVar 1) (cC (.int 0)))))
      (sSet 2 (cIf (cTest (cCallF 2 m__law_below (aCons (cVar 2) (aCons (cTup (aCons (cVar 5) (aCons (cC (.int 1)) aNil))) aNil)))) (cTup (aCons (cVar 5) (aCons (cC (.int 1)) aNil))) (cVar 2)))
      sNil)) eP
    (fun pre ρ _ => ∃ a b, ρ = [some (encP C), some (eP pl), some (eP (foldP pl pre (0, 1))), none, a, b, none, none, none]) C [] [some (encP C), some (eP pl), some (eP (0, 1)), none, none, none, none, none, none] () ⟨_, _, rfl⟩ fun pre p q ρ s hpq hi => by
      obtain ⟨a, b, rfl⟩ := hi
      rw [List.nil_append] at hpq
      have hr := h.rng p (by rw [hpq]; simp)
      have hn := foldP_nm (pl := pl) pre (0, 1) nm01 fun x hx => by have := h.rng x (by rw [hpq]; exact List.mem_append_left _ hx); omega
      have hpn : Nm (p.2, 1) := ⟨hr.2.2.1, by show p.2 ≤ _; omega, low1 _⟩
      refine ⟨[some (encP C), some (eP pl), some (eP (foldP pl pre (0, 1))), none, some (.int p.1), some (.int p.2), none, none, none], [some (encP C), some (eP pl), some (eP (foldP pl (pre ++ [p]) (0, 1))), none, some (.int p.1), some (.int p.2), none, none, none], (), rfl, ?_, ⟨_, _, rfl⟩⟩
      have ht : cTest (cOp pEq (cOp pMul (cVar 4) (cOp pIx (cVar 1) (cC (.int 1)))) (cOp pIx (cVar 1) (cC (.int 0)))) [some (encP C), some (eP pl), some (eP (foldP pl pre (0, 1))), none, some (.int p.1), some (.int p.2), none, none, none] () = .ok (decide (p.1 * pl.2 = pl.1), ()) :=
        ev_test (ev_op (s1 := ()) (ev_op (s1 := ()) rfl (ev_op (s2 := ()) rfl rfl (eP_1 _)) (pMul_i (by omega))) (ev_op (s2 := ()) rfl rfl (eP_0 _)) (pEq_i _ _))
      rw [foldP_more]
      by_cases c : p.1 * pl.2 = pl.1
      · rw [if_pos c]
        refine ev_if_t (s' := ()) (by rw [ht, decide_eq_true c]) (ev_set (v := eP (mxQ (foldP pl pre (0, 1)) (p.2, 1))) ?_)
        unfold mxQ
        cases hlq : ltQ (foldP pl pre (0, 1)) (p.2, 1) with
        | true => exact cIf_t (s1 := ()) (ev_test (ev_callF (ev_aC (s2 := ()) rfl (ev_a1 (ev_tup (ev_aC (s2 := ()) rfl (ev_a1 rfl))))) (by rw [show PyData.tuple [.int p.2, .int 1] = eP (p.2, 1) from rfl, m__law_below_eq hn.b hpn.b, hlq]))) rfl
        | false => exact cIf_f (s1 := ()) (ev_test (ev_callF (ev_aC (s2 := ()) rfl (ev_a1 (ev_tup (ev_aC (s2 := ()) rfl (ev_a1 rfl))))) (by rw [show PyData.tuple [.int p.2, .int 1] = eP (p.2, 1) from rfl, m__law_below_eq hn.b hpn.b, hlq]))) rfl
      · rw [if_neg c]
        exact ev_if_f (s' := ()) (by rw [ht, decide_eq_false c]) rfl
  obtain ⟨a, b, rfl⟩ := i
  refine ev_seq (ev_for (s' := ()) rfl e) ?_
  rw [List.nil_append]
  have hn1 := foldP_nm (pl := pl) C (0, 1) nm01 fun x hx => by have := h.rng x hx; omega
  obtain ⟨B1, hB1⟩ : ∃ B, B = foldP pl C (0, 1) := ⟨_, rfl⟩
  rw [← hB1] at hn1 ⊢
  obtain ⟨ρ2, s2, e2, i2⟩ := sForGo_inv (d := Unit) (bd := bNm 3) (body := sSeq (sAsg (bTup (bCons (bTup (bCons (bNm 4) (bCons (bNm 5) bNil))) (bCons (bTup (bCons (bNm 7) (bCons (bNm 8) bNil))) bNil))) (cTup (aCons (cOp pIx (cVar 0) (cVar 3)) (aCons (cOp pIx (cVar 0) (cOp pAdd (cVar 3) (cC (.int 1)))) aNil))))
      (sIf (cTest (cChain pLt pLt (cOp pMul (cVar 4) (cOp pIx (cVar 1) (cC (.int 1)))) (cOp pIx (cVar 1) (cC (.int 0))) (cOp pMul (cVar 7) (cOp pIx (cVar 1) (cC (.int 1))))))
      (sSeq (sSet 6 (cCallF 2 m__law_low (aCons (cOp pAdd (cOp pMul (cOp pMul (cVar 5) (cOp pSub (cVar 7) (cVar 4))) (cOp pIx (cVar 1) (cC (.int 1)))) (cOp pMul (cOp pSub (cOp pIx (cVar 1) (cC (.int 0))) (cOp pMul (cVar 4) (cOp pIx (cVar 1) (cC (.int 1))))) (cOp pSub (cVar 8) (cVar 5)))) (aCons (cOp pMul (cOp pSub (cVar 7) (cVar 4)) (cOp pIx (cVar 1) (cC (.int 1)))) aNil))))
      (sSet 2 (cIf (cTest (cCallF 2 m__law_below (aCons (cVar 2) (aCons (cVar 6) aNil)))) (cVar 6) (cVar 2))))
      sNil)) (fun (k : Nat) => PyData.int (k : Int))
    (fun pre ρ _ => ∃ x3 x4 x5 x6 x7 x8, ρ = [some (encP C), some (eP pl), some (eP (foldC pl (pre.map fun k => (gt C k, gt C (k + 1))) B1)), x3, x4, x5, x6, x7, x8]) (List.range (C.length - 1)) [] [some (encP C), some (eP pl), some (eP B1), none, a, b, none, none, none] () ⟨_, _, _, _, _, _, rfl⟩ fun pre k q ρ s hpq hi => by
      obtain ⟨x3, x4, x5, x6, x7, x8, rfl⟩ := hi
      rw [List.nil_append] at hpq
      have hrk : ∀ j ∈ pre ++ k :: q, j + 1 < C.length := fun j hj => by
        rw [← hpq] at hj
        have := List.mem_range.mp hj
        omega
      have hk := hrk k (by simp)
      have hm1 := gt_mem (C := C) (k := k) (by omega)
      have hm2 := gt_mem (C := C) (k := k + 1) hk
      have hn := foldC_nm ok (pre.map fun k => (gt C k, gt C (k + 1))) B1 hn1 fun e he hse => by
        obtain ⟨j, hj, rfl⟩ := List.mem_map.mp he
        have hj' := hrk j (List.mem_append_left _ hj)
        exact okE_of h (gt_mem (by omega)) (gt_mem hj') (strict_wide ok hse)
      have cs := chord_step (ρ := [some (encP C), some (eP pl), some (eP (foldC pl (pre.map fun k => (gt C k, gt C (k + 1))) B1)), some (.int (k : Int)), some (.int (gt C k).1), some (.int (gt C k).2), x6, some (.int (gt C (k + 1)).1), some (.int (gt C (k + 1)).2)]) (ia := 4) (ib := 5) (ic := 7) (jd := 8) (io := 6) (e := (gt C k, gt C (k + 1))) ok (fun hse => okE_of h hm1 hm2 (strict_wide ok hse)) ⟨h.rng _ hm1, h.rng _ hm2⟩ hn rfl rfl rfl rfl rfl rfl (fun _ => rfl) (fun _ => rfl)
      cases hi : strict pl (gt C k, gt C (k + 1)) with
      | true =>
        rw [hi, if_pos rfl] at cs
        refine ⟨_, _, (), rfl, ev_unp (s1 := ()) (ev_tup (ev_aC (s2 := ()) (ev_op (s1 := ()) rfl rfl (pIx_gt (by omega))) (ev_a1 (ev_op (s1 := ()) rfl (ev_op (s2 := ()) rfl rfl (pAdd_i _ _)) (pIx_gt hk))))) rfl cs, ⟨some (.int (k : Int)), some (.int (gt C k).1), some (.int (gt C k).2), some (eP (cand pl (gt C k, gt C (k + 1)))), some (.int (gt C (k + 1)).1), some (.int (gt C (k + 1)).2), ?_⟩⟩
        rw [List.map_append, List.map_cons, List.map_nil, foldC_more, hi]
        rfl
      | false =>
        rw [hi, if_neg (by decide)] at cs
        refine ⟨_, _, (), rfl, ev_unp (s1 := ()) (ev_tup (ev_aC (s2 := ()) (ev_op (s1 := ()) rfl rfl (pIx_gt (by omega))) (ev_a1 (ev_op (s1 := ()) rfl (ev_op (s2 := ()) rfl rfl (pAdd_i _ _)) (pIx_gt hk))))) rfl cs, ⟨some (.int (k : Int)), some (.int (gt C k).1), some (.int (gt C k).2), x6, some (.int (gt C (k + 1)).1), some (.int (gt C (k + 1)).2), ?_⟩⟩
        rw [List.map_append, List.map_cons, List.map_nil, foldC_more, hi]
        rfl
  obtain ⟨x3, x4, x5, x6, x7, x8, rfl⟩ := i2
  refine ev_seq (ev_for (s' := ()) (iRg1_n (n := C.length - 1) (ev_op (s1 := ()) (ev_call (ev_a1 rfl) (len_encP C)) rfl (by rw [pSub_i]; congr 2; have := h.l2; omega)) (by omega)) e2) ?_
  unfold lhB
  rw [← hB1, edges_rng]
  rfl
theorem foldC_app (pl : Pt) (E F : List (Pt × Pt)) (b : Pt) : foldC pl (E ++ F) b = foldC pl F (foldC pl E b) := by
  unfold foldC
  rw [List.filter_append, List.map_append, List.foldl_append]
def prs (P : List Pt) : List (Pt × Pt) := (P.map fun a => P.map fun b => (a, b)).flatten
def ltB (P : List Pt) (pl : Pt) : Pt := foldC pl (prs P) (lhB P pl)
def topBody : Env → Unit → R (Fl × Unit) := (sIf (cTest (cChain pLt pLt (cOp pMul (cVar 3) (cOp pIx (cVar 1) (cC (.int 1)))) (cOp pIx (cVar 1) (cC (.int 0))) (cOp pMul (cVar 5) (cOp pIx (cVar 1) (cC (.int 1))))))
      (sSeq (sSet 7 (cCallF 2 m__law_low (aCons (cOp pAdd (cOp pMul (cOp pMul (cVar 4) (cOp pSub (cVar 5) (cVar 3))) (cOp pIx (cVar 1) (cC (.int 1)))) (cOp pMul (cOp pSub (cOp pIx (cVar 1) (cC (.int 0))) (cOp pMul (cVar 3) (cOp pIx (cVar 1) (cC (.int 1))))) (cOp pSub (cVar 6) (cVar 4)))) (aCons (cOp pMul (cOp pSub (cVar 5) (cVar 3)) (cOp pIx (cVar 1) (cC (.int 1)))) aNil))))
      (sSet 2 (cIf (cTest (cCallF 2 m__law_below (aCons (cVar 2) (aCons (cVar 7) aNil)))) (cVar 7) (cVar 2))))
      sNil)
theorem lhB_nm {C : List Pt} (h : PtsOk C) {pl : Pt} (ok : OkPl pl) : Nm (lhB C pl) :=
  foldC_nm ok _ _ (foldP_nm C (0, 1) nm01 fun x hx => by have := h.rng x hx; omega) fun e he hse => by
    obtain ⟨x, y, ec⟩ := mem_edges.mp he
    exact okE_of h (by rw [ec]; simp) (by rw [ec]; simp) (strict_wide ok hse)
theorem m__law_top_eq {P : List Pt} (h : PtsOk P) (hl : P.length ≤ 1000) {pl : Pt} (ok : OkPl pl) : m__law_top [encP P, eP pl] = .ok (eP (ltB P pl)) := by
  refine mBody_of ?_
  unfold b__law_top
  refine ev_let (s1 := ()) (ev_callF rfl (m__law_height_eq h hl ok)) ?_
  have hn0 := lhB_nm h ok
  have hmem : ∀ e ∈ prs P, e.1 ∈ P ∧ e.2 ∈ P := fun e he => by
    unfold prs at he
    rw [List.mem_flatten] at he
    obtain ⟨l, hl, he⟩ := he
    obtain ⟨a, ha, rfl⟩ := List.mem_map.mp hl
    obtain ⟨b, hb, rfl⟩ := List.mem_map.mp he
    exact ⟨ha, hb⟩
  have inner : ∀ (p : Pt), p ∈ P → ∀ (B : Pt), Nm B → ∀ x5 x6 x7, ∃ x5' x6' x7', sForGo (bTup (bCons (bNm 5) (bCons (bNm 6) bNil))) topBody (P.map eP) [some (encP P), some (eP pl), some (eP B), some (.int p.1), some (.int p.2), x5, x6, x7] () = .ok (.nx [some (encP P), some (eP pl), some (eP (foldC pl (P.map fun b => (p, b)) B)), some (.int p.1), some (.int p.2), x5', x6', x7'], ()) := fun p hp B hB x5 x6 x7 => by
    obtain ⟨ρ', s', e, i⟩ := sForGo_inv (d := Unit) (bd := bTup (bCons (bNm 5) (bCons (bNm 6) bNil))) (body := topBody) eP
      (fun pre ρ _ => ∃ x5 x6 x7, ρ = [some (encP P), some (eP pl), some (eP (foldC pl (pre.map fun b => (p, b)) B)), some (.int p.1), some (.int p.2), x5, x6, x7]) P [] [some (encP P), some (eP pl), some (eP B), some (.int p.1), some (.int p.2), x5, x6, x7] () ⟨_, _, _, rfl⟩ fun pre q r ρ s hpq hi => by
        obtain ⟨x5, x6, x7, rfl⟩ := hi
        rw [List.nil_append] at hpq
        have hq : q ∈ P := by rw [hpq]; simp
        have hn := foldC_nm ok (pre.map fun b => (p, b)) B hB fun e he hse => by
          obtain ⟨j, hj, rfl⟩ := List.mem_map.mp he
          exact okE_of h hp (by rw [hpq]; exact List.mem_append_left _ hj) (strict_wide ok hse)
        have cs := chord_step (ρ := [some (encP P), some (eP pl), some (eP (foldC pl (pre.map fun b => (p, b)) B)), some (.int p.1), some (.int p.2), some (.int q.1), some (.int q.2), x7]) (ia := 3) (ib := 4) (ic := 5) (jd := 6) (io := 7) (e := (p, q)) ok (fun hse => okE_of h hp hq (strict_wide ok hse)) ⟨h.rng _ hp, h.rng _ hq⟩ hn rfl rfl rfl rfl rfl rfl (fun _ => rfl) (fun _ => rfl)
        cases hi : strict pl (p, q) with
        | true =>
          rw [hi, if_pos rfl] at cs
          refine ⟨_, _, (), rfl, cs, ⟨some (.int q.1), some (.int q.2), some (eP (cand pl (p, q))), ?_⟩⟩
          rw [List.map_append, List.map_cons, List.map_nil, foldC_more, hi]
          rfl
        | false =>
          rw [hi, if_neg (by decide)] at cs
          refine ⟨_, _, (), rfl, cs, ⟨some (.int q.1), some (.int q.2), x7, ?_⟩⟩
          rw [List.map_append, List.map_cons, List.map_nil, foldC_more, hi]
          rfl
    obtain ⟨x5', x6', x7', rfl⟩ := i
    exact ⟨x5', x6', x7', e⟩
  obtain ⟨ρ', s', e, i⟩ := sForGo_inv (d := Unit) (bd := bTup (bCons (bNm 3) (bCons (bNm 4) bNil))) (body := sFor (iLst (cVar 0)) (bTup (bCons (bNm 5) (bCons (bNm 6) bNil))) topBody) eP
    (fun pre ρ _ => ∃ x3 x4 x5 x6 x7, ρ = [some (encP P), some (eP pl), some (eP (foldC pl ((pre.map fun a => P.map fun b => (a, b)).flatten) (lhB P pl))), x3, x4, x5, x6, x7]) P [] [some (encP P), some (eP pl), some (eP (lhB P pl)), none, none, none, none, none] () ⟨_, _, _, _, _, rfl⟩ fun pre p r ρ s hpq hi => by
      obtain ⟨x3, x4, x5, x6, x7, rfl⟩ := hi
      rw [List.nil_append] at hpq
      have hp : p ∈ P := by rw [hpq]; simp
      have hn := foldC_nm ok ((pre.map fun a => P.map fun b => (a, b)).flatten) (lhB P pl) hn0 fun e he hse => by
        have := hmem e (by
          unfold prs
          rw [List.mem_flatten] at he ⊢
          obtain ⟨l, hl, he⟩ := he
          obtain ⟨a, ha, rfl⟩ := List.mem_map.mp hl
          exact ⟨_, List.mem_map.mpr ⟨a, by rw [hpq]; exact List.mem_append_left _ ha, rfl⟩, he⟩)
        exact okE_of h this.1 this.2 (strict_wide ok hse)
      obtain ⟨x5', x6', x7', ein⟩ := inner p hp _ hn x5 x6 x7
      refine ⟨[some (encP P), some (eP pl), some (eP (foldC pl ((pre.map fun a => P.map fun b => (a, b)).flatten) (lhB P pl))), some (.int p.1), some (.int p.2), x5, x6, x7], _, (), rfl, ev_for (s' := ()) rfl ein, ⟨some (.int p.1), some (.int p.2), x5', x6', x7', ?_⟩⟩
      rw [List.map_append, List.flatten_append, foldC_app]
      simp
  obtain ⟨x3, x4, x5, x6, x7, rfl⟩ := i
  exact ev_seq (ev_for (s' := ()) rfl e) rfl
/-! ### they are the hull's heights -/
theorem mxQ_fold {L : List Pt} {b : Pt} (h : ∀ x ∈ b :: L, 0 < x.2) {m : Pt} (hm : 0 < m.2) (hle : ∀ x ∈ b :: L, LeQ x m) (hge : ∃ x ∈ b :: L, LeQ m x) : EqQ (L.foldl mxQ b) m := by
  have sp := mxQ_spec h
  refine (hle _ sp.1).anti ?_
  obtain ⟨x, hx, hmx⟩ := hge
  have hr : 0 < (L.foldl mxQ b).2 := h _ sp.1
  exact hmx.trans hm (h x hx) hr (sp.2 x hx)
/-- what the law's height runs over -/
def LH (C : List Pt) (pl : Pt) : List Pt := ((C.filter fun p => decide (p.1 * pl.2 = pl.1)).map fun p => (p.2, (1 : Int))) ++ ((edges C).filter (strict pl)).map (cand pl)
theorem lhB_LH (C : List Pt) (pl : Pt) : lhB C pl = (LH C pl).foldl mxQ (0, 1) := by
  unfold lhB foldC foldP LH
  rw [List.foldl_append]
theorem ltB_LH (P : List Pt) (pl : Pt) : ltB P pl = (LH P pl ++ ((prs P).filter (strict pl)).map (cand pl)).foldl mxQ (0, 1) := by
  unfold ltB
  rw [lhB_LH]
  unfold foldC
  rw [List.foldl_append]
/-- the height of an edge's end -/
theorem cand_end {pl : Pt} (ok : OkPl pl) {u v : Pt} (w : u.1 < v.1) (h : u.1 * pl.2 = pl.1) : LeQ (cand pl (u, v)) (u.2, 1) := by
  rw [cand_wide w, LeQ.low (chD_pos ok w)]
  unfold LeQ chN chD
  dsimp only
  rw [← h]
  grind
theorem cand_end2 {pl : Pt} (ok : OkPl pl) {u v : Pt} (w : u.1 < v.1) (h : v.1 * pl.2 = pl.1) : LeQ (cand pl (u, v)) (v.2, 1) := by
  rw [cand_wide w, LeQ.low (chD_pos ok w)]
  unfold LeQ chN chD
  dsimp only
  rw [← h]
  grind
/-- the hull's height is reached by what the law runs over -/
theorem hof_hit {P C : List Pt} (h : PtsOk P) (H : Hull P C) {pl : Pt} (ok : OkPl pl) : ∃ x ∈ (0, 1) :: LH C pl, LeQ (hof C pl) x := by
  have hE := edge_ok h H
  have := (mxQ_spec (hofL_pos ok hE)).1
  rcases List.mem_cons.mp this with e | e
  · refine ⟨(0, 1), by simp, ?_⟩
    show LeQ (hofL (edges C) pl) _
    unfold hofL
    rw [e]
    exact Int.le_refl _
  · obtain ⟨f, hf, e⟩ := List.mem_map.mp e
    have hm := List.mem_filter.mp hf
    obtain ⟨u, v⟩ := f
    have hi := ins_iff.mp hm.2
    obtain ⟨x, y, ec⟩ := mem_edges.mp hm.1
    have hu : u ∈ C := by rw [ec]; simp
    have hv : v ∈ C := by rw [ec]; simp
    have hup := (H.edge ec).1
    have hhof : hof C pl = cand pl (u, v) := by
      show hofL (edges C) pl = _
      unfold hofL
      exact e.symm
    rw [hhof]
    have pt : ∀ p ∈ C, p.1 * pl.2 = pl.1 → (p.2, (1 : Int)) ∈ (0, 1) :: LH C pl := fun p hp hx => by
      refine List.mem_cons_of_mem _ (List.mem_append_left _ (List.mem_map.mpr ⟨p, List.mem_filter.mpr ⟨hp, by simpa using hx⟩, rfl⟩))
    by_cases w : u.1 < v.1
    · by_cases c1 : u.1 * pl.2 = pl.1
      · exact ⟨_, pt u hu c1, cand_end ok w c1⟩
      · by_cases c2 : v.1 * pl.2 = pl.1
        · exact ⟨_, pt v hv c2, cand_end2 ok w c2⟩
        · refine ⟨cand pl (u, v), List.mem_cons_of_mem _ (List.mem_append_right _ (List.mem_map.mpr ⟨(u, v), List.mem_filter.mpr ⟨hm.1, strict_iff.mpr ⟨by dsimp only; omega, by dsimp only; omega⟩⟩, rfl⟩)), Int.le_refl _⟩
    · have hx := hup.x
      dsimp only at hx
      have hw : u.1 = v.1 := by omega
      refine ⟨(v.2, 1), pt v hv (by rw [hw] at hi; omega), ?_⟩
      unfold cand
      rw [if_pos (by dsimp only; omega)]
      exact Int.le_refl _
theorem LH_pos {P : List Pt} (h : PtsOk P) {pl : Pt} (ok : OkPl pl) : ∀ x ∈ (0, 1) :: LH P pl, 0 < x.2 := fun x hx => by
  rcases List.mem_cons.mp hx with e | e
  · rw [e]; exact Int.one_pos
  · rcases List.mem_append.mp e with e | e
    · obtain ⟨p, _, rfl⟩ := List.mem_map.mp e
      exact Int.one_pos
    · obtain ⟨f, hf, rfl⟩ := List.mem_map.mp e
      have hm := List.mem_filter.mp hf
      obtain ⟨x, y, ec⟩ := mem_edges.mp hm.1
      exact (cand_nm ok (okE_of h (by rw [ec]; simp) (by rw [ec]; simp) (strict_wide ok hm.2)) (strict_ins hm.2)).2.2.1
theorem mem_prs {P : List Pt} {e : Pt × Pt} (he : e ∈ prs P) : e.1 ∈ P ∧ e.2 ∈ P := by
  unfold prs at he
  rw [List.mem_flatten] at he
  obtain ⟨l, hl, he⟩ := he
  obtain ⟨a, ha, rfl⟩ := List.mem_map.mp hl
  obtain ⟨b, hb, rfl⟩ := List.mem_map.mp he
  exact ⟨ha, hb⟩
/-- any point, any line: no higher than the hull -/
theorem LH_le {P C : List Pt} (h : PtsOk P) (H : Hull P C) {pl l : Pt} (ok : OkPl pl) (hl : P.getLast? = some l) (hN : pl.1 ≤ l.1 * pl.2) {D : List Pt} (hD : ∀ p ∈ D, p ∈ P) : ∀ x ∈ (0, 1) :: LH D pl, LeQ x (hof C pl) := fun x hx => by
  have hn := hof_nm ok (edge_ok h H)
  rcases List.mem_cons.mp hx with e | e
  · rw [e]
    have := hn.1
    show 0 * _ ≤ (hof C pl).1 * 1
    omega
  · rcases List.mem_append.mp e with e | e
    · obtain ⟨p, hp, rfl⟩ := List.mem_map.mp e
      have hm := List.mem_filter.mp hp
      have hx : p.1 * pl.2 = pl.1 := by simpa using hm.2
      exact hof_point h H ok hl hN (hD p hm.1) (by omega)
    · obtain ⟨f, hf, rfl⟩ := List.mem_map.mp e
      have hm := List.mem_filter.mp hf
      obtain ⟨u, v⟩ := f
      obtain ⟨x, y, ec⟩ := mem_edges.mp hm.1
      have hs := strict_iff.mp hm.2
      rw [cand_wide (strict_wide ok hm.2)]
      exact (hof_chord h H ok hl hN (hD u (by rw [ec]; simp)) (hD v (by rw [ec]; simp)) hs.1 hs.2).2
theorem heights {P C : List Pt} (h : PtsOk P) (H : Hull P C) (hC : PtsOk C) {pl l : Pt} (ok : OkPl pl) (hl : P.getLast? = some l) (hN : pl.1 ≤ l.1 * pl.2) : lhB C pl = hof C pl ∧ ltB P pl = hof C pl := by
  have hE := edge_ok h H
  have hn := hof_nm ok hE
  have hit := hof_hit h H ok
  constructor
  · refine low_unique (lhB_nm hC ok).2.2 hn.2.2 ?_
    rw [lhB_LH]
    exact mxQ_fold (LH_pos hC ok) hn.2.2.1 (LH_le h H ok hl hN fun p hp => H.mem hp) hit
  · have hnt : Nm (ltB P pl) := foldC_nm ok _ _ (lhB_nm h ok) fun e he hse => okE_of h (mem_prs he).1 (mem_prs he).2 (strict_wide ok hse)
    refine low_unique hnt.2.2 hn.2.2 ?_
    rw [ltB_LH]
    refine mxQ_fold (fun x hx => ?_) hn.2.2.1 (fun x hx => ?_) ?_
    · rcases List.mem_cons.mp hx with e | e
      · rw [e]; exact Int.one_pos
      · rcases List.mem_append.mp e with e | e
        · exact LH_pos h ok x (List.mem_cons_of_mem _ e)
        · obtain ⟨f, hf, rfl⟩ := List.mem_map.mp e
          have hm := List.mem_filter.mp hf
          exact (cand_nm ok (okE_of h (mem_prs hm.1).1 (mem_prs hm.1).2 (strict_wide ok hm.2)) (strict_ins hm.2)).2.2.1
    · rcases List.mem_cons.mp hx with e | e
      · exact LH_le h H ok hl hN (D := P) (fun p hp => hp) x (by rw [e]; simp)
      · rcases List.mem_append.mp e with e | e
        · exact LH_le h H ok hl hN (D := P) (fun p hp => hp) x (List.mem_cons_of_mem _ e)
        · obtain ⟨f, hf, rfl⟩ := List.mem_map.mp e
          have hm := List.mem_filter.mp hf
          have hs := strict_iff.mp hm.2
          obtain ⟨u, v⟩ := f
          rw [cand_wide (strict_wide ok hm.2)]
          exact (hof_chord h H ok hl hN (mem_prs hm.1).1 (mem_prs hm.1).2 hs.1 hs.2).2
    · -- reached: an edge of the hull is a pair of points
      obtain ⟨x, hx, hle⟩ := hit
      rcases List.mem_cons.mp hx with e | e
      · exact ⟨x, by rw [e]; simp, hle⟩
      · rcases List.mem_append.mp e with e | e
        · obtain ⟨p, hp, rfl⟩ := List.mem_map.mp e
          have hm := List.mem_filter.mp hp
          exact ⟨_, List.mem_cons_of_mem _ (List.mem_append_left _ (List.mem_append_left _ (List.mem_map.mpr ⟨p, List.mem_filter.mpr ⟨H.mem hm.1, hm.2⟩, rfl⟩))), hle⟩
        · obtain ⟨f, hf, rfl⟩ := List.mem_map.mp e
          have hm := List.mem_filter.mp hf
          obtain ⟨u, v⟩ := f
          obtain ⟨x, y, ec⟩ := mem_edges.mp hm.1
          refine ⟨_, List.mem_cons_of_mem _ (List.mem_append_right _ (List.mem_map.mpr ⟨(u, v), List.mem_filter.mpr ⟨?_, hm.2⟩, rfl⟩)), hle⟩
          unfold prs
          rw [List.mem_flatten]
          exact ⟨_, List.mem_map.mpr ⟨u, H.mem (by rw [ec]; simp), rfl⟩, List.mem_map.mpr ⟨v, H.mem (by rw [ec]; simp), rfl⟩⟩
end DL

/-! DLE: a chain of three comparisons -/
namespace DL
open PySem PySem.Spec PyProof.Rows L2
section
variable {X : Cx} {B : Bs} {O : List Nat}
def tChain3 (r r' r2 : R2) (ta tb tc td : TE) : TE := fun σ H Q => ta σ H fun x H1 => tb σ H1 fun y H2 => r x y H2 fun z H3 => ∃ k, z = .bl k ∧
  (if k = true then tc σ H3 fun w' H4 => r' y w' H4 fun z' H5 => ∃ k', z' = .bl k' ∧ (if k' = true then td σ H5 fun u' H6 => r2 w' u' H6 Q else Q (.bl false) H5) else Q (.bl false) H3)
theorem pt_chain3 {a b c e : Expr} {ta tb tc te : TE} {pos : Pos} {op op' op2 : CmpOp} {r r' r2 : R2} (ho : OpR X (compareOp op) r) (ho' : OpR X (compareOp op') r') (ho2 : OpR X (compareOp op2) r2) (ha : PE X a ta) (hb : PE X b tb) (hc : PE X c tc) (he : PE X e te)
    (hm : lastMarks [op, op', op2] [b, c, e] = false := by with_unfolding_all rfl) : PT X (.Compare a [op, op', op2] [b, c, e] pos) (tTest (tChain3 r r' r2 ta tb tc te)) := by
  refine ⟨fun pins s σ H Q I h => ?_⟩
  refine isTrue_chain (thn (ha.run pins s σ H _ I h) fun v s1 ⟨x, H1, I1, r1, q1⟩ => test_link (thn (hb.run pins s1 σ H1 _ I1 q1) fun u s2 ⟨y, H2, I2, r2, q2⟩ =>
    thn (ho pins s2 σ H2 x y v u _ I2 r1 r2 q2) fun d s3 ⟨z, H3, I3, r3, k, e, q3⟩ => ?_)) hm
  subst e
  cases r3
  refine wpAny_truthy_bool ?_
  cases k with
  | false =>
    obtain ⟨k', e', q'⟩ := q3
    cases e'
    exact ite_ff ⟨H3, I3, q'⟩
  | true =>
    refine ite_tt (test_link (thn (hc.run pins s3 σ H3 _ I3 q3) fun w' s4 ⟨z', H4, I4, r4, q4⟩ => thn (ho' pins s4 σ H4 y z' u w' _ I4 r2 r4 q4) fun d' s5 ⟨z2, H5, I5, r5, k2, e2, q5⟩ => ?_))
    subst e2
    cases r5
    refine wpAny_truthy_bool ?_
    cases k2 with
    | false =>
      obtain ⟨k', e', q'⟩ := q5
      cases e'
      exact ite_ff ⟨H5, I5, q'⟩
    | true =>
      refine ite_tt (test_last (thn (he.run pins s5 σ H5 _ I5 q5) fun w2 s6 ⟨z3, H6, I6, r6, q6⟩ => thn (ho2 pins s6 σ H6 z' z3 w' w2 _ I6 r4 r6 q6) fun d3 s7 ⟨z4, H7, I7, r7, k3, e3, q7⟩ => ?_))
      subst e3
      cases r7
      exact wpAny_truthy_bool ⟨H7, I7, q7⟩
def cChain3 {d : Type} (f g h : PD → PD → R PD) (a b c e : Env → d → R (PD × d)) : Env → d → R (PD × d) := fun ρ s =>
  bnd (a ρ s) fun x s1 => bnd (b ρ s1) fun y s2 => if isD x && isD y then
    bnd (lft (isOk (f x y)) s2) fun z s3 => match z with
      | .bool true => bnd (c ρ s3) fun w s4 => if isD w then
          bnd (lft (isOk (g y w)) s4) fun z' s5 => match z' with
            | .bool true => bnd (e ρ s5) fun u s6 => if isD u then lft (isOk (h w u)) s6 else .bad
            | .bool false => .ok (.bool false, s5)
            | _ => .bad
          else .bad
      | .bool false => .ok (.bool false, s3)
      | _ => .bad
    else .bad
theorem rd_chain3 {f g h' : PD → PD → R PD} {fa fb fc fe : Mx B PD} {σ : St} {H : Hp} {Q : VK} (h : rdE B O (cChain3 f g h' fa fb fc fe) σ H Q) : tChain3 (rdO f) (rdO g) (rdO h') (rdE B O fa) (rdE B O fb) (rdE B O fc) (rdE B O fe) σ H Q := by
  obtain ⟨G, ρ, s, a, p⟩ := h
  refine rdE.then a p fun x G1 H1 dx s1 a1 g1 rx p1 => ?_
  refine rdE.then a1 p1 fun y G2 H2 dy s2 a2 g2 ry p2 => ?_
  by_cases hd : (isD dx && isD dy) = true
  · rw [if_pos hd] at p2
    have h' := hd
    rw [Bool.and_eq_true] at h'
    have hy := ry.dg (isD_tok h'.2)
    refine ⟨G2, dx, dy, a2.sit.sub, (rx.mono g2.g).dg (isD_tok h'.1), hy, PostD.isOk (PostD.ofK (r := isOk (f dx dy)) a2.sit (isOk_nx _) ?_ fun d e v G3 H3 g3 S3 rv => ?_)⟩
    · intro z; rw [z] at p2; exact p2
    · rw [e] at p2
      cases d with
      | bool b =>
        refine ⟨b, rv.of_bl, ?_⟩
        cases b with
        | true =>
          refine rdE.then (a2.step g3 S3) (PostE.mono g3 p2) fun w G4 H4 dw s4 a4 g4 rw' p4 => ?_
          by_cases hw : isD dw = true
          · rw [if_pos hw] at p4
            have hww := rw'.dg (isD_tok hw)
            refine ⟨G4, dy, dw, a4.sit.sub, (hy.mono g3.g).mono g4.g, hww, PostD.isOk (PostD.ofK (r := isOk (g dy dw)) a4.sit (isOk_nx _) ?_ fun d' e' v' G5 H5 g5 S5 rv' => ?_)⟩
            · intro z; rw [z] at p4; exact p4
            · rw [e'] at p4
              cases d' with
              | bool b' =>
                refine ⟨b', rv'.of_bl, ?_⟩
                cases b' with
                | true =>
                  refine rdE.then (a4.step g5 S5) (PostE.mono g5 p4) fun u G6 H6 du s6 a6 g6 ru p6 => ?_
                  by_cases hu : isD du = true
                  · rw [if_pos hu] at p6
                    exact ⟨G6, dw, du, a6.sit.sub, (hww.mono g5.g).mono g6.g, ru.dg (isD_tok hu), (PostD.of a6.sit p6 (isOk_nx _)).isOk⟩
                  · rw [if_neg hu] at p6; exact p6.elim
                | false => exact p4 _ G5 H5 g5 S5 (.inl (.bl false))
              | _ => exact p4.elim
          · rw [if_neg hw] at p4; exact p4.elim
        | false => exact p2 _ G3 H3 g3 S3 (.inl (.bl false))
      | _ => exact p2.elim
  · rw [if_neg hd] at p2; exact p2.elim
theorem dt_chain3 {op op' op2 : CmpOp} {f g h : PD → PD → R PD} {a b c e : Expr} {fa fb fc fe : Mx B PD} {pos : Pos} (ho : DOp X (compareOp op) f) (ho' : DOp X (compareOp op') g) (ho2 : DOp X (compareOp op2) h) (ha : DE X B O a fa) (hb : DE X B O b fb) (hc : DE X B O c fc) (he : DE X B O e fe)
    (hm : lastMarks [op, op', op2] [b, c, e] = false := by with_unfolding_all rfl) : DT X B O (.Compare a [op, op', op2] [b, c, e] pos) (cTest (cChain3 f g h fa fb fc fe)) :=
  PT.imp (pt_chain3 ho ho' ho2 ha hb hc he hm) fun σ H Q h => by
    obtain ⟨G, ρ, s, a, p⟩ := rd_test h
    exact rd_chain3 ⟨G, ρ, s, a, p⟩
end
end DL

/-! DLF: a caught error kept as a value -/
namespace DL
open PySem PySem.Spec PyProof.Rows L2
/-- an exception object of the class cls at a -/
def XO (cls : Value) (a : Addr) : HO := .ext fun h => ∃ (oe : Obj) (vs : Array Value), h.get? a = some oe ∧ Zc cls none oe ∧ oe.data = .fields vs
theorem xo_ok {P : Program} {w : World} {H : Hp} {h : Heap} {a : Addr} {cls : Value} {oe : Obj} {vs : Array Value} (e : h.get? a = some oe) (z : Zc cls none oe) (d : oe.data = .fields vs) : ObjOk P w H h a (XO cls a) :=
  ⟨⟨oe, vs, e, z, d⟩, ⟨oe, e⟩, fun _ _ ⟨o, v, q, r⟩ k => ⟨o, v, k o q, r⟩⟩
section
variable {X : Cx} {pins : List (Addr × Obj)} {σ : St} {H : Hp} {s : Shared}
/-- an object that stands in the heap is tracked from now on -/
theorem Inv.track {a : Addr} {cls : Value} {oe : Obj} {vs : Array Value} (I : Inv X pins σ H s) (e : s.heap.get? a = some oe) (z : Zc cls none oe) (d : oe.data = .fields vs) (na : H a = none) (new : X.s_0.heap.get? a = none) (nL : a ≠ X.env.locals) (np : ∀ p ∈ X.pn ++ pins, p.1 ≠ a) : Inv X pins σ (upd H a (XO cls a)) s := by
  refine ⟨I.ok, I.os, I.bare, ?_, I.loc, I.cell, ?_, ?_, ?_, ?_, I.len⟩
  · refine ⟨I.base.keep, I.base.slot, fun b o q n x => ?_, I.base.there, fun b xs q => ?_, fun b o u q => ?_, fun b ps q => ?_⟩
    · rw [upd_ne fun z => by rw [z, new] at q; cases q]
      exact I.base.free b o q n x
    · have h := I.base.tups b xs q
      rw [upd_ne fun z => by rw [z, na] at h; cases h]
      exact h
    · have h := I.base.frzs b o u q
      rw [upd_ne fun z => by rw [z, na] at h; cases h]
      exact h
    · obtain ⟨more, h⟩ := I.base.tbls b ps q
      exact ⟨more, by rw [upd_ne fun z => by rw [z, na] at h; cases h]; exact h⟩
  · rw [upd_ne (Ne.symm nL)]; exact I.free
  · intro x c hc
    obtain ⟨v, hv⟩ := I.cell x c hc
    have : c ≠ a := fun q => by
      subst q
      obtain ⟨o, h1, h2⟩ := hv
      rw [e] at h1
      cases h1
      rw [d] at h2
      cases h2
    rw [upd_ne this]
    exact I.freeC x c hc
  · intro p hp
    have h := I.pin p hp
    rw [upd_ne (np p hp)]
    exact h
  · intro b o q
    by_cases hb : b = a
    · subst hb
      rw [upd_same] at q
      cases q
      exact xo_ok e z d
    · rw [upd_ne hb] at q
      exact (I.hok b o q).stay (fun _ _ _ q => q) (fun c q => by rw [upd_ne (ne_of_none q na)]; exact q) fun c xs q => by rw [upd_ne (ne_of_none q na)]; exact q
end
section
variable {X : Cx} {x n m : Str} {c : Value} {i j : Nat} {body : List Stmt} {np p1 p2 p3 pos pos' : Pos} {tb : WX → TS}
/-- what is wished of an error of the body: its class is one that the clause takes; behind it slot j holds it -/
def wKeep (K : PySem.W.Frag) (n : Nat) (c : Value) (i j : Nat) (D : Ends) : WX := fun cls d σ H =>
  PySem.W.exmOne K cls c = some true ∧ d = none ∧ (σ.length = n → ∀ a, H a = none → D.nx (((σ.set i (some (.ref a))).set j (some (.ref a))).set i none) (upd H a (XO cls a)))
/-- try: body / except x as n: m = n -/
theorem ps_try_keep (hex0 : X.ex = []) (hs : X.stack = X.env :: X.outer) (hf : X.env.frame = some X.env.locals) (hN : X.N.Nodup) (hi : X.N[i]? = some n) (hj : X.N[j]? = some m) (hln : X.env.kindOf n = some .local) (hlm : X.env.scope.names.lookup m = some .local) (hc : Names X x c)
    (hvn : Vis X.env.scope n) (hd1 : (n == ("__debug__" : Str)) = false) (hd2 : (n == ("__classdict__" : Str)) = false) (hsw : swapsWith (.Name n p2) (some (.Name m p1)) p3.line X.env = pure false)
    (hb : ∀ (W : WX) (pn : List (Addr × Obj)) (xe : Value → Shared → Prop), Takes (X.tr pn xe) W → PassesOwn (model X.prog X.w) X.A X.env xe → PSs (X.tr pn xe) body (tb W)) :
    PS X (.Try body [.ExceptHandler (some (.Name x np)) (some n) [.Assign [.Name m p1] (.Name n p2) p3] pos'] [] [] pos) (fun D σ H => tb (wKeep X.K X.N.length c i j D) D σ H) := by
  refine ⟨fun pins s σ H D I h => ?_⟩
  have ok := I.ok
  have hfr : X.A.frames = some (X.env :: X.outer) := by rw [ok.frames, hs]
  have hiσ : i < X.N.length := (List.getElem?_eq_some_iff.mp hi).1
  refine wpAny_Try_except ?_
  refine wpAny_mono ((hb (wKeep X.K X.N.length c i j D) (X.pn ++ pins) (fun e s₁ => wpAny (model X.prog X.w) X.A (noteFrame e X.env) (fun _ s₂ => wpAny (model X.prog X.w) X.A (setFlight e none) (fun _ s₃ =>
    wpAny (model X.prog X.w) X.A (handleBy e X.env [.ExceptHandler (some (.Name x np)) (some n) [.Assign [.Name m p1] (.Name n p2) p3] pos']) (SP X pins D) X.xe s₃) X.xe s₂) X.xe s₁) (fun u s' xx => ?_) PassesOwn.looking).run [] s σ H D (I.toTry _) h) (fun f s1 hsp => ?_) (fun e s1 he => he)
  · obtain ⟨a, B, sI, pins', σ', H', cls, d, rfl, J', nb, up, sky, na, os, ag, hex, hdn, hfin⟩ := xx
    subst hdn
    have J : Inv X pins σ' H' sI := J'.ofTry ok
    have sky' : Sky B (X.env :: X.outer) a (Zc cls none) X.env.locals s'.heap := by rw [← hs]; exact sky
    show wpAny (model X.prog X.w) X.A (noteFrame (.ref a) X.env) _ _ _
    refine Sky.land Zc.steady hfr hf sky' fun h3 fl3 up3 => ?_
    have J3 : Inv X pins σ' H' { s' with heap := h3 } := J.landed nb fl3.1 (up.trans up3) os ag
    obtain ⟨oe3, vs3, he3, hz3, hd3⟩ := fl3.there
    -- it is no frame
    have nfr : a ∉ frs (X.env :: X.outer) := fun hm => by
      obtain ⟨_, o', e', hnf⟩ := fl3.2.2.1.mem hm
      rw [he3] at e'
      cases e'
      exact hnf _ hd3
    have nL : a ≠ X.env.locals := fun z => nfr (List.mem_filterMap.mpr ⟨X.env, List.mem_cons_self, by rw [hf, z]⟩)
    have nF : a ∉ X.fs := fun hm => by
      obtain ⟨e, he, q⟩ := List.mem_filterMap.mp hm
      exact nfr (List.mem_filterMap.mpr ⟨e, List.mem_cons_of_mem _ he, q⟩)
    -- it is new
    have newI : sI.heap.get? a = none := by
      cases q : sI.heap.get? a with
      | none => rfl
      | some o =>
        have := nb a o q (by rw [hs]; exact nfr)
        rw [fl3.2.1] at this
        cases this
    have new0 : X.s_0.heap.get? a = none := by
      cases q : X.s_0.heap.get? a with
      | none => rfl
      | some o =>
        obtain ⟨o', q'⟩ := J.base.there a o q (by rw [hex0]; simp)
        rw [newI] at q'
        cases q'
    have npin : ∀ p ∈ X.pn ++ pins, p.1 ≠ a := fun p hp z => by
      have := (J.pin p hp).1
      rw [z, newI] at this
      cases this
    have S3 := J3.suite he3 hd3 na nL nF
    refine wpAny_handleBy_cons (codeAny_handlers_test ?_) (by intro q; cases q)
    have LT : PySem.W.Looks (model X.prog X.w) h3 (typeOf (.ref a)) cls := fun A Q E s k q => wpAny_typeOf_ref (k _ _ he3) (by rw [hz3.1]; exact q)
    have LM := PySem.W.exm_one (M := model X.prog X.w) (J3.kIn) LT hex
    have test : ∀ {Q : Value → Shared → Prop} {E : Value → Shared → Prop}, Q c { s' with heap := h3 } → wpAny (model X.prog X.w) (X.A.mark (some (.ref a))) (eval (.Name x np) X.env) Q E { s' with heap := h3 } := fun {Q E} q => by
      obtain ⟨hg, hdbg, hm | ⟨hm, hv, hnn⟩⟩ := hc
      · exact ld_glob (X := X.suite a ((a, oe3) :: (X.pn ++ pins))) S3 hg hm q hdbg
      · exact ld_blt (X := X.suite a ((a, oe3) :: (X.pn ++ pins))) S3 hg hm hv q hnn hdbg
    refine test (LM.here ?_)
    refine codeAny_handlers_suite_as ?_
    refine HandSPX.lands_againZ fl3 fun h4 fl4 up4 => ?_
    have J4 : Inv X pins σ' H' { s' with heap := h4 } := J.landed nb fl4.1 ((up.trans up3).trans up4) os ag
    obtain ⟨oe4, vs4, he4, hz4, hd4⟩ := fl4.there
    have S4 := J4.suite he4 hd4 na nL nF
    refine store_ok (X := X.suite a ((a, oe4) :: (X.pn ++ pins))) (v := .ref a) S4 hN hi (.inl hln) rfl (fun s5 S5 => ?_) (.inr hln)
    -- the suite: m = n
    have su : PSs (X.suite a ((a, oe4) :: (X.pn ++ pins))) [.Assign [.Name m p1] (.Name n p2) p3] (fun D σ H => tVar i σ H fun v H1 => D.nx (σ.set j (some v)) H1) :=
      PSs.imp (pss_cons (ps_set (X := X.suite a ((a, oe4) :: (X.pn ++ pins))) hN hj (.inl hlm) (pe_var (X := X.suite a ((a, oe4) :: (X.pn ++ pins))) hi hvn hd1 hd2) hsw (.inr hlm)) pss_nil) fun D σ H h => h
    have hget : (σ'.set i (some (V.ref a)))[i]? = some (some (V.ref a)) := by
      rw [List.getElem?_set_self (by rw [J.len]; exact hiσ)]
    refine wpAny_mono (su.run [] s5 _ H' { nx := fun σ6 H6 => σ6 = (σ'.set i (some (.ref a))).set j (some (.ref a)) ∧ H6 = H', rt := fun _ _ => False } S5 ⟨_, hget, rfl, rfl⟩) (fun f s6 hsp => ?_) (fun _ _ z => False.elim z)
    cases f with
    | next =>
      obtain ⟨σ6, H6, S6, rfl, rfl⟩ := hsp
      have hp := S6.pin (a, oe4) (List.mem_append.mpr (.inl List.mem_cons_self))
      have J6 : Inv X pins _ _ s6 := S6.unsuite ok
      have J7 := Inv.track J6 hp.1 hz4 hd4 na new0 nL npin
      exact gone_ok J7 hN hi hln fun s7 J8 => ⟨_, _, J8, hfin J.len a na⟩
    | brk => obtain ⟨_, _, _, z⟩ := hsp; exact z.elim
    | cont => obtain ⟨_, _, _, z⟩ := hsp; exact z.elim
    | ret u => obtain ⟨_, _, _, _, _, z⟩ := hsp; exact z.elim
  · cases f with
    | next =>
      obtain ⟨σ', H', J', q⟩ := hsp
      exact wpAny_execs_nil ⟨σ', H', J'.ofTry ok, q⟩
    | brk =>
      obtain ⟨σ', H', J', q⟩ := hsp
      exact ⟨σ', H', J'.ofTry ok, q⟩
    | cont =>
      obtain ⟨σ', H', J', q⟩ := hsp
      exact ⟨σ', H', J'.ofTry ok, q⟩
    | ret u =>
      obtain ⟨v, σ', H', J', r, q⟩ := hsp
      exact ⟨v, σ', H', J'.ofTry ok, r, q⟩
end
end DL

/-! DLG: isinstance of a kept error; a def that names it -/
namespace DL
open PySem PySem.Spec PyProof.Rows L2
/-- isinstance(x, c), x a kept error -/
def rIsX (K : PySem.W.Frag) : List V → Hp → VK → Prop := fun xs H Q => ∃ (a D : Addr) (c : V) (cv : Value) (b : Bool), xs = [.ref a, c] ∧ H a = some (XO (.ref D) a) ∧ L2.ExcC K D ∧ ClsV c cv ∧ PySem.W.kitOne K (.ref D) cv = some b ∧ Q (.bl b) H
theorem call_isX {X : Cx} : CallR X (.builtin "isinstance") (rIsX X.K) := by
  intro pins s σ H xs us Q I r h
  obtain ⟨a, D, c, cv, b, rfl, ha, C, hcv, e, q⟩ := h
  cases r with
  | cons rx rr =>
    cases rr with
    | cons rt rr =>
      cases rr
      cases rx
      have ec := hcv.eq rt
      subst ec
      obtain ⟨⟨oe, vs, hget, hz, hv⟩, _⟩ := I.hok a _ ha
      have J : PySem.W.InstAt s.heap a oe D none := by
        obtain ⟨oc, od, oda, osl⟩ := oe
        obtain ⟨h1, h2⟩ := hz
        dsimp only at h1 h2 hv
        subst h1 h2 hv
        exact ⟨hget, rfl, rfl, trivial⟩
      exact PySem.W.kia_one (PySem.W.handS_kitx_exc C.hg C.hk C.hs C.hd C.ha C.hn C.ht C.hm) I.kIn J e (fun z => nomatch z) fun tk => ⟨.bl b, H, I.kept (t' := tk) fun _ _ z => z, rfl, q⟩
/-- what is known of the five classes; alarm: their common one -/
structure ErrK (K : PySem.W.Frag) (mg : Str → Option Value) (cls : Nat → Addr) : Prop where
  ec : ∀ c, c < 5 → L2.ExcC K (cls c)
  kit : ∀ c j, c < 5 → j < 5 → PySem.W.kitOne K (.ref (cls c)) (.ref (cls j)) = some (decide (c = j))
  al : ∃ al, mg "AlarmError" = some (.ref al) ∧ ∀ c, c < 5 → PySem.W.kitOne K (.ref (cls c)) (.ref al) = some true ∧ PySem.W.exmOne K (.ref (cls c)) (.ref al) = some true
  ve : ∀ c, c < 5 → PySem.W.kitOne K (.ref (cls c)) (.type "ValueError") = some true
  nve : mg "ValueError" = none
/-- the world of a def with a kept error at a: the state is the number of its class -/
def Wx (cls : Nat → Addr) (a : Addr) : Wd where
  d := Nat
  fp := fun b => b = a
  rep := fun c _ H => H a = some (XO (.ref (cls c)) a) ∧ c < 5
  tk := fun _ => .ref a
  cls := cls
  keep := fun h _ k => ⟨k _ _ rfl h.1, h.2⟩
def isTok : PD → Bool
  | .dict [(.int (.ofNat _), .none)] => true
  | _ => false
/-- isinstance(x, class) of the token: f tells by the number -/
def cIsE (f : Nat → Bool) (a : Env → Nat → R (PD × Nat)) : Env → Nat → R (PD × Nat) := fun ρ s => bnd (a ρ s) fun x s1 => if isTok x = true then .ok (.bool (f s1), s1) else .bad
section
variable {X : Cx} {O : List Nat} {cls : Nat → Addr} {a0 : Addr} {G0 H0 : Hp} {E : XK}
theorem isTok_some {d : PD} (h : isTok d = true) : ∃ n, d = tokD n := by
  unfold isTok at h
  split at h
  · exact ⟨_, rfl⟩
  · cases h
theorem rp_tok {tk : Nat → V} {G : Hp} {v : V} {d : PD} (r : Rp tk G v d) (h : isTok d = true) : ∃ n, v = tk n := by
  obtain ⟨n, rfl⟩ := isTok_some h
  rcases r with r | ⟨k, e, q⟩
  · cases r
  · exact ⟨k, q⟩
theorem de_isE {f : Nat → Bool} {x : Str} {cv : V} {cu : Value} {a : Expr} {fa : Env → Nat → R (PD × Nat)} {p p2 pos : Pos} (K5 : ∀ c, c < 5 → L2.ExcC X.K (cls c) ∧ PySem.W.kitOne X.K (.ref (cls c)) cu = some (f c)) (hcl : ClsV cv cu) (hm : X.mg "isinstance" = none) (hx : PE X (.Name x p2) (tC cv)) (ha : DE X ⟨Wx cls a0, G0, H0, E⟩ O a fa) (hg : Gl X "isinstance" := by rfl)
    (hv : bootBuiltins "isinstance" = some (.builtin "isinstance") := by decide +kernel) (he : starEach [a, .Name x p2] X.env = (false, eval a X.env) :: starEach [.Name x p2] X.env := by rfl)
    (hpl : (backTo pos (starEach [.Name x p2] X.env)).any (·.1) = false := by rfl) : DE X ⟨Wx cls a0, G0, H0, E⟩ O (.Call (.Name "isinstance" p) [a, .Name x p2] [] pos) (cIsE f fa) :=
  PE.imp (pe_callB call_isX hg hm hv (pa_cons ha (pa_cons hx pa_nil) he) (by decide) (by decide) he hpl) fun σ H Q h => by
    obtain ⟨G, ρ, s, a, p⟩ := h
    refine rdE.then a p fun v G1 H1 dx s1 a1 g1 rx p1 => ?_
    by_cases hd : isTok dx = true
    · rw [if_pos hd] at p1
      obtain ⟨n, e⟩ := rp_tok rx hd
      have hr := a1.sit.rep
      obtain ⟨k1, k2⟩ := K5 s1 hr.2
      exact ⟨a0, cls s1, cv, cu, f s1, by rw [e]; rfl, hr.1, k1, hcl, k2, p1.done a1.sit (.inl (.bl _))⟩
    · rw [if_neg hd] at p1; exact p1.elim
end
/-- the promise of a def that names a kept error -/
def spX (cls : Nat → Addr) (nm : Nat → Str) : Sp := fun vs H Q _ => ∃ (a : Addr) (c : Nat), vs = [.ref a] ∧ c < 5 ∧ H a = some (XO (.ref (cls c)) a) ∧ ∀ H', (∀ b o, b ≠ a → H b = some o → H' b = some o) → (∀ b, H' b = none → H b = none) → Q (.str (nm c)) H'
section
variable {P : Program} {w : World} {K : PySem.W.Frag} {mg : Str → Option Value} {base : Heap} {x qual : Str} {params : Arguments} {body : List Stmt} {scope : Scope} {f : Addr} {fd : FuncData} {cls : Nat → Addr}
/-- A DEF THAT NAMES A KEPT ERROR, by its body -/
theorem fn_err {N ps : List Str} {k : Nat} {nm : Nat → Str} {fb : Env → Nat → R (Fl × Nat)} (F : FunD K x qual params body scope [] [] f fd) (S : FnScope N ps scope) (hn : ps.length = 1)
    (hbody : ∀ (cdv : Value) (A : Around) (outer : List PySem.Env) (s : Shared) (H : Hp) (E : XK) (a : Addr) (G : Hp), Room k (A.deeper (envOfC qual scope s.heap.objs.size f cdv)) →
      DSs (cxOf (L2.CX P w) P w K mg base N qual scope f cdv A outer s H E) ⟨Wx cls a, G, H, E0⟩ [] [] body fb)
    (hfb : ∀ c, c < 5 → ∃ s', fb (some (tokD 0) :: List.replicate (N.length - 1) none) c = .ok (.rt (.str (nm c)), s')) : FnOk P w K mg base (L2.CX P w) (k + 1) f fd ps (spX cls nm) := by
  refine F.ok S (fun vs H Q E h => ?_) (fun cdv A outer s H vs Q E hr h => ?_)
  · obtain ⟨a, c, rfl, _⟩ := h
    rw [hn]; rfl
  · obtain ⟨a, c, rfl, hc, ha, q⟩ := h
    let G : Hp := fun _ => none
    have sit : Sit (Wx cls a) G H c := by
      refine ⟨fun b o z => (by cases (show (none : Option HO) = some o from z)), fun _ _ => rfl, fun b e z => ?_, ⟨ha, hc⟩⟩
      rw [show b = a from e, ha] at z
      cases z
    have r : RpAll (Wx cls a).tk G [V.ref a] [tokD 0] := .cons (.inr ⟨0, rfl, rfl⟩) .nil
    refine ⟨_, hbody cdv A outer s H E a G hr, G, startD N [tokD 0], c, ⟨sit, .refl, r.begin_ N⟩, ?_⟩
    obtain ⟨s', e⟩ := hfb c hc
    have e0 : startD N [tokD 0] = some (tokD 0) :: List.replicate (N.length - 1) none := rfl
    rw [e0, e]
    intro v G' H' g st rv
    have hv : v = .str (nm c) := by
      rcases rv with rv | ⟨n, e, _⟩
      · cases rv; rfl
      · cases e
    rw [hv]
    exact q H' (fun b o hb hbo => g.h b o (fun z => hb z) hbo) g.dom
end
end DL

/-! DLH: try: .. except AlarmError as e: caught = e; return .. if caught is None else _law_error(caught) -/
namespace DL
open PySem PySem.Spec PyProof.Rows L2
def sTry {d : Type} (fb : Env → d → R (Fl × d)) (j : Nat) (fe : Env → d → R (PD × d)) (nm : Nat → Str) : Env → d → R (Fl × d) := fun ρ s => match fb ρ s with
  | .ok (.nx ρ', s') => match ρ'[j]? with
    | some (some .none) => bnd (fe ρ' s') fun v s2 => .ok (.rt v, s2)
    | _ => .bad
  | .exc c => if c < 5 then .ok (.rt (.str (nm c)), s) else .bad
  | _ => .bad
section
variable {X : Cx} {cls : Nat → Addr} {tk : Nat → V} {G0 H0 : Hp} {E : XK}
theorem dss_try {body : List Stmt} {e1 : Expr} {fb : Env → Unit → R (Fl × Unit)} {fe : Env → Unit → R (PD × Unit)} {nm : Nat → Str} {i j k : Nat} {f : Addr} {fd : FuncData} {ps : List Str} {al : Addr} {np p1 p2 p3 p4 p5 p6 p7 p8 pos pos' posr posi : Pos} {cst : Expr}
    (sb0 : Sub G0 H0) (hex0 : X.ex = []) (hs : X.stack = X.env :: X.outer) (hf : X.env.frame = some X.env.locals) (hN : X.N.Nodup) (hi : X.N[i]? = some ("e" : Str)) (hj : X.N[j]? = some ("caught" : Str)) (hij : i ≠ j) (hln : X.env.kindOf "e" = some .local) (hlm : X.env.scope.names.lookup ("caught" : Str) = some .local)
    (hal : X.mg "AlarmError" = some (.ref al)) (hgl : Gl X "AlarmError") (hexm : ∀ c, c < 5 → PySem.W.exmOne X.K (.ref (cls c)) (.ref al) = some true) (hsw : swapsWith (.Name "e" p2) (some (.Name "caught" p1)) p3.line X.env = pure false)
    (hb : ∀ (pn : List (Addr × Obj)) (xe : Value → Shared → Prop) (E' : XK), Takes (X.tr pn xe) (fun c d _ H => E' c d H) → PassesOwn (model X.prog X.w) X.A X.env xe → DSs (X.tr pn xe) ⟨Wp cls tk, G0, H0, E'⟩ [] [] body fb)
    (he : DE X ⟨Wp cls tk, G0, H0, E⟩ [] e1 fe) (F : FnOk X.prog X.w X.K X.mg X.base (L2.CX X.prog X.w) k f fd ps (spX cls nm)) (hr : Room k X.A) (hmE : X.mg "_law_error" = some (.ref f)) (hk : PySem.W.keepIn X.K (.ref f) = true) (hbd : Binds X.K fd ps []) (hgE : Gl X "_law_error")
    (hpn : PE X cst (tC .non)) (hmk : behindInMarks .Is cst = false) (hst : starEach [.Name "caught" p5] X.env = (false, eval (.Name "caught" p5) X.env) :: starEach [] X.env) (hpl : (backTo p6 (starEach [] X.env)).any (·.1) = false) :
    DSs X ⟨Wp cls tk, G0, H0, E⟩ [] [] [.Try body [.ExceptHandler (some (.Name "AlarmError" np)) (some "e") [.Assign [.Name "caught" p1] (.Name "e" p2) p3] pos'] [] [] pos, .Return (some (.IfExp (.Compare (.Name "caught" p4) [.Is] [cst] p8) e1 (.Call (.Name "_law_error" p7) [.Name "caught" p5] [] p6) posi)) posr] (sTry fb j fe nm) := by
  have hv : Vis X.env.scope "caught" := .inl hlm
  have pc : ∀ {p : Pos}, PE X (.Name "caught" p) (tVar j) := fun {p} => pe_var hj hv
  have ret := ps_ret (pos := posr) (pe_ifExp (pos := posi) (pt_cmpR (pos := p8) op_isN (pc (p := p4)) hpn hmk) he (pe_call (p := p7) F hr hgE hmE hk hbd .nil passL (pa_cons (pc (p := p5)) pa_nil hst) (by decide) hst hpl))
  have trY := ps_try_keep (X := X) (body := body) (tb := fun W => rdS ⟨Wp cls tk, G0, H0, fun c d H => ∀ σ, W c d σ H⟩ [] [] fb) (np := np) (p1 := p1) (p2 := p2) (p3 := p3) (pos := pos) (pos' := pos') (c := .ref al) (x := "AlarmError") hex0 hs hf hN hi hj hln hlm ⟨hgl, by decide, .inl hal⟩ (.inl hln) (by decide) (by decide) hsw
    fun W pn xe tk' po => hb pn xe _ (tk'.imp fun c d σ H h => h σ) po
  refine PSs.imp (pss_cons trY (pss_cons ret pss_nil)) fun D σ H h => ?_
  obtain ⟨G, ρ, s, a, p⟩ := h
  refine ⟨G, ρ, s, ⟨a.sit, a.gr, a.rs⟩, ?_⟩
  unfold sTry at p
  revert p
  cases fb ρ s with
  | bad => exact fun p => p
  | exc c =>
    intro p
    dsimp only at p
    by_cases hc : c < 5
    · rw [if_pos hc] at p
      intro G' H' g σ'
      refine ⟨hexm c hc, rfl, fun hlen b hb' => ?_⟩
      have hjl : j < σ'.length := by rw [hlen]; exact (List.getElem?_eq_some_iff.mp hj).1
      have hget : (((σ'.set i (some (V.ref b))).set j (some (V.ref b))).set i none)[j]? = some (some (V.ref b)) := by
        rw [List.getElem?_set_ne hij, List.getElem?_set_self (by rw [List.length_set]; exact hjl)]
      refine ⟨V.ref b, hget, rfl, decide (V.ref b = V.non), rfl, ?_⟩
      dsimp only
      rw [if_neg (by simp)]
      refine ⟨V.ref b, hget, b, c, rfl, hc, upd_same, fun H2 k1 k2 => ?_⟩
      have hne : ∀ x o, H' x = some o → x ≠ b := fun x o hx z => by rw [z, hb'] at hx; cases hx
      refine p (.str (nm c)) G0 H2 ⟨fun _ _ z => z, fun x o hfp hx => ?_, fun x hx => ?_, fun x o z => .inl z⟩ ⟨fun x o z => ?_, fun _ z => z.elim, fun _ z => z.elim, trivial⟩ (.inl (.str _))
      · have h1 := g.h x o hfp hx
        exact k1 x o (hne x o h1) (by rw [upd_ne (hne x o h1)]; exact h1)
      · have h1 := k2 x hx
        have h2 : x ≠ b := fun z => by rw [z, upd_same] at h1; cases h1
        rw [upd_ne h2] at h1
        exact g.dom x h1
      · have h0 := sb0 x o z
        have h1 := g.h x o (fun z => z) h0
        exact k1 x o (hne x o h1) (by rw [upd_ne (hne x o h1)]; exact h1)
    · rw [if_neg hc] at p; exact p.elim
  | ok y =>
    obtain ⟨fl, s'⟩ := y
    cases fl with
    | nx ρ' =>
      intro p σ' G' H' a'
      dsimp only at p
      cases hρ : ρ'[j]? with
      | none => rw [hρ] at p; exact p.elim
      | some o =>
        cases o with
        | none => rw [hρ] at p; exact p.elim
        | some d =>
          cases d with
          | none =>
            rw [hρ] at p
            dsimp only at p
            obtain ⟨v, hv1, hv2⟩ := a'.rs.plain j .none hρ (by simp)
            have hvn : v = .non := by
              rcases hv2 with r | ⟨n, e, _⟩
              · cases r; rfl
              · cases e
            subst hvn
            refine ⟨V.non, hv1, rfl, decide (V.non = V.non), rfl, ?_⟩
            dsimp only
            rw [if_pos (by simp)]
            refine ⟨G', ρ', s', ⟨a'.sit, a'.gr, a'.rs⟩, ?_⟩
            revert p
            cases fe ρ' s' with
            | ok z =>
              intro p v2 G2 H2 g2 S2 r2
              exact p v2 G2 H2 (a'.gr.trans g2) S2 r2
            | exc c => exact fun p G2 H2 g2 => p G2 H2 (a'.gr.trans g2)
            | bad => exact fun p => p
          | _ => rw [hρ] at p; exact p.elim
    | _ => exact fun p => p.elim
end
end DL

/-! DLI: list.index; a pure def whose ground is known; sorted lists of pairs -/
namespace DL
open PySem PySem.Spec PyProof.Rows L2
section
variable {X : Cx} {B : Bs} {O O' : List Nat}
def pIndex : PD → PD → R PD
  | .list ds, d => if SeqAt.shaped (.list ds) && SeqAt.shaped d then match ds.findIdx? fun z => PyData.eqv z d with
    | some j => .ok (.int (j : Nat))
    | none => .bad
    else .bad
  | _, _ => .bad
theorem dm_index (hu : X.A.units + 65 < cLine) : MtR X "list.index" (rdM pIndex) := by
  refine MtR.by fun x vs H Q h => ?_
  obtain ⟨y, rfl, G, d, e, sb, rx, ry, p⟩ := h
  cases d with
  | list ds =>
    unfold pIndex at p
    dsimp only at p
    split at p
    · rename_i hsh
      rw [Bool.and_eq_true] at hsh
      split at p
      · rename_i j hj
        obtain ⟨a, us, rfl, ga, da⟩ := rx.of_lst
        have h1 := List.findIdx?_eq_some_iff_getElem.mp hj
        obtain ⟨hlt, hz, hno⟩ := h1
        refine ⟨_, mt_indexD hu, a, y, _, ds, j, ds[j], rfl, rfl, rx.dp sb, ry.dp sb, hsh.1, hsh.2, List.getElem?_eq_getElem hlt, hz, fun m z' hm hz' => ?_, p.val sb (.int _)⟩
        have hml : m < ds.length := by omega
        rw [List.getElem?_eq_getElem hml] at hz'
        cases hz'
        have := hno m hm
        simpa using this
      · exact p.elim
    · exact p.elim
  | _ => exact p.elim
end
section
variable {P : Program} {w : World} {K : PySem.W.Frag} {mg : Str → Option Value} {base : Heap} {x qual : Str} {params : Arguments} {body : List Stmt} {scope : Scope} {f : Addr} {fd : FuncData} {cls : Nat → Addr}
/-- a pure def by its body, its ground known -/
theorem fn_pureT {N ps : List Str} {k n : Nat} {fb : Env → Unit → R (Fl × Unit)} (F : FunD K x qual params body scope [] [] f fd) (S : FnScope N ps scope) (hm : mg x = some (.ref f)) (hn : ps.length = n) (hb : Binds K fd ps [])
    (hbody : ∀ (cdv : Value) (A : Around) (outer : List PySem.Env) (s : Shared) (H : Hp) (E : XK) (tk : Nat → V) (G : Hp), Sub G H → Room k (A.deeper (envOfC qual scope s.heap.objs.size f cdv)) →
      DSs (cxOf (L2.CX P w) P w K mg base N qual scope f cdv A outer s H E) ⟨Wp cls tk, G, H, E⟩ [] [] body fb) : FnP P w K mg base cls (k + 1) x n (mBody (N.length - n) fb) := by
  refine ⟨f, fd, ps, F.ok S (fun vs H Q E h => ?_) (fun cdv A outer s H vs Q E hr h => ?_), hm, F.kp, hb⟩
  · obtain ⟨tk, G, ds, _, r, hl, _⟩ := h
    rw [r.len, hl, hn]
  · obtain ⟨tk, G, ds, sb, r, hl, p⟩ := h
    refine ⟨_, hbody cdv A outer s H E tk G sb hr, G, startD N ds, (), ⟨⟨sb, fun _ z => z.elim, fun _ z => z.elim, trivial⟩, .refl, r.begin_ N⟩, ?_⟩
    unfold mBody at p
    have e0 : startD N ds = ds.map some ++ List.replicate (N.length - n) none := by unfold startD; rw [hl]
    rw [e0]
    revert p
    generalize fb (ds.map some ++ List.replicate (N.length - n) none) () = r'
    intro p
    cases r' with
    | bad => exact p
    | exc c => exact fun G' H' g => p G' H' g
    | ok y =>
      obtain ⟨fl, u⟩ := y
      cases fl with
      | nx ρ => exact fun σ' G' H' a => p .non G' H' a.gr a.sit.sub (.inl .non)
      | rt d => exact fun v G' H' g st rv => p v G' H' g st.sub rv
      | bk ρ => exact p.elim
      | ct ρ => exact p.elim
end
end DL

/-! DLJ: sorted lists of pairs -/
namespace DL
open PySem PySem.Spec PyProof.Rows L2
def pD (p : Int × Int) : PD := .tuple [.int p.1, .int p.2]
def toPairs : List PD → Option (List (Int × Int))
  | [] => some []
  | .tuple [.int a, .int b] :: r => match toPairs r with
    | some ps => some ((a, b) :: ps)
    | none => none
  | _ => none
theorem toPairs_eq : ∀ {xs : List PD} {ps : List (Int × Int)}, toPairs xs = some ps → xs = ps.map pD
  | [], ps, h => by cases h; rfl
  | x :: r, ps, h => by
    unfold toPairs at h
    split at h
    · cases h
      rename_i e
      cases e
    · rename_i e
      split at h
      · rename_i q hq
        cases h
        cases e
        rw [toPairs_eq hq]
        rfl
      · cases h
    · cases h
theorem toPairs_map : ∀ ps : List (Int × Int), toPairs (ps.map pD) = some ps
  | [] => rfl
  | p :: ps => by
    show (match toPairs (ps.map pD) with | some q => some ((p.1, p.2) :: q) | none => none) = _
    rw [toPairs_map ps]
def lexLe (p q : Int × Int) : Bool := decide (p.1 < q.1) || (decide (p.1 = q.1) && decide (p.2 ≤ q.2))
def insP (k : Int × Int) : List (Int × Int) → List (Int × Int)
  | [] => [k]
  | x :: r => if lexLe k x = true then k :: x :: r else x :: insP k r
def sortP : List (Int × Int) → List (Int × Int)
  | [] => []
  | x :: r => insP x (sortP r)
def LexLe (p q : Int × Int) : Prop := p.1 < q.1 ∨ (p.1 = q.1 ∧ p.2 ≤ q.2)
theorem lexLe_iff {p q : Int × Int} : lexLe p q = true ↔ LexLe p q := by
  unfold lexLe LexLe
  simp
theorem perm_insP {k : Int × Int} : ∀ {l : List (Int × Int)}, (insP k l).Perm (k :: l)
  | [] => .refl _
  | x :: r => by
    unfold insP
    split
    · exact .refl _
    · exact ((perm_insP (l := r)).cons x).trans (List.Perm.swap k x r)
theorem perm_sortP : ∀ {l : List (Int × Int)}, (sortP l).Perm l
  | [] => .refl _
  | x :: r => by
    unfold sortP
    exact perm_insP.trans (perm_sortP.cons x)
theorem LexLe.trans {p q r : Int × Int} (h : LexLe p q) (k : LexLe q r) : LexLe p r := by
  unfold LexLe at *
  omega
theorem LexLe.total {p q : Int × Int} (h : ¬ LexLe p q) : LexLe q p := by
  unfold LexLe at *
  omega
theorem LexLe.anti {p q : Int × Int} (h : LexLe p q) (k : LexLe q p) : p = q := by
  unfold LexLe at *
  exact Prod.ext (by omega) (by omega)
theorem le_insP {k : Int × Int} : ∀ {l : List (Int × Int)}, l.Pairwise LexLe → (insP k l).Pairwise LexLe
  | [], _ => by simp [insP]
  | x :: r, h => by
    have h' := List.pairwise_cons.mp h
    unfold insP
    split
    · rename_i hk
      refine List.pairwise_cons.mpr ⟨fun y hy => ?_, h⟩
      rcases List.mem_cons.mp hy with z | z
      · rw [z]; exact lexLe_iff.mp hk
      · exact (lexLe_iff.mp hk).trans (h'.1 y z)
    · rename_i hk
      refine List.pairwise_cons.mpr ⟨fun y hy => ?_, le_insP h'.2⟩
      rcases List.mem_cons.mp (perm_insP.mem_iff.mp hy) with z | z
      · rw [z]; exact LexLe.total fun q => hk (lexLe_iff.mpr q)
      · exact h'.1 y z
theorem le_sortP : ∀ {l : List (Int × Int)}, (sortP l).Pairwise LexLe
  | [] => .nil
  | x :: r => le_insP le_sortP
theorem perm_pairs_eq {l m : List (Int × Int)} (h : l.Perm m) (a : l.Pairwise LexLe) (b : m.Pairwise LexLe) : l = m := List.Perm.eq_of_pairwise (fun x y _ _ h1 h2 => h1.anti h2) a b h
def kOf (H : Hp) (x : V) : Int × Int := match x with
  | .ref t => match H t with
    | some (.tup [.int a, .int b]) => (a, b)
    | _ => (0, 0)
  | _ => (0, 0)
theorem pairs_of {G H : Hp} (sb : Sub G H) : ∀ {xs : List V} {ps : List (Int × Int)}, DgAll G xs (ps.map pD) → xs.map (kOf H) = ps ∧ ∀ x ∈ xs, ∃ t, x = V.ref t ∧ H t = some (.tup [.int (kOf H x).1, .int (kOf H x).2]) ∧ Dg G x (pD (kOf H x))
  | [], [], _ => ⟨rfl, fun x h => by cases h⟩
  | [], _ :: _, h => by cases h
  | _ :: _, [], h => by cases h
  | x :: xs, p :: ps, h => by
    cases h with
    | cons hx hr =>
      obtain ⟨e, q⟩ := pairs_of sb hr
      have hx0 := hx
      cases hx with
      | tup ga da =>
        rename_i t vs
        cases da with
        | cons h1 da =>
          cases da with
          | cons h2 da =>
            cases da
            cases h1
            cases h2
            have hH := sb _ _ ga
            have hk : kOf H (V.ref t) = p := by
              unfold kOf
              dsimp only
              rw [hH]
            refine ⟨by rw [List.map_cons, hk, e], fun y hy => ?_⟩
            rcases List.mem_cons.mp hy with z | z
            · subst z
              rw [hk]
              exact ⟨t, rfl, hH, hx0⟩
            · exact q y z
section
variable {X : Cx} {B : Bs} {O O' : List Nat}
def pSortedP : List PD → R PD
  | [.list xs] => match toPairs xs with
    | some ps => .ok (.list ((sortP ps).map pD))
    | none => .bad
  | _ => .bad
theorem dgAll_of {G : Hp} {f : V → PD} : ∀ {ys : List V}, (∀ y ∈ ys, Dg G y (f y)) → DgAll G ys (ys.map f)
  | [], _ => .nil
  | y :: ys, h => .cons (h y (by simp)) (dgAll_of fun z hz => h z (List.mem_cons_of_mem _ hz))
theorem dc_sortedP : CallR X (.builtin "sorted") (rdC pSortedP) := by
  refine CallR.by fun vs H Q h => ?_
  obtain ⟨G, ds, sb, rs, p⟩ := h
  unfold pSortedP at p
  split at p
  · obtain ⟨v, rfl, rv⟩ := rs.one
    obtain ⟨a, xs, rfl, ga, da⟩ := rv.of_lst
    split at p
    · rename_i ps e
      rw [toPairs_eq e] at da
      obtain ⟨ek, hk⟩ := pairs_of sb da
      refine ⟨_, cr_sortedPO, a, xs, kOf H, rfl, SqL.of (sb _ _ ga), fun x hx => ?_, fun ys q hs hst hq => ?_⟩
      · obtain ⟨t, h1, h2, _⟩ := hk x hx
        exact ⟨t, h1, h2⟩
      · have hys : ∀ y ∈ ys, Dg G y (pD (kOf H y)) := fun y hy => by
          obtain ⟨_, _, _, h3⟩ := hk y (hst.perm.mem_iff.mp hy)
          exact h3
        have em : ys.map (kOf H) = sortP ps := by
          refine perm_pairs_eq ?_ ?_ le_sortP
          · rw [← ek]
            exact (hst.perm.map _).trans perm_sortP.symm
          · rw [List.pairwise_map]
            refine List.Pairwise.imp (fun {u v} huv => ?_) hs
            have := SrtO.lexB_no.mp huv
            unfold LexLe
            omega
        have hd := dgAll_of (f := fun y => pD (kOf H y)) hys
        have e2 : ys.map (fun y => pD (kOf H y)) = (sortP ps).map pD := by
          rw [← em, List.map_map]; rfl
        rw [e2] at hd
        exact p.lst sb hd hq
    · exact p.elim
  · exact p.elim
end
end DL

/-! DLK: what is asked of the written part about the error classes -/
namespace DL
open PySem PySem.Spec PyProof.Rows L2
def excCB (K : PySem.W.Frag) (D : Addr) : Bool :=
  He.eqO (PySem.W.findIn K (.ref D) "__getattribute__") (some (some (.builtin "BaseException.__getattribute__"))) &&
  (He.eqO (PySem.W.findIn K (.ref D) "__getattr__") (some none) &&
  (decide (PySem.W.subIn K (.ref D) (.type "BaseException") = some true) &&
  (PySem.W.hasDictIn K D &&
  (He.eqO (PySem.W.findIn K (.ref D) "__class__") (some (some (.builtin "object.__class__"))) &&
  (He.eqO (PySem.W.specialIn K (.builtin "object.__class__") "__get__") (some (some (.builtin "getset_descriptor.__get__"))) &&
  (decide (PySem.W.takesIn K (.builtin "object.__class__") = some true) &&
  decide (PySem.W.mroIn K D (.type "object") = some true)))))))
theorem excCB_ok {K : PySem.W.Frag} {D : Addr} (h : excCB K D = true) : L2.ExcC K D := by
  unfold excCB at h
  simp only [Bool.and_eq_true, decide_eq_true_eq] at h
  obtain ⟨h1, h2, h3, h4, h5, h6, h7, h8⟩ := h
  exact ⟨He.eqO_ok h1, He.eqO_ok h2, h3, h4, He.eqO_ok h5, He.eqO_ok h6, h7, h8⟩
def errB (K : PySem.W.Frag) : Bool := (List.range 5).all fun c => excCB K (clsK K c) &&
  (((List.range 5).all fun j => decide (PySem.W.kitOne K (.ref (clsK K c)) (.ref (clsK K j)) = some (decide (c = j)))) &&
  (decide (PySem.W.kitOne K (.ref (clsK K c)) (.ref (He.ga K "AlarmError")) = some true) &&
  (decide (PySem.W.exmOne K (.ref (clsK K c)) (.ref (He.ga K "AlarmError")) = some true) &&
  decide (PySem.W.kitOne K (.ref (clsK K c)) (.type "ValueError") = some true))))
theorem errK_mk {K : PySem.W.Frag} {h : Heap} {mg : Str → Option Value} (X : K.In h) (G : h.Ns mainGlobals mg) (b : errB K = true) (h1 : (He.Fa.glo "AlarmError").ok K = true) (h2 : (He.Fa.free "ValueError").ok K = true) : ErrK K mg (clsK K) := by
  have key : ∀ c, c < 5 → excCB K (clsK K c) = true ∧ (∀ j, j < 5 → PySem.W.kitOne K (.ref (clsK K c)) (.ref (clsK K j)) = some (decide (c = j))) ∧ PySem.W.kitOne K (.ref (clsK K c)) (.ref (He.ga K "AlarmError")) = some true ∧ PySem.W.exmOne K (.ref (clsK K c)) (.ref (He.ga K "AlarmError")) = some true ∧ PySem.W.kitOne K (.ref (clsK K c)) (.type "ValueError") = some true := fun c hc => by
    unfold errB at b
    have q := List.all_eq_true.mp b c (List.mem_range.mpr hc)
    simp only [Bool.and_eq_true, decide_eq_true_eq] at q
    obtain ⟨q1, q2, q3, q4, q5⟩ := q
    refine ⟨q1, fun j hj => ?_, q3, q4, q5⟩
    have := List.all_eq_true.mp q2 j (List.mem_range.mpr hj)
    simpa using this
  exact ⟨fun c hc => excCB_ok (key c hc).1, fun c j hc hj => (key c hc).2.1 j hj, ⟨_, He.glo_ok X G h1, fun c hc => ⟨(key c hc).2.2.1, (key c hc).2.2.2.1⟩⟩, fun c hc => (key c hc).2.2.2.2, He.free_ok X G h2⟩
def errN (c : Nat) : Str := ["things", "number", "points", "text", "none"].getD c "odd"
end DL

/-! the mirrors, second part, printed by gen.py -/
namespace DL
open PySem PySem.Spec PyProof.Rows L2

def b__law_error : Env → Nat → R (Fl × Nat) :=
      (sSeq (sSet 1 (cLst (aCons (cIsE (fun c => decide (c = 0)) (cVar 0)) (aCons (cIsE (fun c => decide (c = 1)) (cVar 0)) (aCons (cIsE (fun c => decide (c = 2)) (cVar 0)) aNil)))))
      (sSeq (sSet 1 (cOp pAdd (cVar 1) (cLst (aCons (cIsE (fun c => decide (c = 3)) (cVar 0)) (aCons (cIsE (fun c => decide (c = 4)) (cVar 0)) aNil)))))
      (sSeq (sIf (cOrT (cTest (cOp pNe (cMeth pCount (cVar 1) (cC (.bool true))) (cC (.int 1)))) (cOrT (cNotT (cTest (cIsE (fun _ => true) (cVar 0)))) (cNotT (cTest (cIsE (fun _ => true) (cVar 0))))))
      (sRet (cC (.str "odd")))
      sNil)
      (sRet (cOp pIx (cLst (aCons (cC (.str "things")) (aCons (cC (.str "number")) (aCons (cC (.str "points")) (aCons (cC (.str "text")) (aCons (cC (.str "none")) aNil)))))) (cMeth pIndex (cVar 1) (cC (.bool true))))))))
def b__law_area {d : Type} : Env → d → R (Fl × d) :=
      (sSeq (sSet 1 (cC .none))
      (sSeq (sSet 2 (cC .none))
      (sTry (sSet 1 (cCallF 1 m_area (aCons (cVar 0) aNil))) 2 (cVar 1) errN)))
def m__law_area : List PD → R PD := mBody 3 b__law_area
def b__law_ever {d : Type} : Env → d → R (Fl × d) :=
      (sSeq (sSet 2 (cC .none))
      (sSeq (sSet 3 (cC .none))
      (sTry (sSet 2 (cCallF 2 m_is_ever_best (aCons (cVar 0) (aCons (cVar 1) aNil)))) 3 (cVar 2) errN)))
def m__law_ever : List PD → R PD := mBody 3 b__law_ever
end DL

/-! N6: points that are ever best -/
namespace DL
open PySem PySem.Spec PyProof.Rows L2
local macro_rules | `(tactic| walk_at "ev") => `(tactic| simp only [szL, Nat.reduceLeDiff, mBody, mBodyD, outP, outD, cVar, cC, cOp, cUn, cTest, cAndT, cOrT, cNotT, cAndV, cOrV, cIf, aNil, aCons, cTup, cLst, cSl, oNone, oSome, cCall, cCallF, cCallD, cMeth, noX', isL_list, isL_encP, tYesD, bnd_ok, bnd_exc, bnd_bad, lft_ok, lft_exc, lft_bad, isOk_ok, isOk_exc, isOk_bad, isD_int, isD_bool, isD_none, isD_str, isD_list, isD_tuple, isD_eP, isD_eT, isD_encP, isD_encT, allD, List.all_cons, List.all_nil, Bool.and_self, Bool.and_true, Bool.true_and, if_true, if_false, Bool.false_eq_true, ite_true, ite_false, reduceIte, List.length_cons, List.length_nil, List.map_cons, List.map_nil, List.cons_append, List.nil_append, List.replicate_succ, List.replicate_zero, List.getElem?_cons_zero, List.getElem?_cons_succ, List.set_cons_zero, List.set_cons_succ, wipeD, sSeq, sSet, sAsg, sRet, sIf, sExpr, sNil, sRaise, sSetF, sApp, sAug, sAugL, sPar, sPar3, fLst, bNm, bTup, bCons, bNil, pNot, pIsi, isiT, tyN, pNeg, Nat.reduceAdd, decide_true, decide_false, Bool.not_true, Bool.not_false, noX_ok, pLe_i, pLt_i, pGt_i, pGe_i, pAdd_i, pSub_i, pLen_l, pLen_t, pIx_t0, pIx_t1, pEq_i, pNe_i])
local macro_rules | `(tactic| walk_at "evs") => `(tactic| simp [szL, mBody, mBodyD, outP, outD, cVar, cC, cOp, cUn, cTest, cAndT, cOrT, cNotT, cAndV, cOrV, cIf, aNil, aCons, cTup, cLst, cSl, oNone, oSome, cCall, cCallF, cCallD, cMeth, noX', isL_list, isL_encP, tYesD, bnd_ok, bnd_exc, bnd_bad, lft_ok, lft_exc, lft_bad, isOk_ok, isOk_exc, isOk_bad, isD_int, isD_bool, isD_none, isD_str, isD_list, isD_tuple, isD_eP, isD_eT, isD_encP, isD_encT, allD, List.all_cons, List.all_nil, List.map_cons, List.map_nil, List.cons_append, List.nil_append, List.replicate_succ, List.replicate_zero, List.getElem?_cons_zero, List.getElem?_cons_succ, List.set_cons_zero, List.set_cons_succ, wipeD, sSeq, sSet, sAsg, sRet, sIf, sExpr, sNil, sRaise, sSetF, sApp, sAug, sAugL, sPar, sPar3, fLst, bNm, bTup, bCons, bNil, pNot, pIsi, isiT, tyN, pNeg, noX_ok, pLe_i, pLt_i, pGt_i, pGe_i, pAdd_i, pSub_i, pLen_l, pLen_t, pIx_t0, pIx_t1, pEq_i, pNe_i])
local macro_rules | `(tactic| walk_at "evx") => `(tactic| simp [szL, mBody, mBodyD, outP, outD, cVar, cC, cOp, cUn, cTest, cAndT, cOrT, cNotT, cAndV, cOrV, cIf, aNil, aCons, cTup, cLst, cSl, oNone, oSome, cCall, cCallF, cCallD, cMeth, noX', isL_list, isL_encP, tYesD, bnd_ok, bnd_exc, bnd_bad, lft_ok, lft_exc, lft_bad, isOk_ok, isOk_exc, isOk_bad, isD_int, isD_bool, isD_none, isD_str, isD_list, isD_tuple, isD_eP, isD_eT, isD_encP, isD_encT, allD, List.all_cons, List.all_nil, List.map_cons, List.map_nil, List.cons_append, List.nil_append, List.replicate_succ, List.replicate_zero, List.getElem?_cons_zero, List.getElem?_cons_succ, List.set_cons_zero, List.set_cons_succ, wipeD, sSeq, sSet, sAsg, sRet, sIf, sExpr, sNil, sRaise, sSetF, sApp, sAug, sAugL, sPar, sPar3, fLst, bNm, bTup, bCons, bNil, pNot, pIsi, isiT, tyN, pNeg, noX_ok, pLe_i, pLt_i, pGt_i, pGe_i, pAdd_i, pSub_i, pLen_l, pLen_t, pIx_t0, pIx_t1, pEq_i, pNe_i, *])
def btr (p q : Pt) : Bool := !decide (q = p) && (decide (q.1 ≤ p.1) && decide (p.2 ≤ q.2))
def abv (p u v : Pt) : Bool := (decide (u.1 < p.1) && decide (p.1 < v.1)) && decide (0 < turn u p v)
/-- never best -/
def nev (P : List Pt) (p : Pt) : Bool := P.any fun u => btr p u || P.any fun v => abv p u v
def evBody : Env → Unit → R (Fl × Unit) := (sIf (cAndT (cTest (cChain pLt pLt (cOp pIx (cVar 3) (cC (.int 0))) (cOp pIx (cVar 1) (cC (.int 0))) (cOp pIx (cVar 4) (cC (.int 0))))) (cTest (cOp pGt (cCallF 3 m_way_turn (aCons (cVar 3) (aCons (cVar 1) (aCons (cVar 4) aNil)))) (cC (.int 0))))) (sRet (cC (.bool false))) sNil)
theorem m_is_ever_best_eq {T : List Th} (g : GoodT T) {p : Pt} (hp : p ∈ pts T) : m_is_ever_best [encT T, eP p] = .ok (.bool (!nev (pts T) p)) := by
  have hS := sm_pts g
  have hpS := hS p hp
  refine mBody_of (ev_check (ev_callF (s1 := ()) rfl (m_check_things_eq g)) (ev_let (s1 := ()) (ev_callF rfl (m_points_of_eq g.l64)) (ev_guard (s1 := ()) (ev_or_f (s' := ()) rfl (ev_test (ev_op (s1 := ()) rfl rfl (by rw [pNotIn_eP, decide_eq_true hp]; rfl)))) ?_)))
  have inner : ∀ (u : Pt), u ∈ pts T → ∀ x4 : Option PD, (((pts T).any fun v => abv p u v) = true → sForGo (bNm 4) evBody ((pts T).map eP) [some (encT T), some (eP p), some (encP (pts T)), some (eP u), x4] () = .ok (.rt (.bool false), ())) ∧
      (((pts T).any fun v => abv p u v) = false → ∃ x4' : Option PD, sForGo (bNm 4) evBody ((pts T).map eP) [some (encT T), some (eP p), some (encP (pts T)), some (eP u), x4] () = .ok (.nx [some (encT T), some (eP p), some (encP (pts T)), some (eP u), x4'], ())) := fun u hu x4 => by
    have step : ∀ v, v ∈ pts T → ∀ x4 : Option PD, ∃ ρ1, bNm 4 (eP v) [some (encT T), some (eP p), some (encP (pts T)), some (eP u), x4] = some ρ1 ∧ (abv p u v = true → evBody ρ1 () = .ok (.rt (.bool false), ())) ∧ (abv p u v = false → ∃ ρ2, (∃ x4, ρ2 = [some (encT T), some (eP p), some (encP (pts T)), some (eP u), x4]) ∧ evBody ρ1 () = .ok (.nx ρ2, ())) := fun v hv x4 => by
      have ht : cAndT (cTest (cChain pLt pLt (cOp pIx (cVar 3) (cC (.int 0))) (cOp pIx (cVar 1) (cC (.int 0))) (cOp pIx (cVar 4) (cC (.int 0))))) (cTest (cOp pGt (cCallF 3 m_way_turn (aCons (cVar 3) (aCons (cVar 1) (aCons (cVar 4) aNil)))) (cC (.int 0)))) [some (encT T), some (eP p), some (encP (pts T)), some (eP u), some (eP v)] () = .ok (abv p u v, ()) := by
        have h1 : cTest (cChain pLt pLt (cOp pIx (cVar 3) (cC (.int 0))) (cOp pIx (cVar 1) (cC (.int 0))) (cOp pIx (cVar 4) (cC (.int 0)))) [some (encT T), some (eP p), some (encP (pts T)), some (eP u), some (eP v)] () = .ok (decide (u.1 < p.1) && decide (p.1 < v.1), ()) :=
          ev_test (chain_lt (d := Unit) _ _ _ _ () _ _ _ (ev_op (s1 := ()) rfl rfl (eP_0 _)) (ev_op (s1 := ()) rfl rfl (eP_0 _)) (ev_op (s1 := ()) rfl rfl (eP_0 _)))
        unfold abv
        cases hc : decide (u.1 < p.1) && decide (p.1 < v.1) with
        | true =>
          rw [hc] at h1
          exact ev_and_t (s' := ()) h1 (ev_test (ev_op (s1 := ()) (ev_callF rfl (m_way_turn_eq (hS u hu) hpS (hS v hv))) rfl (pGt_i _ _)))
        | false =>
          rw [hc] at h1
          unfold cAndT
          rw [h1]
          rfl
      exact ⟨[some (encT T), some (eP p), some (encP (pts T)), some (eP u), some (eP v)], rfl, fun h => ev_if_t (s' := ()) (by rw [ht, h]) rfl, fun h => ⟨_, ⟨_, rfl⟩, ev_if_f (s' := ()) (by rw [ht, h]) rfl⟩⟩
    have key := sForGo_find (d := Unit) (bd := bNm 4) (body := evBody) eP (fun v => abv p u v) (fun _ => .bool false) (fun ρ => ∃ x4, ρ = [some (encT T), some (eP p), some (encP (pts T)), some (eP u), x4]) () (pts T) [some (encT T), some (eP p), some (encP (pts T)), some (eP u), x4] ⟨x4, rfl⟩ fun v hv ρ hρ => by
      obtain ⟨x4, rfl⟩ := hρ
      exact step v hv x4
    cases hf : (pts T).find? fun v => abv p u v with
    | none =>
      rw [hf] at key
      obtain ⟨ρ', ⟨x4', rfl⟩, e⟩ := key
      refine ⟨fun h => ?_, fun _ => ⟨x4', e⟩⟩
      obtain ⟨v, hv, hav⟩ := List.any_eq_true.mp h
      exact absurd hav (by have := List.find?_eq_none.mp hf v hv; simpa using this)
    | some w =>
      rw [hf] at key
      refine ⟨fun _ => key, fun h => ?_⟩
      have h1 := List.find?_some hf
      have h2 := List.mem_of_find?_eq_some hf
      exact absurd h1 (List.any_eq_false.mp h w h2)
  have outer := sForGo_find (d := Unit) (bd := bNm 3) (body := (sSeq (sIf (cAndT (cTest (cOp pNe (cVar 3) (cVar 1))) (cAndT (cTest (cOp pLe (cOp pIx (cVar 3) (cC (.int 0))) (cOp pIx (cVar 1) (cC (.int 0))))) (cTest (cOp pGe (cOp pIx (cVar 3) (cC (.int 1))) (cOp pIx (cVar 1) (cC (.int 1)))))))
      (sRet (cC (.bool false)))
      sNil)
      (sFor (iLst (cVar 2)) (bNm 4)
      evBody))) eP (fun u => btr p u || (pts T).any fun v => abv p u v) (fun _ => .bool false) (fun ρ => ∃ x3 x4, ρ = [some (encT T), some (eP p), some (encP (pts T)), x3, x4]) () (pts T) [some (encT T), some (eP p), some (encP (pts T)), none, none] ⟨none, none, rfl⟩ fun u hu ρ hρ => by
    obtain ⟨x3, x4, rfl⟩ := hρ
    have ht : cAndT (cTest (cOp pNe (cVar 3) (cVar 1))) (cAndT (cTest (cOp pLe (cOp pIx (cVar 3) (cC (.int 0))) (cOp pIx (cVar 1) (cC (.int 0))))) (cTest (cOp pGe (cOp pIx (cVar 3) (cC (.int 1))) (cOp pIx (cVar 1) (cC (.int 1)))))) [some (encT T), some (eP p), some (encP (pts T)), some (eP u), x4] () = .ok (btr p u, ()) := by
      unfold btr cAndT
      rw [ev_test (b := !decide (u = p)) (s' := ()) (ev_op (s1 := ()) rfl rfl (pNe_eP _ _)), bnd_ok]
      cases hc : !decide (u = p) with
      | false => rfl
      | true =>
        rw [if_pos rfl, ev_test (b := decide (u.1 ≤ p.1)) (s' := ()) (ev_op (s1 := ()) (ev_op (s1 := ()) rfl rfl (eP_0 _)) (ev_op (s1 := ()) rfl rfl (eP_0 _)) (pLe_i _ _)), bnd_ok]
        cases hd : decide (u.1 ≤ p.1) with
        | false => rfl
        | true =>
          rw [if_pos rfl]
          exact ev_test (ev_op (s1 := ()) (ev_op (s1 := ()) rfl rfl (eP_1 _)) (ev_op (s1 := ()) rfl rfl (eP_1 _)) (pGe_i _ _))
    have hi := inner u hu x4
    refine ⟨[some (encT T), some (eP p), some (encP (pts T)), some (eP u), x4], rfl, fun h => ?_, fun h => ?_⟩
    · cases hb : btr p u with
      | true => exact ev_seq_rt (ev_if_t (s' := ()) (by rw [ht, hb]) rfl)
      | false =>
        rw [hb, Bool.false_or] at h
        exact ev_seq (s' := ()) (ev_if_f (s' := ()) (by rw [ht, hb]) rfl) (ev_for (s' := ()) rfl (hi.1 h))
    · rw [Bool.or_eq_false_iff] at h
      obtain ⟨x4', e⟩ := hi.2 h.2
      exact ⟨_, ⟨_, _, rfl⟩, ev_seq (s' := ()) (ev_if_f (s' := ()) (by rw [ht, h.1]) rfl) (ev_for (s' := ()) rfl e)⟩
  cases hf : (pts T).find? fun u => btr p u || (pts T).any fun v => abv p u v with
  | none =>
    rw [hf] at outer
    obtain ⟨ρ', ⟨x3, x4, rfl⟩, e⟩ := outer
    have hn : nev (pts T) p = false := by
      unfold nev
      rw [List.any_eq_false]
      intro u hu
      exact List.find?_eq_none.mp hf u hu
    rw [hn]
    exact ev_seq (ev_for (s' := ()) rfl e) rfl
  | some u =>
    rw [hf] at outer
    have hn : nev (pts T) p = true := by
      unfold nev
      rw [List.any_eq_true]
      exact ⟨u, List.mem_of_find?_eq_some hf, by have := List.find?_some hf; exact this⟩
    rw [hn]
    exact ev_seq_rt (ev_for (s' := ()) rfl outer)
theorem cand_turn {p u v : Pt} (w : u.1 < v.1) (ok : OkPl (p.1, 1)) : LeQ (cand (p.1, 1) (u, v)) (p.2, 1) ↔ turn u p v ≤ 0 := by
  rw [cand_wide w, LeQ.low (chD_pos ok w)]
  unfold LeQ chN chD turn
  dsimp only
  constructor
  · intro h; grind
  · intro h; grind
theorem ever_iff {P : List Pt} (h : PtsOk P) {p : Pt} (hp : p ∈ P) : nev P p = false ↔ (∀ u ∈ P, btr p u = false) ∧ ltB P (p.1, 1) = (p.2, 1) := by
  have hr := h.rng p hp
  have ok : OkPl (p.1, 1) := ⟨hr.1, by show p.1 ≤ _; omega, by show (1 : Int) ≤ 1; decide, by show (1 : Int) ≤ 1000; decide⟩
  have hnt : Nm (ltB P (p.1, 1)) := foldC_nm ok _ _ (lhB_nm h ok) fun e he hse => okE_of h (mem_prs he).1 (mem_prs he).2 (strict_wide ok hse)
  have hpos : ∀ x ∈ (0, 1) :: (LH P (p.1, 1) ++ ((prs P).filter (strict (p.1, 1))).map (cand (p.1, 1))), 0 < x.2 := fun x hx => by
    rcases List.mem_cons.mp hx with e | e
    · rw [e]; exact Int.one_pos
    · rcases List.mem_append.mp e with e | e
      · exact LH_pos h ok x (List.mem_cons_of_mem _ e)
      · obtain ⟨f, hf, rfl⟩ := List.mem_map.mp e
        have hm := List.mem_filter.mp hf
        exact (cand_nm ok (okE_of h (mem_prs hm.1).1 (mem_prs hm.1).2 (strict_wide ok hm.2)) (strict_ins hm.2)).2.2.1
  have hsp := mxQ_spec hpos
  rw [← ltB_LH] at hsp
  have hpm : ∀ u v, u ∈ P → v ∈ P → (u, v) ∈ prs P := fun u v hu hv => by
    unfold prs
    rw [List.mem_flatten]
    exact ⟨_, List.mem_map.mpr ⟨u, hu, rfl⟩, List.mem_map.mpr ⟨v, hv, rfl⟩⟩
  have hst : ∀ u v : Pt, strict (p.1, 1) (u, v) = true ↔ u.1 < p.1 ∧ p.1 < v.1 := fun u v => by
    rw [strict_iff]
    dsimp only
    omega
  constructor
  · intro hn
    unfold nev at hn
    rw [List.any_eq_false] at hn
    have hb : ∀ u ∈ P, btr p u = false := fun u hu => by
      have := hn u hu
      simp only [Bool.or_eq_true, not_or, Bool.not_eq_true] at this
      exact this.1
    have ha : ∀ u ∈ P, ∀ v ∈ P, u.1 < p.1 → p.1 < v.1 → turn u p v ≤ 0 := fun u hu v hv h1 h2 => by
      have := hn u hu
      simp only [Bool.or_eq_true, not_or, Bool.not_eq_true] at this
      have h3 := List.any_eq_false.mp this.2 v hv
      unfold abv at h3
      rw [decide_eq_true h1, decide_eq_true h2] at h3
      simp at h3
      exact h3
    refine ⟨hb, low_unique hnt.2.2 (low1 _) ?_⟩
    rw [ltB_LH]
    have ch : ∀ f : Pt × Pt, f.1 ∈ P → f.2 ∈ P → strict (p.1, 1) f = true → LeQ (cand (p.1, 1) f) (p.2, 1) := fun f h1 h2 hs => by
      obtain ⟨u, v⟩ := f
      have hs' := (hst u v).mp hs
      exact (cand_turn (by omega) ok).mpr (ha u h1 v h2 hs'.1 hs'.2)
    refine mxQ_fold hpos Int.one_pos (fun x hx => ?_) ⟨(p.2, 1), ?_, Int.le_refl _⟩
    · rcases List.mem_cons.mp hx with e | e
      · rw [e]
        show 0 * 1 ≤ p.2 * 1
        omega
      · rcases List.mem_append.mp e with e | e
        · rcases List.mem_append.mp e with e | e
          · obtain ⟨q, hq, rfl⟩ := List.mem_map.mp e
            have hm := List.mem_filter.mp hq
            have hx1 : q.1 = p.1 := by have := hm.2; simp at this; exact this
            show q.2 * 1 ≤ p.2 * 1
            by_cases c : p.2 < q.2
            · have := hb q hm.1
              unfold btr at this
              rw [decide_eq_false (fun z => by rw [z] at c; omega), decide_eq_true (by omega), decide_eq_true (by omega)] at this
              cases this
            · omega
          · obtain ⟨f, hf, rfl⟩ := List.mem_map.mp e
            have hm := List.mem_filter.mp hf
            obtain ⟨x, y, ec⟩ := mem_edges.mp hm.1
            exact ch f (by rw [ec]; simp) (by rw [ec]; simp) hm.2
        · obtain ⟨f, hf, rfl⟩ := List.mem_map.mp e
          have hm := List.mem_filter.mp hf
          exact ch f (mem_prs hm.1).1 (mem_prs hm.1).2 hm.2
    · exact List.mem_cons_of_mem _ (List.mem_append_left _ (List.mem_append_left _ (List.mem_map.mpr ⟨p, List.mem_filter.mpr ⟨hp, by simp⟩, rfl⟩)))
  · rintro ⟨hb, he⟩
    unfold nev
    rw [List.any_eq_false]
    intro u hu
    rw [hb u hu, Bool.false_or, Bool.not_eq_true, List.any_eq_false]
    intro v hv
    unfold abv
    by_cases h1 : u.1 < p.1
    · by_cases h2 : p.1 < v.1
      · have hle := hsp.2 (cand (p.1, 1) (u, v)) (List.mem_cons_of_mem _ (List.mem_append_right _ (List.mem_map.mpr ⟨(u, v), List.mem_filter.mpr ⟨hpm u v hu hv, (hst u v).mpr ⟨h1, h2⟩⟩, rfl⟩)))
        rw [he] at hle
        have := (cand_turn (p := p) (u := u) (v := v) (by omega) ok).mp hle
        rw [decide_eq_false (show ¬ 0 < turn u p v by omega)]
        simp
      · rw [decide_eq_false h2]; simp
    · rw [decide_eq_false h1]; simp
end DL

/-! N7: what is best for some costs is ever best; the least miss cost -/
namespace DL
open PySem PySem.Spec PyProof.Rows L2
local macro_rules | `(tactic| walk_at "ev") => `(tactic| simp only [szL, Nat.reduceLeDiff, mBody, mBodyD, outP, outD, cVar, cC, cOp, cUn, cTest, cAndT, cOrT, cNotT, cAndV, cOrV, cIf, aNil, aCons, cTup, cLst, cSl, oNone, oSome, cCall, cCallF, cCallD, cMeth, noX', isL_list, isL_encP, tYesD, bnd_ok, bnd_exc, bnd_bad, lft_ok, lft_exc, lft_bad, isOk_ok, isOk_exc, isOk_bad, isD_int, isD_bool, isD_none, isD_str, isD_list, isD_tuple, isD_eP, isD_eT, isD_encP, isD_encT, allD, List.all_cons, List.all_nil, Bool.and_self, Bool.and_true, Bool.true_and, if_true, if_false, Bool.false_eq_true, ite_true, ite_false, reduceIte, List.length_cons, List.length_nil, List.map_cons, List.map_nil, List.cons_append, List.nil_append, List.replicate_succ, List.replicate_zero, List.getElem?_cons_zero, List.getElem?_cons_succ, List.set_cons_zero, List.set_cons_succ, wipeD, sSeq, sSet, sAsg, sRet, sIf, sExpr, sNil, sRaise, sSetF, sApp, sAug, sAugL, sPar, sPar3, fLst, bNm, bTup, bCons, bNil, pNot, pIsi, isiT, tyN, pNeg, Nat.reduceAdd, decide_true, decide_false, Bool.not_true, Bool.not_false, noX_ok, pLe_i, pLt_i, pGt_i, pGe_i, pAdd_i, pSub_i, pLen_l, pLen_t, pIx_t0, pIx_t1, pEq_i, pNe_i])
local macro_rules | `(tactic| walk_at "evs") => `(tactic| simp [szL, mBody, mBodyD, outP, outD, cVar, cC, cOp, cUn, cTest, cAndT, cOrT, cNotT, cAndV, cOrV, cIf, aNil, aCons, cTup, cLst, cSl, oNone, oSome, cCall, cCallF, cCallD, cMeth, noX', isL_list, isL_encP, tYesD, bnd_ok, bnd_exc, bnd_bad, lft_ok, lft_exc, lft_bad, isOk_ok, isOk_exc, isOk_bad, isD_int, isD_bool, isD_none, isD_str, isD_list, isD_tuple, isD_eP, isD_eT, isD_encP, isD_encT, allD, List.all_cons, List.all_nil, List.map_cons, List.map_nil, List.cons_append, List.nil_append, List.replicate_succ, List.replicate_zero, List.getElem?_cons_zero, List.getElem?_cons_succ, List.set_cons_zero, List.set_cons_succ, wipeD, sSeq, sSet, sAsg, sRet, sIf, sExpr, sNil, sRaise, sSetF, sApp, sAug, sAugL, sPar, sPar3, fLst, bNm, bTup, bCons, bNil, pNot, pIsi, isiT, tyN, pNeg, noX_ok, pLe_i, pLt_i, pGt_i, pGe_i, pAdd_i, pSub_i, pLen_l, pLen_t, pIx_t0, pIx_t1, pEq_i, pNe_i])
local macro_rules | `(tactic| walk_at "evx") => `(tactic| simp [szL, mBody, mBodyD, outP, outD, cVar, cC, cOp, cUn, cTest, cAndT, cOrT, cNotT, cAndV, cOrV, cIf, aNil, aCons, cTup, cLst, cSl, oNone, oSome, cCall, cCallF, cCallD, cMeth, noX', isL_list, isL_encP, tYesD, bnd_ok, bnd_exc, bnd_bad, lft_ok, lft_exc, lft_bad, isOk_ok, isOk_exc, isOk_bad, isD_int, isD_bool, isD_none, isD_str, isD_list, isD_tuple, isD_eP, isD_eT, isD_encP, isD_encT, allD, List.all_cons, List.all_nil, List.map_cons, List.map_nil, List.cons_append, List.nil_append, List.replicate_succ, List.replicate_zero, List.getElem?_cons_zero, List.getElem?_cons_succ, List.set_cons_zero, List.set_cons_succ, wipeD, sSeq, sSet, sAsg, sRet, sIf, sExpr, sNil, sRaise, sSetF, sApp, sAug, sAugL, sPar, sPar3, fLst, bNm, bTup, bCons, bNil, pNot, pIsi, isiT, tyN, pNeg, noX_ok, pLe_i, pLt_i, pGt_i, pGe_i, pAdd_i, pSub_i, pLen_l, pLen_t, pIx_t0, pIx_t1, pEq_i, pNe_i, *])
theorem best_ever {P : List Pt} {p : Pt} {a b F : Int} (ha : 0 < a) (hb : 0 < b) (h : ∀ q ∈ P, cpt a b F p ≤ cpt a b F q) : nev P p = false := by
  unfold nev
  rw [List.any_eq_false]
  intro u hu
  simp only [Bool.or_eq_true, not_or, Bool.not_eq_true]
  have hu' := h u hu
  unfold cpt at hu'
  constructor
  · unfold btr
    by_cases e : u = p
    · rw [decide_eq_true e]; rfl
    · by_cases h1 : u.1 ≤ p.1
      · by_cases h2 : p.2 ≤ u.2
        · exfalso
          have k1 := Int.mul_le_mul_of_nonneg_left h1 (Int.le_of_lt ha)
          have k2 := Int.mul_le_mul_of_nonneg_left h2 (Int.le_of_lt hb)
          have e1 : a * u.1 = a * p.1 := by grind
          have e2 : b * u.2 = b * p.2 := by grind
          exact e (Prod.ext (Int.eq_of_mul_eq_mul_left (by omega) e1) (Int.eq_of_mul_eq_mul_left (by omega) e2))
        · rw [decide_eq_false h2]; simp
      · rw [decide_eq_false h1]; simp
  · rw [List.any_eq_false]
    intro v hv
    have hv' := h v hv
    unfold cpt at hv'
    unfold abv
    by_cases h1 : u.1 < p.1
    · by_cases h2 : p.1 < v.1
      · have k1 := Int.mul_le_mul_of_nonneg_left hu' (show 0 ≤ v.1 - p.1 by omega)
        have k2 := Int.mul_le_mul_of_nonneg_left hv' (show 0 ≤ p.1 - u.1 by omega)
        have : b * turn u p v ≤ b * 0 := by unfold turn; grind
        have := Int.le_of_mul_le_mul_left this hb
        rw [decide_eq_false (show ¬ 0 < turn u p v by omega)]
        simp
      · rw [decide_eq_false h2]; simp
    · rw [decide_eq_false h1]; simp
end DL

/-! N8: the least miss cost; is_ever_best with its errors -/
namespace DL
open PySem PySem.Spec PyProof.Rows L2
local macro_rules | `(tactic| walk_at "ev") => `(tactic| simp only [szL, Nat.reduceLeDiff, mBody, mBodyD, outP, outD, cVar, cC, cOp, cUn, cTest, cAndT, cOrT, cNotT, cAndV, cOrV, cIf, aNil, aCons, cTup, cLst, cSl, oNone, oSome, cCall, cCallF, cCallD, cMeth, noX', isL_list, isL_encP, tYesD, bnd_ok, bnd_exc, bnd_bad, lft_ok, lft_exc, lft_bad, isOk_ok, isOk_exc, isOk_bad, isD_int, isD_bool, isD_none, isD_str, isD_list, isD_tuple, isD_eP, isD_eT, isD_encP, isD_encT, allD, List.all_cons, List.all_nil, Bool.and_self, Bool.and_true, Bool.true_and, if_true, if_false, Bool.false_eq_true, ite_true, ite_false, reduceIte, List.length_cons, List.length_nil, List.map_cons, List.map_nil, List.cons_append, List.nil_append, List.replicate_succ, List.replicate_zero, List.getElem?_cons_zero, List.getElem?_cons_succ, List.set_cons_zero, List.set_cons_succ, wipeD, sSeq, sSet, sAsg, sRet, sIf, sExpr, sNil, sRaise, sSetF, sApp, sAug, sAugL, sPar, sPar3, fLst, bNm, bTup, bCons, bNil, pNot, pIsi, isiT, tyN, pNeg, Nat.reduceAdd, decide_true, decide_false, Bool.not_true, Bool.not_false, noX_ok, pLe_i, pLt_i, pGt_i, pGe_i, pAdd_i, pSub_i, pLen_l, pLen_t, pIx_t0, pIx_t1, pEq_i, pNe_i])
local macro_rules | `(tactic| walk_at "evs") => `(tactic| simp [szL, mBody, mBodyD, outP, outD, cVar, cC, cOp, cUn, cTest, cAndT, cOrT, cNotT, cAndV, cOrV, cIf, aNil, aCons, cTup, cLst, cSl, oNone, oSome, cCall, cCallF, cCallD, cMeth, noX', isL_list, isL_encP, tYesD, bnd_ok, bnd_exc, bnd_bad, lft_ok, lft_exc, lft_bad, isOk_ok, isOk_exc, isOk_bad, isD_int, isD_bool, isD_none, isD_str, isD_list, isD_tuple, isD_eP, isD_eT, isD_encP, isD_encT, allD, List.all_cons, List.all_nil, List.map_cons, List.map_nil, List.cons_append, List.nil_append, List.replicate_succ, List.replicate_zero, List.getElem?_cons_zero, List.getElem?_cons_succ, List.set_cons_zero, List.set_cons_succ, wipeD, sSeq, sSet, sAsg, sRet, sIf, sExpr, sNil, sRaise, sSetF, sApp, sAug, sAugL, sPar, sPar3, fLst, bNm, bTup, bCons, bNil, pNot, pIsi, isiT, tyN, pNeg, noX_ok, pLe_i, pLt_i, pGt_i, pGe_i, pAdd_i, pSub_i, pLen_l, pLen_t, pIx_t0, pIx_t1, pEq_i, pNe_i])
local macro_rules | `(tactic| walk_at "evx") => `(tactic| simp [szL, mBody, mBodyD, outP, outD, cVar, cC, cOp, cUn, cTest, cAndT, cOrT, cNotT, cAndV, cOrV, cIf, aNil, aCons, cTup, cLst, cSl, oNone, oSome, cCall, cCallF, cCallD, cMeth, noX', isL_list, isL_encP, tYesD, bnd_ok, bnd_exc, bnd_bad, lft_ok, lft_exc, lft_bad, isOk_ok, isOk_exc, isOk_bad, isD_int, isD_bool, isD_none, isD_str, isD_list, isD_tuple, isD_eP, isD_eT, isD_encP, isD_encT, allD, List.all_cons, List.all_nil, List.map_cons, List.map_nil, List.cons_append, List.nil_append, List.replicate_succ, List.replicate_zero, List.getElem?_cons_zero, List.getElem?_cons_succ, List.set_cons_zero, List.set_cons_succ, wipeD, sSeq, sSet, sAsg, sRet, sIf, sExpr, sNil, sRaise, sSetF, sApp, sAug, sAugL, sPar, sPar3, fLst, bNm, bTup, bCons, bNil, pNot, pIsi, isiT, tyN, pNeg, noX_ok, pLe_i, pLt_i, pGt_i, pGe_i, pAdd_i, pSub_i, pLen_l, pLen_t, pIx_t0, pIx_t1, pEq_i, pNe_i, *])
def allT (T : List Th) (a b : Int) : Bool := decide (mxI ((bpts (pts T) a b (tr T 0)).map (·.2)) = tr T 0)
def encOI : Option Int → PD
  | some i => .int i
  | none => .none
def mcf (T : List Th) (a : Int) (n : Nat) : Option Int := (up n).find? (allT T a)
theorem bpts_ne {P : List Pt} (hn : P ≠ []) (a b F : Int) : bpts P a b F ≠ [] := fun z => by
  have hs := mnI_spec (l := P.map (cpt a b F)) (by simp [hn])
  obtain ⟨p, hp, e⟩ := List.mem_map.mp hs.1
  have : p ∈ bpts P a b F := List.mem_filter.mpr ⟨hp, by rw [decide_eq_true_eq]; exact e⟩
  rw [z] at this
  cases this
theorem m_miss_cost_for_eq {T : List Th} (g : GoodT T) {a L : Int} (ha : 0 ≤ a ∧ a ≤ 1000) (hL : 0 ≤ L ∧ L ≤ 1000) : m_miss_cost_for [encT T, .int a, .int L] = .ok (encOI (mcf T a (L + 1).toNat)) := by
  have hpl := pts_len T
  have hsl := scs_len T
  have hg := g.l2
  refine mBody_of (ev_check (ev_callF (s1 := ()) rfl (m_check_things_eq g)) (ev_check (ev_callF (s1 := ()) rfl (m_check_cost_eq ha)) (ev_guard (s1 := ()) (ev_not (b := true) (ev_test (ev_callF rfl (by rw [m_is_int_int, decide_eq_true hL.1, decide_eq_true hL.2]; rfl)))) (ev_let (s1 := ()) (v := .int (tr T 0)) (ev_op (s1 := ()) (ev_callF rfl (m_counts_eq g.l1000 0)) rfl (pIx_t1 _ _ _)) ?_))))
  have key := sForGo_find (d := Unit) (bd := bNm 4) (body := (sSeq (sSet 5 (cCallF 1 m_points_of (aCons (cVar 0) aNil)))
      (sSeq (sSet 6 (cComp (iLst (cVar 5)) (bTup (bCons (bNm 7) (bCons (bNm 8) bNil))) [7, 8] tYesD (cOp pAdd (cOp pMul (cVar 1) (cVar 7)) (cOp pMul (cVar 4) (cOp pSub (cVar 3) (cVar 8))))))
      (sIf (cTest (cOp pEq (cCall pMax (aCons (cComp (iZp (aCons (cVar 5) (aCons (cVar 6) aNil))) (bTup (bCons (bTup (bCons (bNm 7) (bCons (bNm 8) bNil))) (bCons (bNm 9) bNil))) [9, 7, 8] (cTest (cOp pEq (cVar 9) (cCall pMin (aCons (cVar 6) aNil)))) (cVar 8)) aNil)) (cVar 3)))
      (sRet (cVar 4))
      sNil)))) PyData.int (allT T a) PyData.int (fun ρ => ∃ x4 x5 x6 x7 x8 x9, ρ = [some (encT T), some (.int a), some (.int L), some (.int (tr T 0)), x4, x5, x6, x7, x8, x9]) () (up (L + 1).toNat) [some (encT T), some (.int a), some (.int L), some (.int (tr T 0)), none, none, none, none, none, none] ⟨_, _, _, _, _, _, rfl⟩ fun b hb ρ hρ => by
    obtain ⟨x4, x5, x6, x7, x8, x9, rfl⟩ := hρ
    have hb' := mem_up.mp hb
    have hbb : 0 ≤ b ∧ b ≤ 1000 := ⟨hb'.1, by omega⟩
    have ht : ∀ x7 x8 x9, cTest (cOp pEq (cCall pMax (aCons (cComp (iZp (aCons (cVar 5) (aCons (cVar 6) aNil))) (bTup (bCons (bTup (bCons (bNm 7) (bCons (bNm 8) bNil))) (bCons (bNm 9) bNil))) [9, 7, 8] (cTest (cOp pEq (cVar 9) (cCall pMin (aCons (cVar 6) aNil)))) (cVar 8)) aNil)) (cVar 3)) [some (encT T), some (.int a), some (.int L), some (.int (tr T 0)), some (.int b), some (encP (pts T)), some (.list (((pts T).map (cpt a b (tr T 0))).map PyData.int)), x7, x8, x9] () = .ok (allT T a b, ()) := fun x7 x8 x9 => by
      have hc := cComp_pureI (d := Unit) (it := iZp (aCons (cVar 5) (aCons (cVar 6) aNil))) (b := bTup (bCons (bTup (bCons (bNm 7) (bCons (bNm 8) bNil))) (bCons (bNm 9) bNil))) (own := [9, 7, 8]) (t := cTest (cOp pEq (cVar 9) (cCall pMin (aCons (cVar 6) aNil)))) (f := cVar 8) (ρ := [some (encT T), some (.int a), some (.int L), some (.int (tr T 0)), some (.int b), some (encP (pts T)), some (.list (((pts T).map (cpt a b (tr T 0))).map PyData.int)), x7, x8, x9]) (s := ()) (pts T) (fun p => .tuple [eP p, .int (cpt a b (tr T 0) p)]) (fun p => decide (cpt a b (tr T 0) p = mnI ((pts T).map (cpt a b (tr T 0))))) (·.2) (by
          show R.ok (zipD ((pts T).map eP) (((pts T).map (cpt a b (tr T 0))).map PyData.int), ()) = _
          rw [zipD_map, zip_map_self, List.map_map]
          rfl) (by omega) fun p _ => ⟨_, rfl, ev_test (ev_op rfl (ev_call (ev_a1 rfl) (pMin_l (by simp [pts]))) (pEq_i _ _)), fun _ => rfl⟩
      exact ev_test (ev_op (s1 := ()) (ev_call (ev_a1 hc) (pMax_l (l := (bpts (pts T) a b (tr T 0)).map (·.2)) (by simpa using bpts_ne (by simp [pts]) a b (tr T 0)))) rfl (pEq_i _ _))
    have hcost : ∀ x6 x7 x8 x9, cComp (iLst (cVar 5)) (bTup (bCons (bNm 7) (bCons (bNm 8) bNil))) [7, 8] tYesD (cOp pAdd (cOp pMul (cVar 1) (cVar 7)) (cOp pMul (cVar 4) (cOp pSub (cVar 3) (cVar 8)))) [some (encT T), some (.int a), some (.int L), some (.int (tr T 0)), some (.int b), some (encP (pts T)), x6, x7, x8, x9] () = .ok (.list (((pts T).map (cpt a b (tr T 0))).map PyData.int), ()) := fun x6 x7 x8 x9 =>
      cComp_mapI (pts T) eP (cpt a b (tr T 0)) rfl (by omega) fun p _ => ⟨_, rfl, cpt_ev ha hbb rfl rfl rfl rfl rfl⟩
    refine ⟨[some (encT T), some (.int a), some (.int L), some (.int (tr T 0)), some (.int b), x5, x6, x7, x8, x9], rfl, fun h => ?_, fun h => ?_⟩
    · refine ev_let (s1 := ()) (ev_callF rfl (m_points_of_eq g.l64)) (ev_let (s1 := ()) (hcost _ _ _ _) (ev_if_t (s' := ()) ?_ rfl))
      rw [← h]
      exact ht _ _ _
    · refine ⟨_, ⟨_, _, _, _, _, _, rfl⟩, ev_let (s1 := ()) (ev_callF rfl (m_points_of_eq g.l64)) (ev_let (s1 := ()) (hcost _ _ _ _) (ev_if_f (s' := ()) ?_ rfl))⟩
      rw [← h]
      exact ht _ _ _
  have hit : iRg1 (aCons (cOp pAdd (cVar 2) (cC (.int 1))) aNil) [some (encT T), some (.int a), some (.int L), some (.int (tr T 0)), none, none, none, none, none, none] () = .ok ((up (L + 1).toNat).map PyData.int, ()) := by
    have := iRg1_n (d := Unit) (e := cOp pAdd (cVar 2) (cC (.int 1))) (ρ := [some (encT T), some (.int a), some (.int L), some (.int (tr T 0)), none, none, none, none, none, none]) (s := ()) (s' := ()) (n := (L + 1).toNat) (by
      refine ev_op (s1 := ()) rfl rfl ?_
      rw [pAdd_i]
      congr 2
      omega) (by omega)
    rw [this]
    unfold up
    rw [List.map_map]
    rfl
  unfold mcf
  cases hf : (up (L + 1).toNat).find? (allT T a) with
  | none =>
    rw [hf] at key
    obtain ⟨ρ', ⟨x4, x5, x6, x7, x8, x9, rfl⟩, e⟩ := key
    exact ev_seq (ev_for (s' := ()) hit e) rfl
  | some b =>
    rw [hf] at key
    exact ev_seq_rt (ev_for (s' := ()) hit key)
theorem sTry_ok {d : Type} {fb : Env → d → R (Fl × d)} {j : Nat} {fe : Env → d → R (PD × d)} {nm : Nat → Str} {ρ ρ' : Env} {s s' s2 : d} {v : PD} (h : fb ρ s = .ok (.nx ρ', s')) (hj : ρ'[j]? = some (some .none)) (k : fe ρ' s' = .ok (v, s2)) : sTry fb j fe nm ρ s = .ok (.rt v, s2) := by
  unfold sTry
  rw [h]
  dsimp only
  rw [hj]
  dsimp only
  rw [k, bnd_ok]
theorem sTry_exc {d : Type} {fb : Env → d → R (Fl × d)} {j : Nat} {fe : Env → d → R (PD × d)} {nm : Nat → Str} {ρ : Env} {s : d} {c : Nat} (h : fb ρ s = .exc c) (hc : c < 5) : sTry fb j fe nm ρ s = .ok (.rt (.str (nm c)), s) := by
  unfold sTry
  rw [h]
  dsimp only
  rw [if_pos hc]
theorem ev_let_exc {d : Type} {i : Nat} {n : Nat} {m : List PD → R PD} {as : Env → d → R (List PD × d)} {ρ : Env} {s s1 : d} {xs : List PD} {c : Nat} (ha : as ρ s = .ok (xs, s1)) (hm : m xs = .exc c) (hn : xs.length = n := by rfl) : sSet i (cCallF n m as) ρ s = .exc c := by
  unfold sSet cCallF
  rw [ha, bnd_ok, if_pos hn, hm]
  rfl
theorem mBody_exc {n : Nat} {f : Env → Unit → R (Fl × Unit)} {ds : List PD} {c : Nat} (h : f (ds.map some ++ List.replicate n none) () = .exc c) : mBody n f ds = .exc c := by
  unfold mBody
  rw [h]
  rfl
theorem ev_raise {d : Type} {t : Env → d → R (Bool × d)} {g : Env → d → R (Fl × d)} {ρ : Env} {s s1 : d} {c : Nat} (h : t ρ s = .ok (true, s1)) : sSeq (sIf t (sRaise c) sNil) g ρ s = .exc c := by
  unfold sSeq sIf
  rw [h]
  rfl
theorem ev_or_T {d : Type} {t u : Env → d → R (Bool × d)} {ρ : Env} {s s' : d} (h : t ρ s = .ok (true, s')) : cOrT t u ρ s = .ok (true, s') := by
  unfold cOrT
  rw [h, bnd_ok]
  rfl
theorem m__law_ever_eq {T : List Th} (g : GoodT T) {p : Pt} (hp : p ∈ pts T) : m__law_ever [encT T, eP p] = .ok (.bool (!nev (pts T) p)) := by
  refine mBody_of (ev_let (s1 := ()) rfl (ev_let (s1 := ()) rfl ?_))
  exact sTry_ok (ev_set (s1 := ()) (ev_callF rfl (m_is_ever_best_eq g hp))) rfl rfl
theorem m__law_ever_no {T : List Th} (g : GoodT T) {p : Pt} (hp : p ∉ pts T) : m__law_ever [encT T, eP p] = .ok (.str "none") := by
  refine mBody_of (ev_let (s1 := ()) rfl (ev_let (s1 := ()) rfl ?_))
  refine sTry_exc (c := 4) (ev_let_exc (s1 := ()) rfl (mBody_exc ?_)) (by decide)
  exact ev_check (ev_callF (s1 := ()) rfl (m_check_things_eq g)) (ev_let (s1 := ()) (ev_callF rfl (m_points_of_eq g.l64)) (ev_raise (s1 := ()) (ev_or_f (s' := ()) rfl (ev_test (ev_op (s1 := ()) rfl rfl (by rw [pNotIn_eP, decide_eq_false hp]; rfl))))))
theorem m__law_ever_none {T : List Th} (g : GoodT T) : m__law_ever [encT T, .none] = .ok (.str "none") := by
  refine mBody_of (ev_let (s1 := ()) rfl (ev_let (s1 := ()) rfl ?_))
  refine sTry_exc (c := 4) (ev_let_exc (s1 := ()) rfl (mBody_exc ?_)) (by decide)
  exact ev_check (ev_callF (s1 := ()) rfl (m_check_things_eq g)) (ev_let (s1 := ()) (ev_callF rfl (m_points_of_eq g.l64)) (ev_raise (s1 := ()) (ev_or_T (s' := ()) rfl)))
end DL

/-! DLL: three numbers and an empty list of one's own, at once -/
namespace DL
open PySem PySem.Spec PyProof.Rows L2
section
variable {X : Cx} {B : Bs} {O O' : List Nat}
def sFour {d : Type} (i j k l : Nat) (a b c : Int) : Env → d → R (Fl × d) := fun ρ s => .ok (.nx ((((ρ.set i (some (.int a))).set j (some (.int b))).set k (some (.int c))).set l (some (.list []))), s)
theorem ds_four (i j k l : Nat) {x y z u : Str} {a b c : Int} {ja jb jc : Nat} {pa pb pc pl px py pz pu pt pt2 pos : Pos} {kt k2 : Nat} (hN : X.N.Nodup) (hc : X.calm = true := by rfl)
    (hi1 : ∀ m, m ∈ O' → m = l ∨ m ∈ O := by decide) (hi2 : ∀ m, m ∈ O → m = l ∨ m ∈ O' := by decide) (hi3 : l ∈ O' := by decide)
    (hOi : i ∉ O := by decide) (hOj : j ∉ O := by decide) (hOk : k ∉ O := by decide)
    (h1 : X.N[i]? = some x := by rfl) (h2 : X.N[j]? = some y := by rfl) (h3 : X.N[k]? = some z := by rfl) (h4 : X.N[l]? = some u := by rfl)
    (l1 : Loc X.env.scope x := by first | exact Or.inl rfl | exact Or.inr rfl) (l2 : Loc X.env.scope y := by first | exact Or.inl rfl | exact Or.inr rfl) (l3 : Loc X.env.scope z := by first | exact Or.inl rfl | exact Or.inr rfl) (l4 : Loc X.env.scope u := by first | exact Or.inl rfl | exact Or.inr rfl)
    (f1 : X.fn x = true ∨ X.env.scope.names.lookup x = some .local := by first | exact .inl rfl | exact .inr rfl) (f2 : X.fn y = true ∨ X.env.scope.names.lookup y = some .local := by first | exact .inl rfl | exact .inr rfl) (f3 : X.fn z = true ∨ X.env.scope.names.lookup z = some .local := by first | exact .inl rfl | exact .inr rfl) (f4 : X.fn u = true ∨ X.env.scope.names.lookup u = some .local := by first | exact .inl rfl | exact .inr rfl)
    (hs : swapsWithSole [.Tuple [.Name x px, .Name y py, .Name z pz, .Name u pu] kt pt] (.Tuple [.Constant (.int a) ja pa, .Constant (.int b) jb pb, .Constant (.int c) jc pc, .List [] pl] k2 pt2) pos.line X.env = pure false := by rfl)
    (hw : swappedStores [.Tuple [.Name x px, .Name y py, .Name z pz, .Name u pu] kt pt] (.Tuple [.Constant (.int a) ja pa, .Constant (.int b) jb pb, .Constant (.int c) jc pc, .List [] pl] k2 pt2) X.env = pure none := by rfl) :
    DS X B O O' (.Assign [.Tuple [.Name x px, .Name y py, .Name z pz, .Name u pu] kt pt] (.Tuple [.Constant (.int a) ja pa, .Constant (.int b) jb pb, .Constant (.int c) jc pc, .List [] pl] k2 pt2) pos) (sFour i j k l a b c) := by
  have he : PE X (.Tuple [.Constant (.int a) ja pa, .Constant (.int b) jb pb, .Constant (.int c) jc pc, .List [] pl] k2 pt2) (tTup (tCons (tC (.int a)) (tCons (tC (.int b)) (tCons (tC (.int c)) (tCons (tLst tNil) tNil))))) :=
    pe_tup (pa_cons pe_int (pa_cons pe_int (pa_cons pe_int (pa_cons (pe_lst pa_nil) pa_nil))))
  have hg : PG X (.Tuple [.Name x px, .Name y py, .Name z pz, .Name u pu] kt pt) (gTup X.K 4 (gCons (gName i) (gCons (gName j) (gCons (gName k) (gCons (gName l) gNil))))) :=
    pg_tup hc (pgs_cons (pg_name hN h1 l1 f1) (pgs_cons (pg_name hN h2 l2 f2) (pgs_cons (pg_name hN h3 l3 f3) (pgs_cons (pg_name hN h4 l4 f4) pgs_nil))))
  refine PS.imp (ps_asg he hg hs hw) fun D σ H h => ?_
  obtain ⟨G, ρ, s, at0, p⟩ := h
  refine ⟨by decide, fun q hq => ⟨by show 4 ≤ sizeLine; decide, fun r hr => ?_⟩⟩
  have hrq : r ≠ q := fun e => by rw [e, upd_same] at hr; cases hr
  have gq : G q = none := by
    cases e : G q with
    | none => rfl
    | some o => rw [at0.sit.sub _ _ e] at hq; cases hq
  have S1 : Sit B.W G (upd H q (.lst [])) s := at0.sit.allocH hq
  have S2 : Sit B.W G (upd (upd H q (.lst [])) r (.tup [.int a, .int b, .int c, .ref q])) s := S1.allocH hr
  have g2 : Gr B.W.fp G H G (upd (upd H q (.lst [])) r (.tup [.int a, .int b, .int c, .ref q])) := (Gr.allocH hq).trans (Gr.allocH hr)
  have a2 := at0.step g2 S2
  refine ⟨r, _, rfl, SqT.of upd_same, rfl, .int a, _, rfl, .int b, _, rfl, .int c, _, rfl, .ref q, _, rfl, rfl, ?_⟩
  refine p _ G _ ⟨S2, a2.gr, ?_⟩
  refine RS.setO (((a2.rs.set (.inl (.int a)) hOi).set (.inl (.int b)) hOj).set (.inl (.int c)) hOk) hi1 hi2 hi3 (vs := []) (by rw [upd_ne (Ne.symm hrq), upd_same]) .nil gq (at0.gr.dom q hq) (fun zz => at0.sit.fpH q zz hq) fun m d mO _ e zz => ?_
  have hij : i ≠ m := fun e => hOi (e ▸ mO)
  have hjm : j ≠ m := fun e => hOj (e ▸ mO)
  have hkm : k ≠ m := fun e => hOk (e ▸ mO)
  rw [List.getElem?_set_ne hkm, List.getElem?_set_ne hjm, List.getElem?_set_ne hij] at e zz
  obtain ⟨r', ws, es, q1, q2, q3, _⟩ := at0.rs.own m d e mO
  rw [zz] at q1; cases q1
  rw [hq] at q3; cases q3
end
end DL

/-! N9: pairs and areas -/
namespace DL
open PySem PySem.Spec PyProof.Rows L2
local macro_rules | `(tactic| walk_at "ev") => `(tactic| simp only [szL, Nat.reduceLeDiff, mBody, mBodyD, outP, outD, cVar, cC, cOp, cUn, cTest, cAndT, cOrT, cNotT, cAndV, cOrV, cIf, aNil, aCons, cTup, cLst, cSl, oNone, oSome, cCall, cCallF, cCallD, cMeth, noX', isL_list, isL_encP, tYesD, bnd_ok, bnd_exc, bnd_bad, lft_ok, lft_exc, lft_bad, isOk_ok, isOk_exc, isOk_bad, isD_int, isD_bool, isD_none, isD_str, isD_list, isD_tuple, isD_eP, isD_eT, isD_encP, isD_encT, allD, List.all_cons, List.all_nil, Bool.and_self, Bool.and_true, Bool.true_and, if_true, if_false, Bool.false_eq_true, ite_true, ite_false, reduceIte, List.length_cons, List.length_nil, List.map_cons, List.map_nil, List.cons_append, List.nil_append, List.replicate_succ, List.replicate_zero, List.getElem?_cons_zero, List.getElem?_cons_succ, List.set_cons_zero, List.set_cons_succ, wipeD, sSeq, sSet, sAsg, sRet, sIf, sExpr, sNil, sRaise, sSetF, sApp, sAug, sAugL, sPar, sPar3, fLst, bNm, bTup, bCons, bNil, pNot, pIsi, isiT, tyN, pNeg, Nat.reduceAdd, decide_true, decide_false, Bool.not_true, Bool.not_false, noX_ok, pLe_i, pLt_i, pGt_i, pGe_i, pAdd_i, pSub_i, pLen_l, pLen_t, pIx_t0, pIx_t1, pEq_i, pNe_i])
local macro_rules | `(tactic| walk_at "evs") => `(tactic| simp [szL, mBody, mBodyD, outP, outD, cVar, cC, cOp, cUn, cTest, cAndT, cOrT, cNotT, cAndV, cOrV, cIf, aNil, aCons, cTup, cLst, cSl, oNone, oSome, cCall, cCallF, cCallD, cMeth, noX', isL_list, isL_encP, tYesD, bnd_ok, bnd_exc, bnd_bad, lft_ok, lft_exc, lft_bad, isOk_ok, isOk_exc, isOk_bad, isD_int, isD_bool, isD_none, isD_str, isD_list, isD_tuple, isD_eP, isD_eT, isD_encP, isD_encT, allD, List.all_cons, List.all_nil, List.map_cons, List.map_nil, List.cons_append, List.nil_append, List.replicate_succ, List.replicate_zero, List.getElem?_cons_zero, List.getElem?_cons_succ, List.set_cons_zero, List.set_cons_succ, wipeD, sSeq, sSet, sAsg, sRet, sIf, sExpr, sNil, sRaise, sSetF, sApp, sAug, sAugL, sPar, sPar3, fLst, bNm, bTup, bCons, bNil, pNot, pIsi, isiT, tyN, pNeg, noX_ok, pLe_i, pLt_i, pGt_i, pGe_i, pAdd_i, pSub_i, pLen_l, pLen_t, pIx_t0, pIx_t1, pEq_i, pNe_i])
local macro_rules | `(tactic| walk_at "evx") => `(tactic| simp [szL, mBody, mBodyD, outP, outD, cVar, cC, cOp, cUn, cTest, cAndT, cOrT, cNotT, cAndV, cOrV, cIf, aNil, aCons, cTup, cLst, cSl, oNone, oSome, cCall, cCallF, cCallD, cMeth, noX', isL_list, isL_encP, tYesD, bnd_ok, bnd_exc, bnd_bad, lft_ok, lft_exc, lft_bad, isOk_ok, isOk_exc, isOk_bad, isD_int, isD_bool, isD_none, isD_str, isD_list, isD_tuple, isD_eP, isD_eT, isD_encP, isD_encT, allD, List.all_cons, List.all_nil, List.map_cons, List.map_nil, List.cons_append, List.nil_append, List.replicate_succ, List.replicate_zero, List.getElem?_cons_zero, List.getElem?_cons_succ, List.set_cons_zero, List.set_cons_succ, wipeD, sSeq, sSet, sAsg, sRet, sIf, sExpr, sNil, sRaise, sSetF, sApp, sAug, sAugL, sPar, sPar3, fLst, bNm, bTup, bCons, bNil, pNot, pIsi, isiT, tyN, pNeg, noX_ok, pLe_i, pLt_i, pGt_i, pGe_i, pAdd_i, pSub_i, pLen_l, pLen_t, pIx_t0, pIx_t1, pEq_i, pNe_i, *])
/-! ### sums -/
theorem sum_map_add {a : Type} (f g : a → Int) : ∀ l : List a, (l.map fun x => f x + g x).sum = (l.map f).sum + (l.map g).sum
  | [] => rfl
  | x :: l => by
    have := sum_map_add f g l
    simp only [List.map_cons, List.sum_cons] at this ⊢
    omega
theorem sum_map_zero {a : Type} : ∀ l : List a, (l.map fun _ => (0 : Int)).sum = 0
  | [] => rfl
  | x :: l => by
    have := sum_map_zero l
    simp only [List.map_cons, List.sum_cons] at this ⊢
    omega
theorem sum_map_congr {a : Type} {f g : a → Int} {l : List a} (h : ∀ x ∈ l, f x = g x) : (l.map f).sum = (l.map g).sum := by
  rw [List.map_congr_left h]
theorem sum_map_mul {a : Type} (c : Int) (f : a → Int) : ∀ l : List a, (l.map fun x => c * f x).sum = c * (l.map f).sum
  | [] => by simp
  | x :: l => by
    have := sum_map_mul c f l
    simp only [List.map_cons, List.sum_cons] at this ⊢
    rw [this, Int.mul_add]
def bI (b : Bool) : Int := if b = true then 1 else 0
theorem len_filter_sum {a : Type} (p : a → Bool) : ∀ l : List a, ((l.filter p).length : Int) = (l.map fun x => bI (p x)).sum
  | [] => rfl
  | x :: l => by
    have := len_filter_sum p l
    rw [List.map_cons, List.sum_cons, ← this]
    cases h : p x with
    | true => rw [List.filter_cons_of_pos h, List.length_cons]; unfold bI; simp; omega
    | false => rw [List.filter_cons_of_neg (by simp [h])]; unfold bI; simp
theorem sum_swap {a b : Type} (f : a → b → Int) (us : List b) : ∀ ts : List a, (ts.map fun x => (us.map fun y => f x y).sum).sum = (us.map fun y => (ts.map fun x => f x y).sum).sum
  | [] => by simp [sum_map_zero]
  | x :: ts => by
    have := sum_swap f us ts
    simp only [List.map_cons, List.sum_cons]
    rw [sum_map_add, this]
/-- a pair -/
def pf (r : Int → Int → Bool) (x y : Th) : Int := bI (x.2 && !y.2 && r x.1 y.1)
theorem pr_sum (r : Int → Int → Bool) (T U : List Th) : pr r T U = (U.map fun y => (T.map fun x => pf r x y).sum).sum := by
  unfold pr
  rw [← sum_swap]
  refine sum_map_congr fun x _ => ?_
  unfold prx
  rw [len_filter_sum]
  rfl
theorem pf3 (x y : Th) : pf rgt x y + pf req x y + pf rlt x y = bI x.2 * bI (!y.2) := by
  unfold pf rgt req rlt bI
  cases x.2 <;> cases y.2 <;> simp
  grind
theorem tr_sum (T : List Th) (t : Int) : tr T t = (T.map fun x => bI (decide (t ≤ x.1) && x.2)).sum := by
  unfold tr; rw [len_filter_sum]
theorem fa_sum (T : List Th) (t : Int) : fa T t = (T.map fun x => bI (decide (t ≤ x.1) && !x.2)).sum := by
  unfold fa; rw [len_filter_sum]
theorem tr0_sum {T : List Th} (g : GoodT T) : tr T 0 = (T.map fun x => bI x.2).sum := by
  rw [tr_sum]
  refine sum_map_congr fun x hx => ?_
  rw [decide_eq_true (g.sc x hx).1, Bool.true_and]
theorem fa0_sum {T : List Th} (g : GoodT T) : fa T 0 = (T.map fun x => bI (!x.2)).sum := by
  rw [fa_sum]
  refine sum_map_congr fun x hx => ?_
  rw [decide_eq_true (g.sc x hx).1, Bool.true_and]
/-- all pairs -/
theorem pr_all {T : List Th} (g : GoodT T) : pr rgt T T + pr req T T + pr rlt T T = fa T 0 * tr T 0 := by
  rw [pr_sum, pr_sum, pr_sum, ← sum_map_add, ← sum_map_add, fa0_sum g, Int.mul_comm, ← sum_map_mul]
  refine sum_map_congr fun y _ => ?_
  rw [← sum_map_add, ← sum_map_add, tr0_sum g, Int.mul_comm, ← sum_map_mul]
  refine sum_map_congr fun x _ => ?_
  rw [pf3, Int.mul_comm]
def gg (T : List Th) (t : Int) : Int := tr T (t + 1) + tr T t
theorem pr_two (T : List Th) : 2 * pr rgt T T + pr req T T = (T.map fun y => bI (!y.2) * gg T y.1).sum := by
  rw [pr_sum, pr_sum, ← sum_map_mul, ← sum_map_add]
  refine sum_map_congr fun y _ => ?_
  unfold gg
  rw [tr_sum, tr_sum, ← sum_map_add, ← sum_map_mul, ← sum_map_mul, ← sum_map_add]
  refine sum_map_congr fun x _ => ?_
  unfold pf rgt req bI
  cases x.2 <;> cases y.2 <;> simp
  grind
theorem cnt_gap {T : List Th} {t u : Int} (h : ∀ x ∈ T, t ≤ x.1 ↔ u ≤ x.1) : cnt T t = cnt T u := by
  unfold cnt fa tr
  have e : ∀ x ∈ T, decide (t ≤ x.1) = decide (u ≤ x.1) := fun x hx => by
    by_cases z : t ≤ x.1
    · rw [decide_eq_true z, decide_eq_true ((h x hx).mp z)]
    · rw [decide_eq_false z, decide_eq_false fun w => z ((h x hx).mpr w)]
  rw [List.filter_congr (q := fun x => decide (u ≤ x.1) && !x.2) fun x hx => by rw [e x hx], List.filter_congr (p := fun x : Th => decide (t ≤ x.1) && x.2) (q := fun x => decide (u ≤ x.1) && x.2) fun x hx => by rw [e x hx]]
theorem fa_step (T : List Th) (s : Int) : fa T s - fa T (s + 1) = (T.map fun y => bI (!y.2) * bI (decide (y.1 = s))).sum := by
  rw [fa_sum, fa_sum]
  have : (T.map fun y => bI (!y.2) * bI (decide (y.1 = s))).sum + (T.map fun x => bI (decide (s + 1 ≤ x.1) && !x.2)).sum = (T.map fun x => bI (decide (s ≤ x.1) && !x.2)).sum := by
    rw [← sum_map_add]
    refine sum_map_congr fun y _ => ?_
    unfold bI
    cases y.2 <;> simp
    grind
  omega
theorem tw_scs {T : List Th} : ∀ (l : List Int) (t0 : Int), l.Pairwise (· > ·) → (∀ s ∈ l, s < t0) → (∀ x ∈ T, x.1 < t0 → x.1 ∈ l) → twL (edges (cnt T t0 :: l.map (cnt T))) = (T.map fun y => bI (!y.2) * (bI (decide (y.1 < t0)) * gg T y.1)).sum
  | [], t0, _, _, h3 => by
    have : (T.map fun y => bI (!y.2) * (bI (decide (y.1 < t0)) * gg T y.1)).sum = (T.map fun _ => (0 : Int)).sum := sum_map_congr fun y hy => by
      have : ¬ y.1 < t0 := fun z => by cases h3 y hy z
      unfold bI
      simp [this]
    rw [this, sum_map_zero]
    rfl
  | s :: l, t0, h1, h2, h3 => by
    have h1' := List.pairwise_cons.mp h1
    have ih := tw_scs l s h1'.2 (fun u hu => h1'.1 u hu) fun x hx hl => by
      rcases List.mem_cons.mp (h3 x hx (by have := h2 s (by simp); omega)) with z | z
      · omega
      · exact z
    rw [List.map_cons, edges_cons]
    show trap (cnt T t0, cnt T s) + twL (edges (cnt T s :: l.map (cnt T))) = _
    rw [ih]
    have hs := h2 s (by simp)
    have hgap : cnt T t0 = cnt T (s + 1) := cnt_gap fun x hx => by
      constructor
      · intro z; omega
      · intro z
        rcases Int.lt_or_le x.1 t0 with w | w
        · rcases List.mem_cons.mp (h3 x hx w) with q | q
          · omega
          · have := h1'.1 _ q; omega
        · exact w
    rw [hgap]
    have ht : trap (cnt T (s + 1), cnt T s) = (T.map fun y => bI (!y.2) * (bI (decide (y.1 = s)) * gg T y.1)).sum := by
      show (fa T s - fa T (s + 1)) * (tr T (s + 1) + tr T s) = _
      rw [fa_step, Int.mul_comm, ← sum_map_mul]
      refine sum_map_congr fun y _ => ?_
      unfold gg bI
      by_cases h : y.1 = s
      · subst h; cases y.2 <;> simp
      · simp [h]
    rw [ht, ← sum_map_add]
    refine sum_map_congr fun y hy => ?_
    have key : bI (decide (y.1 = s)) + bI (decide (y.1 < s)) = bI (decide (y.1 < t0)) := by
      unfold bI
      rcases Int.lt_trichotomy y.1 s with h | h | h
      · have a1 : ¬ y.1 = s := by omega
        have a2 : y.1 < t0 := by omega
        simp [h, a1, a2]
      · have a2 : y.1 < t0 := by omega
        have a3 : ¬ y.1 < s := by omega
        have a4 : s < t0 := hs
        simp [h, a4]
      · have a1 : ¬ y.1 = s := by omega
        have a3 : ¬ y.1 < s := by omega
        have a2 : ¬ y.1 < t0 := fun z => by
          rcases List.mem_cons.mp (h3 y hy z) with q | q
          · omega
          · have := h1'.1 _ q; omega
        simp [a1, a2, a3]
    rw [← key]
    grind
theorem tw_pts {T : List Th} (g : GoodT T) : twA (pts T) = 2 * pr rgt T T + pr req T T := by
  rw [pr_two]
  have h := tw_scs (T := T) (scs T) 100 (scs_gt T) (fun s hs => by
    obtain ⟨x, hx, e⟩ := mem_scs.mp hs
    have := g.sc x hx
    omega) (fun x hx _ => mem_scs.mpr ⟨x, hx, rfl⟩)
  rw [cnt_top g (Int.le_refl 100)] at h
  refine (show twA (pts T) = _ from h).trans (sum_map_congr fun y hy => ?_)
  have := g.sc y hy
  rw [decide_eq_true (show y.1 < 100 by omega)]
  unfold bI
  simp
theorem pr_nn (r : Int → Int → Bool) (T U : List Th) : 0 ≤ pr r T U := by
  unfold pr
  induction T with
  | nil => simp
  | cons x T ih =>
    rw [List.map_cons, List.sum_cons]
    have : 0 ≤ prx r x U := by unfold prx; omega
    omega
end DL

/-! NA: wrong pairs, areas -/
namespace DL
open PySem PySem.Spec PyProof.Rows L2
local macro_rules | `(tactic| walk_at "ev") => `(tactic| simp only [szL, Nat.reduceLeDiff, mBody, mBodyD, outP, outD, cVar, cC, cOp, cUn, cTest, cAndT, cOrT, cNotT, cAndV, cOrV, cIf, aNil, aCons, cTup, cLst, cSl, oNone, oSome, cCall, cCallF, cCallD, cMeth, noX', isL_list, isL_encP, tYesD, bnd_ok, bnd_exc, bnd_bad, lft_ok, lft_exc, lft_bad, isOk_ok, isOk_exc, isOk_bad, isD_int, isD_bool, isD_none, isD_str, isD_list, isD_tuple, isD_eP, isD_eT, isD_encP, isD_encT, allD, List.all_cons, List.all_nil, Bool.and_self, Bool.and_true, Bool.true_and, if_true, if_false, Bool.false_eq_true, ite_true, ite_false, reduceIte, List.length_cons, List.length_nil, List.map_cons, List.map_nil, List.cons_append, List.nil_append, List.replicate_succ, List.replicate_zero, List.getElem?_cons_zero, List.getElem?_cons_succ, List.set_cons_zero, List.set_cons_succ, wipeD, sSeq, sSet, sAsg, sRet, sIf, sExpr, sNil, sRaise, sSetF, sApp, sAug, sAugL, sPar, sPar3, fLst, bNm, bTup, bCons, bNil, pNot, pIsi, isiT, tyN, pNeg, Nat.reduceAdd, decide_true, decide_false, Bool.not_true, Bool.not_false, noX_ok, pLe_i, pLt_i, pGt_i, pGe_i, pAdd_i, pSub_i, pLen_l, pLen_t, pIx_t0, pIx_t1, pEq_i, pNe_i])
local macro_rules | `(tactic| walk_at "evs") => `(tactic| simp [szL, mBody, mBodyD, outP, outD, cVar, cC, cOp, cUn, cTest, cAndT, cOrT, cNotT, cAndV, cOrV, cIf, aNil, aCons, cTup, cLst, cSl, oNone, oSome, cCall, cCallF, cCallD, cMeth, noX', isL_list, isL_encP, tYesD, bnd_ok, bnd_exc, bnd_bad, lft_ok, lft_exc, lft_bad, isOk_ok, isOk_exc, isOk_bad, isD_int, isD_bool, isD_none, isD_str, isD_list, isD_tuple, isD_eP, isD_eT, isD_encP, isD_encT, allD, List.all_cons, List.all_nil, List.map_cons, List.map_nil, List.cons_append, List.nil_append, List.replicate_succ, List.replicate_zero, List.getElem?_cons_zero, List.getElem?_cons_succ, List.set_cons_zero, List.set_cons_succ, wipeD, sSeq, sSet, sAsg, sRet, sIf, sExpr, sNil, sRaise, sSetF, sApp, sAug, sAugL, sPar, sPar3, fLst, bNm, bTup, bCons, bNil, pNot, pIsi, isiT, tyN, pNeg, noX_ok, pLe_i, pLt_i, pGt_i, pGe_i, pAdd_i, pSub_i, pLen_l, pLen_t, pIx_t0, pIx_t1, pEq_i, pNe_i])
local macro_rules | `(tactic| walk_at "evx") => `(tactic| simp [szL, mBody, mBodyD, outP, outD, cVar, cC, cOp, cUn, cTest, cAndT, cOrT, cNotT, cAndV, cOrV, cIf, aNil, aCons, cTup, cLst, cSl, oNone, oSome, cCall, cCallF, cCallD, cMeth, noX', isL_list, isL_encP, tYesD, bnd_ok, bnd_exc, bnd_bad, lft_ok, lft_exc, lft_bad, isOk_ok, isOk_exc, isOk_bad, isD_int, isD_bool, isD_none, isD_str, isD_list, isD_tuple, isD_eP, isD_eT, isD_encP, isD_encT, allD, List.all_cons, List.all_nil, List.map_cons, List.map_nil, List.cons_append, List.nil_append, List.replicate_succ, List.replicate_zero, List.getElem?_cons_zero, List.getElem?_cons_succ, List.set_cons_zero, List.set_cons_succ, wipeD, sSeq, sSet, sAsg, sRet, sIf, sExpr, sNil, sRaise, sSetF, sApp, sAug, sAugL, sPar, sPar3, fLst, bNm, bTup, bCons, bNil, pNot, pIsi, isiT, tyN, pNeg, noX_ok, pLe_i, pLt_i, pGt_i, pGe_i, pAdd_i, pSub_i, pLen_l, pLen_t, pIx_t0, pIx_t1, pEq_i, pNe_i, *])
def tg (T : List Th) (k : Nat) : Th := T.getD k (0, false)
theorem rng_tg (T : List Th) : (List.range T.length).map (tg T) = T := by
  apply List.ext_getElem?
  intro i
  rw [List.getElem?_map]
  by_cases h : i < T.length
  · rw [List.getElem?_range h, List.getElem?_eq_getElem h]
    simp [tg, List.getD_eq_getElem?_getD, List.getElem?_eq_getElem h]
  · rw [List.getElem?_eq_none (by simpa using h), List.getElem?_eq_none (by omega)]
    rfl
theorem tg_get {T : List Th} {k : Nat} (h : k < T.length) : T[k]? = some (tg T k) := by
  simp [tg, List.getD_eq_getElem?_getD, List.getElem?_eq_getElem h]
theorem pIx_tg {T : List Th} {k : Nat} (h : k < T.length) : pIx (encT T) (.int (k : Int)) = .ok (eT (tg T k)) := pIx_nat eT T k _ (tg_get h)
theorem eT_0 (p : Th) : pIx (eT p) (.int 0) = .ok (.int p.1) := pIx_t0 _ _
theorem eT_1 (p : Th) : pIx (eT p) (.int 1) = .ok (.bool p.2) := pIx_t1 _ _ _
def wrb (x y : Th) : Bool := x.2 && (!y.2 && decide (x.1 ≤ y.1))
def wrj (T : List Th) (k : Nat) (js : List Nat) : List Pt := (js.filter fun j => wrb (tg T k) (tg T j)).map fun (j : Nat) => ((k : Int), (j : Int))
def wrp (T : List Th) (ks : List Nat) : List Pt := (ks.map fun k => wrj T k (List.range T.length)).flatten
theorem wrj_len (T : List Th) (k : Nat) (js : List Nat) : (wrj T k js).length ≤ js.length := by
  unfold wrj
  rw [List.length_map]
  exact List.length_filter_le _ _
theorem wrp_len (T : List Th) : ∀ ks : List Nat, (wrp T ks).length ≤ ks.length * T.length
  | [] => by simp [wrp]
  | k :: ks => by
    have ih := wrp_len T ks
    have h1 := wrj_len T k (List.range T.length)
    rw [List.length_range] at h1
    show (wrj T k (List.range T.length) ++ wrp T ks).length ≤ _
    rw [List.length_append, List.length_cons, Nat.succ_mul]
    omega
theorem wrj_app (T : List Th) (k : Nat) (js : List Nat) (j : Nat) : wrj T k (js ++ [j]) = wrj T k js ++ (if wrb (tg T k) (tg T j) = true then [((k : Int), (j : Int))] else []) := by
  unfold wrj
  rw [List.filter_append, List.map_append]
  congr 1
  cases h : wrb (tg T k) (tg T j) with
  | true => rw [List.filter_cons_of_pos (by exact h)]; rfl
  | false => rw [List.filter_cons_of_neg (by simp [h])]; rfl
theorem wrp_app (T : List Th) (ks : List Nat) (k : Nat) : wrp T (ks ++ [k]) = wrp T ks ++ wrj T k (List.range T.length) := by
  unfold wrp
  rw [List.map_append, List.flatten_append]
  simp
theorem rng_pre {n : Nat} {p q : List Nat} {x : Nat} (h : [] ++ List.range n = p ++ x :: q) : x < n ∧ p.length < n := by
  have h1 : x ∈ List.range n := by
    rw [List.nil_append] at h
    rw [h]; simp
  have h2 := congrArg List.length h
  rw [List.nil_append, List.length_range, List.length_append, List.length_cons] at h2
  exact ⟨List.mem_range.mp h1, by omega⟩
def enT (T : List Th) (k : Nat) : PD := .tuple [.int (k : Int), eT (tg T k)]
theorem en_it {d : Type} {ρ : Env} {s : d} {i : Nat} {T : List Th} (h : cVar i ρ s = .ok (encT T, s)) : iEn (cVar i) ρ s = .ok ((List.range T.length).map (enT T), s) := by
  unfold iEn
  rw [h, bnd_ok]
  show R.ok (enumD 0 (T.map eT), s) = _
  rw [enumD_map eT (0, false) T]
  rfl
theorem m_wrong_pairs_eq {T : List Th} (g : GoodT T) : m_wrong_pairs [encT T] = .ok (encP (wrp T (List.range T.length))) := by
  have hg := g.l2
  refine mBody_of (ev_check (ev_callF (s1 := ()) rfl (m_check_things_eq g)) (ev_seq (s' := ()) (ρ' := [some (encT T), some (encP []), none, none, none, none, none, none]) rfl ?_))
  obtain ⟨ρ', s', e, i⟩ := sForGo_inv (d := Unit) (bd := bTup (bCons (bNm 2) (bCons (bTup (bCons (bNm 3) (bCons (bNm 4) bNil))) bNil))) (body := (sFor (iEn (cVar 0)) (bTup (bCons (bNm 5) (bCons (bTup (bCons (bNm 6) (bCons (bNm 7) bNil))) bNil)))
      (sIf (cAndT (cTest (cVar 4)) (cAndT (cNotT (cTest (cVar 7))) (cTest (cOp pGe (cVar 6) (cVar 3)))))
      (sApp 1 (cTup (aCons (cVar 2) (aCons (cVar 5) aNil))))
      sNil))) (enT T) (fun ks ρ _ => ∃ x2 x3 x4 x5 x6 x7, ρ = [some (encT T), some (encP (wrp T ks)), x2, x3, x4, x5, x6, x7]) (List.range T.length) [] [some (encT T), some (encP []), none, none, none, none, none, none] () ⟨_, _, _, _, _, _, rfl⟩ fun ks k q ρ s hk hi => by
    obtain ⟨x2, x3, x4, x5, x6, x7, rfl⟩ := hi
    obtain ⟨hk1, hk2⟩ := rng_pre hk
    have hwl := wrp_len T ks
    have hmul : ks.length * T.length ≤ 12 * 12 := Nat.mul_le_mul (by omega) hg
    obtain ⟨ρ', s', e, x5', x6', x7', rfl⟩ := sForGo_inv (d := Unit) (bd := bTup (bCons (bNm 5) (bCons (bTup (bCons (bNm 6) (bCons (bNm 7) bNil))) bNil))) (body := (sIf (cAndT (cTest (cVar 4)) (cAndT (cNotT (cTest (cVar 7))) (cTest (cOp pGe (cVar 6) (cVar 3)))))
      (sApp 1 (cTup (aCons (cVar 2) (aCons (cVar 5) aNil))))
      sNil)) (enT T) (fun js ρ _ => ∃ x5 x6 x7, ρ = [some (encT T), some (encP (wrp T ks ++ wrj T k js)), some (.int (k : Int)), some (.int (tg T k).1), some (.bool (tg T k).2), x5, x6, x7]) (List.range T.length) [] [some (encT T), some (encP (wrp T ks)), some (.int (k : Int)), some (.int (tg T k).1), some (.bool (tg T k).2), x5, x6, x7] () ⟨x5, x6, x7, by simp [wrj]⟩ fun js j q2 ρ s hj hi => by
      obtain ⟨x5, x6, x7, rfl⟩ := hi
      obtain ⟨hj1, hj2⟩ := rng_pre hj
      have hjl := wrj_len T k js
      refine ⟨[some (encT T), some (encP (wrp T ks ++ wrj T k js)), some (.int (k : Int)), some (.int (tg T k).1), some (.bool (tg T k).2), some (.int (j : Int)), some (.int (tg T j).1), some (.bool (tg T j).2)], [some (encT T), some (encP (wrp T ks ++ wrj T k (js ++ [j]))), some (.int (k : Int)), some (.int (tg T k).1), some (.bool (tg T k).2), some (.int (j : Int)), some (.int (tg T j).1), some (.bool (tg T j).2)], (), rfl, ?_, ⟨_, _, _, rfl⟩⟩
      have ht : cAndT (cTest (cVar 4)) (cAndT (cNotT (cTest (cVar 7))) (cTest (cOp pGe (cVar 6) (cVar 3)))) [some (encT T), some (encP (wrp T ks ++ wrj T k js)), some (.int (k : Int)), some (.int (tg T k).1), some (.bool (tg T k).2), some (.int (j : Int)), some (.int (tg T j).1), some (.bool (tg T j).2)] () = .ok (wrb (tg T k) (tg T j), ()) := by
        unfold wrb cAndT
        rw [ev_test (b := (tg T k).2) (s' := ()) rfl, bnd_ok]
        cases (tg T k).2 with
        | false => rfl
        | true =>
          rw [if_pos rfl, ev_not (b := (tg T j).2) (s' := ()) (ev_test rfl), bnd_ok]
          cases (tg T j).2 with
          | true => rfl
          | false => exact ev_test (ev_op rfl rfl (pGe_i _ _))
      rw [wrj_app]
      cases hb : wrb (tg T k) (tg T j) with
      | true =>
        rw [hb] at ht
        refine ev_if_t ht ((ev_app (i := 1) (ds := (wrp T ks ++ wrj T k js).map eP) (x := eP ((k : Int), (j : Int))) rfl (s1 := ()) (ev_tup (ev_aC rfl (ev_a1 rfl))) rfl (by rw [List.length_map, List.length_append]; omega)).trans ?_)
        rw [if_pos rfl, ← List.append_assoc]
        show R.ok (Fl.nx [some (encT T), some (.list ((wrp T ks ++ wrj T k js).map eP ++ [eP ((k : Int), (j : Int))])), _, _, _, _, _, _], ()) = _
        unfold encP
        rw [List.map_append (l₂ := [((k : Int), (j : Int))])]
        rfl
      | false =>
        rw [hb] at ht
        refine ev_if_f ht ?_
        rw [if_neg (by decide), List.append_nil]
        rfl
    refine ⟨_, _, (), rfl, ev_for (s' := ()) (en_it rfl) e, ⟨some (.int (k : Int)), some (.int (tg T k).1), some (.bool (tg T k).2), x5', x6', x7', ?_⟩⟩
    rw [wrp_app]
    rfl
  obtain ⟨x2, x3, x4, x5, x6, x7, rfl⟩ := i
  exact ev_seq (ev_for (s' := ()) (en_it rfl) e) rfl
theorem m_in_order_eq {T : List Th} (g : GoodT T) : m_in_order [encT T] = .ok (.bool (decide (pr req T T = 0) && decide (pr rlt T T = 0))) := by
  refine mBody_of (ev_check (ev_callF (s1 := ()) rfl (m_check_things_eq g)) (ev_unp (s1 := ()) (ev_callF rfl (m_outcomes_eq T)) rfl (ret_of ?_ rfl)))
  unfold cAndV
  rw [ev_op (s2 := ()) (x := .int (pr req T T)) (y := .int 0) rfl rfl (pEq_i _ _), bnd_ok]
  cases h : decide (pr req T T = 0) with
  | false => rfl
  | true => exact ev_op (s2 := ()) (x := .int (pr rlt T T)) (y := .int 0) rfl rfl (pEq_i _ _)
/-! ### wrong pairs and the numbers of pairs -/
theorem wrp_nil {T : List Th} : wrp T (List.range T.length) = [] ↔ pr req T T = 0 ∧ pr rlt T T = 0 := by
  have key : wrp T (List.range T.length) = [] ↔ ∀ x ∈ T, ∀ y ∈ T, wrb x y = false := by
    unfold wrp wrj
    rw [List.flatten_eq_nil_iff]
    constructor
    · intro h x hx y hy
      obtain ⟨k, hk⟩ := List.mem_iff_getElem?.mp hx
      obtain ⟨j, hj⟩ := List.mem_iff_getElem?.mp hy
      have kl := (List.getElem?_eq_some_iff.mp hk).1
      have jl := (List.getElem?_eq_some_iff.mp hj).1
      have h1 := h _ (List.mem_map.mpr ⟨k, List.mem_range.mpr kl, rfl⟩)
      rw [List.map_eq_nil_iff, List.filter_eq_nil_iff] at h1
      have h2 := h1 j (List.mem_range.mpr jl)
      rw [tg_get kl] at hk
      rw [tg_get jl] at hj
      injection hk with hk
      injection hj with hj
      rw [hk, hj] at h2
      simpa using h2
    · intro h l hl
      obtain ⟨k, hk, rfl⟩ := List.mem_map.mp hl
      rw [List.map_eq_nil_iff, List.filter_eq_nil_iff]
      intro j hj
      have kl := List.mem_range.mp hk
      have jl := List.mem_range.mp hj
      rw [h _ (List.mem_iff_getElem?.mpr ⟨k, tg_get kl⟩) _ (List.mem_iff_getElem?.mpr ⟨j, tg_get jl⟩)]
      simp
  have z : ∀ r, pr r T T = 0 ↔ ∀ x ∈ T, ∀ y ∈ T, (x.2 && !y.2 && r x.1 y.1) = false := fun r => by
    have : ∀ (U : List Th), (U.map fun x => prx r x T).sum = 0 ↔ ∀ x ∈ U, ∀ y ∈ T, (x.2 && !y.2 && r x.1 y.1) = false := fun U => by
      induction U with
      | nil => simp
      | cons x U ih =>
        rw [List.map_cons, List.sum_cons]
        have h1 : 0 ≤ prx r x T := by unfold prx; omega
        have h2 := pr_nn r U T
        unfold pr at h2
        have h3 : prx r x T = 0 ↔ ∀ y ∈ T, (x.2 && !y.2 && r x.1 y.1) = false := by
          unfold prx
          rw [Int.natCast_eq_zero, List.length_eq_zero_iff, List.filter_eq_nil_iff]
          simp
        constructor
        · intro h u hu
          rcases List.mem_cons.mp hu with e | e
          · rw [e]; exact h3.mp (by omega)
          · exact ih.mp (by omega) u e
        · intro h
          have a1 := h3.mpr (h x (by simp))
          have a2 := ih.mpr fun u hu => h u (List.mem_cons_of_mem _ hu)
          omega
    exact this T
  rw [key, z, z]
  unfold wrb req rlt
  constructor
  · intro h
    refine ⟨fun x hx y hy => ?_, fun x hx y hy => ?_⟩
    · have := h x hx y hy
      cases hx2 : x.2 <;> cases hy2 : y.2 <;> simp [hx2, hy2] at this ⊢
      omega
    · have := h x hx y hy
      cases hx2 : x.2 <;> cases hy2 : y.2 <;> simp [hx2, hy2] at this ⊢
      omega
  · rintro ⟨h1, h2⟩ x hx y hy
    have a := h1 x hx y hy
    have b := h2 x hx y hy
    cases hx2 : x.2 <;> cases hy2 : y.2 <;> simp [hx2, hy2] at a b ⊢
    omega
theorem sortP_self : ∀ {l : List Pt}, l.Pairwise LexLe → sortP l = l
  | [], _ => rfl
  | x :: l, h => by
    have h' := List.pairwise_cons.mp h
    have ih := sortP_self h'.2
    show insP x (sortP l) = _
    rw [ih]
    cases l with
    | nil => rfl
    | cons y l =>
      unfold insP
      rw [if_pos (lexLe_iff.mpr (h'.1 y (by simp)))]
theorem wrp_sorted (T : List Th) : (wrp T (List.range T.length)).Pairwise LexLe := by
  have gen : ∀ ks : List Nat, ks.Pairwise (· < ·) → (wrp T ks).Pairwise LexLe := fun ks => by
    induction ks with
    | nil => intro _; exact List.Pairwise.nil
    | cons k ks ih =>
      intro hp
      have hp' := List.pairwise_cons.mp hp
      show (wrj T k (List.range T.length) ++ wrp T ks).Pairwise LexLe
      rw [List.pairwise_append]
      refine ⟨?_, ih hp'.2, fun a ha b hb => ?_⟩
      · unfold wrj
        rw [List.pairwise_map]
        refine List.Pairwise.filter _ ?_
        refine List.Pairwise.imp (fun {a b} hab => ?_) List.pairwise_lt_range
        right
        exact ⟨rfl, by show (a : Int) ≤ b; omega⟩
      · unfold wrj at ha
        obtain ⟨j, _, rfl⟩ := List.mem_map.mp ha
        unfold wrp wrj at hb
        obtain ⟨l, hl, hb⟩ := List.mem_flatten.mp hb
        obtain ⟨k2, hk2, rfl⟩ := List.mem_map.mp hl
        obtain ⟨j2, _, rfl⟩ := List.mem_map.mp hb
        left
        have := hp'.1 k2 hk2
        show (k : Int) < k2
        omega
  exact gen _ List.pairwise_lt_range
theorem toPairs_eP : ∀ l : List Pt, toPairs (l.map eP) = some l
  | [] => rfl
  | p :: l => by
    have := toPairs_eP l
    simp [toPairs, eP, this]
theorem pSortedP_eP (l : List Pt) : pSortedP [encP l] = .ok (encP (sortP l)) := by
  unfold pSortedP encP
  dsimp only
  rw [toPairs_eP]
  rfl
/-! ### the area -/
theorem pts_area {T : List Th} (g : GoodT T) : pIx (encP (pts T)) (.int (-1)) = .ok (eP (cnt T 0)) := pIx_last eP (pts T) _ (pts_last g)
theorem mul12 {a b : Int} (ha : 0 ≤ a ∧ a ≤ 12) (hb : 0 ≤ b ∧ b ≤ 12) : 0 ≤ a * b ∧ a * b ≤ 144 := by
  have := mul_bd ha.1 ha.2 hb.1 hb.2
  omega
theorem whole_bd {T : List Th} (g : GoodT T) : 0 ≤ fa T 0 * tr T 0 ∧ fa T 0 * tr T 0 ≤ 144 := mul12 ⟨fa_nn T 0, fa_le g 0⟩ ⟨tr_nn T 0, tr_le g 0⟩
def areaD (T : List Th) : PD := if fa T 0 * tr T 0 = 0 then .str "none" else eP (lowQ (twA (pts T)) (2 * (fa T 0 * tr T 0)))
theorem m__law_area_eq {T : List Th} (g : GoodT T) : m__law_area [encT T] = .ok (areaD T) := by
  have hw := whole_bd g
  have hfl := fa_nn T 0
  have hfl2 := fa_le g 0
  refine mBody_of (ev_let (s1 := ()) rfl (ev_let (s1 := ()) rfl ?_))
  unfold areaD
  by_cases h : fa T 0 * tr T 0 = 0
  · rw [if_pos h]
    refine sTry_exc (c := 4) (ev_let_exc (s1 := ()) rfl (mBody_exc ?_)) (by decide)
    refine ev_check (ev_callF (s1 := ()) rfl (m_check_things_eq g)) (ev_let (s1 := ()) (ev_callF rfl (m_points_of_eq g.l64)) (ev_let (s1 := ()) (ev_op (s1 := ()) (ev_op (s1 := ()) (ev_op (s1 := ()) rfl rfl (pts_area g)) rfl (eP_0 _)) (ev_op (s1 := ()) (ev_op (s1 := ()) rfl rfl (pts_area g)) rfl (eP_1 _)) (pMul_i (by show _ < fa T 0 ∧ fa T 0 < _; omega))) (ev_raise (s1 := ()) (ev_test (ev_op (s1 := ()) rfl rfl ?_)))))
    exact (pEq_i _ _).trans (by rw [show (cnt T 0).1 * (cnt T 0).2 = 0 from h]; rfl)
  · rw [if_neg h]
    refine sTry_ok (s' := ()) (ev_set (s1 := ()) (ev_callF rfl (mBody_of ?_))) rfl rfl
    refine ev_check (ev_callF (s1 := ()) rfl (m_check_things_eq g)) (ev_let (s1 := ()) (ev_callF rfl (m_points_of_eq g.l64)) (ev_let (s1 := ()) (ev_op (s1 := ()) (ev_op (s1 := ()) (ev_op (s1 := ()) rfl rfl (pts_area g)) rfl (eP_0 _)) (ev_op (s1 := ()) (ev_op (s1 := ()) rfl rfl (pts_area g)) rfl (eP_1 _)) (pMul_i (by show _ < fa T 0 ∧ fa T 0 < _; omega))) (ev_guard (s1 := ()) (ev_test (ev_op (s1 := ()) rfl rfl ((pEq_i _ _).trans (congrArg (fun b => R.ok (PyData.bool b)) (decide_eq_false (show ¬ (cnt T 0).1 * (cnt T 0).2 = 0 from h)))))) (ret_of (ev_callF (ev_aC (s1 := ()) (ev_callF rfl (m_double_area_eq (sm_pts g))) (ev_a1 (ev_op rfl rfl (pMul_i (by decide))))) (m_lowest_eq ?_ ?_)) rfl))))
    · show 0 < 2 * (fa T 0 * tr T 0); omega
    · show 2 * (fa T 0 * tr T 0) < _; omega
theorem m_check_both_eq {P Q : List Pt} (g : CrvOk P) (h : CrvOk Q) (l : Pt) (hP : P.getLast? = some l) (hQ : Q.getLast? = some l) : m_check_both [encP P, encP Q] = .ok .none := by
  have key : b_check_both ([encP P, encP Q].map some ++ List.replicate 0 none) () = .ok (.nx [some (encP P), some (encP Q)], ()) :=
    ev_check (ev_callF (s1 := ()) rfl (m_check_points_eq g)) (ev_check (ev_callF (s1 := ()) rfl (m_check_points_eq h)) (ev_if_f (s' := ()) (ev_test (ev_op (s1 := ()) (x := eP l) (y := eP l) (ev_op (s1 := ()) rfl rfl (pIx_last eP P l hP)) (ev_op (s1 := ()) rfl rfl (pIx_last eP Q l hQ)) (pNe_eP_self l))) rfl))
  unfold m_check_both mBody
  rw [key]
  rfl
theorem m_area_difference_eq {P Q : List Pt} (g : CrvOk P) (h : CrvOk Q) (l : Pt) (hP : P.getLast? = some l) (hQ : Q.getLast? = some l) : m_area_difference [encP P, encP Q] = .ok (.int (twA P - twA Q)) :=
  mBody_of (ev_check (ev_callF (s1 := ()) rfl (m_check_both_eq g h l hP hQ)) (ret_of (ev_op (s1 := ()) (ev_callF rfl (m_double_area_eq g.sm)) (ev_callF rfl (m_double_area_eq h.sm)) (pSub_i _ _)) rfl))
theorem crv2 {l : Pt} (h1 : 0 ≤ l.1) (h2 : 0 ≤ l.2) (h3 : l.1 + l.2 ≤ 12) (h4 : l ≠ (0, 0)) : CrvOk [(0, 0), l] := by
  refine ⟨by simp, by simp, rfl, fun p hp => ?_, ?_, fun p hp => ?_⟩
  · simp only [List.mem_cons, List.not_mem_nil, or_false] at hp
    rcases hp with rfl | rfl
    · decide
    · omega
  · refine List.pairwise_cons.mpr ⟨fun q hq => ?_, List.pairwise_singleton ..⟩
    simp only [List.mem_cons, List.not_mem_nil, or_false] at hq
    subst hq
    exact ⟨h1, h2, Ne.symm h4⟩
  · cases hp
    exact h3
theorem cnt0_ne {T : List Th} (g : GoodT T) : cnt T 0 ≠ (0, 0) := fun z => by
  have h1 : fa T 0 = 0 := congrArg Prod.fst z
  have h2 : tr T 0 = 0 := congrArg Prod.snd z
  have h3 := al_sum T 0
  have h4 : al T 0 = T.length := by
    unfold al
    rw [List.filter_eq_self.mpr]
    intro x hx
    simpa using (g.sc x hx).1
  have := g.l1
  omega
end DL

/-! N4: mixtures -/
namespace DL
open PySem PySem.Spec PyProof.Rows L2
local macro_rules | `(tactic| walk_at "ev") => `(tactic| simp only [szL, Nat.reduceLeDiff, mBody, mBodyD, outP, outD, cVar, cC, cOp, cUn, cTest, cAndT, cOrT, cNotT, cAndV, cOrV, cIf, aNil, aCons, cTup, cLst, cSl, oNone, oSome, cCall, cCallF, cCallD, cMeth, noX', isL_list, isL_encP, tYesD, bnd_ok, bnd_exc, bnd_bad, lft_ok, lft_exc, lft_bad, isOk_ok, isOk_exc, isOk_bad, isD_int, isD_bool, isD_none, isD_str, isD_list, isD_tuple, isD_eP, isD_eT, isD_encP, isD_encT, allD, List.all_cons, List.all_nil, Bool.and_self, Bool.and_true, Bool.true_and, if_true, if_false, Bool.false_eq_true, ite_true, ite_false, reduceIte, List.length_cons, List.length_nil, List.map_cons, List.map_nil, List.cons_append, List.nil_append, List.replicate_succ, List.replicate_zero, List.getElem?_cons_zero, List.getElem?_cons_succ, List.set_cons_zero, List.set_cons_succ, wipeD, sSeq, sSet, sAsg, sRet, sIf, sExpr, sNil, sRaise, sSetF, sApp, sAug, sAugL, sPar, sPar3, fLst, bNm, bTup, bCons, bNil, pNot, pIsi, isiT, tyN, pNeg, Nat.reduceAdd, decide_true, decide_false, Bool.not_true, Bool.not_false, noX_ok, pLe_i, pLt_i, pGt_i, pGe_i, pAdd_i, pSub_i, pLen_l, pLen_t, pIx_t0, pIx_t1, pEq_i, pNe_i])
local macro_rules | `(tactic| walk_at "evs") => `(tactic| simp [szL, mBody, mBodyD, outP, outD, cVar, cC, cOp, cUn, cTest, cAndT, cOrT, cNotT, cAndV, cOrV, cIf, aNil, aCons, cTup, cLst, cSl, oNone, oSome, cCall, cCallF, cCallD, cMeth, noX', isL_list, isL_encP, tYesD, bnd_ok, bnd_exc, bnd_bad, lft_ok, lft_exc, lft_bad, isOk_ok, isOk_exc, isOk_bad, isD_int, isD_bool, isD_none, isD_str, isD_list, isD_tuple, isD_eP, isD_eT, isD_encP, isD_encT, allD, List.all_cons, List.all_nil, List.map_cons, List.map_nil, List.cons_append, List.nil_append, List.replicate_succ, List.replicate_zero, List.getElem?_cons_zero, List.getElem?_cons_succ, List.set_cons_zero, List.set_cons_succ, wipeD, sSeq, sSet, sAsg, sRet, sIf, sExpr, sNil, sRaise, sSetF, sApp, sAug, sAugL, sPar, sPar3, fLst, bNm, bTup, bCons, bNil, pNot, pIsi, isiT, tyN, pNeg, noX_ok, pLe_i, pLt_i, pGt_i, pGe_i, pAdd_i, pSub_i, pLen_l, pLen_t, pIx_t0, pIx_t1, pEq_i, pNe_i])
local macro_rules | `(tactic| walk_at "evx") => `(tactic| simp [szL, mBody, mBodyD, outP, outD, cVar, cC, cOp, cUn, cTest, cAndT, cOrT, cNotT, cAndV, cOrV, cIf, aNil, aCons, cTup, cLst, cSl, oNone, oSome, cCall, cCallF, cCallD, cMeth, noX', isL_list, isL_encP, tYesD, bnd_ok, bnd_exc, bnd_bad, lft_ok, lft_exc, lft_bad, isOk_ok, isOk_exc, isOk_bad, isD_int, isD_bool, isD_none, isD_str, isD_list, isD_tuple, isD_eP, isD_eT, isD_encP, isD_encT, allD, List.all_cons, List.all_nil, List.map_cons, List.map_nil, List.cons_append, List.nil_append, List.replicate_succ, List.replicate_zero, List.getElem?_cons_zero, List.getElem?_cons_succ, List.set_cons_zero, List.set_cons_succ, wipeD, sSeq, sSet, sAsg, sRet, sIf, sExpr, sNil, sRaise, sSetF, sApp, sAug, sAugL, sPar, sPar3, fLst, bNm, bTup, bCons, bNil, pNot, pIsi, isiT, tyN, pNeg, noX_ok, pLe_i, pLt_i, pGt_i, pGe_i, pAdd_i, pSub_i, pLen_l, pLen_t, pIx_t0, pIx_t1, pEq_i, pNe_i, *])
theorem lowQ_congr {n d n' d' : Int} (h : 0 < d) (h' : 0 < d') (e : n * d' = n' * d) : lowQ n d = lowQ n' d' := by
  refine low_unique (lowQ_low h) (lowQ_low h') (LeQ.anti ?_ ?_)
  · rw [LeQ.low h, LeQ.low' h']
    show n * d' ≤ n' * d
    omega
  · rw [LeQ.low h', LeQ.low' h]
    show n' * d ≤ n * d'
    omega
theorem lowQ_self {p : Pt} (h : IsLow p) : lowQ p.1 p.2 = p := by
  refine low_unique (lowQ_low h.1) h (LeQ.anti ?_ ?_)
  · rw [LeQ.low h.1]; exact Int.le_refl _
  · rw [LeQ.low' h.1]; exact Int.le_refl _
def meanC (a b : Int) (sh : Pt) : Pt := lowQ (a * sh.1 + b * (sh.2 - sh.1)) sh.2
theorem meanQ {x y u : Int} (hu : 0 < u) : lowQ ((lowQ x u).1 * (lowQ y u).2 + (lowQ y u).1 * (lowQ x u).2) ((lowQ x u).2 * (lowQ y u).2) = lowQ (x + y) u := by
  have hA := (lowQ_low (n := x) hu).1
  have hB := (lowQ_low (n := y) hu).1
  obtain ⟨a1, a2⟩ := lowQ_val (n := x) hu
  obtain ⟨b1, b2⟩ := lowQ_val (n := y) hu
  refine lowQ_congr (Int.mul_pos hA hB) hu ?_
  generalize lowQ x u = A at *
  generalize lowQ y u = B at *
  generalize (Int.gcd x u : Int) = g at *
  generalize (Int.gcd y u : Int) = h at *
  grind
/-- a share -/
structure OkS (sh : Pt) : Prop where
  low : IsLow sh
  n : 0 ≤ sh.1
  le : sh.1 ≤ sh.2
  d : sh.2 ≤ 12000
def mean2 (p q sh : Pt) : PD := .tuple [eP (meanC p.1 q.1 sh), eP (meanC p.2 q.2 sh)]
def Sq (p : Pt) : Prop := 0 ≤ p.1 ∧ p.1 ≤ 12 ∧ 0 ≤ p.2 ∧ p.2 ≤ 12
def sel (p : Pt) (k : Int) : Int := if k = 0 then p.1 else p.2
theorem sel_ix {p : Pt} {k : Int} (h : k ∈ [(0 : Int), 1]) : pIx (eP p) (.int k) = .ok (.int (sel p k)) := by
  simp only [List.mem_cons, List.not_mem_nil, or_false] at h
  rcases h with rfl | rfl
  · exact eP_0 p
  · exact eP_1 p
theorem sel_bd {p : Pt} (h : Sq p) (k : Int) : 0 ≤ sel p k ∧ sel p k ≤ 12 := by
  unfold sel Sq at *
  split <;> omega
theorem m__law_mean_eq {p q sh : Pt} (hp : Sq p) (hq : Sq q) (h : OkS sh) : m__law_mean [eP p, eP q, eP sh] = .ok (mean2 p q sh) := by
  have hd := h.low.1
  have hd2 := h.d
  refine mBody_of (ev_unp (s1 := ()) rfl rfl (ret_of (ev_call (ev_a1 (cComp_map [(0 : Int), 1] PyData.int (fun k => eP (meanC (sel p k) (sel q k) sh)) rfl (by decide) fun k hk => ⟨_, rfl, ?_, rfl⟩)) rfl) rfl))
  have b1 := sel_bd hp k
  have b2 := sel_bd hq k
  exact ev_callF (ev_aC (s2 := ()) (ev_op (s1 := ()) (ev_op (s1 := ()) (ev_op (s1 := ()) rfl rfl (sel_ix hk)) rfl (pMul_i (by omega))) (ev_op (s1 := ()) (ev_op (s1 := ()) rfl rfl (sel_ix hk)) (ev_op (s1 := ()) rfl rfl (pSub_i _ _)) (pMul_i (by omega))) (pAdd_i _ _)) (ev_a1 rfl)) (m__law_low_eq hd (by omega))
theorem m_product_eq {a t u : Int} (ha : -(2 ^ 64) < a ∧ a < 2 ^ 64) (hu : 0 < u) (hu2 : u < 1000000) : m_product [eP (a, 1), eP (t, u)] = .ok (eP (lowQ (a * t) u)) := by
  have := m_lowest_eq (n := a * t) (d := 1 * u) (by omega) (by omega)
  rw [Int.one_mul] at this
  exact mBody_of (ret_of (ev_callF (ev_aC (s1 := ()) (s2 := ()) (ev_op (s1 := ()) (ev_op (s2 := ()) rfl rfl (eP_0 _)) (ev_op (s2 := ()) rfl rfl (eP_0 _)) (pMul_i ha)) (ev_a1 (ev_op (s1 := ()) (ev_op (s2 := ()) rfl rfl (eP_1 _)) (ev_op (s2 := ()) rfl rfl (eP_1 _)) (by rw [pMul_i (by show (-(2 ^ 64) : Int) < 1 ∧ (1 : Int) < 2 ^ 64; decide), Int.one_mul])))) this) rfl)
theorem m_mean_point_eq {p q sh : Pt} (hp : Sq p) (hq : Sq q) (h : OkS sh) : m_mean_point [eP p, eP q, eP sh] = .ok (mean2 p q sh) := by
  have hd := h.low.1
  have hd2 := h.d
  have hn := h.n
  have hl := h.le
  refine mBody_of (ev_let (s1 := ()) (v := eP (sh.2 - sh.1, sh.2)) (ev_tup (ev_aC (s2 := ()) (ev_op (s1 := ()) (ev_op (s2 := ()) rfl rfl (eP_1 _)) (ev_op (s2 := ()) rfl rfl (eP_0 _)) (pSub_i _ _)) (ev_a1 (ev_op (s2 := ()) rfl rfl (eP_1 _))))) (ret_of (ev_call (ev_a1 (cComp_map [(0 : Int), 1] PyData.int (fun k => eP (meanC (sel p k) (sel q k) sh)) rfl (by decide) fun k hk => ⟨_, rfl, ?_, rfl⟩)) rfl) rfl))
  have b1 := sel_bd hp k
  have b2 := sel_bd hq k
  have m1 := mul_bd (a := sel p k) (b := sh.1) (A := 12) (B := 12000) b1.1 b1.2 hn (by omega)
  have m2 := mul_bd (a := sel q k) (b := sh.2 - sh.1) (A := 12) (B := 12000) b2.1 b2.2 (by omega) (by omega)
  have n1 := lowQ_num (n := sel p k * sh.1) hd m1.1
  have n2 := lowQ_num (n := sel q k * (sh.2 - sh.1)) hd m2.1
  have d1 := lowQ_den (n := sel p k * sh.1) hd
  have d2 := lowQ_den (n := sel q k * (sh.2 - sh.1)) hd
  have l1 := (lowQ_low (n := sel p k * sh.1) hd).1
  have l2 := (lowQ_low (n := sel q k * (sh.2 - sh.1)) hd).1
  have m3 := mul_bd (a := (lowQ (sel p k * sh.1) sh.2).2) (b := (lowQ (sel q k * (sh.2 - sh.1)) sh.2).2) (A := 12000) (B := 12000) (by omega) (by omega) (by omega) (by omega)
  refine ev_callF (ev_aC (s2 := ()) (ev_callF (ev_aC (s2 := ()) (ev_tup (ev_aC (s2 := ()) (ev_op (s1 := ()) rfl rfl (sel_ix hk)) (ev_a1 rfl))) (ev_a1 rfl)) (m_product_eq (a := sel p k) (t := sh.1) (u := sh.2) (by omega) hd (by omega))) (ev_a1 (ev_callF (ev_aC (s2 := ()) (ev_tup (ev_aC (s2 := ()) (ev_op (s1 := ()) rfl rfl (sel_ix hk)) (ev_a1 rfl))) (ev_a1 rfl)) (m_product_eq (a := sel q k) (t := sh.2 - sh.1) (u := sh.2) (by omega) hd (by omega))))) ((m_plus_eq (by unfold B64; omega) (by unfold B64; omega) l1 l2 (by omega) (by omega)).trans ?_)
  rw [meanQ hd]
  rfl
theorem m_check_share_eq {sh : Pt} (h : OkS sh) (h2 : sh.2 ≤ 1000) : m_check_share [eP sh] = .ok .none := by
  have hd := h.low.1
  unfold m_check_share
  have : b_check_share [some (eP sh)] () = .ok (.nx [some (eP sh)], ()) := by
    unfold b_check_share
    refine ev_guard (s1 := ()) (ev_or_f (s' := ()) rfl (ev_or_f (s' := ()) rfl (ev_not (b := true) (ev_test (ev_callF (ev_aC (s2 := ()) (ev_op (s2 := ()) rfl rfl (eP_1 _)) rfl) ?_))))) (ev_if_f (s' := ()) (ev_or_f (s' := ()) (ev_not (b := true) (ev_test (ev_callF (ev_aC (s2 := ()) (ev_op (s2 := ()) rfl rfl (eP_0 _)) (ev_aC (s1 := ()) (s2 := ()) rfl (ev_a1 (ev_op (s2 := ()) rfl rfl (eP_1 _))))) ?_))) (ev_test (ev_op (s1 := ()) (ev_callF (ev_aC (s2 := ()) (ev_op (s2 := ()) rfl rfl (eP_0 _)) (ev_a1 (ev_op (s2 := ()) rfl rfl (eP_1 _)))) (m_common_eq _ _)) rfl ?_))) rfl)
    · rw [m_is_int_int, decide_eq_true (by omega), decide_eq_true h2]; rfl
    · rw [m_is_int_int, decide_eq_true h.n, decide_eq_true h.le]; rfl
    · rw [h.low.2, pNe_i]; rfl
  show outP (b_check_share [some (eP sh)] ()) = _
  rw [this]
  rfl
theorem cnt_sq {T : List Th} (g : GoodT T) (t : Int) : Sq (cnt T t) := by
  have := cnt_rng g t
  unfold Sq; omega
theorem m_mixed_alarms_eq {T : List Th} (g : GoodT T) {a b : Int} (ha : 0 ≤ a ∧ a ≤ 100) (hb : 0 ≤ b ∧ b ≤ 100) {sh : Pt} (h : OkS sh) (h2 : sh.2 ≤ 1000) : m_mixed_alarms [encT T, .int a, .int b, eP sh] = .ok (mean2 (cnt T a) (cnt T b) sh) := by
  refine mBody_of (ev_check (ev_callF (s1 := ()) rfl (m_check_things_eq g)) (ev_guard (s1 := ()) (ev_or_f (s' := ()) (ev_not (b := true) (ev_test (ev_callF rfl ?_))) (ev_not (b := true) (ev_test (ev_callF rfl ?_)))) (ev_check (ev_callF (s1 := ()) rfl (m_check_share_eq h h2)) (ret_of (ev_callF (ev_aC (s2 := ()) (ev_callF rfl (m_counts_eq g.l1000 a)) (ev_aC (s2 := ()) (ev_callF rfl (m_counts_eq g.l1000 b)) (ev_a1 rfl))) (m_mean_point_eq (cnt_sq g a) (cnt_sq g b) h)) rfl))))
  · rw [m_is_int_int, decide_eq_true ha.1, decide_eq_true ha.2]; rfl
  · rw [m_is_int_int, decide_eq_true hb.1, decide_eq_true hb.2]; rfl
/-! ### the threshold of a point -/
def thP (T : List Th) (p : Pt) : Int := ((ths T).find? fun t => decide (cnt T t = p)).getD 100
theorem thP_ok {T : List Th} (g : GoodT T) {p : Pt} (hp : p ∈ pts T) : 0 ≤ thP T p ∧ thP T p ≤ 100 ∧ cnt T (thP T p) = p := by
  obtain ⟨t, ht, e⟩ := (pts_mem g).mp hp
  unfold thP
  cases h : (ths T).find? fun t => decide (cnt T t = p) with
  | none =>
    have := List.find?_eq_none.mp h t ht
    simp only [decide_eq_true_eq] at this
    exact absurd e.symm this
  | some u =>
    have h1 := List.find?_some h
    have h2 := List.mem_of_find?_eq_some h
    simp only [decide_eq_true_eq] at h1
    show 0 ≤ u ∧ u ≤ 100 ∧ cnt T u = p
    rcases List.mem_cons.mp h2 with z | z
    · exact ⟨by omega, by omega, h1⟩
    · obtain ⟨x, hx, q⟩ := mem_scs.mp z
      have := g.sc x hx
      exact ⟨by omega, by omega, h1⟩
theorem m_threshold_of_eq {T : List Th} (g : GoodT T) (p : Pt) : m_threshold_of [encT T, eP p] = .ok (.int (thP T p)) := by
  have h1 := scs_len T
  have h2 := g.l2
  refine mBody_of ?_
  have hit : iLst (cOp pAdd (cLst (aCons (cC (.int 100)) aNil)) (cCallF 1 m_scores_of (aCons (cVar 0) aNil))) [some (encT T), some (eP p), none] () = .ok ((ths T).map PyData.int, ()) :=
    ev_iLst (ev_op (s2 := ()) rfl (ev_callF rfl (m_scores_of_eq g.l64)) (pAdd_lists _ _ (by simp; omega)))
  have key := sForGo_find (d := Unit) (bd := bNm 2) (body := sIf (cTest (cOp pEq (cCallF 2 m_counts (aCons (cVar 0) (aCons (cVar 2) aNil))) (cVar 1))) (sRet (cVar 2)) sNil) PyData.int (fun t => decide (cnt T t = p)) PyData.int (fun ρ => ∃ c, ρ = [some (encT T), some (eP p), c]) () (ths T) [some (encT T), some (eP p), none] ⟨none, rfl⟩ fun t _ ρ hρ => by
    obtain ⟨c, rfl⟩ := hρ
    have ht : cTest (cOp pEq (cCallF 2 m_counts (aCons (cVar 0) (aCons (cVar 2) aNil))) (cVar 1)) [some (encT T), some (eP p), some (.int t)] () = .ok (decide (cnt T t = p), ()) := ev_test (ev_op (s1 := ()) (ev_callF rfl (m_counts_eq g.l1000 t)) rfl (pEq_eP _ _))
    refine ⟨[some (encT T), some (eP p), some (.int t)], rfl, fun h => ?_, fun h => ⟨[some (encT T), some (eP p), some (.int t)], ⟨_, rfl⟩, ?_⟩⟩
    · exact ev_if_t (s' := ()) (by rw [ht, h]) rfl
    · exact ev_if_f (s' := ()) (by rw [ht, h]) rfl
  unfold b_threshold_of thP
  cases h : (ths T).find? fun t => decide (cnt T t = p) with
  | none =>
    rw [h] at key
    obtain ⟨ρ', ⟨c, rfl⟩, e⟩ := key
    exact ev_seq (ev_for hit e) rfl
  | some u =>
    rw [h] at key
    exact ev_seq_rt (ev_for hit key)
/-! ### the share of an edge -/
def shr (pl : Pt) (e : Pt × Pt) : Pt := if e.2.1 - e.1.1 = 0 then (0, 1) else lowQ (e.2.1 * pl.2 - pl.1) ((e.2.1 - e.1.1) * pl.2)
theorem shr_ok {pl : Pt} (ok : OkPl pl) (hl : IsLow pl) {e : Pt × Pt} (k : OkE e) (i : ins pl e = true) : OkS (shr pl e) ∧ meanC e.1.2 e.2.2 (shr pl e) = cand pl e ∧ meanC e.1.1 e.2.1 (shr pl e) = pl := by
  have hi := ins_iff.mp i
  unfold shr cand
  by_cases z : e.2.1 - e.1.1 = 0
  · rw [if_pos z, if_pos z]
    refine ⟨⟨low1 0, Int.le_refl _, by show (0 : Int) ≤ 1; decide, by show (1 : Int) ≤ 12000; decide⟩, ?_, ?_⟩
    · unfold meanC
      dsimp only
      have := lowQ_self (low1 e.2.2)
      dsimp only at this
      rw [show e.1.2 * 0 + e.2.2 * (1 - 0) = e.2.2 by omega, this]
    · unfold meanC
      dsimp only
      have := lowQ_self (low1 e.2.1)
      dsimp only at this
      rw [show e.1.1 * 0 + e.2.1 * (1 - 0) = e.2.1 by omega, this]
      refine low_unique (low1 _) hl ?_
      show e.2.1 * pl.2 = pl.1 * 1
      have : e.1.1 = e.2.1 := by omega
      rw [this] at hi
      omega
  · rw [if_neg z, if_neg z]
    have c2 := chD_bd ok k z
    have hd : 0 < (e.2.1 - e.1.1) * pl.2 := c2.1
    have hn : 0 ≤ e.2.1 * pl.2 - pl.1 := by omega
    have hv := lowQ_val (n := e.2.1 * pl.2 - pl.1) hd
    have hg := gcd_pos' (n := e.2.1 * pl.2 - pl.1) hd
    have hL := lowQ_low (n := e.2.1 * pl.2 - pl.1) hd
    have hN := lowQ_num (n := e.2.1 * pl.2 - pl.1) hd hn
    have hD := lowQ_den (n := e.2.1 * pl.2 - pl.1) hd
    generalize lowQ (e.2.1 * pl.2 - pl.1) ((e.2.1 - e.1.1) * pl.2) = S at *
    generalize (Int.gcd (e.2.1 * pl.2 - pl.1) ((e.2.1 - e.1.1) * pl.2) : Int) = G at *
    have c3 : (e.2.1 - e.1.1) * pl.2 ≤ 12000 := c2.2
    refine ⟨⟨hL, hN.1, ?_, by omega⟩, ?_, ?_⟩
    · refine Int.le_of_mul_le_mul_right (a := G) ?_ hg
      rw [← hv.1, ← hv.2]
      have h1 := hi.1
      grind
    · unfold meanC
      refine lowQ_congr hL.1 c2.1 ?_
      unfold chN chD
      obtain ⟨h1, h2⟩ := hv
      have e1 : e.1.2 * (e.2.1 - e.1.1) * pl.2 + (pl.1 - e.1.1 * pl.2) * (e.2.2 - e.1.2) = (e.1.2 * S.1 + e.2.2 * (S.2 - S.1)) * G := by grind
      rw [e1, h2]
      grind
    · unfold meanC
      have := lowQ_self hl
      rw [← this]
      refine lowQ_congr hL.1 hl.1 ?_
      obtain ⟨h1, h2⟩ := hv
      refine Int.eq_of_mul_eq_mul_right (a := G) (by omega) ?_
      have e1 : (e.1.1 * S.1 + e.2.1 * (S.2 - S.1)) * G = pl.1 * (e.2.1 - e.1.1) := by grind
      grind
end DL

/-! NC: heights of curves, place by place -/
namespace DL
open PySem PySem.Spec PyProof.Rows L2
local macro_rules | `(tactic| walk_at "ev") => `(tactic| simp only [szL, Nat.reduceLeDiff, mBody, mBodyD, outP, outD, cVar, cC, cOp, cUn, cTest, cAndT, cOrT, cNotT, cAndV, cOrV, cIf, aNil, aCons, cTup, cLst, cSl, oNone, oSome, cCall, cCallF, cCallD, cMeth, noX', isL_list, isL_encP, tYesD, bnd_ok, bnd_exc, bnd_bad, lft_ok, lft_exc, lft_bad, isOk_ok, isOk_exc, isOk_bad, isD_int, isD_bool, isD_none, isD_str, isD_list, isD_tuple, isD_eP, isD_eT, isD_encP, isD_encT, allD, List.all_cons, List.all_nil, Bool.and_self, Bool.and_true, Bool.true_and, if_true, if_false, Bool.false_eq_true, ite_true, ite_false, reduceIte, List.length_cons, List.length_nil, List.map_cons, List.map_nil, List.cons_append, List.nil_append, List.replicate_succ, List.replicate_zero, List.getElem?_cons_zero, List.getElem?_cons_succ, List.set_cons_zero, List.set_cons_succ, wipeD, sSeq, sSet, sAsg, sRet, sIf, sExpr, sNil, sRaise, sSetF, sApp, sAug, sAugL, sPar, sPar3, fLst, bNm, bTup, bCons, bNil, pNot, pIsi, isiT, tyN, pNeg, Nat.reduceAdd, decide_true, decide_false, Bool.not_true, Bool.not_false, noX_ok, pLe_i, pLt_i, pGt_i, pGe_i, pAdd_i, pSub_i, pLen_l, pLen_t, pIx_t0, pIx_t1, pEq_i, pNe_i])
local macro_rules | `(tactic| walk_at "evs") => `(tactic| simp [szL, mBody, mBodyD, outP, outD, cVar, cC, cOp, cUn, cTest, cAndT, cOrT, cNotT, cAndV, cOrV, cIf, aNil, aCons, cTup, cLst, cSl, oNone, oSome, cCall, cCallF, cCallD, cMeth, noX', isL_list, isL_encP, tYesD, bnd_ok, bnd_exc, bnd_bad, lft_ok, lft_exc, lft_bad, isOk_ok, isOk_exc, isOk_bad, isD_int, isD_bool, isD_none, isD_str, isD_list, isD_tuple, isD_eP, isD_eT, isD_encP, isD_encT, allD, List.all_cons, List.all_nil, List.map_cons, List.map_nil, List.cons_append, List.nil_append, List.replicate_succ, List.replicate_zero, List.getElem?_cons_zero, List.getElem?_cons_succ, List.set_cons_zero, List.set_cons_succ, wipeD, sSeq, sSet, sAsg, sRet, sIf, sExpr, sNil, sRaise, sSetF, sApp, sAug, sAugL, sPar, sPar3, fLst, bNm, bTup, bCons, bNil, pNot, pIsi, isiT, tyN, pNeg, noX_ok, pLe_i, pLt_i, pGt_i, pGe_i, pAdd_i, pSub_i, pLen_l, pLen_t, pIx_t0, pIx_t1, pEq_i, pNe_i])
local macro_rules | `(tactic| walk_at "evx") => `(tactic| simp [szL, mBody, mBodyD, outP, outD, cVar, cC, cOp, cUn, cTest, cAndT, cOrT, cNotT, cAndV, cOrV, cIf, aNil, aCons, cTup, cLst, cSl, oNone, oSome, cCall, cCallF, cCallD, cMeth, noX', isL_list, isL_encP, tYesD, bnd_ok, bnd_exc, bnd_bad, lft_ok, lft_exc, lft_bad, isOk_ok, isOk_exc, isOk_bad, isD_int, isD_bool, isD_none, isD_str, isD_list, isD_tuple, isD_eP, isD_eT, isD_encP, isD_encT, allD, List.all_cons, List.all_nil, List.map_cons, List.map_nil, List.cons_append, List.nil_append, List.replicate_succ, List.replicate_zero, List.getElem?_cons_zero, List.getElem?_cons_succ, List.set_cons_zero, List.set_cons_succ, wipeD, sSeq, sSet, sAsg, sRet, sIf, sExpr, sNil, sRaise, sSetF, sApp, sAug, sAugL, sPar, sPar3, fLst, bNm, bTup, bCons, bNil, pNot, pIsi, isiT, tyN, pNeg, noX_ok, pLe_i, pLt_i, pGt_i, pGe_i, pAdd_i, pSub_i, pLen_l, pLen_t, pIx_t0, pIx_t1, pEq_i, pNe_i, *])
/-! ### edges in order -/
theorem edge_mem {P : List Pt} {e : Pt × Pt} (h : e ∈ edges P) : e.1 ∈ P ∧ e.2 ∈ P := by
  obtain ⟨x, y, ec⟩ := mem_edges.mp h
  exact ⟨by rw [ec]; simp, by rw [ec]; simp⟩
theorem edge_up {P : List Pt} (hp : P.Pairwise Up) {e : Pt × Pt} (h : e ∈ edges P) : Up e.1 e.2 := edges_up hp e h
theorem edge_next {P : List Pt} (hp : P.Pairwise Up) {a b u : Pt} (h : (a, b) ∈ edges P) (hu : u ∈ P) (hau : Up a u) : UpE b u := by
  obtain ⟨x, y, ec⟩ := mem_edges.mp h
  dsimp only at ec
  rw [ec] at hp hu
  rw [List.pairwise_append] at hp
  obtain ⟨h1, h2, h3⟩ := hp
  have h2' := List.pairwise_cons.mp h2
  have h2'' := List.pairwise_cons.mp h2'.2
  rcases List.mem_append.mp hu with z | z
  · have := h3 u z a (by simp)
    exact absurd (this.trans hau) (fun w => w.2.2 rfl)
  · rcases List.mem_cons.mp z with z | z
    · subst z; exact absurd rfl hau.2.2
    · rcases List.mem_cons.mp z with z | z
      · exact .inl z.symm
      · exact .inr (h2''.1 u z)
theorem UpE.of_le {p q : Pt} (h : UpE p q) : p.1 ≤ q.1 ∧ p.2 ≤ q.2 := by
  have := h.x
  have := h.y
  omega
theorem UpE.antisymm {p q : Pt} (h : UpE p q) (k : UpE q p) : p = q := by
  have := h.of_le
  have := k.of_le
  exact Prod.ext (by omega) (by omega)
/-- two edges: the same, or one behind the other -/
theorem edge_tri {P : List Pt} (hp : P.Pairwise Up) {e f : Pt × Pt} (he : e ∈ edges P) (hf : f ∈ edges P) : e = f ∨ UpE e.2 f.1 ∨ UpE f.2 e.1 := by
  obtain ⟨a, b⟩ := e
  obtain ⟨u, v⟩ := f
  have ma := edge_mem he
  have mu := edge_mem hf
  dsimp only at ma mu ⊢
  rcases pw_tot hp a ma.1 u mu.1 with z | z
  · rcases z with z | z
    · subst z
      left
      have e1 := edge_next hp he mu.2 (edge_up hp hf)
      have e2 := edge_next hp hf ma.2 (edge_up hp he)
      rw [e1.antisymm e2]
    · right; right
      exact edge_next hp hf ma.1 z
  · right; left
    exact edge_next hp he mu.1 z
theorem ptsE {P : List Pt} (h : PtsOk P) : ∀ e ∈ edges P, OkE e := fun e he => by
  have hm := edge_mem he
  have hu := edge_up h.up he
  have r1 := h.rng _ hm.1
  have r2 := h.rng _ hm.2
  exact ⟨by omega, by omega, hu.1, hu.2.1, by omega, by omega⟩
/-! ### the law's heights of a curve -/
theorem lh_hof {P : List Pt} (h : PtsOk P) {pl : Pt} (ok : OkPl pl) : lhB P pl = hof P pl := by
  have hE := ptsE h
  have hn := hof_nm ok hE
  have hl := lhB_nm h ok
  refine low_unique hl.2.2 hn.2.2 ?_
  rw [lhB_LH]
  refine mxQ_fold (LH_pos h ok) hn.2.2.1 (fun x hx => ?_) ?_
  · rcases List.mem_cons.mp hx with e | e
    · rw [e]
      have := hn.1
      show 0 * _ ≤ (hof P pl).1 * 1
      omega
    · rcases List.mem_append.mp e with e | e
      · obtain ⟨p, hp, rfl⟩ := List.mem_map.mp e
        have hm := List.mem_filter.mp hp
        have hx : p.1 * pl.2 = pl.1 := by simpa using hm.2
        -- an edge that ends at p
        obtain ⟨x, y, ec⟩ := List.append_of_mem hm.1
        rcases List.eq_nil_or_concat x with hx0 | ⟨x', a, hx0⟩
        · subst hx0
          have : p = (0, 0) := by
            have := h.hd
            rw [ec] at this
            injection this
          rw [this]
          have := hn.1
          show 0 * _ ≤ (hof P pl).1 * 1
          omega
        · rw [hx0] at ec
          have he : (a, p) ∈ edges P := mem_edges.mpr ⟨x', y, by rw [ec]; simp⟩
          have hu := edge_up h.up he
          have hi : ins pl (a, p) = true := ins_iff.mpr ⟨by
            have := Int.mul_le_mul_of_nonneg_right hu.1 (show 0 ≤ pl.2 by have := ok.d; omega)
            dsimp only at this
            omega, by omega⟩
          have hge := hof_ge ok hE he hi
          by_cases w : a.1 < p.1
          · have heq : LeQ (p.2, 1) (cand pl (a, p)) := by
              rw [cand_wide w, LeQ.low' (chD_pos ok w)]
              unfold LeQ chN chD
              dsimp only
              rw [← hx]
              grind
            exact heq.trans Int.one_pos (cand_nm ok (hE _ he) hi).2.2.1 hn.2.2.1 hge
          · have : cand pl (a, p) = (p.2, 1) := by
              unfold cand
              have := hu.1
              rw [if_pos (by dsimp only at this ⊢; omega)]
            rw [this] at hge
            exact hge
      · obtain ⟨f, hf, rfl⟩ := List.mem_map.mp e
        have hm := List.mem_filter.mp hf
        exact hof_ge ok hE hm.1 (strict_ins hm.2)
  · have := (mxQ_spec (hofL_pos ok hE)).1
    rcases List.mem_cons.mp this with e | e
    · refine ⟨(0, 1), by simp, ?_⟩
      show LeQ (hofL (edges P) pl) _
      unfold hofL
      rw [e]
      exact Int.le_refl _
    · obtain ⟨f, hf, e⟩ := List.mem_map.mp e
      have hm := List.mem_filter.mp hf
      obtain ⟨u, v⟩ := f
      have hi := ins_iff.mp hm.2
      have hu := (edge_mem hm.1).1
      have hv := (edge_mem hm.1).2
      have hup := edge_up h.up hm.1
      dsimp only at hu hv hup
      have hhof : hof P pl = cand pl (u, v) := by
        show hofL (edges P) pl = _
        unfold hofL
        exact e.symm
      rw [hhof]
      have pt : ∀ p ∈ P, p.1 * pl.2 = pl.1 → (p.2, (1 : Int)) ∈ (0, 1) :: LH P pl := fun p hp hx => by
        refine List.mem_cons_of_mem _ (List.mem_append_left _ (List.mem_map.mpr ⟨p, List.mem_filter.mpr ⟨hp, by simpa using hx⟩, rfl⟩))
      by_cases w : u.1 < v.1
      · by_cases c1 : u.1 * pl.2 = pl.1
        · exact ⟨_, pt u hu c1, cand_end ok w c1⟩
        · by_cases c2 : v.1 * pl.2 = pl.1
          · exact ⟨_, pt v hv c2, cand_end2 ok w c2⟩
          · refine ⟨cand pl (u, v), List.mem_cons_of_mem _ (List.mem_append_right _ (List.mem_map.mpr ⟨(u, v), List.mem_filter.mpr ⟨hm.1, strict_iff.mpr ⟨by dsimp only; omega, by dsimp only; omega⟩⟩, rfl⟩)), Int.le_refl _⟩
      · have hx := hup.1
        have hw : u.1 = v.1 := by omega
        refine ⟨(v.2, 1), pt v hv (by rw [hw] at hi; omega), ?_⟩
        unfold cand
        rw [if_pos (by dsimp only; omega)]
        exact Int.le_refl _
/-! ### one edge over x .. x + 1 -/
structure Over (P : List Pt) (x : Int) (e : Pt × Pt) : Prop where
  mem : e ∈ edges P
  lo : e.1.1 ≤ x
  hi : x + 1 ≤ e.2.1
theorem Over.wide {P : List Pt} {x : Int} {e : Pt × Pt} (h : Over P x e) : e.1.1 < e.2.1 := by
  have := h.lo
  have := h.hi
  omega
theorem over_ex {P : List Pt} (h : PtsOk P) {l : Pt} (hl : P.getLast? = some l) {x : Int} (h0 : 0 ≤ x) (h1 : x < l.1) : ∃ e, Over P x e := by
  obtain ⟨xs, u, v, ys, hm, hi, _⟩ := ins_edge (pl := (2 * x + 1, 2)) (by show (1 : Int) ≤ 2; decide) P (0, 0) l h.up h.hd hl h.l2 (by show (0 : Int) * 2 ≤ 2 * x + 1; omega) (by show 2 * x + 1 ≤ l.1 * 2; omega)
  have := ins_iff.mp hi
  dsimp only at this
  exact ⟨(u, v), mem_edges.mpr ⟨xs, ys, hm⟩, by dsimp only; omega, by dsimp only; omega⟩
theorem nonneg_edge {P : List Pt} (h : PtsOk P) {e : Pt × Pt} (he : e ∈ edges P) {pl : Pt} (ok : OkPl pl) (hi : ins pl e = true) : LeQ (0, 1) (cand pl e) := by
  have := (cand_nm ok (ptsE h e he) hi).1
  show 0 * _ ≤ (cand pl e).1 * 1
  omega
theorem hof_over {P : List Pt} (h : PtsOk P) {x : Int} {e : Pt × Pt} (o : Over P x e) {pl : Pt} (ok : OkPl pl) (h1 : x * pl.2 ≤ pl.1) (h2 : pl.1 < (x + 1) * pl.2) : hof P pl = cand pl e := by
  have hE := ptsE h
  have hd := ok.d
  have hd0 : 0 ≤ pl.2 := by omega
  have m1 := Int.mul_le_mul_of_nonneg_right o.lo hd0
  have m2 := Int.mul_le_mul_of_nonneg_right o.hi hd0
  have hi : ins pl e = true := ins_iff.mpr ⟨by omega, by omega⟩
  have hc := cand_nm ok (hE e o.mem) hi
  have hn := hof_nm ok hE
  refine low_unique hn.2.2 hc.2.2 ?_
  show EqQ (hofL (edges P) pl) _
  unfold hofL
  refine mxQ_fold (hofL_pos ok hE) hc.2.2.1 (fun y hy => ?_) ⟨cand pl e, List.mem_cons_of_mem _ (List.mem_map.mpr ⟨e, List.mem_filter.mpr ⟨o.mem, hi⟩, rfl⟩), Int.le_refl _⟩
  rcases List.mem_cons.mp hy with z | z
  · rw [z]; exact nonneg_edge h o.mem ok hi
  · obtain ⟨f, hf, rfl⟩ := List.mem_map.mp z
    have hm := List.mem_filter.mp hf
    have hfi := ins_iff.mp hm.2
    rcases edge_tri h.up hm.1 o.mem with q | q | q
    · rw [q]; exact Int.le_refl _
    · -- f ends where e begins, or before
      have ql := q.of_le
      have m3 := Int.mul_le_mul_of_nonneg_right ql.1 hd0
      have e1 : f.2.1 * pl.2 = pl.1 := by omega
      have e2 : e.1.1 * pl.2 = pl.1 := by omega
      have e3 : f.2.1 = e.1.1 := Int.eq_of_mul_eq_mul_right (by omega : pl.2 ≠ 0) (by omega)
      have c1 : LeQ (cand pl f) (f.2.2, 1) := by
        by_cases w : f.1.1 < f.2.1
        · exact cand_end2 ok w e1
        · have := (edge_up h.up hm.1).1
          unfold cand
          rw [if_pos (by omega)]
          exact Int.le_refl _
      have c2 : LeQ (f.2.2, 1) (e.1.2, 1) := by
        show f.2.2 * 1 ≤ e.1.2 * 1
        omega
      have c3 : LeQ (e.1.2, 1) (cand pl e) := by
        obtain ⟨u, v⟩ := e
        rw [cand_wide o.wide, LeQ.low' (chD_pos ok o.wide)]
        unfold LeQ chN chD
        dsimp only at e2 ⊢
        rw [← e2]
        grind
      exact (c1.trans (cand_nm ok (hE _ hm.1) hm.2).2.2.1 Int.one_pos Int.one_pos c2).trans (cand_nm ok (hE _ hm.1) hm.2).2.2.1 Int.one_pos hc.2.2.1 c3
    · have ql := q.of_le
      have m3 := Int.mul_le_mul_of_nonneg_right ql.1 hd0
      omega
/-- what the curve comes to at x + 1 -/
def lft1 (e : Pt × Pt) (x : Int) : Pt := cand (x + 1, 1) e
theorem okPl1 {x : Int} (h0 : 0 ≤ x) (h1 : x ≤ 12) : OkPl (x, 1) := ⟨h0, by show x ≤ 12000; omega, by show (1 : Int) ≤ 1; decide, by show (1 : Int) ≤ 1000; decide⟩
theorem lft1_nm {P : List Pt} (h : PtsOk P) {x : Int} (h0 : 0 ≤ x) {e : Pt × Pt} (o : Over P x e) : Nm (lft1 e x) := by
  have hk := ptsE h e o.mem
  have := hk.x2
  have := o.hi
  have := o.lo
  exact cand_nm (okPl1 (by omega) (by omega)) hk (ins_iff.mpr ⟨by dsimp only; omega, by dsimp only; omega⟩)
theorem lft1_end {P : List Pt} {x : Int} {e : Pt × Pt} (o : Over P x e) (h : e.2.1 = x + 1) : lft1 e x = (e.2.2, 1) := by
  obtain ⟨u, v⟩ := e
  have w := o.wide
  dsimp only at w h ⊢
  unfold lft1
  rw [cand_wide w]
  have hd : 0 < chD (x + 1, 1) u v := Int.mul_pos (by omega) (show (0 : Int) < 1 by decide)
  have : lowQ (chN (x + 1, 1) u v) (chD (x + 1, 1) u v) = lowQ v.2 1 := lowQ_congr hd (by decide) (by
    unfold chN chD
    dsimp only
    rw [← h]
    grind)
  rw [this]
  exact lowQ_self (low1 v.2)
def ownX (P : List Pt) (x : Int) : List Pt := (P.filter fun p => decide (p.1 = x)).map fun p => (p.2, (1 : Int))
def ahead (P : List Pt) (x : Int) : Pt := match (ownX P x).head? with
  | some p => p
  | none => hof P (x, 1)
theorem ahead_eq {P : List Pt} (h : PtsOk P) {x : Int} (h0 : 0 ≤ x) {e : Pt × Pt} (o : Over P x e) : ahead P (x + 1) = lft1 e x := by
  have hk := ptsE h e o.mem
  have hx2 := hk.x2
  have hlo := o.lo
  have hhi := o.hi
  have hm := edge_mem o.mem
  unfold ahead ownX
  rw [List.head?_map, List.head?_filter]
  cases hf : P.find? fun p => decide (p.1 = x + 1) with
  | some p =>
    have hp := List.find?_some hf
    rw [decide_eq_true_eq] at hp
    have hpm := List.mem_of_find?_eq_some hf
    have hup : Up e.1 p := by
      rcases pw_tot h.up e.1 hm.1 p hpm with z | z
      · have := z.of_le; omega
      · exact z
    have hnx := edge_next h.up (a := e.1) (b := e.2) o.mem hpm hup
    have hv : e.2.1 = x + 1 := by have := hnx.of_le; omega
    have hpw : (P.filter fun p => decide (p.1 = x + 1)).Pairwise Up := h.up.filter _
    have hfi := pw_first hpw (p := p) (by rw [List.head?_filter, hf]) e.2 (List.mem_filter.mpr ⟨hm.2, by simpa using hv⟩)
    rw [lft1_end o hv, hfi.antisymm hnx]
    rfl
  | none =>
    have hv : e.2.1 ≠ x + 1 := fun z => by
      have := List.find?_eq_none.mp hf e.2 hm.2
      simp at this
      exact this z
    exact hof_over h (x := x + 1) ⟨o.mem, by omega, by omega⟩ (okPl1 (by omega) (by omega)) (by show (x + 1) * 1 ≤ x + 1; omega) (by show x + 1 < (x + 1 + 1) * 1; omega)
end DL

/-! ND: one curve above another, plainly -/
namespace DL
open PySem PySem.Spec PyProof.Rows L2
local macro_rules | `(tactic| walk_at "ev") => `(tactic| simp only [szL, Nat.reduceLeDiff, mBody, mBodyD, outP, outD, cVar, cC, cOp, cUn, cTest, cAndT, cOrT, cNotT, cAndV, cOrV, cIf, aNil, aCons, cTup, cLst, cSl, oNone, oSome, cCall, cCallF, cCallD, cMeth, noX', isL_list, isL_encP, tYesD, bnd_ok, bnd_exc, bnd_bad, lft_ok, lft_exc, lft_bad, isOk_ok, isOk_exc, isOk_bad, isD_int, isD_bool, isD_none, isD_str, isD_list, isD_tuple, isD_eP, isD_eT, isD_encP, isD_encT, allD, List.all_cons, List.all_nil, Bool.and_self, Bool.and_true, Bool.true_and, if_true, if_false, Bool.false_eq_true, ite_true, ite_false, reduceIte, List.length_cons, List.length_nil, List.map_cons, List.map_nil, List.cons_append, List.nil_append, List.replicate_succ, List.replicate_zero, List.getElem?_cons_zero, List.getElem?_cons_succ, List.set_cons_zero, List.set_cons_succ, wipeD, sSeq, sSet, sAsg, sRet, sIf, sExpr, sNil, sRaise, sSetF, sApp, sAug, sAugL, sPar, sPar3, fLst, bNm, bTup, bCons, bNil, pNot, pIsi, isiT, tyN, pNeg, Nat.reduceAdd, decide_true, decide_false, Bool.not_true, Bool.not_false, noX_ok, pLe_i, pLt_i, pGt_i, pGe_i, pAdd_i, pSub_i, pLen_l, pLen_t, pIx_t0, pIx_t1, pEq_i, pNe_i])
local macro_rules | `(tactic| walk_at "evs") => `(tactic| simp [szL, mBody, mBodyD, outP, outD, cVar, cC, cOp, cUn, cTest, cAndT, cOrT, cNotT, cAndV, cOrV, cIf, aNil, aCons, cTup, cLst, cSl, oNone, oSome, cCall, cCallF, cCallD, cMeth, noX', isL_list, isL_encP, tYesD, bnd_ok, bnd_exc, bnd_bad, lft_ok, lft_exc, lft_bad, isOk_ok, isOk_exc, isOk_bad, isD_int, isD_bool, isD_none, isD_str, isD_list, isD_tuple, isD_eP, isD_eT, isD_encP, isD_encT, allD, List.all_cons, List.all_nil, List.map_cons, List.map_nil, List.cons_append, List.nil_append, List.replicate_succ, List.replicate_zero, List.getElem?_cons_zero, List.getElem?_cons_succ, List.set_cons_zero, List.set_cons_succ, wipeD, sSeq, sSet, sAsg, sRet, sIf, sExpr, sNil, sRaise, sSetF, sApp, sAug, sAugL, sPar, sPar3, fLst, bNm, bTup, bCons, bNil, pNot, pIsi, isiT, tyN, pNeg, noX_ok, pLe_i, pLt_i, pGt_i, pGe_i, pAdd_i, pSub_i, pLen_l, pLen_t, pIx_t0, pIx_t1, pEq_i, pNe_i])
local macro_rules | `(tactic| walk_at "evx") => `(tactic| simp [szL, mBody, mBodyD, outP, outD, cVar, cC, cOp, cUn, cTest, cAndT, cOrT, cNotT, cAndV, cOrV, cIf, aNil, aCons, cTup, cLst, cSl, oNone, oSome, cCall, cCallF, cCallD, cMeth, noX', isL_list, isL_encP, tYesD, bnd_ok, bnd_exc, bnd_bad, lft_ok, lft_exc, lft_bad, isOk_ok, isOk_exc, isOk_bad, isD_int, isD_bool, isD_none, isD_str, isD_list, isD_tuple, isD_eP, isD_eT, isD_encP, isD_encT, allD, List.all_cons, List.all_nil, List.map_cons, List.map_nil, List.cons_append, List.nil_append, List.replicate_succ, List.replicate_zero, List.getElem?_cons_zero, List.getElem?_cons_succ, List.set_cons_zero, List.set_cons_succ, wipeD, sSeq, sSet, sAsg, sRet, sIf, sExpr, sNil, sRaise, sSetF, sApp, sAug, sAugL, sPar, sPar3, fLst, bNm, bTup, bCons, bNil, pNot, pIsi, isiT, tyN, pNeg, noX_ok, pLe_i, pLt_i, pGt_i, pGe_i, pAdd_i, pSub_i, pLen_l, pLen_t, pIx_t0, pIx_t1, pEq_i, pNe_i, *])
/-! ### values of fractions -/
structure Val (p : Pt) (n d : Int) : Prop where
  hp : 0 < p.2
  hd : 0 < d
  he : p.1 * d = n * p.2
theorem Val.low {n d : Int} (h : 0 < d) : Val (lowQ n d) n d := by
  have hv := lowQ_val (n := n) h
  have hl := (lowQ_low (n := n) h).1
  refine ⟨hl, h, ?_⟩
  generalize (Int.gcd n d : Int) = g at hv
  generalize lowQ n d = r at hv ⊢
  rw [hv.1, hv.2]
  grind
theorem Val.add {p q : Pt} {n d m e : Int} (h : Val p n d) (k : Val q m e) : Val (lowQ (p.1 * q.2 + q.1 * p.2) (p.2 * q.2)) (n * e + m * d) (d * e) := by
  have hp := Int.mul_pos h.hp k.hp
  have hv := Val.low (n := p.1 * q.2 + q.1 * p.2) hp
  refine ⟨hv.hp, Int.mul_pos h.hd k.hd, ?_⟩
  have h1 := h.he
  have h2 := k.he
  have h3 := hv.he
  refine Int.eq_of_mul_eq_mul_right (Int.ne_of_gt hp) ?_
  generalize (lowQ (p.1 * q.2 + q.1 * p.2) (p.2 * q.2)) = r at h3 ⊢
  have a1 : r.1 * (d * e) * (p.2 * q.2) = (r.1 * (p.2 * q.2)) * (d * e) := by grind
  have a2 : (p.1 * q.2 + q.1 * p.2) * r.2 * (d * e) = ((p.1 * d) * (q.2 * e) + (q.1 * e) * (p.2 * d)) * r.2 := by grind
  rw [a1, h3, a2, h1, h2]
  grind
theorem Val.neg {p : Pt} {n d : Int} (h : Val p n d) : Val (0 - p.1, p.2) (-n) d := ⟨h.hp, h.hd, by
  have := h.he
  show (0 - p.1) * d = -n * p.2
  grind⟩
theorem Val.two {p : Pt} {n d : Int} (h : Val p n d) : Val (lowQ (2 * p.1) p.2) (2 * n) d := by
  have hv := Val.low (n := 2 * p.1) h.hp
  refine ⟨hv.hp, h.hd, ?_⟩
  have h1 := h.he
  have h3 := hv.he
  refine Int.eq_of_mul_eq_mul_right (Int.ne_of_gt h.hp) ?_
  generalize (lowQ (2 * p.1) p.2) = r at h3 ⊢
  have a1 : r.1 * d * p.2 = (r.1 * p.2) * d := by grind
  have a2 : 2 * p.1 * r.2 * d = 2 * (p.1 * d) * r.2 := by grind
  rw [a1, h3, a2, h1]
  grind
theorem Val.sign {p : Pt} {n d : Int} (h : Val p n d) : p.1 < 0 ↔ n < 0 := by
  have h1 := h.he
  constructor
  · intro z
    have := Int.mul_neg_of_neg_of_pos z h.hd
    rw [h1] at this
    rcases Int.lt_or_le n 0 with w | w
    · exact w
    · have := Int.mul_nonneg w (Int.le_of_lt h.hp)
      omega
  · intro z
    have := Int.mul_neg_of_neg_of_pos z h.hp
    rw [← h1] at this
    rcases Int.lt_or_le p.1 0 with w | w
    · exact w
    · have := Int.mul_nonneg w (Int.le_of_lt h.hd)
      omega
/-! ### over one step -/
def wd (e : Pt × Pt) : Int := e.2.1 - e.1.1
def nm1 (e : Pt × Pt) (y : Int) : Int := chN (y, 1) e.1 e.2
theorem nm1_eq (e : Pt × Pt) (y : Int) : nm1 e y = e.1.2 * wd e + (y - e.1.1) * (e.2.2 - e.1.2) := by
  unfold nm1 chN wd
  dsimp only
  rw [Int.mul_one, Int.mul_one]
theorem chN_half (e : Pt × Pt) (x : Int) : chN (2 * x + 1, 2) e.1 e.2 = nm1 e x + nm1 e (x + 1) := by
  rw [nm1_eq, nm1_eq]
  unfold chN wd
  dsimp only
  grind
theorem chN_pl (e : Pt × Pt) (x : Int) (pl : Pt) : chN pl e.1 e.2 = ((x + 1) * pl.2 - pl.1) * nm1 e x + (pl.1 - x * pl.2) * nm1 e (x + 1) := by
  rw [nm1_eq, nm1_eq]
  unfold chN wd
  grind
theorem Over.wd {P : List Pt} {x : Int} {e : Pt × Pt} (o : Over P x e) : 0 < wd e := by
  have := o.wide
  unfold DL.wd
  omega
theorem cand_w {pl : Pt} {e : Pt × Pt} (w : 0 < wd e) : cand pl e = lowQ (chN pl e.1 e.2) (wd e * pl.2) := by
  unfold wd at w ⊢
  unfold cand chD
  rw [if_neg (by omega)]
theorem le_cand {pl : Pt} {e f : Pt × Pt} (hd : 0 < pl.2) (we : 0 < wd e) (wf : 0 < wd f) : LeQ (cand pl f) (cand pl e) ↔ chN pl f.1 f.2 * wd e ≤ chN pl e.1 e.2 * wd f := by
  rw [cand_w we, cand_w wf, LeQ.low (Int.mul_pos wf hd), LeQ.low' (Int.mul_pos we hd)]
  unfold LeQ
  dsimp only
  rw [← Int.mul_assoc, ← Int.mul_assoc]
  exact ⟨fun h => Int.le_of_mul_le_mul_right h hd, fun h => Int.mul_le_mul_of_nonneg_right h (Int.le_of_lt hd)⟩
theorem ltQ_le {p q : Pt} : ltQ p q = false ↔ LeQ q p := by
  unfold ltQ LeQ
  rw [decide_eq_false_iff_not, Int.not_lt]
theorem lt_cand {pl : Pt} {e f : Pt × Pt} (hd : 0 < pl.2) (we : 0 < wd e) (wf : 0 < wd f) : ltQ (cand pl e) (cand pl f) = decide (chN pl e.1 e.2 * wd f < chN pl f.1 f.2 * wd e) := by
  have h := le_cand hd we wf
  rw [← ltQ_le] at h
  by_cases z : chN pl e.1 e.2 * wd f < chN pl f.1 f.2 * wd e
  · rw [decide_eq_true z]
    cases hq : ltQ (cand pl e) (cand pl f) with
    | true => rfl
    | false => have := h.mp hq; omega
  · rw [decide_eq_false z]
    exact h.mpr (by omega)
/-- the law's number: negative exactly if the first curve comes to less -/
theorem law_num {e f : Pt × Pt} (we : 0 < wd e) (wf : 0 < wd f) {x : Int} {st hf tw nn : Pt}
    (hst : st = lowQ ((cand (x, 1) e).1 * (0 - (cand (x, 1) f).1, (cand (x, 1) f).2).2 + (0 - (cand (x, 1) f).1, (cand (x, 1) f).2).1 * (cand (x, 1) e).2) ((cand (x, 1) e).2 * (0 - (cand (x, 1) f).1, (cand (x, 1) f).2).2))
    (hhf : hf = lowQ ((cand (2 * x + 1, 2) e).1 * (0 - (cand (2 * x + 1, 2) f).1, (cand (2 * x + 1, 2) f).2).2 + (0 - (cand (2 * x + 1, 2) f).1, (cand (2 * x + 1, 2) f).2).1 * (cand (2 * x + 1, 2) e).2) ((cand (2 * x + 1, 2) e).2 * (0 - (cand (2 * x + 1, 2) f).1, (cand (2 * x + 1, 2) f).2).2))
    (htw : tw = lowQ (2 * hf.1) hf.2)
    (hnn : nn = lowQ (tw.1 * (0 - st.1, st.2).2 + (0 - st.1, st.2).1 * tw.2) (tw.2 * (0 - st.1, st.2).2)) :
    decide (nn.1 < 0) = ltQ (lft1 e x) (lft1 f x) := by
  have v1 : Val (cand (x, 1) e) (nm1 e x) (wd e) := by
    have := Val.low (n := chN (x, 1) e.1 e.2) (d := wd e * (x, (1 : Int)).2) (Int.mul_pos we (by show (0 : Int) < 1; decide))
    rw [cand_w we]
    rw [show wd e * (x, (1 : Int)).2 = wd e from Int.mul_one _] at this ⊢
    exact this
  have v2 : Val (cand (x, 1) f) (nm1 f x) (wd f) := by
    have := Val.low (n := chN (x, 1) f.1 f.2) (d := wd f * (x, (1 : Int)).2) (Int.mul_pos wf (by show (0 : Int) < 1; decide))
    rw [cand_w wf]
    rw [show wd f * (x, (1 : Int)).2 = wd f from Int.mul_one _] at this ⊢
    exact this
  have v3 : Val (cand (2 * x + 1, 2) e) (nm1 e x + nm1 e (x + 1)) (wd e * 2) := by
    rw [cand_w we, chN_half]
    exact Val.low (Int.mul_pos we (show (0 : Int) < 2 by decide))
  have v4 : Val (cand (2 * x + 1, 2) f) (nm1 f x + nm1 f (x + 1)) (wd f * 2) := by
    rw [cand_w wf, chN_half]
    exact Val.low (Int.mul_pos wf (show (0 : Int) < 2 by decide))
  have vs := v1.add v2.neg
  have vh := v3.add v4.neg
  rw [← hst] at vs
  rw [← hhf] at vh
  have vt := vh.two
  rw [← htw] at vt
  have vn := vt.add vs.neg
  rw [← hnn] at vn
  have hs := vn.sign
  unfold lft1
  rw [lt_cand (show (0 : Int) < 1 by decide) we wf]
  have key : 2 * ((nm1 e x + nm1 e (x + 1)) * (wd f * 2) + -(nm1 f x + nm1 f (x + 1)) * (wd e * 2)) * (wd e * wd f) + -(nm1 e x * wd f + -nm1 f x * wd e) * (wd e * 2 * (wd f * 2)) = (wd e * wd f) * (4 * (nm1 e (x + 1) * wd f - nm1 f (x + 1) * wd e)) := by grind
  rw [key] at hs
  have hw := Int.mul_pos we wf
  have h2 : (wd e * wd f) * (4 * (nm1 e (x + 1) * wd f - nm1 f (x + 1) * wd e)) < 0 ↔ nm1 e (x + 1) * wd f < nm1 f (x + 1) * wd e := by
    constructor
    · intro z
      rcases Int.lt_or_le (nm1 e (x + 1) * wd f) (nm1 f (x + 1) * wd e) with w | w
      · exact w
      · have := Int.mul_nonneg (Int.le_of_lt hw) (show 0 ≤ 4 * (nm1 e (x + 1) * wd f - nm1 f (x + 1) * wd e) by omega)
        omega
    · intro z
      exact Int.mul_neg_of_pos_of_neg hw (by omega)
  congr 1
  exact propext (hs.trans h2)
/-! ### above -/
structure Abv (P Q : List Pt) (S : Int) : Prop where
  at_ : ∀ x, 0 ≤ x → x ≤ S → LeQ (hof Q (x, 1)) (hof P (x, 1))
  ahd : ∀ x, 0 ≤ x → x < S → LeQ (ahead Q (x + 1)) (ahead P (x + 1))
theorem Abv.step {P Q : List Pt} {S : Int} (A : Abv P Q S) (hP : PtsOk P) (hQ : PtsOk Q) {x : Int} (h0 : 0 ≤ x) (h1 : x < S) {e f : Pt × Pt} (o : Over P x e) (o' : Over Q x f) : nm1 f x * wd e ≤ nm1 e x * wd f ∧ nm1 f (x + 1) * wd e ≤ nm1 e (x + 1) * wd f := by
  have hx : x ≤ 12 := by
    have := (ptsE hP e o.mem).x2
    have := o.hi
    omega
  have a1 := A.at_ x h0 (by omega)
  rw [hof_over hP o (okPl1 h0 hx) (by show x * 1 ≤ x; omega) (by show x < (x + 1) * 1; omega), hof_over hQ o' (okPl1 h0 hx) (by show x * 1 ≤ x; omega) (by show x < (x + 1) * 1; omega), le_cand (show (0 : Int) < 1 by decide) o.wd o'.wd] at a1
  have a2 := A.ahd x h0 h1
  rw [ahead_eq hP h0 o, ahead_eq hQ h0 o'] at a2
  unfold lft1 at a2
  rw [le_cand (show (0 : Int) < 1 by decide) o.wd o'.wd] at a2
  exact ⟨a1, a2⟩
/-- between places -/
theorem Abv.any {P Q : List Pt} {l : Pt} (A : Abv P Q l.1) (hP : PtsOk P) (hQ : PtsOk Q) (lP : P.getLast? = some l) (lQ : Q.getLast? = some l) {pl : Pt} (ok : OkPl pl) (hl : IsLow pl) (hN : pl.1 ≤ l.1 * pl.2) : LeQ (hof Q pl) (hof P pl) := by
  have hd := ok.d
  have hd0 : 0 < pl.2 := by omega
  have hn := ok.n
  have e1 := Int.mul_ediv_add_emod pl.1 pl.2
  have e2 := Int.emod_nonneg pl.1 (Int.ne_of_gt hd0)
  have e3 := Int.emod_lt_of_pos pl.1 hd0
  generalize hx : pl.1 / pl.2 = x at e1
  generalize pl.1 % pl.2 = r at e1 e2 e3
  have hx0 : 0 ≤ x := by rw [← hx]; exact Int.ediv_nonneg hn (by omega)
  have e1' : x * pl.2 + r = pl.1 := by rw [Int.mul_comm]; exact e1
  have e4 : (x + 1) * pl.2 = x * pl.2 + pl.2 := by rw [Int.add_mul, Int.one_mul]
  by_cases hS : x < l.1
  · obtain ⟨e, o⟩ := over_ex hP lP hx0 hS
    obtain ⟨f, o'⟩ := over_ex hQ lQ hx0 hS
    obtain ⟨a1, a2⟩ := A.step hP hQ hx0 hS o o'
    rw [hof_over hP o ok (by omega) (by omega), hof_over hQ o' ok (by omega) (by omega), le_cand hd0 o.wd o'.wd, chN_pl e x pl, chN_pl f x pl]
    have m1 := Int.mul_le_mul_of_nonneg_left a1 (show 0 ≤ (x + 1) * pl.2 - pl.1 by omega)
    have m2 := Int.mul_le_mul_of_nonneg_left a2 (show 0 ≤ pl.1 - x * pl.2 by omega)
    generalize (x + 1) * pl.2 - pl.1 = α at m1 ⊢
    generalize pl.1 - x * pl.2 = β at m2 ⊢
    rw [Int.add_mul, Int.add_mul, Int.mul_assoc, Int.mul_assoc, Int.mul_assoc, Int.mul_assoc]
    omega
  · have hxS : l.1 * pl.2 ≤ x * pl.2 := Int.mul_le_mul_of_nonneg_right (by omega) (by omega)
    have hr : pl.1 = l.1 * pl.2 := by omega
    have hone : pl.2 = 1 := by
      have h1 : pl.2 ∣ pl.1 := ⟨l.1, by rw [hr, Int.mul_comm]⟩
      have h2 : (pl.2.natAbs) ∣ Int.gcd pl.1 pl.2 := Nat.dvd_gcd (Int.natAbs_dvd_natAbs.mpr h1) (Nat.dvd_refl _)
      rw [hl.2] at h2
      have := Nat.dvd_one.mp h2
      omega
    have : pl = (l.1, 1) := Prod.ext (by rw [hr, hone, Int.mul_one]) hone
    rw [this]
    refine A.at_ l.1 ?_ (Int.le_refl _)
    rw [hone, Int.mul_one] at hr
    omega
/-! ### areas -/
def KK0 : Int := 27720
def vK (e : Pt × Pt) (x : Int) : Int := KK0 * e.1.2 + (x - e.1.1) * (KK0 / wd e) * (e.2.2 - e.1.2)
theorem kdiv : ∀ w : Int, 1 ≤ w → w ≤ 12 → KK0 / w * w = KK0 := by
  intro w h1 h2
  have : w = 1 ∨ w = 2 ∨ w = 3 ∨ w = 4 ∨ w = 5 ∨ w = 6 ∨ w = 7 ∨ w = 8 ∨ w = 9 ∨ w = 10 ∨ w = 11 ∨ w = 12 := by omega
  rcases this with rfl | rfl | rfl | rfl | rfl | rfl | rfl | rfl | rfl | rfl | rfl | rfl <;> decide
theorem vK_nm {e : Pt × Pt} (h1 : 0 < wd e) (h2 : wd e ≤ 12) (x : Int) : vK e x * wd e = KK0 * nm1 e x := by
  have hk := kdiv (wd e) (by omega) h2
  rw [nm1_eq]
  unfold vK
  generalize KK0 / wd e = c at hk ⊢
  generalize wd e = w at hk ⊢
  rw [← hk]
  grind
theorem vK_le {e f : Pt × Pt} (e1 : 0 < wd e) (e2 : wd e ≤ 12) (f1 : 0 < wd f) (f2 : wd f ≤ 12) {x : Int} (h : nm1 f x * wd e ≤ nm1 e x * wd f) : vK f x ≤ vK e x := by
  have he := vK_nm e1 e2 x
  have hf := vK_nm f1 f2 x
  have hw := Int.mul_pos e1 f1
  refine Int.le_of_mul_le_mul_right ?_ hw
  have a1 : vK f x * (wd e * wd f) = KK0 * (nm1 f x * wd e) := by
    rw [show vK f x * (wd e * wd f) = (vK f x * wd f) * wd e by grind, hf, Int.mul_assoc]
  have a2 : vK e x * (wd e * wd f) = KK0 * (nm1 e x * wd f) := by
    rw [← Int.mul_assoc, he, Int.mul_assoc]
  rw [a1, a2]
  exact Int.mul_le_mul_of_nonneg_left h (by decide)
def ovb (x : Int) (e : Pt × Pt) : Bool := decide (e.1.1 ≤ x) && decide (x + 1 ≤ e.2.1)
def eg (E : List (Pt × Pt)) (x : Int) : Pt × Pt := (E.find? (ovb x)).getD ((0, 0), (0, 0))
def tk (E : List (Pt × Pt)) (x : Int) : Int := vK (eg E x) x + vK (eg E x) (x + 1)
theorem eg_over {P : List Pt} {x : Int} (h : ∃ e, Over P x e) : Over P x (eg (edges P) x) := by
  obtain ⟨e, o⟩ := h
  unfold eg
  cases hf : (edges P).find? (ovb x) with
  | none =>
    have := List.find?_eq_none.mp hf e o.mem
    unfold ovb at this
    rw [decide_eq_true o.lo, decide_eq_true o.hi] at this
    exact absurd rfl this
  | some g =>
    have h1 := List.find?_some hf
    unfold ovb at h1
    rw [Bool.and_eq_true, decide_eq_true_eq, decide_eq_true_eq] at h1
    exact ⟨List.mem_of_find?_eq_some hf, h1.1, h1.2⟩
theorem up_snoc (n : Nat) : up (n + 1) = up n ++ [(n : Int)] := by
  unfold up
  rw [List.range_succ, List.map_append]
  rfl
theorem up_sum_add (f : Int → Int) (m : Nat) : ∀ n : Nat, ((up (m + n)).map f).sum = ((up m).map f).sum + ((up n).map fun i => f ((m : Int) + i)).sum
  | 0 => by simp [up]
  | n + 1 => by
    have ih := up_sum_add f m n
    rw [show m + (n + 1) = (m + n) + 1 from rfl, up_snoc, up_snoc, List.map_append, List.map_append, List.sum_append, List.sum_append, ih]
    simp only [List.map_cons, List.map_nil, List.sum_cons, List.sum_nil]
    rw [show ((m + n : Nat) : Int) = (m : Int) + (n : Int) by omega]
    omega
theorem series (A c : Int) : ∀ n : Nat, ((up n).map fun i => (A + i * c) + (A + (i + 1) * c)).sum = 2 * (n : Int) * A + (n : Int) * (n : Int) * c
  | 0 => by simp [up]
  | n + 1 => by
    have ih := series A c n
    rw [up_snoc, List.map_append, List.sum_append, ih]
    simp only [List.map_cons, List.map_nil, List.sum_cons, List.sum_nil]
    rw [show ((n + 1 : Nat) : Int) = (n : Int) + 1 by omega]
    grind
theorem tk_sum : ∀ (r : List Pt) (a l : Pt), (a :: r).Pairwise Up → (∀ p ∈ a :: r, 0 ≤ p.1 ∧ p.1 ≤ 12) → (a :: r).getLast? = some l → ((up (l.1 - a.1).toNat).map fun i => tk (edges (a :: r)) (a.1 + i)).sum = KK0 * twL (edges (a :: r))
  | [], a, l, _, _, hl => by
    have hal : a = l := by
      injection hl
    subst hal
    rw [Int.sub_self]
    show (0 : Int) = KK0 * 0
    rfl
  | b :: r, a, l, hp, hr, hl => by
    have hp' := List.pairwise_cons.mp hp
    have hab := hp'.1 b (by simp)
    have ih := tk_sum r b l hp'.2 (fun p hp => hr p (List.mem_cons_of_mem _ hp)) (by rw [List.getLast?_cons_cons] at hl; exact hl)
    have hbl := (pw_last hp'.2 (by rw [List.getLast?_cons_cons] at hl; exact hl) b (by simp)).of_le
    have ra := hr a (by simp)
    have rb := hr b (by simp)
    have h1 := hab.1
    have hn : (l.1 - a.1).toNat = (b.1 - a.1).toNat + (l.1 - b.1).toNat := by omega
    rw [hn, up_sum_add, edges_cons]
    show _ = KK0 * (trap (a, b) + twL (edges (b :: r)))
    rw [Int.mul_add, ← ih]
    congr 1
    · -- over the first edge
      have e1 : ((up (b.1 - a.1).toNat).map fun i => tk ((a, b) :: edges (b :: r)) (a.1 + i)).sum = ((up (b.1 - a.1).toNat).map fun i => (KK0 * a.2 + i * (KK0 / wd (a, b) * (b.2 - a.2))) + (KK0 * a.2 + (i + 1) * (KK0 / wd (a, b) * (b.2 - a.2)))).sum := sum_map_congr fun i hi => by
        have hi' := mem_up.mp hi
        unfold tk eg
        rw [List.find?_cons_of_pos (by unfold ovb; rw [decide_eq_true (by dsimp only; omega), decide_eq_true (by dsimp only; omega)]; rfl)]
        show vK (a, b) (a.1 + i) + vK (a, b) (a.1 + i + 1) = _
        unfold vK
        dsimp only
        rw [show a.1 + i - a.1 = i by omega, show a.1 + i + 1 - a.1 = i + 1 by omega, Int.mul_assoc, Int.mul_assoc]
      rw [e1, series]
      have hw : (((b.1 - a.1).toNat : Nat) : Int) = wd (a, b) := by unfold wd; dsimp only; omega
      rw [hw]
      show _ = KK0 * ((b.1 - a.1) * (a.2 + b.2))
      rw [show b.1 - a.1 = wd (a, b) from rfl]
      by_cases z : wd (a, b) = 0
      · rw [z]; simp
      · have hk := kdiv (wd (a, b)) (by unfold wd at z ⊢; dsimp only at z ⊢; omega) (by unfold wd; dsimp only; omega)
        generalize KK0 / wd (a, b) = c at hk ⊢
        generalize wd (a, b) = w at hk ⊢
        rw [← hk]
        grind
    · refine sum_map_congr fun i hi => ?_
      have hi' := mem_up.mp hi
      rw [show a.1 + ((((b.1 - a.1).toNat : Nat) : Int) + i) = b.1 + i by omega]
      unfold tk eg
      rw [List.find?_cons_of_neg (by unfold ovb; rw [decide_eq_false (p := b.1 + i + 1 ≤ (a, b).2.1) (by dsimp only; omega)]; simp)]
theorem Abv.area {P Q : List Pt} {l : Pt} (A : Abv P Q l.1) (hP : PtsOk P) (hQ : PtsOk Q) (lP : P.getLast? = some l) (lQ : Q.getLast? = some l) : twA Q ≤ twA P := by
  have sum : ∀ R : List Pt, PtsOk R → R.getLast? = some l → ((up l.1.toNat).map fun i => tk (edges R) i).sum = KK0 * twA R := fun R hR lR => by
    have hd := hR.hd
    cases R with
    | nil => cases hd
    | cons a r =>
      injection hd with hd
      subst hd
      have := tk_sum r (0, 0) l hR.up (fun p hp => by have := hR.rng p hp; omega) lR
      rw [show (l.1 - ((0, 0) : Pt).1).toNat = l.1.toNat by show (l.1 - 0).toNat = _; omega] at this
      refine (sum_map_congr fun i _ => ?_).trans this
      show _ = tk _ (0 + i)
      rw [Int.zero_add]
  have h1 := sum P hP lP
  have h2 := sum Q hQ lQ
  have hle : ((up l.1.toNat).map fun i => tk (edges Q) i).sum ≤ ((up l.1.toNat).map fun i => tk (edges P) i).sum := by
    have gen : ∀ L : List Int, (∀ i ∈ L, tk (edges Q) i ≤ tk (edges P) i) → (L.map fun i => tk (edges Q) i).sum ≤ (L.map fun i => tk (edges P) i).sum := fun L => by
      induction L with
      | nil => intro _; exact Int.le_refl _
      | cons i L ih =>
        intro h
        have a := h i (by simp)
        have b := ih fun j hj => h j (List.mem_cons_of_mem _ hj)
        simp only [List.map_cons, List.sum_cons]
        omega
    refine gen _ fun i hi => ?_
    have hi' := mem_up.mp hi
    have hl0 : i < l.1 := by omega
    have o := eg_over (over_ex hP lP hi'.1 hl0)
    have o' := eg_over (over_ex hQ lQ hi'.1 hl0)
    obtain ⟨a1, a2⟩ := A.step hP hQ hi'.1 hl0 o o'
    have kP := ptsE hP _ o.mem
    have kQ := ptsE hQ _ o'.mem
    have wP : wd (eg (edges P) i) ≤ 12 := by have := kP.x; have := kP.x2; unfold wd; omega
    have wQ : wd (eg (edges Q) i) ≤ 12 := by have := kQ.x; have := kQ.x2; unfold wd; omega
    have v1 := vK_le o.wd wP o'.wd wQ a1
    have v2 := vK_le o.wd wP o'.wd wQ a2
    unfold tk
    omega
  rw [h1, h2] at hle
  exact Int.le_of_mul_le_mul_left hle (by decide)
/-! ### the hull is above -/
theorem hull_above {P C : List Pt} (hP : PtsOk P) (H : Hull P C) (hC : PtsOk C) {l : Pt} (lP : P.getLast? = some l) (lC : C.getLast? = some l) (hl : l.1 ≤ 12) : Abv C P l.1 := by
  refine ⟨fun x h0 h1 => ?_, fun x h0 h1 => ?_⟩
  · have ok := okPl1 h0 (by omega : x ≤ 12)
    rw [← lh_hof hP ok, lhB_LH]
    exact LH_le hP H ok lP (by show x ≤ l.1 * 1; omega) (D := P) (fun _ h => h) _ (mxQ_spec (LH_pos hP ok)).1
  · obtain ⟨e, o⟩ := over_ex hC lC h0 h1
    obtain ⟨f, o'⟩ := over_ex hP lP h0 h1
    rw [ahead_eq hC h0 o, ahead_eq hP h0 o']
    unfold lft1
    rw [le_cand (show (0 : Int) < 1 by decide) o.wd o'.wd]
    obtain ⟨xs, ys, ec⟩ := mem_edges.mp o.mem
    have ht := (H.edge ec).2
    have t1 := ht f.1 (edge_mem o'.mem).1
    have t2 := ht f.2 (edge_mem o'.mem).2
    have b1 := o'.lo
    have b2 := o'.hi
    show nm1 f (x + 1) * wd e ≤ nm1 e (x + 1) * wd f
    rw [nm1_eq, nm1_eq]
    unfold turn at t1 t2
    unfold wd
    have m1 := Int.mul_le_mul_of_nonneg_left t1 (show 0 ≤ f.2.1 - (x + 1) by omega)
    have m2 := Int.mul_le_mul_of_nonneg_left t2 (show 0 ≤ (x + 1) - f.1.1 by omega)
    grind
end DL

/-! NE: the program's comparing, evaluated -/
namespace DL
open PySem PySem.Spec PyProof.Rows L2
local macro_rules | `(tactic| walk_at "ev") => `(tactic| simp only [szL, Nat.reduceLeDiff, mBody, mBodyD, outP, outD, cVar, cC, cOp, cUn, cTest, cAndT, cOrT, cNotT, cAndV, cOrV, cIf, aNil, aCons, cTup, cLst, cSl, oNone, oSome, cCall, cCallF, cCallD, cMeth, noX', isL_list, isL_encP, tYesD, bnd_ok, bnd_exc, bnd_bad, lft_ok, lft_exc, lft_bad, isOk_ok, isOk_exc, isOk_bad, isD_int, isD_bool, isD_none, isD_str, isD_list, isD_tuple, isD_eP, isD_eT, isD_encP, isD_encT, allD, List.all_cons, List.all_nil, Bool.and_self, Bool.and_true, Bool.true_and, if_true, if_false, Bool.false_eq_true, ite_true, ite_false, reduceIte, List.length_cons, List.length_nil, List.map_cons, List.map_nil, List.cons_append, List.nil_append, List.replicate_succ, List.replicate_zero, List.getElem?_cons_zero, List.getElem?_cons_succ, List.set_cons_zero, List.set_cons_succ, wipeD, sSeq, sSet, sAsg, sRet, sIf, sExpr, sNil, sRaise, sSetF, sApp, sAug, sAugL, sPar, sPar3, fLst, bNm, bTup, bCons, bNil, pNot, pIsi, isiT, tyN, pNeg, Nat.reduceAdd, decide_true, decide_false, Bool.not_true, Bool.not_false, noX_ok, pLe_i, pLt_i, pGt_i, pGe_i, pAdd_i, pSub_i, pLen_l, pLen_t, pIx_t0, pIx_t1, pEq_i, pNe_i])
local macro_rules | `(tactic| walk_at "evs") => `(tactic| simp [szL, mBody, mBodyD, outP, outD, cVar, cC, cOp, cUn, cTest, cAndT, cOrT, cNotT, cAndV, cOrV, cIf, aNil, aCons, cTup, cLst, cSl, oNone, oSome, cCall, cCallF, cCallD, cMeth, noX', isL_list, isL_encP, tYesD, bnd_ok, bnd_exc, bnd_bad, lft_ok, lft_exc, lft_bad, isOk_ok, isOk_exc, isOk_bad, isD_int, isD_bool, isD_none, isD_str, isD_list, isD_tuple, isD_eP, isD_eT, isD_encP, isD_encT, allD, List.all_cons, List.all_nil, List.map_cons, List.map_nil, List.cons_append, List.nil_append, List.replicate_succ, List.replicate_zero, List.getElem?_cons_zero, List.getElem?_cons_succ, List.set_cons_zero, List.set_cons_succ, wipeD, sSeq, sSet, sAsg, sRet, sIf, sExpr, sNil, sRaise, sSetF, sApp, sAug, sAugL, sPar, sPar3, fLst, bNm, bTup, bCons, bNil, pNot, pIsi, isiT, tyN, pNeg, noX_ok, pLe_i, pLt_i, pGt_i, pGe_i, pAdd_i, pSub_i, pLen_l, pLen_t, pIx_t0, pIx_t1, pEq_i, pNe_i])
local macro_rules | `(tactic| walk_at "evx") => `(tactic| simp [szL, mBody, mBodyD, outP, outD, cVar, cC, cOp, cUn, cTest, cAndT, cOrT, cNotT, cAndV, cOrV, cIf, aNil, aCons, cTup, cLst, cSl, oNone, oSome, cCall, cCallF, cCallD, cMeth, noX', isL_list, isL_encP, tYesD, bnd_ok, bnd_exc, bnd_bad, lft_ok, lft_exc, lft_bad, isOk_ok, isOk_exc, isOk_bad, isD_int, isD_bool, isD_none, isD_str, isD_list, isD_tuple, isD_eP, isD_eT, isD_encP, isD_encT, allD, List.all_cons, List.all_nil, List.map_cons, List.map_nil, List.cons_append, List.nil_append, List.replicate_succ, List.replicate_zero, List.getElem?_cons_zero, List.getElem?_cons_succ, List.set_cons_zero, List.set_cons_succ, wipeD, sSeq, sSet, sAsg, sRet, sIf, sExpr, sNil, sRaise, sSetF, sApp, sAug, sAugL, sPar, sPar3, fLst, bNm, bTup, bCons, bNil, pNot, pIsi, isiT, tyN, pNeg, noX_ok, pLe_i, pLt_i, pGt_i, pGe_i, pAdd_i, pSub_i, pLen_l, pLen_t, pIx_t0, pIx_t1, pEq_i, pNe_i, *])
def gBody : Env → Unit → R (Fl × Unit) :=
      (sIf (cTest (cChain pLe pLe (cOp pMul (cOp pIx (cVar 3) (cC (.int 0))) (cOp pIx (cVar 1) (cC (.int 1)))) (cOp pIx (cVar 1) (cC (.int 0))) (cOp pMul (cOp pIx (cVar 4) (cC (.int 0))) (cOp pIx (cVar 1) (cC (.int 1))))))
      (sSeq (sSet 5 (cOp pSub (cOp pIx (cVar 4) (cC (.int 0))) (cOp pIx (cVar 3) (cC (.int 0)))))
      (sSeq (sIf (cTest (cOp pEq (cVar 5) (cC (.int 0))))
      (sSet 6 (cTup (aCons (cOp pIx (cVar 4) (cC (.int 1))) (aCons (cC (.int 1)) aNil))))
      (sSet 6 (cCallF 2 m_lowest (aCons (cOp pAdd (cOp pMul (cOp pMul (cOp pIx (cVar 3) (cC (.int 1))) (cVar 5)) (cOp pIx (cVar 1) (cC (.int 1)))) (cOp pMul (cOp pSub (cOp pIx (cVar 1) (cC (.int 0))) (cOp pMul (cOp pIx (cVar 3) (cC (.int 0))) (cOp pIx (cVar 1) (cC (.int 1))))) (cOp pSub (cOp pIx (cVar 4) (cC (.int 1))) (cOp pIx (cVar 3) (cC (.int 1)))))) (aCons (cOp pMul (cVar 5) (cOp pIx (cVar 1) (cC (.int 1)))) aNil)))))
      (sSet 2 (cIf (cTest (cCallF 2 m_less (aCons (cVar 2) (aCons (cVar 6) aNil)))) (cVar 6) (cVar 2)))))
      sNil)
theorem gBody_eq {pl : Pt} (h : OkPl pl) {e : Pt × Pt} (k : OkE e) (C : Option PD) {best : Pt} (hb : Nm best) (c d : Option PD) :
    ∃ c' d', gBody [C, some (eP pl), some (eP best), some (eP e.1), some (eP e.2), c, d] () = .ok (.nx [C, some (eP pl), some (eP (if ins pl e = true then mxQ best (cand pl e) else best)), some (eP e.1), some (eP e.2), c', d'], ()) := by
  obtain ⟨n1, n2, d1, d2⟩ := h
  have ok : OkPl pl := ⟨n1, n2, d1, d2⟩
  have hk := k
  obtain ⟨x, y, u, v, x2, y2⟩ := k
  have b0 := mul_bd (a := e.1.1) (b := pl.2) (A := 12) (B := 1000) x (by omega) (by omega) d2
  have ht : cTest (cChain pLe pLe (cOp pMul (cOp pIx (cVar 3) (cC (.int 0))) (cOp pIx (cVar 1) (cC (.int 1)))) (cOp pIx (cVar 1) (cC (.int 0))) (cOp pMul (cOp pIx (cVar 4) (cC (.int 0))) (cOp pIx (cVar 1) (cC (.int 1))))) [C, some (eP pl), some (eP best), some (eP e.1), some (eP e.2), c, d] () = .ok (ins pl e, ()) :=
    ev_test (chain_le (d := Unit) _ _ _ _ () _ _ _ (ev_op (s1 := ()) (ev_op (s2 := ()) rfl rfl (eP_0 _)) (ev_op (s2 := ()) rfl rfl (eP_1 _)) (pMul_i (by omega))) (ev_op (s2 := ()) rfl rfl (eP_0 _)) (ev_op (s1 := ()) (ev_op (s2 := ()) rfl rfl (eP_0 _)) (ev_op (s2 := ()) rfl rfl (eP_1 _)) (pMul_i (by omega))))
  unfold gBody
  cases hi : ins pl e with
  | false => exact ⟨c, d, ev_if_f (by rw [ht, hi]) rfl⟩
  | true =>
    have hc := cand_nm ok hk hi
    have fin : ∀ (c : Option PD), sSet 2 (cIf (cTest (cCallF 2 m_less (aCons (cVar 2) (aCons (cVar 6) aNil)))) (cVar 6) (cVar 2)) [C, some (eP pl), some (eP best), some (eP e.1), some (eP e.2), c, some (eP (cand pl e))] () = .ok (.nx [C, some (eP pl), some (eP (mxQ best (cand pl e))), some (eP e.1), some (eP e.2), c, some (eP (cand pl e))], ()) := fun c => by
      refine ev_set (v := eP (mxQ best (cand pl e))) ?_
      unfold mxQ
      cases hl : ltQ best (cand pl e) with
      | true => exact cIf_t (s1 := ()) (ev_test (ev_callF rfl (by rw [m_less_eq hb.b hc.b, hl]))) rfl
      | false => exact cIf_f (s1 := ()) (ev_test (ev_callF rfl (by rw [m_less_eq hb.b hc.b, hl]))) rfl
    by_cases z : e.2.1 - e.1.1 = 0
    · refine ⟨_, _, ev_if_t (s' := ()) (by rw [ht, hi]) (ev_let (s1 := ()) (ev_op (s1 := ()) (ev_op (s2 := ()) rfl rfl (eP_0 _)) (ev_op (s2 := ()) rfl rfl (eP_0 _)) (pSub_i _ _)) (ev_seq (s' := ()) (ρ' := [C, some (eP pl), some (eP best), some (eP e.1), some (eP e.2), some (.int (e.2.1 - e.1.1)), some (eP (cand pl e))]) (ev_if_t (s' := ()) (ev_test (ev_op (s1 := ()) rfl rfl (by rw [pEq_i, decide_eq_true z]))) ?_) (fin _)))⟩
      have hce : cand pl e = (e.2.2, 1) := by unfold cand; rw [if_pos z]
      rw [hce]
      exact ev_set (ev_tup (ev_aC (s2 := ()) (ev_op (s2 := ()) rfl rfl (eP_1 _)) (ev_a1 rfl)))
    · have c1 := chN_bd ok hk hi
      have c2 := chD_bd ok hk z
      have b1 := mul_bd (a := e.1.2) (b := e.2.1 - e.1.1) (A := 12) (B := 12) y (by omega) (by omega) (by omega)
      refine ⟨_, _, ev_if_t (s' := ()) (by rw [ht, hi]) (ev_let (s1 := ()) (ev_op (s1 := ()) (ev_op (s2 := ()) rfl rfl (eP_0 _)) (ev_op (s2 := ()) rfl rfl (eP_0 _)) (pSub_i _ _)) (ev_seq (s' := ()) (ρ' := [C, some (eP pl), some (eP best), some (eP e.1), some (eP e.2), some (.int (e.2.1 - e.1.1)), some (eP (cand pl e))]) (ev_if_f (s' := ()) (ev_test (ev_op (s1 := ()) rfl rfl (by rw [pEq_i, decide_eq_false z]))) ?_) (fin _)))⟩
      have hce : cand pl e = lowQ (chN pl e.1 e.2) (chD pl e.1 e.2) := by unfold cand; rw [if_neg z]
      rw [hce]
      exact ev_set (ev_callF (xs := [.int (chN pl e.1 e.2), .int (chD pl e.1 e.2)]) (ev_aC (s1 := ()) (s2 := ()) (ev_op (s1 := ()) (ev_op (s1 := ()) (ev_op (s1 := ()) (ev_op (s2 := ()) rfl rfl (eP_1 _)) rfl (pMul_i (by omega))) (ev_op (s2 := ()) rfl rfl (eP_1 _)) (pMul_i (by omega))) (ev_op (s1 := ()) (ev_op (s1 := ()) (ev_op (s2 := ()) rfl rfl (eP_0 _)) (ev_op (s1 := ()) (ev_op (s2 := ()) rfl rfl (eP_0 _)) (ev_op (s2 := ()) rfl rfl (eP_1 _)) (pMul_i (by omega))) (pSub_i _ _)) (ev_op (s1 := ()) (ev_op (s2 := ()) rfl rfl (eP_1 _)) (ev_op (s2 := ()) rfl rfl (eP_1 _)) (pSub_i _ _)) (pMul_i (by omega))) (pAdd_i _ _)) (ev_a1 (ev_op (s1 := ()) rfl (ev_op (s2 := ()) rfl rfl (eP_1 _)) (pMul_i (by omega))))) (m_lowest_eq (d := chD pl e.1 e.2) c2.1 (by omega)))
theorem m_height_eq {C : List Pt} {pl : Pt} (h : OkPl pl) (hE : ∀ e ∈ edges C, OkE e) : m_height [encP C, eP pl] = .ok (eP (hof C pl)) := by
  refine mBody_of ?_
  unfold b_height
  refine ev_seq (s' := ()) (ρ' := [some (encP C), some (eP pl), some (eP (0, 1)), none, none, none, none]) rfl ?_
  obtain ⟨ρ', s', e, i⟩ := sForGo_inv (d := Unit) (bd := bTup (bCons (bNm 3) (bCons (bNm 4) bNil))) (body := gBody) (fun p : Pt × Pt => PyData.tuple [eP p.1, eP p.2])
    (fun pre ρ _ => ∃ a b c d, ρ = [some (encP C), some (eP pl), some (eP (hofL pre pl)), a, b, c, d]) (edges C) [] [some (encP C), some (eP pl), some (eP (0, 1)), none, none, none, none] () ⟨_, _, _, _, rfl⟩ fun pre e q ρ s hpq hi => by
      obtain ⟨a, b, c, d, rfl⟩ := hi
      rw [List.nil_append] at hpq
      have hnm := hofL_nm h pre fun x hx => hE x (by rw [hpq]; exact List.mem_append_left _ hx)
      obtain ⟨c', d', hb⟩ := gBody_eq h (hE e (by rw [hpq]; simp)) (some (encP C)) hnm c d
      refine ⟨_, _, (), rfl, hb, ⟨some (eP e.1), some (eP e.2), c', d', ?_⟩⟩
      rw [hofL_more]
  obtain ⟨a, b, c, d, rfl⟩ := i
  exact ev_seq (ev_for (s' := ()) (zip_it C rfl) e) rfl
theorem m_height1 {P : List Pt} (h : PtsOk P) {x : Int} (h0 : 0 ≤ x) (h1 : x ≤ 12) : m_height [encP P, eP (x, 1)] = .ok (eP (hof P (x, 1))) := m_height_eq (okPl1 h0 h1) (ptsE h)
theorem ownX_mem {P : List Pt} (h : PtsOk P) {x : Int} {p : Pt} (hp : p ∈ ownX P x) : Nm p := by
  unfold ownX at hp
  obtain ⟨q, hq, rfl⟩ := List.mem_map.mp hp
  have := h.rng q (List.mem_filter.mp hq).1
  exact ⟨by dsimp only; omega, by dsimp only; omega, low1 _⟩
theorem ahead_nm {P : List Pt} (h : PtsOk P) {x : Int} (h0 : 0 ≤ x) (h1 : x ≤ 12) : Nm (ahead P x) := by
  unfold ahead
  cases hh : (ownX P x).head? with
  | some p => exact ownX_mem h (x := x) (by cases ho : ownX P x with
      | nil => rw [ho] at hh; cases hh
      | cons a r => rw [ho] at hh; injection hh with hh; rw [← hh]; simp)
  | none => exact hof_nm (okPl1 h0 h1) (ptsE h)
theorem m_height_ahead_eq {P : List Pt} (h : PtsOk P) (hl : P.length ≤ 1000) {x : Int} (h0 : 0 ≤ x) (h1 : x ≤ 12) : m_height_ahead [encP P, .int x] = .ok (eP (ahead P x)) := by
  refine mBody_of (ev_let (s1 := ()) (v := encP (ownX P x)) (cComp_pureP P eP (fun p => decide (p.1 = x)) (fun p => (p.2, 1)) rfl (by omega) fun p _ => ⟨_, rfl, ev_test (ev_op rfl rfl (pEq_i _ _)), fun _ => ev_tup (ev_aC (s1 := ()) rfl (ev_a1 rfl))⟩) (ret_of ?_ rfl))
  unfold ahead
  cases ho : ownX P x with
  | nil => exact cIf_f (s1 := ()) (ev_test (ev_op (y := encP []) rfl rfl (pNe_encP_self []))) (ev_callF (xs := [encP P, eP (x, 1)]) rfl (m_height1 h h0 h1))
  | cons p r => exact cIf_t (s1 := ()) (ev_test (ev_op (y := encP []) rfl rfl (by rw [pNe_encP, decide_eq_false (by simp)]; rfl))) (ev_op rfl rfl (pIx_head eP (p :: r) p rfl))
/-! ### is_above, first_below -/
def nab (P Q : List Pt) (k : Nat) : Bool := ltQ (hof P ((k : Int), 1)) (hof Q ((k : Int), 1)) || (decide (0 < (k : Int)) && ltQ (ahead P (k : Int)) (ahead Q (k : Int)))
def isAb (P Q : List Pt) (S : Int) : Bool := !(List.range (S + 1).toNat).any (nab P Q)
theorem isAb_iff {P Q : List Pt} {S : Int} : isAb P Q S = true ↔ Abv P Q S := by
  unfold isAb
  rw [Bool.not_eq_true', List.any_eq_false]
  constructor
  · intro h
    refine ⟨fun x h0 h1 => ?_, fun x h0 h1 => ?_⟩
    · have := h x.toNat (List.mem_range.mpr (by omega))
      unfold nab at this
      rw [show ((x.toNat : Nat) : Int) = x by omega] at this
      simp only [Bool.or_eq_true, not_or, Bool.not_eq_true] at this
      exact ltQ_le.mp this.1
    · have := h (x + 1).toNat (List.mem_range.mpr (by omega))
      unfold nab at this
      rw [show (((x + 1).toNat : Nat) : Int) = x + 1 by omega] at this
      simp only [Bool.or_eq_true, not_or, Bool.not_eq_true] at this
      have := this.2
      rw [decide_eq_true (by omega), Bool.true_and] at this
      exact ltQ_le.mp this
  · intro A k hk
    have hk' := List.mem_range.mp hk
    unfold nab
    rw [ltQ_le.mpr (A.at_ k (by omega) (by omega)), Bool.false_or]
    by_cases z : 0 < (k : Int)
    · have := A.ahd ((k : Int) - 1) (by omega) (by omega)
      rw [show (k : Int) - 1 + 1 = k by omega] at this
      rw [ltQ_le.mpr this]
      simp
    · rw [decide_eq_false z]; simp
theorem top_it {d : Type} {P : List Pt} {l : Pt} (hl : P.getLast? = some l) (h0 : 0 ≤ l.1 ∧ l.1 ≤ 12) {ρ : Env} {s : d} (h : cVar 0 ρ s = .ok (encP P, s)) : iRg1 (aCons (cOp pAdd (cOp pIx (cOp pIx (cVar 0) (cUn pNeg (cC (.int 1)))) (cC (.int 0))) (cC (.int 1))) aNil) ρ s = .ok ((List.range (l.1 + 1).toNat).map fun (k : Nat) => PyData.int (k : Int), s) := by
  refine iRg1_n (ev_op (ev_op (ev_op h rfl (pIx_last eP P l hl)) rfl (eP_0 _)) rfl ?_) (by omega)
  rw [pAdd_i]
  congr 2
  omega
theorem less_ev {d : Type} {P Q : List Pt} (hP : PtsOk P) (hQ : PtsOk Q) {x : Int} (h0 : 0 ≤ x) (h1 : x ≤ 12) {ρ : Env} {s : d} (v0 : cVar 0 ρ s = .ok (encP P, s)) (v1 : cVar 1 ρ s = .ok (encP Q, s)) (v2 : cVar 2 ρ s = .ok (.int x, s)) :
    cTest (cCallF 2 m_less (aCons (cCallF 2 m_height (aCons (cVar 0) (aCons (cTup (aCons (cVar 2) (aCons (cC (.int 1)) aNil))) aNil))) (aCons (cCallF 2 m_height (aCons (cVar 1) (aCons (cTup (aCons (cVar 2) (aCons (cC (.int 1)) aNil))) aNil))) aNil))) ρ s = .ok (ltQ (hof P (x, 1)) (hof Q (x, 1)), s) :=
  have t : cTup (aCons (cVar 2) (aCons (cC (.int 1)) aNil)) ρ s = .ok (eP (x, 1), s) := ev_tup (ev_aC v2 (ev_a1 rfl))
  ev_test (ev_callF (ev_aC (ev_callF (ev_aC v0 (ev_a1 t)) (m_height1 hP h0 h1)) (ev_a1 (ev_callF (ev_aC v1 (ev_a1 t)) (m_height1 hQ h0 h1)))) (m_less_eq (hof_nm (okPl1 h0 h1) (ptsE hP)).b (hof_nm (okPl1 h0 h1) (ptsE hQ)).b))
def frb (P Q : List Pt) (S : Int) : Option Int := ((List.range (S + 1).toNat).find? fun (k : Nat) => ltQ (hof P ((k : Int), 1)) (hof Q ((k : Int), 1))).map fun (k : Nat) => (k : Int)
theorem m_first_below_eq {P Q : List Pt} (gP : CrvOk P) (gQ : CrvOk Q) {l : Pt} (lP : P.getLast? = some l) (lQ : Q.getLast? = some l) : m_first_below [encP P, encP Q] = .ok (encOI (frb P Q l.1)) := by
  have hP := gP.ok
  have hQ := gQ.ok
  have hlm : l ∈ P := List.mem_of_getLast? lP
  have hr := gP.rng l hlm
  refine mBody_of (ev_check (ev_callF (s1 := ()) rfl (m_check_both_eq gP gQ l lP lQ)) ?_)
  have key := sForGo_find (d := Unit) (bd := bNm 2) (body := (sIf (cTest (cCallF 2 m_less (aCons (cCallF 2 m_height (aCons (cVar 0) (aCons (cTup (aCons (cVar 2) (aCons (cC (.int 1)) aNil))) aNil))) (aCons (cCallF 2 m_height (aCons (cVar 1) (aCons (cTup (aCons (cVar 2) (aCons (cC (.int 1)) aNil))) aNil))) aNil))))
      (sRet (cVar 2))
      sNil)) (fun (k : Nat) => PyData.int (k : Int)) (fun (k : Nat) => ltQ (hof P ((k : Int), 1)) (hof Q ((k : Int), 1))) (fun (k : Nat) => PyData.int (k : Int)) (fun ρ => ∃ x, ρ = [some (encP P), some (encP Q), x]) () (List.range (l.1 + 1).toNat) [some (encP P), some (encP Q), none] ⟨none, rfl⟩ fun k hk ρ hρ => by
    obtain ⟨x, rfl⟩ := hρ
    have hk' := List.mem_range.mp hk
    have ht := less_ev (d := Unit) hP hQ (x := (k : Int)) (by omega) (by omega) (ρ := [some (encP P), some (encP Q), some (.int (k : Int))]) (s := ()) rfl rfl rfl
    exact ⟨[some (encP P), some (encP Q), some (.int (k : Int))], rfl, fun h => ev_if_t (s' := ()) (by rw [ht, h]) rfl, fun h => ⟨_, ⟨_, rfl⟩, ev_if_f (s' := ()) (by rw [ht, h]) rfl⟩⟩
  unfold frb
  cases hf : (List.range (l.1 + 1).toNat).find? fun (k : Nat) => ltQ (hof P ((k : Int), 1)) (hof Q ((k : Int), 1)) with
  | none =>
    rw [hf] at key
    obtain ⟨ρ', ⟨x, rfl⟩, e⟩ := key
    exact ev_seq (ev_for (s' := ()) (top_it lP ⟨hr.1, hr.2.1⟩ rfl) e) rfl
  | some k =>
    rw [hf] at key
    exact ev_seq_rt (ev_for (s' := ()) (top_it lP ⟨hr.1, hr.2.1⟩ rfl) key)
theorem m_is_above_eq {P Q : List Pt} (gP : CrvOk P) (gQ : CrvOk Q) {l : Pt} (lP : P.getLast? = some l) (lQ : Q.getLast? = some l) : m_is_above [encP P, encP Q] = .ok (.bool (isAb P Q l.1)) := by
  have hP := gP.ok
  have hQ := gQ.ok
  have hlm : l ∈ P := List.mem_of_getLast? lP
  have hr := gP.rng l hlm
  have nP := gP.l13
  have nQ := gQ.l13
  refine mBody_of (ev_check (ev_callF (s1 := ()) rfl (m_check_both_eq gP gQ l lP lQ)) ?_)
  have key := sForGo_find (d := Unit) (bd := bNm 2) (body := (sSeq (sIf (cTest (cCallF 2 m_less (aCons (cCallF 2 m_height (aCons (cVar 0) (aCons (cTup (aCons (cVar 2) (aCons (cC (.int 1)) aNil))) aNil))) (aCons (cCallF 2 m_height (aCons (cVar 1) (aCons (cTup (aCons (cVar 2) (aCons (cC (.int 1)) aNil))) aNil))) aNil))))
      (sRet (cC (.bool false)))
      sNil)
      (sIf (cAndT (cTest (cOp pGt (cVar 2) (cC (.int 0)))) (cTest (cCallF 2 m_less (aCons (cCallF 2 m_height_ahead (aCons (cVar 0) (aCons (cVar 2) aNil))) (aCons (cCallF 2 m_height_ahead (aCons (cVar 1) (aCons (cVar 2) aNil))) aNil)))))
      (sRet (cC (.bool false)))
      sNil))) (fun (k : Nat) => PyData.int (k : Int)) (nab P Q) (fun _ => PyData.bool false) (fun ρ => ∃ x, ρ = [some (encP P), some (encP Q), x]) () (List.range (l.1 + 1).toNat) [some (encP P), some (encP Q), none] ⟨none, rfl⟩ fun k hk ρ hρ => by
    obtain ⟨x, rfl⟩ := hρ
    have hk' := List.mem_range.mp hk
    have ht := less_ev (d := Unit) hP hQ (x := (k : Int)) (by omega) (by omega) (ρ := [some (encP P), some (encP Q), some (.int (k : Int))]) (s := ()) rfl rfl rfl
    have ht2 : cAndT (cTest (cOp pGt (cVar 2) (cC (.int 0)))) (cTest (cCallF 2 m_less (aCons (cCallF 2 m_height_ahead (aCons (cVar 0) (aCons (cVar 2) aNil))) (aCons (cCallF 2 m_height_ahead (aCons (cVar 1) (aCons (cVar 2) aNil))) aNil)))) [some (encP P), some (encP Q), some (.int (k : Int))] () = .ok (decide (0 < (k : Int)) && ltQ (ahead P (k : Int)) (ahead Q (k : Int)), ()) := by
      unfold cAndT
      rw [ev_test (b := decide (0 < (k : Int))) (s' := ()) (ev_op rfl rfl (pGt_i _ _)), bnd_ok]
      cases hz : decide (0 < (k : Int)) with
      | false => rfl
      | true => exact ev_test (ev_callF (ev_aC (s1 := ()) (ev_callF rfl (m_height_ahead_eq hP (by omega) (by omega) (by omega))) (ev_a1 (ev_callF rfl (m_height_ahead_eq hQ (by omega) (by omega) (by omega))))) (m_less_eq (ahead_nm hP (by omega) (by omega)).b (ahead_nm hQ (by omega) (by omega)).b))
    refine ⟨[some (encP P), some (encP Q), some (.int (k : Int))], rfl, fun h => ?_, fun h => ?_⟩
    · unfold nab at h
      cases h1 : ltQ (hof P ((k : Int), 1)) (hof Q ((k : Int), 1)) with
      | true => exact ev_seq_rt (ev_if_t (s' := ()) (by rw [ht, h1]) rfl)
      | false =>
        rw [h1, Bool.false_or] at h
        exact ev_guard (s1 := ()) (by rw [ht, h1]) (ev_if_t (s' := ()) (by rw [ht2, h]) rfl)
    · unfold nab at h
      rw [Bool.or_eq_false_iff] at h
      exact ⟨_, ⟨_, rfl⟩, ev_guard (s1 := ()) (by rw [ht, h.1]) (ev_if_f (s' := ()) (by rw [ht2, h.2]) rfl)⟩
  unfold isAb
  cases hf : (List.range (l.1 + 1).toNat).find? (nab P Q) with
  | none =>
    rw [hf] at key
    obtain ⟨ρ', ⟨x, rfl⟩, e⟩ := key
    have : (List.range (l.1 + 1).toNat).any (nab P Q) = false := List.any_eq_false.mpr fun x hx => List.find?_eq_none.mp hf x hx
    rw [this]
    exact ev_seq (ev_for (s' := ()) (top_it lP ⟨hr.1, hr.2.1⟩ rfl) e) rfl
  | some k =>
    rw [hf] at key
    have : (List.range (l.1 + 1).toNat).any (nab P Q) = true := List.any_eq_true.mpr ⟨k, List.mem_of_find?_eq_some hf, by have := List.find?_some hf; exact this⟩
    rw [this]
    exact ev_seq_rt (ev_for (s' := ()) (top_it lP ⟨hr.1, hr.2.1⟩ rfl) key)
theorem m__law_minus_eq (p : Pt) : m__law_minus [eP p] = .ok (eP (0 - p.1, p.2)) :=
  mBody_of (ret_of (ev_tup (ev_aC (s1 := ()) (ev_op rfl (ev_op rfl rfl (eP_0 _)) (pSub_i _ _)) (ev_a1 (ev_op rfl rfl (eP_1 _))))) rfl)
/-! ### the law's areas -/
theorem abv_refl (P : List Pt) (S : Int) : Abv P P S := ⟨fun _ _ _ => Int.le_refl _, fun _ _ _ => Int.le_refl _⟩
theorem m__law_areas_eq {T U : List Th} (gT : GoodT T) (gU : GoodT U) (hc : cnt U 0 = cnt T 0) : m__law_areas [encT T, encT U, encP (pts T), encP (pts U), .bool (isAb (pts T) (pts U) (fa T 0))] = .ok (.bool true) := by
  have oT := pts_ok gT
  have oU := pts_ok gU
  have lT := pts_last gT
  have lU := pts_last gU
  rw [hc] at lU
  have oH := hull_crv oT
  have HH := oT.ok.hull
  have lH : (crn (pts T)).getLast? = some (cnt T 0) := by
    have := HH.lst
    rw [this, lT]
  have hr := cnt_rng gT 0
  have hne := cnt0_ne gT
  have o2 := crv2 hr.1 hr.2.1 hr.2.2 hne
  have hfl : (cnt T 0).1 ≤ 12 := by omega
  have hix := pts_area gT
  have hli : ∀ ρ : Env, cVar 2 ρ () = .ok (encP (pts T), ()) → cLst (aCons (cTup (aCons (cC (.int 0)) (aCons (cC (.int 0)) aNil))) (aCons (cOp pIx (cVar 2) (cUn pNeg (cC (.int 1)))) aNil)) ρ () = .ok (encP [(0, 0), cnt T 0], ()) := fun ρ h => ev_lst (ev_aC (s1 := ()) rfl (ev_a1 (ev_op h rfl hix)))
  refine mBody_of (ev_let (s1 := ()) (v := .int (twA (pts T) - twA (pts U))) (ev_callF rfl (m_area_difference_eq oT oU _ lT lU)) ?_)
  refine ev_guard (s1 := ()) (ev_test (ev_op (s1 := ()) (y := .int (twA (pts T) - twA (pts U))) rfl (ev_op (s1 := ()) (ev_op (s1 := ()) (ev_callF (ev_aC rfl (ev_a1 (hli _ rfl))) (m_area_difference_eq oU o2 _ lU rfl)) rfl (y := .int (-1)) (z := .int ((twA (pts U) - twA [(0, 0), cnt T 0]) * -1)) ?_) (ev_callF (ev_aC rfl (ev_a1 (hli _ rfl))) (m_area_difference_eq oT o2 _ lT rfl)) ?_) (pNe_i_self _))) ?_
  · show (if mulOk _ _ = true then _ else _) = _
    rw [if_pos (by unfold mulOk; simp)]
  · rw [pAdd_i]
    congr 2
    omega
  refine ev_guard (s1 := ()) (ev_or_f (s' := ()) ?_ (ev_or_f (s' := ()) (ev_test (ev_op (s1 := ()) (x := .bool true) (ev_callF (ev_aC (ev_callF rfl (m_hull_eq gT)) (ev_a1 rfl)) ?_) rfl rfl)) (ev_test (ev_op (s1 := ()) (x := .bool true) (ev_callF rfl ?_) rfl rfl)))) ?_
  · unfold cAndT
    rw [ev_test (b := isAb (pts T) (pts U) (fa T 0)) (s' := ()) rfl, bnd_ok]
    cases hb : isAb (pts T) (pts U) (fa T 0) with
    | false => rfl
    | true =>
      have A : Abv (pts T) (pts U) (cnt T 0).1 := isAb_iff.mp hb
      have := A.area oT.ok oU.ok lT lU
      exact ev_test (ev_op (s1 := ()) rfl rfl (by rw [pLt_i, decide_eq_false (by omega)]))
  · rw [m_is_above_eq oH oT lH lT, isAb_iff.mpr (hull_above oT.ok HH oH.ok lT lH hfl)]
  · rw [m_is_above_eq oT oT lT lT, isAb_iff.mpr (abv_refl _ _)]
  refine ev_guard (s1 := ()) ?_ ?_
  · unfold cAndT
    rw [ev_test (b := isAb (pts T) (pts U) (cnt T 0).1) (s' := ()) (ev_op (s1 := ()) (y := .bool true) (ev_callF rfl (m_is_above_eq oT oU lT lU)) rfl (by cases isAb (pts T) (pts U) (cnt T 0).1 <;> rfl)), bnd_ok]
    cases hb : isAb (pts T) (pts U) (cnt T 0).1 with
    | false => rfl
    | true =>
      rw [if_pos rfl, ev_test (b := isAb (pts U) (pts T) (cnt T 0).1) (s' := ()) (ev_op (s1 := ()) (y := .bool true) (ev_callF rfl (m_is_above_eq oU oT lU lT)) rfl (by cases isAb (pts U) (pts T) (cnt T 0).1 <;> rfl)), bnd_ok]
      cases hb2 : isAb (pts U) (pts T) (cnt T 0).1 with
      | false => rfl
      | true =>
        have a1 := (isAb_iff.mp hb).area oT.ok oU.ok lT lU
        have a2 := (isAb_iff.mp hb2).area oU.ok oT.ok lU lT
        exact ev_test (ev_op (s1 := ()) rfl rfl (by rw [pNe_i, decide_eq_true (by omega)]; rfl))
  refine ev_unp (s1 := ()) (ev_callF rfl (m_pair_counts_eq gT)) rfl (ev_unp (s1 := ()) (ev_callF rfl (m_pair_counts_eq gU)) rfl (ret_of (ev_and (s1 := ()) (ev_op (s1 := ()) (y := .int (twA (pts T) - twA (pts U))) rfl (ev_op (s1 := ()) (ev_op (s1 := ()) (ev_op (s1 := ()) (ev_op rfl rfl (pMul_i (by decide))) rfl (pAdd_i _ _)) (ev_op rfl rfl (pMul_i (by decide))) (pSub_i _ _)) rfl ?_) (by rw [pEq_i, decide_eq_true rfl])) (ev_op (s1 := ()) (ev_callF (ev_aC (ev_callF rfl (m_hull_eq gT)) (ev_a1 rfl)) (m_area_difference_eq oH oT _ lH lT)) (ev_callF rfl (m_waste_eq gT)) (by rw [pEq_i, decide_eq_true rfl]))) rfl))
  rw [pSub_i, tw_pts gT, tw_pts gU]
  congr 2
  omega
end DL

/-! NF: pools as chains of places -/
namespace DL
open PySem PySem.Spec PyProof.Rows L2
local macro_rules | `(tactic| walk_at "ev") => `(tactic| simp only [szL, Nat.reduceLeDiff, mBody, mBodyD, outP, outD, cVar, cC, cOp, cUn, cTest, cAndT, cOrT, cNotT, cAndV, cOrV, cIf, aNil, aCons, cTup, cLst, cSl, oNone, oSome, cCall, cCallF, cCallD, cMeth, noX', isL_list, isL_encP, tYesD, bnd_ok, bnd_exc, bnd_bad, lft_ok, lft_exc, lft_bad, isOk_ok, isOk_exc, isOk_bad, isD_int, isD_bool, isD_none, isD_str, isD_list, isD_tuple, isD_eP, isD_eT, isD_encP, isD_encT, allD, List.all_cons, List.all_nil, Bool.and_self, Bool.and_true, Bool.true_and, if_true, if_false, Bool.false_eq_true, ite_true, ite_false, reduceIte, List.length_cons, List.length_nil, List.map_cons, List.map_nil, List.cons_append, List.nil_append, List.replicate_succ, List.replicate_zero, List.getElem?_cons_zero, List.getElem?_cons_succ, List.set_cons_zero, List.set_cons_succ, wipeD, sSeq, sSet, sAsg, sRet, sIf, sExpr, sNil, sRaise, sSetF, sApp, sAug, sAugL, sPar, sPar3, fLst, bNm, bTup, bCons, bNil, pNot, pIsi, isiT, tyN, pNeg, Nat.reduceAdd, decide_true, decide_false, Bool.not_true, Bool.not_false, noX_ok, pLe_i, pLt_i, pGt_i, pGe_i, pAdd_i, pSub_i, pLen_l, pLen_t, pIx_t0, pIx_t1, pEq_i, pNe_i])
local macro_rules | `(tactic| walk_at "evs") => `(tactic| simp [szL, mBody, mBodyD, outP, outD, cVar, cC, cOp, cUn, cTest, cAndT, cOrT, cNotT, cAndV, cOrV, cIf, aNil, aCons, cTup, cLst, cSl, oNone, oSome, cCall, cCallF, cCallD, cMeth, noX', isL_list, isL_encP, tYesD, bnd_ok, bnd_exc, bnd_bad, lft_ok, lft_exc, lft_bad, isOk_ok, isOk_exc, isOk_bad, isD_int, isD_bool, isD_none, isD_str, isD_list, isD_tuple, isD_eP, isD_eT, isD_encP, isD_encT, allD, List.all_cons, List.all_nil, List.map_cons, List.map_nil, List.cons_append, List.nil_append, List.replicate_succ, List.replicate_zero, List.getElem?_cons_zero, List.getElem?_cons_succ, List.set_cons_zero, List.set_cons_succ, wipeD, sSeq, sSet, sAsg, sRet, sIf, sExpr, sNil, sRaise, sSetF, sApp, sAug, sAugL, sPar, sPar3, fLst, bNm, bTup, bCons, bNil, pNot, pIsi, isiT, tyN, pNeg, noX_ok, pLe_i, pLt_i, pGt_i, pGe_i, pAdd_i, pSub_i, pLen_l, pLen_t, pIx_t0, pIx_t1, pEq_i, pNe_i])
local macro_rules | `(tactic| walk_at "evx") => `(tactic| simp [szL, mBody, mBodyD, outP, outD, cVar, cC, cOp, cUn, cTest, cAndT, cOrT, cNotT, cAndV, cOrV, cIf, aNil, aCons, cTup, cLst, cSl, oNone, oSome, cCall, cCallF, cCallD, cMeth, noX', isL_list, isL_encP, tYesD, bnd_ok, bnd_exc, bnd_bad, lft_ok, lft_exc, lft_bad, isOk_ok, isOk_exc, isOk_bad, isD_int, isD_bool, isD_none, isD_str, isD_list, isD_tuple, isD_eP, isD_eT, isD_encP, isD_encT, allD, List.all_cons, List.all_nil, List.map_cons, List.map_nil, List.cons_append, List.nil_append, List.replicate_succ, List.replicate_zero, List.getElem?_cons_zero, List.getElem?_cons_succ, List.set_cons_zero, List.set_cons_succ, wipeD, sSeq, sSet, sAsg, sRet, sIf, sExpr, sNil, sRaise, sSetF, sApp, sAug, sAugL, sPar, sPar3, fLst, bNm, bTup, bCons, bNil, pNot, pIsi, isiT, tyN, pNeg, noX_ok, pLe_i, pLt_i, pGt_i, pGe_i, pAdd_i, pSub_i, pLen_l, pLen_t, pIx_t0, pIx_t1, pEq_i, pNe_i, *])
/-! ### neighbours -/
def edg {a : Type} (C : List a) : List (a × a) := C.zip (C.drop 1)
theorem edg_cons {a : Type} (x y : a) (r : List a) : edg (x :: y :: r) = (x, y) :: edg (y :: r) := rfl
theorem edg_mid {a : Type} (y : List a) (b : a) : ∀ (x : List a) (c : a), edg (x ++ c :: b :: y) = edg (x ++ [c]) ++ (c, b) :: edg (b :: y)
  | [], c => rfl
  | [d], c => rfl
  | d :: e :: x, c => by
    have := edg_mid y b (e :: x) c
    show (d, e) :: edg (e :: x ++ c :: b :: y) = ((d, e) :: edg (e :: x ++ [c])) ++ _
    rw [this]
    rfl
theorem edg_len {a : Type} (C : List a) : (edg C).length = C.length - 1 := by
  unfold edg
  rw [List.length_zip, List.length_drop]
  omega
theorem edg_map {a b : Type} (f : a → b) (C : List a) : edg (C.map f) = (edg C).map fun e => (f e.1, f e.2) := by
  unfold edg
  rw [← List.map_drop, List.zip_map]
  rfl
theorem edg_mem {a : Type} {C : List a} {e : a × a} : e ∈ edg C → ∃ x y, C = x ++ e.1 :: e.2 :: y := by
  induction C with
  | nil => intro h; simp [edg] at h
  | cons c C ih =>
    cases C with
    | nil => intro h; simp [edg] at h
    | cons d C =>
      intro h
      rw [edg_cons] at h
      rcases List.mem_cons.mp h with z | z
      · subst z; exact ⟨[], C, rfl⟩
      · obtain ⟨x, y, ec⟩ := ih z
        exact ⟨c :: x, y, by rw [ec]; rfl⟩
/-! ### pools between two places of the curve -/
abbrev Q4 := Int × Int × Int × Int
def scA (T : List Th) (i : Nat) : Int := (scs T).getD i 0
def ptA (T : List Th) (i : Nat) : Pt := gt (pts T) i
def plv (T : List Th) (e : Nat × Nat) : Q4 := (scA T (e.2 - 1), scA T e.1, (ptA T e.2).1 - (ptA T e.1).1, (ptA T e.2).2 - (ptA T e.1).2)
def l4 (q : Q4) : PD := .list [.int q.1, .int q.2.1, .int q.2.2.1, .int q.2.2.2]
def e4 (q : Q4) : PD := .tuple [.int q.1, .int q.2.1, .int q.2.2.1, .int q.2.2.2]
theorem l4_0 (q : Q4) : pIx (l4 q) (.int 0) = .ok (.int q.1) := rfl
theorem l4_1 (q : Q4) : pIx (l4 q) (.int 1) = .ok (.int q.2.1) := rfl
theorem l4_2 (q : Q4) : pIx (l4 q) (.int 2) = .ok (.int q.2.2.1) := rfl
theorem l4_3 (q : Q4) : pIx (l4 q) (.int 3) = .ok (.int q.2.2.2) := rfl
theorem e4_0 (q : Q4) : pIx (e4 q) (.int 0) = .ok (.int q.1) := rfl
theorem e4_1 (q : Q4) : pIx (e4 q) (.int 1) = .ok (.int q.2.1) := rfl
theorem e4_2 (q : Q4) : pIx (e4 q) (.int 2) = .ok (.int q.2.2.1) := rfl
theorem e4_3 (q : Q4) : pIx (e4 q) (.int 3) = .ok (.int q.2.2.2) := rfl
theorem ptA_0 (T : List Th) : ptA T 0 = (0, 0) := rfl
theorem ptA_succ {T : List Th} {i : Nat} (h : i < (scs T).length) : ptA T (i + 1) = cnt T (scA T i) := by
  unfold ptA gt pts scA
  rw [List.getD_cons_succ, List.getD_eq_getElem?_getD, List.getElem?_map, List.getElem?_eq_getElem h, List.getD_eq_getElem?_getD, List.getElem?_eq_getElem h]
  rfl
theorem ptA_mem {T : List Th} {i : Nat} (h : i ≤ (scs T).length) : ptA T i ∈ pts T := gt_mem (by rw [pts_len]; omega)
theorem ptA_bd {T : List Th} (g : GoodT T) {i : Nat} (h : i ≤ (scs T).length) : 0 ≤ (ptA T i).1 ∧ (ptA T i).1 ≤ 12 ∧ 0 ≤ (ptA T i).2 ∧ (ptA T i).2 ≤ 12 := by
  have := pts_rng g _ (ptA_mem h)
  omega
theorem scs_get {T : List Th} {i : Nat} (h : i < (scs T).length) : (scs T)[i]? = some (scA T i) := by
  unfold scA
  rw [List.getD_eq_getElem?_getD, List.getElem?_eq_getElem h]
  rfl
theorem rng_scA (T : List Th) : (List.range (scs T).length).map (scA T) = scs T := by
  apply List.ext_getElem?
  intro i
  rw [List.getElem?_map]
  by_cases h : i < (scs T).length
  · rw [List.getElem?_range h, scs_get h]; rfl
  · rw [List.getElem?_eq_none (by simpa using h), List.getElem?_eq_none (by omega)]; rfl
theorem scs_map {b : Type} (T : List Th) (f : Int → b) : (scs T).map f = (List.range (scs T).length).map fun i => f (scA T i) := by
  have : ((List.range (scs T).length).map (scA T)).map f = (List.range (scs T).length).map fun i => f (scA T i) := by
    rw [List.map_map]; rfl
  rw [← this, rng_scA]
/-! ### levels -/
theorem m_levels_eq {T : List Th} (g : GoodT T) : m_levels [encT T] = .ok (.list ((List.range (scs T).length).map fun i => l4 (plv T (i, i + 1)))) := by
  have hsl := scs_len T
  have hg := g.l2
  refine mBody_of (ev_seq (s' := ()) (ρ' := [some (encT T), some (.list []), none, none, none]) rfl (ev_let (s1 := ()) (v := eP (0, 0)) rfl ?_))
  obtain ⟨ρ', s', e, i⟩ := sForGo_inv (d := Unit) (bd := bNm 3) (body := (sSeq (sSet 4 (cCallF 2 m_counts (aCons (cVar 0) (aCons (cVar 3) aNil))))
      (sSeq (sApp 1 (cLst (aCons (cVar 3) (aCons (cVar 3) (aCons (cOp pSub (cOp pIx (cVar 4) (cC (.int 0))) (cOp pIx (cVar 2) (cC (.int 0)))) (aCons (cOp pSub (cOp pIx (cVar 4) (cC (.int 1))) (cOp pIx (cVar 2) (cC (.int 1)))) aNil))))))
      (sSet 2 (cVar 4))))) (fun (i : Nat) => PyData.int (scA T i)) (fun pre ρ _ => pre = List.range pre.length ∧ ∃ x3 x4, ρ = [some (encT T), some (.list (pre.map fun i => l4 (plv T (i, i + 1)))), some (eP (ptA T pre.length)), x3, x4]) (List.range (scs T).length) [] [some (encT T), some (.list []), some (eP (0, 0)), none, none] () ⟨rfl, none, none, rfl⟩ fun pre i q ρ s hpq hi => by
    obtain ⟨hpr, x3, x4, rfl⟩ := hi
    obtain ⟨hi1, hi2⟩ := rng_pre hpq
    have hii : i = pre.length := by
      have h1 : (List.range (scs T).length)[pre.length]? = some i := by
        rw [List.nil_append] at hpq
        rw [hpq, List.getElem?_append_right (Nat.le_refl _)]
        simp
      rw [List.getElem?_range hi2] at h1
      injection h1 with h1
      exact h1.symm
    subst hii
    refine ⟨_, [some (encT T), some (.list ((pre ++ [pre.length]).map fun i => l4 (plv T (i, i + 1)))), some (eP (ptA T (pre ++ [pre.length]).length)), some (.int (scA T pre.length)), some (eP (ptA T (pre.length + 1)))], (), rfl, ?_, ⟨?_, _, _, rfl⟩⟩
    · refine ev_let (s1 := ()) (v := eP (ptA T (pre.length + 1))) (ev_callF rfl (by rw [m_counts_eq g.l1000, ← ptA_succ hi1])) ?_
      refine ev_seq (s' := ()) (ev_app (i := 1) (x := l4 (plv T (pre.length, pre.length + 1))) rfl (ev_lst (ev_aC (s1 := ()) rfl (ev_aC (s1 := ()) rfl (ev_aC (s1 := ()) (ev_op (ev_op rfl rfl (eP_0 _)) (ev_op rfl rfl (eP_0 _)) (pSub_i _ _)) (ev_a1 (ev_op (ev_op rfl rfl (eP_1 _)) (ev_op rfl rfl (eP_1 _)) (pSub_i _ _))))))) rfl (by rw [List.length_map]; omega)) ?_
      rw [List.map_append, List.length_append]
      rfl
    · rw [List.length_append, List.length_singleton, List.range_succ]
      conv => lhs; rw [hpr]
      rw [List.length_range]
  obtain ⟨_, x3, x4, rfl⟩ := i
  refine ev_seq (ev_for (s' := ()) (ev_iLst (ev_callF rfl (by rw [m_scores_of_eq g.l64, scs_map]))) e) rfl
/-! ### two neighbouring pools -/
def Sq4 (q : Q4) : Prop := 0 ≤ q.2.2.1 ∧ q.2.2.1 ≤ 1000 ∧ 0 ≤ q.2.2.2 ∧ q.2.2.2 ≤ 1000
def fall (p q : Q4) : Bool := decide (q.2.2.2 * (p.2.2.1 + p.2.2.2) < p.2.2.2 * (q.2.2.1 + q.2.2.2))
theorem m_falls_eq {p q : Q4} (hp : Sq4 p) (hq : Sq4 q) : m_falls [l4 p, l4 q] = .ok (.bool (fall p q)) := by
  obtain ⟨a1, a2, a3, a4⟩ := hp
  obtain ⟨b1, b2, b3, b4⟩ := hq
  exact mBody_of (ret_of (ev_op (s1 := ()) (ev_op (s1 := ()) (ev_op rfl rfl (l4_3 _)) (ev_op (s1 := ()) (ev_op rfl rfl (l4_2 _)) (ev_op rfl rfl (l4_3 _)) (pAdd_i _ _)) (pMul_i (by omega))) (ev_op (s1 := ()) (ev_op rfl rfl (l4_3 _)) (ev_op (s1 := ()) (ev_op rfl rfl (l4_2 _)) (ev_op rfl rfl (l4_3 _)) (pAdd_i _ _)) (pMul_i (by omega))) (pLt_i _ _)) rfl)
def put (p q : Q4) : Q4 := (q.1, p.2.1, p.2.2.1 + q.2.2.1, p.2.2.2 + q.2.2.2)
theorem m_put_together_eq (p q : Q4) : m_put_together [l4 p, l4 q] = .ok (l4 (put p q)) :=
  mBody_of (ret_of (ev_lst (ev_aC (s1 := ()) (ev_op rfl rfl (l4_0 _)) (ev_aC (s1 := ()) (ev_op rfl rfl (l4_1 _)) (ev_aC (s1 := ()) (ev_op (s1 := ()) (ev_op rfl rfl (l4_2 _)) (ev_op rfl rfl (l4_2 _)) (pAdd_i _ _)) (ev_a1 (ev_op (s1 := ()) (ev_op rfl rfl (l4_3 _)) (ev_op rfl rfl (l4_3 _)) (pAdd_i _ _))))))) rfl)
theorem put_plv (T : List Th) (a b c : Nat) : put (plv T (a, b)) (plv T (b, c)) = plv T (a, c) := by
  unfold put plv
  dsimp only
  congr 3 <;> omega
theorem fall_turn (T : List Th) (a b c : Nat) : fall (plv T (a, b)) (plv T (b, c)) = decide (turn (ptA T a) (ptA T b) (ptA T c) < 0) := by
  unfold fall plv turn
  dsimp only
  congr 1
  generalize (ptA T a).1 = a1
  generalize (ptA T a).2 = a2
  generalize (ptA T b).1 = b1
  generalize (ptA T b).2 = b2
  generalize (ptA T c).1 = c1
  generalize (ptA T c).2 = c2
  refine propext ⟨fun h => ?_, fun h => ?_⟩
  · grind
  · grind
/-! ### the stack of places -/
def popI (T : List Th) : List Nat → Nat → List Nat
  | b :: a :: r, k => if 0 ≤ turn (ptA T a) (ptA T b) (ptA T k) then popI T (a :: r) k else b :: a :: r
  | st, _ => st
theorem popI_map (T : List Th) (k : Nat) : ∀ st : List Nat, (popI T st k).map (ptA T) = pop (st.map (ptA T)) (ptA T k)
  | [] => rfl
  | [_] => rfl
  | b :: a :: r => by
    have ih := popI_map T k (a :: r)
    rw [List.map_cons, List.map_cons] at *
    unfold popI pop
    split
    · exact ih
    · rfl
theorem popI_len (T : List Th) (k : Nat) : ∀ st : List Nat, (popI T st k).length ≤ st.length
  | [] => Nat.le_refl _
  | [_] => Nat.le_refl _
  | b :: a :: r => by
    have ih := popI_len T k (a :: r)
    unfold popI
    split
    · simp only [List.length_cons] at ih ⊢; omega
    · exact Nat.le_refl _
theorem popI_mem (T : List Th) (k x : Nat) : ∀ st : List Nat, x ∈ popI T st k → x ∈ st
  | [], h => h
  | [_], h => h
  | b :: a :: r, h => by
    have ih := popI_mem T k x (a :: r)
    unfold popI at h
    split at h
    · exact List.mem_cons_of_mem _ (ih h)
    · exact h
def stI (T : List Th) (ks : List Nat) : List Nat := ks.foldl (fun st k => k :: popI T st k) [0]
def ixF (T : List Th) : List Nat := (stI T ((List.range (scs T).length).map (· + 1))).reverse
theorem stI_map (T : List Th) : ∀ (ks : List Nat) (st : List Nat), (ks.foldl (fun st k => k :: popI T st k) st).map (ptA T) = (ks.map (ptA T)).foldl (fun st p => p :: pop st p) (st.map (ptA T))
  | [], _ => rfl
  | k :: ks, st => by
    rw [List.foldl_cons, List.map_cons, List.foldl_cons, stI_map T ks (k :: popI T st k), List.map_cons, popI_map]
theorem ixF_map (T : List Th) : (ixF T).map (ptA T) = crn (pts T) := by
  unfold ixF stI crn
  rw [List.map_reverse, stI_map]
  congr 1
  have e : pts T = (0, 0) :: ((List.range (scs T).length).map (· + 1)).map (ptA T) := by
    unfold pts
    congr 1
    rw [List.map_map, scs_map]
    refine List.map_congr_left fun i hi => ?_
    have hi' := List.mem_range.mp hi
    show cnt T (scA T i) = ptA T (i + 1)
    rw [ptA_succ hi']
  conv => rhs; rw [e, List.foldl_cons]
  rfl
theorem stI_snoc (T : List Th) (ks : List Nat) (k : Nat) : stI T (ks ++ [k]) = k :: popI T (stI T ks) k := by
  unfold stI
  rw [List.foldl_append]
  rfl
end DL

/-! NG: pooled, evaluated; corners by themselves -/
namespace DL
open PySem PySem.Spec PyProof.Rows L2
local macro_rules | `(tactic| walk_at "ev") => `(tactic| simp only [szL, Nat.reduceLeDiff, mBody, mBodyD, outP, outD, cVar, cC, cOp, cUn, cTest, cAndT, cOrT, cNotT, cAndV, cOrV, cIf, aNil, aCons, cTup, cLst, cSl, oNone, oSome, cCall, cCallF, cCallD, cMeth, noX', isL_list, isL_encP, tYesD, bnd_ok, bnd_exc, bnd_bad, lft_ok, lft_exc, lft_bad, isOk_ok, isOk_exc, isOk_bad, isD_int, isD_bool, isD_none, isD_str, isD_list, isD_tuple, isD_eP, isD_eT, isD_encP, isD_encT, allD, List.all_cons, List.all_nil, Bool.and_self, Bool.and_true, Bool.true_and, if_true, if_false, Bool.false_eq_true, ite_true, ite_false, reduceIte, List.length_cons, List.length_nil, List.map_cons, List.map_nil, List.cons_append, List.nil_append, List.replicate_succ, List.replicate_zero, List.getElem?_cons_zero, List.getElem?_cons_succ, List.set_cons_zero, List.set_cons_succ, wipeD, sSeq, sSet, sAsg, sRet, sIf, sExpr, sNil, sRaise, sSetF, sApp, sAug, sAugL, sPar, sPar3, fLst, bNm, bTup, bCons, bNil, pNot, pIsi, isiT, tyN, pNeg, Nat.reduceAdd, decide_true, decide_false, Bool.not_true, Bool.not_false, noX_ok, pLe_i, pLt_i, pGt_i, pGe_i, pAdd_i, pSub_i, pLen_l, pLen_t, pIx_t0, pIx_t1, pEq_i, pNe_i])
local macro_rules | `(tactic| walk_at "evs") => `(tactic| simp [szL, mBody, mBodyD, outP, outD, cVar, cC, cOp, cUn, cTest, cAndT, cOrT, cNotT, cAndV, cOrV, cIf, aNil, aCons, cTup, cLst, cSl, oNone, oSome, cCall, cCallF, cCallD, cMeth, noX', isL_list, isL_encP, tYesD, bnd_ok, bnd_exc, bnd_bad, lft_ok, lft_exc, lft_bad, isOk_ok, isOk_exc, isOk_bad, isD_int, isD_bool, isD_none, isD_str, isD_list, isD_tuple, isD_eP, isD_eT, isD_encP, isD_encT, allD, List.all_cons, List.all_nil, List.map_cons, List.map_nil, List.cons_append, List.nil_append, List.replicate_succ, List.replicate_zero, List.getElem?_cons_zero, List.getElem?_cons_succ, List.set_cons_zero, List.set_cons_succ, wipeD, sSeq, sSet, sAsg, sRet, sIf, sExpr, sNil, sRaise, sSetF, sApp, sAug, sAugL, sPar, sPar3, fLst, bNm, bTup, bCons, bNil, pNot, pIsi, isiT, tyN, pNeg, noX_ok, pLe_i, pLt_i, pGt_i, pGe_i, pAdd_i, pSub_i, pLen_l, pLen_t, pIx_t0, pIx_t1, pEq_i, pNe_i])
local macro_rules | `(tactic| walk_at "evx") => `(tactic| simp [szL, mBody, mBodyD, outP, outD, cVar, cC, cOp, cUn, cTest, cAndT, cOrT, cNotT, cAndV, cOrV, cIf, aNil, aCons, cTup, cLst, cSl, oNone, oSome, cCall, cCallF, cCallD, cMeth, noX', isL_list, isL_encP, tYesD, bnd_ok, bnd_exc, bnd_bad, lft_ok, lft_exc, lft_bad, isOk_ok, isOk_exc, isOk_bad, isD_int, isD_bool, isD_none, isD_str, isD_list, isD_tuple, isD_eP, isD_eT, isD_encP, isD_encT, allD, List.all_cons, List.all_nil, List.map_cons, List.map_nil, List.cons_append, List.nil_append, List.replicate_succ, List.replicate_zero, List.getElem?_cons_zero, List.getElem?_cons_succ, List.set_cons_zero, List.set_cons_succ, wipeD, sSeq, sSet, sAsg, sRet, sIf, sExpr, sNil, sRaise, sSetF, sApp, sAug, sAugL, sPar, sPar3, fLst, bNm, bTup, bCons, bNil, pNot, pIsi, isiT, tyN, pNeg, noX_ok, pLe_i, pLt_i, pGt_i, pGe_i, pAdd_i, pSub_i, pLen_l, pLen_t, pIx_t0, pIx_t1, pEq_i, pNe_i, *])
theorem ptA_up {T : List Th} (g : GoodT T) {i j : Nat} (h : i < j) (hj : j ≤ (scs T).length) : Up (ptA T i) (ptA T j) := by
  have hl := pts_len T
  have h1 : i < (pts T).length := by omega
  have h2 : j < (pts T).length := by omega
  have := List.pairwise_iff_getElem.mp (pts_up g) i j h1 h2 h
  have e1 := gt_get h1
  have e2 := gt_get h2
  rw [List.getElem?_eq_getElem h1] at e1
  rw [List.getElem?_eq_getElem h2] at e2
  injection e1 with e1
  injection e2 with e2
  unfold ptA
  rw [← e1, ← e2]
  exact this
theorem plv_sq {T : List Th} (g : GoodT T) {i j : Nat} (h : i < j) (hj : j ≤ (scs T).length) : Sq4 (plv T (i, j)) ∧ (0 < (plv T (i, j)).2.2.1 + (plv T (i, j)).2.2.2) ∧ (plv T (i, j)).2.2.1 + (plv T (i, j)).2.2.2 ≤ 12 := by
  have u := ptA_up g h hj
  have b1 := ptA_bd g (i := i) (by omega)
  have b2 := ptA_bd g hj
  have b3 := pts_rng g _ (ptA_mem (T := T) hj)
  have h1 := u.x
  have h2 := u.y
  have h3 := u.nz
  unfold Sq4 plv
  dsimp only
  omega
/-! ### slices -/
theorem cut_neg2 {a : Type} (xs : List a) (y z : a) : cutD (xs ++ [y, z]) none (some (-2)) = xs := by
  unfold cutD
  have h : HT.sIx (xs ++ [y, z]).length (xs ++ [y, z]).length (some (-2)) = xs.length := by
    unfold HT.sIx
    simp
    omega
  rw [HT.sIx_none, h, List.drop_zero, Nat.sub_zero, List.take_left]
def fnd (T : List Th) (st : List Nat) : PD := .list ((edg st.reverse).map fun e => l4 (plv T e))
def pTest : Env → Unit → R (Bool × Unit) := (cAndT (cTest (cOp pGe (cCall pLen (aCons (cVar 1) aNil)) (cC (.int 2)))) (cNotT (cTest (cCallF 2 m_falls (aCons (cOp pIx (cVar 1) (cUn pNeg (cC (.int 2)))) (aCons (cOp pIx (cVar 1) (cUn pNeg (cC (.int 1)))) aNil))))))
def pBody : Env → Unit → R (Fl × Unit) := (sSetF 1 (fCat (cSl pSl (cVar 1) oNone (oSome (cUn pNeg (cC (.int 2))))) (cLst (aCons (cCallF 2 m_put_together (aCons (cOp pIx (cVar 1) (cUn pNeg (cC (.int 2)))) (aCons (cOp pIx (cVar 1) (cUn pNeg (cC (.int 1)))) aNil))) aNil))))
theorem edg_3 (r : List Nat) (k b a : Nat) : edg (k :: b :: a :: r).reverse = edg (r.reverse ++ [a]) ++ [(a, b), (b, k)] := by
  rw [show (k :: b :: a :: r).reverse = r.reverse ++ a :: b :: [k] by simp, edg_mid]
  rfl
theorem edg_2 (r : List Nat) (k a : Nat) : edg (k :: a :: r).reverse = edg (r.reverse ++ [a]) ++ [(a, k)] := by
  rw [show (k :: a :: r).reverse = r.reverse ++ a :: [k] by simp, edg_mid]
  rfl
theorem last2 {a : Type} (e : a → PD) (xs : List a) (y z : a) : pIx (.list ((xs ++ [y, z]).map e)) (.int (-2)) = .ok (e y) ∧ pIx (.list ((xs ++ [y, z]).map e)) (.int (-1)) = .ok (e z) := by
  constructor
  · refine pIx_neg e (xs ++ [y, z]) 2 y (by omega) (by simp) ?_
    rw [show (xs ++ [y, z]).length - 2 = xs.length by simp, List.getElem?_append_right (Nat.le_refl _)]
    simp
  · refine pIx_neg e (xs ++ [y, z]) 1 z (by omega) (by simp) ?_
    rw [show (xs ++ [y, z]).length - 1 = xs.length + 1 by simp, List.getElem?_append_right (by omega)]
    simp
theorem pLoop_eq {T : List Th} (g : GoodT T) (X L : Option PD) (k : Nat) (hk : k ≤ (scs T).length) : ∀ (st : List Nat) (n : Nat), (k :: st).Pairwise (· > ·) → st.length + 2 ≤ n → sWhGo pTest pBody n [X, some (fnd T (k :: st)), L] () = .ok (.nx [X, some (fnd T (k :: popI T st k)), L], ())
  | st, 0, _, h => by omega
  | [], n + 1, _, _ => by
    unfold sWhGo
    rw [show pTest [X, some (fnd T [k]), L] () = .ok (false, ()) from rfl, bnd_ok]
    rfl
  | [a], n + 1, _, _ => by
    unfold sWhGo
    rw [show pTest [X, some (fnd T [k, a]), L] () = .ok (false, ()) from rfl, bnd_ok]
    rfl
  | b :: a :: r, n + 1, hp, h => by
    have hp1 := List.pairwise_cons.mp hp
    have hp2 := List.pairwise_cons.mp hp1.2
    have hkb := hp1.1 b (by simp)
    have hba := hp2.1 a (by simp)
    have hka := hp1.1 a (by simp)
    have q1 := (plv_sq g (i := a) (j := b) (by omega) (by omega)).1
    have q2 := (plv_sq g (i := b) (j := k) (by omega) (by omega)).1
    have hfd : fnd T (k :: b :: a :: r) = .list ((edg (r.reverse ++ [a]) ++ [(a, b), (b, k)]).map fun e => l4 (plv T e)) := by
      unfold fnd; rw [edg_3]
    obtain ⟨i1, i2⟩ := last2 (fun e => l4 (plv T e)) (edg (r.reverse ++ [a])) (a, b) (b, k)
    rw [← hfd] at i1 i2
    have hlen : pLen [fnd T (k :: b :: a :: r)] = .ok (.int (((edg (r.reverse ++ [a])).length : Int) + 2)) := by
      rw [hfd, pLen_l, List.length_map, List.length_append]
      congr 2
    have hf : cTest (cCallF 2 m_falls (aCons (cOp pIx (cVar 1) (cUn pNeg (cC (.int 2)))) (aCons (cOp pIx (cVar 1) (cUn pNeg (cC (.int 1)))) aNil))) [X, some (fnd T (k :: b :: a :: r)), L] () = .ok (decide (turn (ptA T a) (ptA T b) (ptA T k) < 0), ()) := by
      rw [← fall_turn]
      exact ev_test (ev_callF (ev_aC (s1 := ()) (ev_op rfl rfl i1) (ev_a1 (ev_op rfl rfl i2))) (m_falls_eq q1 q2))
    have ht : pTest [X, some (fnd T (k :: b :: a :: r)), L] () = .ok (!decide (turn (ptA T a) (ptA T b) (ptA T k) < 0), ()) := by
      unfold pTest
      exact ev_and_t (s' := ()) (ev_test (ev_op (s1 := ()) (ev_call (ev_a1 rfl) hlen) rfl (by rw [pGe_i, decide_eq_true (by omega)]))) (ev_not hf)
    unfold sWhGo popI
    rw [ht, bnd_ok]
    by_cases t : 0 ≤ turn (ptA T a) (ptA T b) (ptA T k)
    · rw [if_pos (by rw [decide_eq_false (by omega)]; rfl), if_pos t]
      have hb : pBody [X, some (fnd T (k :: b :: a :: r)), L] () = .ok (.nx [X, some (fnd T (k :: a :: r)), L], ()) := by
        unfold pBody sSetF fCat
        have s1 : cSl pSl (cVar 1) oNone (oSome (cUn pNeg (cC (.int 2)))) [X, some (fnd T (k :: b :: a :: r)), L] () = .ok (.list ((edg (r.reverse ++ [a])).map fun e => l4 (plv T e)), ()) := by
          unfold cSl
          show lft (isOk (pSl (fnd T (k :: b :: a :: r)) none (some (-2)))) () = _
          rw [hfd, List.map_append]
          show R.ok (PyData.list (cutD ((edg (r.reverse ++ [a])).map (fun e => l4 (plv T e)) ++ [l4 (plv T (a, b)), l4 (plv T (b, k))]) none (some (-2))), ()) = _
          rw [cut_neg2]
        have s2 : cLst (aCons (cCallF 2 m_put_together (aCons (cOp pIx (cVar 1) (cUn pNeg (cC (.int 2)))) (aCons (cOp pIx (cVar 1) (cUn pNeg (cC (.int 1)))) aNil))) aNil) [X, some (fnd T (k :: b :: a :: r)), L] () = .ok (.list [l4 (plv T (a, k))], ()) := by
          refine ev_lst (ev_a1 (ev_callF (ev_aC (s1 := ()) (ev_op rfl rfl i1) (ev_a1 (ev_op rfl rfl i2))) ?_))
          rw [m_put_together_eq, put_plv]
        rw [s1, bnd_ok, s2, bnd_ok]
        dsimp only
        rw [if_pos, bnd_ok]
        · have : fnd T (k :: a :: r) = .list ((edg (r.reverse ++ [a])).map (fun e => l4 (plv T e)) ++ [l4 (plv T (a, k))]) := by
            unfold fnd
            rw [edg_2, List.map_append]
            rfl
          rw [this]
          rfl
        · rw [List.length_map, edg_len, szL]
          have : (r.reverse ++ [a]).length ≤ (scs T).length + 2 := by
            have hpr := hp2.2
            have : ∀ (l : List Nat) (m : Nat), l.Pairwise (· > ·) → (∀ x ∈ l, x < m) → l.length ≤ m := fun l => by
              induction l with
              | nil => intro m _ _; exact Nat.zero_le _
              | cons x l ih =>
                intro m hp hm
                have hp' := List.pairwise_cons.mp hp
                have := ih x hp'.2 fun y hy => hp'.1 y hy
                have := hm x (by simp)
                rw [List.length_cons]; omega
            have := this (a :: r) b hpr fun x hx => hp2.1 x hx
            simp only [List.length_append, List.length_reverse, List.length_cons, List.length_nil] at this ⊢
            omega
          have := scs_len T
          have := g.l2
          simp only [List.length_cons, List.length_nil]
          omega
      rw [hb]
      exact pLoop_eq g X L k hk (a :: r) n (List.pairwise_cons.mpr ⟨fun x hx => hp1.1 x (List.mem_cons_of_mem _ hx), hp2.2⟩) (by simp only [List.length_cons] at h ⊢; omega)
    · rw [if_neg (by rw [decide_eq_true (by omega)]; simp), if_neg t]
theorem popI_pw (T : List Th) (k : Nat) : ∀ st : List Nat, (k :: st).Pairwise (· > ·) → (k :: popI T st k).Pairwise (· > ·)
  | [], h => h
  | [_], h => h
  | b :: a :: r, h => by
    unfold popI
    split
    · have h1 := List.pairwise_cons.mp h
      have h2 := List.pairwise_cons.mp h1.2
      exact popI_pw T k (a :: r) (List.pairwise_cons.mpr ⟨fun x hx => h1.1 x (List.mem_cons_of_mem _ hx), h2.2⟩)
    · exact h
theorem popI_last (T : List Th) (k : Nat) : ∀ st : List Nat, (popI T st k).getLast? = st.getLast?
  | [] => rfl
  | [_] => rfl
  | b :: a :: r => by
    have := popI_last T k (a :: r)
    unfold popI
    split
    · rw [this]; simp
    · rfl
def ks (i : Nat) : List Nat := (List.range i).map (· + 1)
theorem ks_succ (i : Nat) : ks (i + 1) = ks i ++ [i + 1] := by
  unfold ks
  rw [List.range_succ, List.map_append]
  rfl
/-- the stack behind i levels -/
theorem stI_inv (T : List Th) : ∀ i : Nat, (stI T (ks i)).Pairwise (· > ·) ∧ (stI T (ks i)).head? = some i ∧ (stI T (ks i)).getLast? = some 0
  | 0 => ⟨List.pairwise_singleton .., rfl, rfl⟩
  | i + 1 => by
    obtain ⟨h1, h2, h3⟩ := stI_inv T i
    rw [ks_succ, stI_snoc]
    have hp : ((i + 1) :: stI T (ks i)).Pairwise (· > ·) := by
      refine List.pairwise_cons.mpr ⟨fun x hx => ?_, h1⟩
      cases hs : stI T (ks i) with
      | nil => rw [hs] at h2; cases h2
      | cons y r =>
        rw [hs] at h1 h2 hx
        injection h2 with h2
        subst h2
        rcases List.mem_cons.mp hx with z | z
        · omega
        · have := (List.pairwise_cons.mp h1).1 x z; omega
    refine ⟨popI_pw T (i + 1) _ hp, rfl, ?_⟩
    have hl := popI_last T (i + 1) (stI T (ks i))
    rw [h3] at hl
    cases hq : popI T (stI T (ks i)) (i + 1) with
    | nil => rw [hq] at hl; cases hl
    | cons y r => rw [hq] at hl; rw [List.getLast?_cons_cons]; exact hl
theorem m_pooled_eq {T : List Th} (g : GoodT T) : m_pooled [encT T] = .ok (.list ((edg (ixF T)).map fun e => l4 (plv T e))) := by
  have hsl := scs_len T
  have hg := g.l2
  refine mBody_of (ev_seq (s' := ()) (ρ' := [some (encT T), some (.list []), none]) rfl ?_)
  obtain ⟨ρ', s', e, i⟩ := sForGo_inv (d := Unit) (bd := bNm 2) (body := (sSeq (sApp 1 (cVar 2)) (sWhile (fuLen 1) pTest pBody))) (fun (i : Nat) => l4 (plv T (i, i + 1))) (fun pre ρ _ => pre = List.range pre.length ∧ ∃ x2, ρ = [some (encT T), some (fnd T (stI T (ks pre.length))), x2]) (List.range (scs T).length) [] [some (encT T), some (.list []), none] () ⟨rfl, none, rfl⟩ fun pre i q ρ s hpq hi => by
    obtain ⟨hpr, x2, rfl⟩ := hi
    obtain ⟨hi1, hi2⟩ := rng_pre hpq
    have hii : i = pre.length := by
      have h1 : (List.range (scs T).length)[pre.length]? = some i := by
        rw [List.nil_append] at hpq
        rw [hpq, List.getElem?_append_right (Nat.le_refl _)]
        simp
      rw [List.getElem?_range hi2] at h1
      injection h1 with h1
      exact h1.symm
    subst hii
    obtain ⟨p1, p2, p3⟩ := stI_inv T pre.length
    obtain ⟨r, hr⟩ : ∃ r, stI T (ks pre.length) = pre.length :: r := by
      cases hs : stI T (ks pre.length) with
      | nil => rw [hs] at p2; cases p2
      | cons y r => rw [hs] at p2; injection p2 with p2; subst p2; exact ⟨r, rfl⟩
    have hp : ((pre.length + 1) :: stI T (ks pre.length)).Pairwise (· > ·) := by
      refine List.pairwise_cons.mpr ⟨fun x hx => ?_, p1⟩
      rw [hr] at hx p1
      rcases List.mem_cons.mp hx with z | z
      · omega
      · have := (List.pairwise_cons.mp p1).1 x z; omega
    have hlen : (stI T (ks pre.length)).length ≤ pre.length + 1 := by
      have gen : ∀ i : Nat, (stI T (ks i)).length ≤ i + 1 := fun i => by
        induction i with
        | zero => exact Nat.le_refl _
        | succ i ih =>
          rw [ks_succ, stI_snoc, List.length_cons]
          have := popI_len T (i + 1) (stI T (ks i))
          omega
      exact gen _
    have happ : sApp 1 (cVar 2) [some (encT T), some (fnd T (stI T (ks pre.length))), some (l4 (plv T (pre.length, pre.length + 1)))] () = .ok (.nx [some (encT T), some (fnd T ((pre.length + 1) :: stI T (ks pre.length))), some (l4 (plv T (pre.length, pre.length + 1)))], ()) := by
      refine (ev_app (i := 1) (s1 := ()) (x := l4 (plv T (pre.length, pre.length + 1))) rfl rfl rfl (by rw [List.length_map, edg_len, List.length_reverse]; omega)).trans ?_
      have : fnd T ((pre.length + 1) :: stI T (ks pre.length)) = .list ((edg (stI T (ks pre.length)).reverse).map (fun e => l4 (plv T e)) ++ [l4 (plv T (pre.length, pre.length + 1))]) := by
        unfold fnd
        rw [hr, edg_2, List.map_append, List.reverse_cons]
        rfl
      rw [this]
      rfl
    refine ⟨_, [some (encT T), some (fnd T (stI T (ks (pre ++ [pre.length]).length))), some (l4 (plv T (pre.length, pre.length + 1)))], (), rfl, ev_seq happ ?_, ⟨?_, _, rfl⟩⟩
    · unfold sWhile
      rw [show fuLen 1 [some (encT T), some (fnd T ((pre.length + 1) :: stI T (ks pre.length))), some (l4 (plv T (pre.length, pre.length + 1)))] = (edg ((pre.length + 1) :: stI T (ks pre.length)).reverse).length + 2 by
        show ((edg _).map _).length + 2 = _
        rw [List.length_map]]
      rw [pLoop_eq g (some (encT T)) (some (l4 (plv T (pre.length, pre.length + 1)))) (pre.length + 1) (by omega) _ _ hp (by rw [edg_len, List.length_reverse, List.length_cons]; omega)]
      rw [List.length_append, List.length_singleton, ks_succ, stI_snoc]
    · rw [List.length_append, List.length_singleton, List.range_succ]
      conv => lhs; rw [hpr]
      rw [List.length_range]
  obtain ⟨_, x2, rfl⟩ := i
  refine ev_seq (ev_for (s' := ()) (ev_iLst (ev_callF rfl (m_levels_eq g))) e) ?_
  rw [List.nil_append, List.length_range]
  rfl
/-! ### corners, by themselves -/
theorem slope_lt' {u1 u2 v1 v2 w1 w2 : Int} (hu1 : 0 ≤ u1) (hu2 : 0 ≤ u2) (hw1 : 0 ≤ w1) (hw2 : 0 ≤ w2) (hv1 : 0 ≤ v1) (hv2 : 0 ≤ v2) (hu : u1 ≠ 0 ∨ u2 ≠ 0) (h1 : u1 * v2 ≤ u2 * v1) (h2 : v1 * w2 < v2 * w1) : u1 * w2 < u2 * w1 := by
  have := slope_lt (u1 := w2) (u2 := w1) (v1 := v2) (v2 := v1) (w1 := u2) (w2 := u1) hw2 hw1 hu2 hu1 hv2 hv1 (by omega) (by grind) (by grind)
  grind
theorem corner_turn {u q v a c : Pt} (huq : Up u q) (hqv : Up q v) (haq : Up a q) (hqc : Up q c) (t : turn u q v < 0) (ta : turn u q a ≤ 0) (tc : turn q v c ≤ 0) : turn a q c < 0 := by
  have s1 := slope_lt (u1 := q.1 - u.1) (u2 := q.2 - u.2) (v1 := v.1 - q.1) (v2 := v.2 - q.2) (w1 := c.1 - q.1) (w2 := c.2 - q.2) huq.x huq.y hqc.x hqc.y hqv.x hqv.y hqc.nz (by unfold turn at t; grind) (by unfold turn at tc; grind)
  have s2 := slope_lt' (u1 := q.1 - a.1) (u2 := q.2 - a.2) (v1 := q.1 - u.1) (v2 := q.2 - u.2) (w1 := c.1 - q.1) (w2 := c.2 - q.2) haq.x haq.y hqc.x hqc.y huq.x huq.y haq.nz (by unfold turn at ta; grind) s1
  unfold turn
  grind
theorem between {q : Pt} : ∀ (C : List Pt) (a l : Pt), C.head? = some a → C.getLast? = some l → UpE a q → UpE q l → q ∉ C → (∀ b ∈ C, UpE b q ∨ Up q b) → ∃ e ∈ edges C, Up e.1 q ∧ Up q e.2
  | [], a, l, h, _, _, _, _, _ => by cases h
  | [x], a, l, h, h2, h3, h4, h5, _ => by
    injection h with h
    subst h
    have hl : x = l := by injection h2
    subst hl
    exact absurd (by rw [h4.antisymm h3]; simp) h5
  | x :: b :: r, a, l, h, h2, h3, h4, h5, h6 => by
    injection h with h
    subst h
    have hxq : Up x q := by
      rcases h3 with z | z
      · exact absurd (by rw [← z]; simp) h5
      · exact z
    rcases h6 b (by simp) with z | z
    · obtain ⟨e, he, u1, u2⟩ := between (b :: r) b l rfl (by rw [List.getLast?_cons_cons] at h2; exact h2) z h4 (fun w => h5 (List.mem_cons_of_mem _ w)) fun c hc => h6 c (List.mem_cons_of_mem _ hc)
      exact ⟨e, by rw [edges_cons]; exact List.mem_cons_of_mem _ he, u1, u2⟩
    · exact ⟨(x, b), by rw [edges_cons]; simp, hxq, z⟩
theorem corner_iff {Q C : List Pt} (hQ : Q.Pairwise Up) (H : Hull Q C) {q : Pt} : q ∈ C ↔ q ∈ Q ∧ ∀ a ∈ Q, ∀ c ∈ Q, Up a q → Up q c → turn a q c < 0 := by
  have hCu := H.up
  constructor
  · intro hq
    refine ⟨H.mem hq, fun a ha c hc haq hqc => ?_⟩
    obtain ⟨x, y, ec⟩ := List.append_of_mem hq
    rcases List.eq_nil_or_concat x with hx | ⟨x', u, hx⟩
    · exfalso
      rw [hx] at ec
      have h1 := H.hd
      rw [ec] at h1
      have := pw_first hQ (p := q) h1.symm a ha
      exact this.anti haq
    · cases y with
      | nil =>
        exfalso
        have h1 := H.lst
        rw [ec] at h1
        have := pw_last hQ (p := q) (by rw [← h1]; simp) c hc
        exact this.anti hqc
      | cons v y =>
        have ec2 : C = x' ++ u :: q :: v :: y := by rw [ec, hx]; simp
        have t := H.turn3 ec2
        have e1 := H.edge (x := x') (y := v :: y) ec2
        have e2 := H.edge (x := x' ++ [u]) (y := y) (a := q) (b := v) (by rw [ec2]; simp)
        exact corner_turn e1.1 e2.1 haq hqc t (e1.2 a ha) (e2.2 c hc)
  · rintro ⟨hq, h⟩
    refine Classical.byContradiction fun hn => ?_
    have hne : Q ≠ [] := fun z => by rw [z] at hq; cases hq
    obtain ⟨a, ha⟩ : ∃ a, Q.head? = some a := by
      cases Q with
      | nil => exact absurd rfl hne
      | cons a r => exact ⟨a, rfl⟩
    obtain ⟨l, hl⟩ : ∃ l, Q.getLast? = some l := by
      cases hz : Q.getLast? with
      | none => rw [List.getLast?_eq_none_iff] at hz; exact absurd hz hne
      | some l => exact ⟨l, rfl⟩
    obtain ⟨e, he, u1, u2⟩ := between C a l (H.hd.trans ha) (H.lst.trans hl) (pw_first hQ ha q hq) (pw_last hQ hl q hq) hn fun b hb => pw_tot hQ q hq b (H.mem hb)
    obtain ⟨xs, ys, ec⟩ := mem_edges.mp he
    have hm := edge_mem he
    have t1 := h e.1 (H.mem hm.1) e.2 (H.mem hm.2) u1 u2
    have t2 := (H.edge ec).2 q hq
    unfold turn at t1 t2
    grind
end DL

/-! NB: things turned over, exchanged, led -/
namespace DL
open PySem PySem.Spec PyProof.Rows L2
local macro_rules | `(tactic| walk_at "ev") => `(tactic| simp only [szL, Nat.reduceLeDiff, mBody, mBodyD, outP, outD, cVar, cC, cOp, cUn, cTest, cAndT, cOrT, cNotT, cAndV, cOrV, cIf, aNil, aCons, cTup, cLst, cSl, oNone, oSome, cCall, cCallF, cCallD, cMeth, noX', isL_list, isL_encP, tYesD, bnd_ok, bnd_exc, bnd_bad, lft_ok, lft_exc, lft_bad, isOk_ok, isOk_exc, isOk_bad, isD_int, isD_bool, isD_none, isD_str, isD_list, isD_tuple, isD_eP, isD_eT, isD_encP, isD_encT, allD, List.all_cons, List.all_nil, Bool.and_self, Bool.and_true, Bool.true_and, if_true, if_false, Bool.false_eq_true, ite_true, ite_false, reduceIte, List.length_cons, List.length_nil, List.map_cons, List.map_nil, List.cons_append, List.nil_append, List.replicate_succ, List.replicate_zero, List.getElem?_cons_zero, List.getElem?_cons_succ, List.set_cons_zero, List.set_cons_succ, wipeD, sSeq, sSet, sAsg, sRet, sIf, sExpr, sNil, sRaise, sSetF, sApp, sAug, sAugL, sPar, sPar3, fLst, bNm, bTup, bCons, bNil, pNot, pIsi, isiT, tyN, pNeg, Nat.reduceAdd, decide_true, decide_false, Bool.not_true, Bool.not_false, noX_ok, pLe_i, pLt_i, pGt_i, pGe_i, pAdd_i, pSub_i, pLen_l, pLen_t, pIx_t0, pIx_t1, pEq_i, pNe_i])
local macro_rules | `(tactic| walk_at "evs") => `(tactic| simp [szL, mBody, mBodyD, outP, outD, cVar, cC, cOp, cUn, cTest, cAndT, cOrT, cNotT, cAndV, cOrV, cIf, aNil, aCons, cTup, cLst, cSl, oNone, oSome, cCall, cCallF, cCallD, cMeth, noX', isL_list, isL_encP, tYesD, bnd_ok, bnd_exc, bnd_bad, lft_ok, lft_exc, lft_bad, isOk_ok, isOk_exc, isOk_bad, isD_int, isD_bool, isD_none, isD_str, isD_list, isD_tuple, isD_eP, isD_eT, isD_encP, isD_encT, allD, List.all_cons, List.all_nil, List.map_cons, List.map_nil, List.cons_append, List.nil_append, List.replicate_succ, List.replicate_zero, List.getElem?_cons_zero, List.getElem?_cons_succ, List.set_cons_zero, List.set_cons_succ, wipeD, sSeq, sSet, sAsg, sRet, sIf, sExpr, sNil, sRaise, sSetF, sApp, sAug, sAugL, sPar, sPar3, fLst, bNm, bTup, bCons, bNil, pNot, pIsi, isiT, tyN, pNeg, noX_ok, pLe_i, pLt_i, pGt_i, pGe_i, pAdd_i, pSub_i, pLen_l, pLen_t, pIx_t0, pIx_t1, pEq_i, pNe_i])
local macro_rules | `(tactic| walk_at "evx") => `(tactic| simp [szL, mBody, mBodyD, outP, outD, cVar, cC, cOp, cUn, cTest, cAndT, cOrT, cNotT, cAndV, cOrV, cIf, aNil, aCons, cTup, cLst, cSl, oNone, oSome, cCall, cCallF, cCallD, cMeth, noX', isL_list, isL_encP, tYesD, bnd_ok, bnd_exc, bnd_bad, lft_ok, lft_exc, lft_bad, isOk_ok, isOk_exc, isOk_bad, isD_int, isD_bool, isD_none, isD_str, isD_list, isD_tuple, isD_eP, isD_eT, isD_encP, isD_encT, allD, List.all_cons, List.all_nil, List.map_cons, List.map_nil, List.cons_append, List.nil_append, List.replicate_succ, List.replicate_zero, List.getElem?_cons_zero, List.getElem?_cons_succ, List.set_cons_zero, List.set_cons_succ, wipeD, sSeq, sSet, sAsg, sRet, sIf, sExpr, sNil, sRaise, sSetF, sApp, sAug, sAugL, sPar, sPar3, fLst, bNm, bTup, bCons, bNil, pNot, pIsi, isiT, tyN, pNeg, noX_ok, pLe_i, pLt_i, pGt_i, pGe_i, pAdd_i, pSub_i, pLen_l, pLen_t, pIx_t0, pIx_t1, pEq_i, pNe_i, *])
theorem up_irr {p : Pt} (h : Up p p) : False := h.2.2 rfl
theorem up_ext : ∀ {l m : List Pt}, l.Pairwise Up → m.Pairwise Up → (∀ p, p ∈ l ↔ p ∈ m) → l = m
  | [], [], _, _, _ => rfl
  | [], y :: m, _, _, h => by have := (h y).mpr (by simp); simp at this
  | x :: l, [], _, _, h => by have := (h x).mp (by simp); simp at this
  | x :: l, y :: m, h1, h2, h => by
    have p1 := List.pairwise_cons.mp h1
    have p2 := List.pairwise_cons.mp h2
    have e : x = y := by
      rcases List.mem_cons.mp ((h x).mp (by simp)) with z | z
      · exact z
      · rcases List.mem_cons.mp ((h y).mpr (by simp)) with w | w
        · exact w.symm
        · exact (up_irr ((p2.1 x z).trans (p1.1 y w))).elim
    subst e
    congr 1
    refine up_ext p1.2 p2.2 fun k => ⟨fun hk => ?_, fun hk => ?_⟩
    · rcases List.mem_cons.mp ((h k).mp (List.mem_cons_of_mem _ hk)) with z | z
      · subst z; exact (up_irr (p1.1 _ hk)).elim
      · exact z
    · rcases List.mem_cons.mp ((h k).mpr (List.mem_cons_of_mem _ hk)) with z | z
      · subst z; exact (up_irr (p2.1 _ hk)).elim
      · exact z
def ov (x : Th) : Th := (99 - x.1, x.2)
def ex (x : Th) : Th := (x.1, !x.2)
theorem ov_good {T : List Th} (g : GoodT T) : GoodT (T.map ov) := ⟨by rw [List.length_map]; exact g.l1, by rw [List.length_map]; exact g.l2, fun x hx => by
  obtain ⟨y, hy, rfl⟩ := List.mem_map.mp hx
  have := g.sc y hy
  show 0 ≤ 99 - y.1 ∧ 99 - y.1 ≤ 99
  omega⟩
theorem ex_good {T : List Th} (g : GoodT T) : GoodT (T.map ex) := ⟨by rw [List.length_map]; exact g.l1, by rw [List.length_map]; exact g.l2, fun x hx => by
  obtain ⟨y, hy, rfl⟩ := List.mem_map.mp hx
  exact g.sc y hy⟩
theorem encT_map {f : Th → Th} (T : List Th) : PyData.list (T.map fun x => eT (f x)) = encT (T.map f) := by
  unfold encT
  rw [List.map_map]
  rfl
theorem m_turned_over_eq {T : List Th} (g : GoodT T) : m_turned_over [encT T] = .ok (encT (T.map ov)) := by
  have hg := g.l2
  refine mBody_of (ev_check (ev_callF (s1 := ()) rfl (m_check_things_eq g)) (ret_of ?_ rfl))
  rw [← encT_map]
  exact cComp_map T eT (fun x => eT (ov x)) rfl (by omega) fun x _ => ⟨_, rfl, ev_tup (ev_aC (s1 := ()) (ev_op rfl rfl (pSub_i _ _)) (ev_a1 rfl)), rfl⟩
theorem m_exchanged_eq {T : List Th} (g : GoodT T) : m_exchanged [encT T] = .ok (encT (T.map ex)) := by
  have hg := g.l2
  refine mBody_of (ev_check (ev_callF (s1 := ()) rfl (m_check_things_eq g)) (ret_of ?_ rfl))
  rw [← encT_map]
  exact cComp_map T eT (fun x => eT (ex x)) rfl (by omega) fun x _ => ⟨_, rfl, ev_tup (ev_aC (s1 := ()) rfl (ev_a1 (ev_un rfl rfl))), rfl⟩
theorem pr_map (r q : Int → Int → Bool) {f : Th → Th} {T : List Th} (h : ∀ x ∈ T, ∀ y ∈ T, pf r (f x) (f y) = pf q x y) : pr r (T.map f) (T.map f) = pr q T T := by
  rw [pr_sum, pr_sum, List.map_map]
  refine sum_map_congr fun y hy => ?_
  show ((T.map f).map fun x => pf r x (f y)).sum = _
  rw [List.map_map]
  exact sum_map_congr fun x hx => h x hx y hy
theorem pr_ov (T : List Th) : pr rgt (T.map ov) (T.map ov) = pr rlt T T ∧ pr req (T.map ov) (T.map ov) = pr req T T ∧ pr rlt (T.map ov) (T.map ov) = pr rgt T T := by
  refine ⟨pr_map _ _ fun x _ y _ => ?_, pr_map _ _ fun x _ y _ => ?_, pr_map _ _ fun x _ y _ => ?_⟩
  · unfold pf ov rgt rlt
    dsimp only
    rw [show decide (99 - y.1 < 99 - x.1) = decide (x.1 < y.1) from by congr 1; exact propext ⟨fun h => by omega, fun h => by omega⟩]
  · unfold pf ov req
    dsimp only
    rw [show decide (99 - x.1 = 99 - y.1) = decide (x.1 = y.1) from by congr 1; exact propext ⟨fun h => by omega, fun h => by omega⟩]
  · unfold pf ov rgt rlt
    dsimp only
    rw [show decide (99 - x.1 < 99 - y.1) = decide (y.1 < x.1) from by congr 1; exact propext ⟨fun h => by omega, fun h => by omega⟩]
theorem pr_exq (r q : Int → Int → Bool) (h : ∀ a b, r a b = q b a) (T : List Th) : pr r (T.map ex) (T.map ex) = pr q T T := by
  rw [pr_sum, pr_sum, List.map_map, ← sum_swap (fun x y => pf q x y)]
  refine sum_map_congr fun y hy => ?_
  show ((T.map ex).map fun x => pf r x (ex y)).sum = _
  rw [List.map_map]
  refine sum_map_congr fun x hx => ?_
  show pf r (ex x) (ex y) = pf q y x
  unfold pf ex
  dsimp only
  rw [h]
  cases x.2 <;> cases y.2 <;> rfl
theorem pr_ex (T : List Th) : pr rgt (T.map ex) (T.map ex) = pr rlt T T ∧ pr req (T.map ex) (T.map ex) = pr req T T ∧ pr rlt (T.map ex) (T.map ex) = pr rgt T T := by
  refine ⟨pr_exq _ _ (fun a b => rfl) T, pr_exq _ _ (fun a b => ?_) T, pr_exq _ _ (fun a b => rfl) T⟩
  unfold req
  congr 1
  exact propext ⟨Eq.symm, Eq.symm⟩
theorem fa_map {f : Th → Th} (hf : ∀ x, (f x).2 = x.2) {T : List Th} {t u : Int} (h : ∀ x ∈ T, t ≤ (f x).1 ↔ u ≤ x.1) : cnt (T.map f) t = cnt T u := by
  unfold cnt
  rw [fa_sum, tr_sum, fa_sum, tr_sum, List.map_map, List.map_map]
  have e : ∀ x ∈ T, decide (t ≤ (f x).1) = decide (u ≤ x.1) := fun x hx => by
    by_cases z : u ≤ x.1
    · rw [decide_eq_true z, decide_eq_true ((h x hx).mpr z)]
    · rw [decide_eq_false z, decide_eq_false fun w => z ((h x hx).mp w)]
  congr 1
  · refine sum_map_congr fun x hx => ?_
    show bI (decide (t ≤ (f x).1) && !(f x).2) = _
    rw [e x hx, hf]
  · refine sum_map_congr fun x hx => ?_
    show bI (decide (t ≤ (f x).1) && (f x).2) = _
    rw [e x hx, hf]
def flipP (T : List Th) (p : Pt) : Pt := (fa T 0 - p.1, tr T 0 - p.2)
theorem cnt_ov {T : List Th} (g : GoodT T) (t : Int) : cnt (T.map ov) t = flipP T (cnt T (100 - t)) := by
  have h1 : fa (T.map ov) t + fa T (100 - t) = fa T 0 := by
    rw [fa_sum, fa_sum, fa_sum, List.map_map, ← sum_map_add]
    refine sum_map_congr fun x hx => ?_
    have := g.sc x hx
    show bI (decide (t ≤ 99 - x.1) && !x.2) + bI (decide (100 - t ≤ x.1) && !x.2) = bI (decide (0 ≤ x.1) && !x.2)
    by_cases z : 100 - t ≤ x.1
    · rw [decide_eq_true z, decide_eq_false (by omega), decide_eq_true this.1]
      simp [bI]
    · rw [decide_eq_false z, decide_eq_true (by omega), decide_eq_true this.1]
      simp [bI]
  have h2 : tr (T.map ov) t + tr T (100 - t) = tr T 0 := by
    rw [tr_sum, tr_sum, tr_sum, List.map_map, ← sum_map_add]
    refine sum_map_congr fun x hx => ?_
    have := g.sc x hx
    show bI (decide (t ≤ 99 - x.1) && x.2) + bI (decide (100 - t ≤ x.1) && x.2) = bI (decide (0 ≤ x.1) && x.2)
    by_cases z : 100 - t ≤ x.1
    · rw [decide_eq_true z, decide_eq_false (by omega), decide_eq_true this.1]
      simp [bI]
    · rw [decide_eq_false z, decide_eq_true (by omega), decide_eq_true this.1]
      simp [bI]
  exact Prod.ext (by show fa (T.map ov) t = fa T 0 - fa T (100 - t); omega) (by show tr (T.map ov) t = tr T 0 - tr T (100 - t); omega)
theorem pts_ov {T : List Th} (g : GoodT T) : pts (T.map ov) = ((pts T).map (flipP T)).reverse := by
  refine up_ext (pts_up (ov_good g)) ?_ fun p => ?_
  · rw [List.pairwise_reverse, List.pairwise_map]
    refine List.Pairwise.imp (fun {a b} h => ?_) (pts_up g)
    obtain ⟨h1, h2, h3⟩ := h
    unfold flipP
    refine ⟨by dsimp only; omega, by dsimp only; omega, fun z => h3 ?_⟩
    have e1 := congrArg Prod.fst z
    have e2 := congrArg Prod.snd z
    dsimp only at e1 e2
    exact Prod.ext (by omega) (by omega)
  · rw [List.mem_reverse, List.mem_map]
    constructor
    · intro h
      obtain ⟨t, t0, t1, e⟩ := pts_cnt (ov_good g) h
      exact ⟨cnt T (100 - t), cnt_mem g (by omega), by rw [e, cnt_ov g]⟩
    · rintro ⟨q, hq, rfl⟩
      obtain ⟨t, t0, t1, e⟩ := pts_cnt g hq
      have := cnt_mem (ov_good g) (t := 100 - t) (by omega)
      rw [cnt_ov g, show 100 - (100 - t) = t by omega] at this
      rw [e]
      exact this
def swp (p : Pt) : Pt := (p.2, p.1)
theorem cnt_ex (T : List Th) (t : Int) : cnt (T.map ex) t = swp (cnt T t) := by
  unfold cnt swp
  rw [fa_sum, tr_sum, fa_sum, tr_sum, List.map_map, List.map_map]
  congr 1
  refine sum_map_congr fun x hx => ?_
  show bI (decide (t ≤ x.1) && !!x.2) = _
  rw [Bool.not_not]
theorem pts_ex (T : List Th) : pts (T.map ex) = (pts T).map swp := by
  unfold pts
  have : scs (T.map ex) = scs T := by
    unfold scs
    rw [List.map_map]
    rfl
  rw [this, List.map_cons, List.map_map]
  congr 1
  exact List.map_congr_left fun t _ => cnt_ex T t
/-! ### led by a table -/
structure Tab (tb : List Int) : Prop where
  len : tb.length = 100
  rng : ∀ x ∈ tb, 0 ≤ x ∧ x ≤ 99
  up : tb.Pairwise (· ≤ ·)
def tbl (tb : List Int) (s : Int) : Int := tb.getD s.toNat 0
theorem Tab.get {tb : List Int} (h : Tab tb) {s : Int} (h0 : 0 ≤ s ∧ s ≤ 99) : tb[s.toNat]? = some (tbl tb s) := by
  have : s.toNat < tb.length := by have := h.len; omega
  unfold tbl
  rw [List.getD_eq_getElem?_getD, List.getElem?_eq_getElem this]
  rfl
theorem Tab.bd {tb : List Int} (h : Tab tb) {s : Int} (h0 : 0 ≤ s ∧ s ≤ 99) : 0 ≤ tbl tb s ∧ tbl tb s ≤ 99 := h.rng _ (List.mem_iff_getElem?.mpr ⟨_, h.get h0⟩)
theorem Tab.mono {tb : List Int} (h : Tab tb) {s t : Int} (h0 : 0 ≤ s) (h1 : s ≤ t) (h2 : t ≤ 99) : tbl tb s ≤ tbl tb t := by
  by_cases e : s = t
  · rw [e]; exact Int.le_refl _
  · have l := h.len
    have ls : s.toNat < tb.length := by omega
    have lt : t.toNat < tb.length := by omega
    have := List.pairwise_iff_getElem.mp h.up s.toNat t.toNat ls lt (by omega)
    have e1 := h.get (s := s) ⟨h0, by omega⟩
    have e2 := h.get (s := t) ⟨by omega, h2⟩
    rw [List.getElem?_eq_getElem ls] at e1
    rw [List.getElem?_eq_getElem lt] at e2
    injection e1 with e1
    injection e2 with e2
    rw [← e1, ← e2]
    exact this
def ldx (tb : List Int) (x : Th) : Th := (tbl tb x.1, x.2)
theorem ld_good {tb : List Int} (h : Tab tb) {T : List Th} (g : GoodT T) : GoodT (T.map (ldx tb)) := ⟨by rw [List.length_map]; exact g.l1, by rw [List.length_map]; exact g.l2, fun x hx => by
  obtain ⟨y, hy, rfl⟩ := List.mem_map.mp hx
  exact h.bd (g.sc y hy)⟩
theorem pIx_tup {a : Type} (e : a → PD) (l : List a) (i : Nat) (x : a) (h : l[i]? = some x) : pIx (.tuple (l.map e)) (.int (i : Int)) = .ok (e x) := by
  show (match L2.atI (l.map e) (i : Int) with | some d => R.ok d | none => R.bad) = _
  rw [atI_nat_map e l i x h]
theorem Tab.ix {tb : List Int} (h : Tab tb) {s : Int} (h0 : 0 ≤ s ∧ s ≤ 99) : pIx (.tuple (tb.map PyData.int)) (.int s) = .ok (.int (tbl tb s)) := by
  have := pIx_tup PyData.int tb s.toNat _ (h.get h0)
  rw [show ((s.toNat : Nat) : Int) = s by omega] at this
  exact this
theorem pAll_true {n : Nat} {l : List PD} (h : l = List.replicate n (PyData.bool true)) : pAll [.list l] = .ok (.bool true) := by
  subst h
  have hb : toBools (List.replicate n (PyData.bool true)) = some (List.replicate n true) := by
    have := toBools_map (List.replicate n true)
    rw [List.map_replicate] at this
    exact this
  simp [pAll, hb]
theorem led_ev {d : Type} {tb : List Int} (h : Tab tb) {T : List Th} (g : GoodT T) {ρ : Env} {s : d} {i j k l : Nat} (hT : cVar i ρ s = .ok (encT T, s)) (hb : ∀ x : Th, ∃ ρ1, bTup (bCons (bNm k) (bCons (bNm l) bNil)) (eT x) (wipeD ρ [k, l]) = some ρ1 ∧ cVar j ρ1 s = .ok (.tuple (tb.map PyData.int), s) ∧ cVar k ρ1 s = .ok (.int x.1, s) ∧ cVar l ρ1 s = .ok (.bool x.2, s)) :
    cComp (iLst (cVar i)) (bTup (bCons (bNm k) (bCons (bNm l) bNil))) [k, l] tYesD (cTup (aCons (cOp pIx (cVar j) (cVar k)) (aCons (cVar l) aNil))) ρ s = .ok (encT (T.map (ldx tb)), s) := by
  have hg := g.l2
  rw [← encT_map]
  refine cComp_map T eT (fun x => eT (ldx tb x)) (ev_iLst hT) (by omega) fun x hx => ?_
  obtain ⟨ρ1, h1, h2, h3, h4⟩ := hb x
  exact ⟨ρ1, h1, ev_tup (ev_aC (s1 := s) (ev_op h2 h3 (h.ix (g.sc x hx))) (ev_a1 h4)), rfl⟩
theorem m_led_eq {tb : List Int} (h : Tab tb) {T : List Th} (g : GoodT T) : m_led [encT T, .tuple (tb.map PyData.int)] = .ok (encT (T.map (ldx tb))) := by
  have hl := h.len
  refine mBody_of (ev_check (ev_callF (s1 := ()) rfl (m_check_things_eq g)) (ev_guard (s1 := ()) (ev_or_f (s' := ()) rfl (ev_or_f (s' := ()) (ev_test (ev_op (s1 := ()) (x := .int 100) (ev_call (ev_a1 rfl) (by rw [pLen_t, List.length_map, hl]; rfl)) rfl (pNe_i_self _))) (ev_not (b := true) (ev_test (ev_call (ev_a1 (s1 := ()) (cComp_map tb PyData.int (fun _ => .bool true) rfl (by omega) fun x hx => ⟨_, rfl, ev_callF rfl ?_, rfl⟩)) (pAll_true (n := 100) ?_)))))) (ev_guard (s1 := ()) (ev_not (b := true) (ev_test (ev_call (ev_a1 (s1 := ()) (cComp_map (up 99) PyData.int (fun _ => .bool true) (iRg1_up 99 (by decide)) (by rw [up_len]; omega) fun x hx => ⟨_, rfl, ev_op (s1 := ()) (x := .int (tbl tb x)) (y := .int (tbl tb (x + 1))) (ev_op rfl rfl ?_) (ev_op rfl (ev_op rfl rfl (pAdd_i _ _)) ?_) ?_, rfl⟩)) (pAll_true (n := 99) ?_)))) (ret_of (led_ev h g rfl fun x => ⟨_, rfl, rfl, rfl, rfl⟩) rfl))))
  · have := h.rng x hx
    rw [m_is_int_int, decide_eq_true this.1, decide_eq_true this.2]
    rfl
  · rw [List.map_const', hl]
  · have := mem_up.mp hx
    exact h.ix ⟨this.1, by omega⟩
  · have := mem_up.mp hx
    exact h.ix ⟨by omega, by omega⟩
  · have := mem_up.mp hx
    rw [pLe_i, decide_eq_true (h.mono this.1 (by omega) (by omega))]
  · rw [List.map_const', up_len]
theorem sum_map_le {a : Type} {f g : a → Int} : ∀ {l : List a}, (∀ x ∈ l, f x ≤ g x) → (l.map f).sum ≤ (l.map g).sum
  | [], _ => Int.le_refl _
  | x :: l, h => by
    have := sum_map_le (f := f) (g := g) (l := l) fun y hy => h y (List.mem_cons_of_mem _ hy)
    have := h x (by simp)
    simp only [List.map_cons, List.sum_cons]
    omega
theorem pr_le {r q : Int → Int → Bool} {f : Th → Th} {T : List Th} (h : ∀ x ∈ T, ∀ y ∈ T, pf r (f x) (f y) ≤ pf q x y) : pr r (T.map f) (T.map f) ≤ pr q T T := by
  rw [pr_sum, pr_sum, List.map_map]
  refine sum_map_le fun y hy => ?_
  show ((T.map f).map fun x => pf r x (f y)).sum ≤ _
  rw [List.map_map]
  exact sum_map_le fun x hx => h x hx y hy
theorem pr_ge {r q : Int → Int → Bool} {f : Th → Th} {T : List Th} (h : ∀ x ∈ T, ∀ y ∈ T, pf q x y ≤ pf r (f x) (f y)) : pr q T T ≤ pr r (T.map f) (T.map f) := by
  rw [pr_sum, pr_sum, List.map_map]
  refine sum_map_le fun y hy => ?_
  show _ ≤ ((T.map f).map fun x => pf r x (f y)).sum
  rw [List.map_map]
  exact sum_map_le fun x hx => h x hx y hy
theorem pf_le {x y u v : Th} (r q : Int → Int → Bool) (h1 : u.2 = x.2) (h2 : v.2 = y.2) (h : r u.1 v.1 = true → q x.1 y.1 = true) : pf r u v ≤ pf q x y := by
  unfold pf
  rw [h1, h2]
  cases x.2 && !y.2 with
  | false => exact Int.le_refl _
  | true =>
    rw [Bool.true_and, Bool.true_and]
    cases hr : r u.1 v.1 with
    | false => cases q x.1 y.1 <;> decide
    | true => rw [h hr]; exact Int.le_refl _
theorem pr_led {tb : List Int} (h : Tab tb) {T : List Th} (g : GoodT T) : pr rgt (T.map (ldx tb)) (T.map (ldx tb)) ≤ pr rgt T T ∧ pr rlt (T.map (ldx tb)) (T.map (ldx tb)) ≤ pr rlt T T ∧ pr req T T ≤ pr req (T.map (ldx tb)) (T.map (ldx tb)) := by
  refine ⟨pr_le fun x hx y hy => pf_le _ _ rfl rfl fun q => ?_, pr_le fun x hx y hy => pf_le _ _ rfl rfl fun q => ?_, pr_ge fun x hx y hy => pf_le _ _ rfl rfl fun q => ?_⟩
  · unfold rgt at q ⊢
    rw [decide_eq_true_eq] at q ⊢
    have h1 := g.sc x hx
    have h2 := g.sc y hy
    rcases Int.lt_or_le y.1 x.1 with z | z
    · exact z
    · have := h.mono h1.1 z h2.2
      have q' : tbl tb y.1 < tbl tb x.1 := q
      omega
  · unfold rlt at q ⊢
    rw [decide_eq_true_eq] at q ⊢
    have h1 := g.sc x hx
    have h2 := g.sc y hy
    rcases Int.lt_or_le x.1 y.1 with z | z
    · exact z
    · have := h.mono h2.1 z h1.2
      have q' : tbl tb x.1 < tbl tb y.1 := q
      omega
  · unfold req at q ⊢
    rw [decide_eq_true_eq] at q ⊢
    show tbl tb x.1 = tbl tb y.1
    rw [q]
theorem tab_cut {tb : List Int} (h : Tab tb) (t : Int) : ∀ n : Nat, n ≤ 100 → ∃ u : Int, 0 ≤ u ∧ u ≤ n ∧ ∀ s : Int, 0 ≤ s → s < n → (t ≤ tbl tb s ↔ u ≤ s)
  | 0, _ => ⟨0, by omega, by omega, fun s h1 h2 => by omega⟩
  | n + 1, hn => by
    obtain ⟨u, u0, u1, hu⟩ := tab_cut h t n (by omega)
    by_cases z : t ≤ tbl tb n
    · refine ⟨u, u0, by omega, fun s h1 h2 => ?_⟩
      by_cases e : s = n
      · subst e
        exact ⟨fun _ => u1, fun _ => z⟩
      · exact hu s h1 (by omega)
    · refine ⟨n + 1, by omega, by omega, fun s h1 h2 => ⟨fun w => ?_, fun w => by omega⟩⟩
      have := h.mono h1 (show s ≤ n by omega) (by omega)
      omega
theorem cnt_led {tb : List Int} (h : Tab tb) {T : List Th} (g : GoodT T) (t : Int) : ∃ u, 0 ≤ u ∧ cnt (T.map (ldx tb)) t = cnt T u := by
  obtain ⟨u, u0, u1, hu⟩ := tab_cut h t 100 (Nat.le_refl _)
  exact ⟨u, u0, fa_map (f := ldx tb) (fun _ => rfl) fun x hx => by
    have := g.sc x hx
    exact hu x.1 this.1 (by omega)⟩
theorem pts_led {tb : List Int} (h : Tab tb) {T : List Th} (g : GoodT T) {p : Pt} (hp : p ∈ pts (T.map (ldx tb))) : p ∈ pts T := by
  obtain ⟨t, _, _, rfl⟩ := pts_cnt (ld_good h g) hp
  obtain ⟨u, u0, e⟩ := cnt_led h g t
  rw [e]
  exact cnt_mem g u0
end DL

/-! NH: pools joined in any order -/
namespace DL
open PySem PySem.Spec PyProof.Rows L2
local macro_rules | `(tactic| walk_at "ev") => `(tactic| simp only [szL, Nat.reduceLeDiff, mBody, mBodyD, outP, outD, cVar, cC, cOp, cUn, cTest, cAndT, cOrT, cNotT, cAndV, cOrV, cIf, aNil, aCons, cTup, cLst, cSl, oNone, oSome, cCall, cCallF, cCallD, cMeth, noX', isL_list, isL_encP, tYesD, bnd_ok, bnd_exc, bnd_bad, lft_ok, lft_exc, lft_bad, isOk_ok, isOk_exc, isOk_bad, isD_int, isD_bool, isD_none, isD_str, isD_list, isD_tuple, isD_eP, isD_eT, isD_encP, isD_encT, allD, List.all_cons, List.all_nil, Bool.and_self, Bool.and_true, Bool.true_and, if_true, if_false, Bool.false_eq_true, ite_true, ite_false, reduceIte, List.length_cons, List.length_nil, List.map_cons, List.map_nil, List.cons_append, List.nil_append, List.replicate_succ, List.replicate_zero, List.getElem?_cons_zero, List.getElem?_cons_succ, List.set_cons_zero, List.set_cons_succ, wipeD, sSeq, sSet, sAsg, sRet, sIf, sExpr, sNil, sRaise, sSetF, sApp, sAug, sAugL, sPar, sPar3, fLst, bNm, bTup, bCons, bNil, pNot, pIsi, isiT, tyN, pNeg, Nat.reduceAdd, decide_true, decide_false, Bool.not_true, Bool.not_false, noX_ok, pLe_i, pLt_i, pGt_i, pGe_i, pAdd_i, pSub_i, pLen_l, pLen_t, pIx_t0, pIx_t1, pEq_i, pNe_i])
local macro_rules | `(tactic| walk_at "evs") => `(tactic| simp [szL, mBody, mBodyD, outP, outD, cVar, cC, cOp, cUn, cTest, cAndT, cOrT, cNotT, cAndV, cOrV, cIf, aNil, aCons, cTup, cLst, cSl, oNone, oSome, cCall, cCallF, cCallD, cMeth, noX', isL_list, isL_encP, tYesD, bnd_ok, bnd_exc, bnd_bad, lft_ok, lft_exc, lft_bad, isOk_ok, isOk_exc, isOk_bad, isD_int, isD_bool, isD_none, isD_str, isD_list, isD_tuple, isD_eP, isD_eT, isD_encP, isD_encT, allD, List.all_cons, List.all_nil, List.map_cons, List.map_nil, List.cons_append, List.nil_append, List.replicate_succ, List.replicate_zero, List.getElem?_cons_zero, List.getElem?_cons_succ, List.set_cons_zero, List.set_cons_succ, wipeD, sSeq, sSet, sAsg, sRet, sIf, sExpr, sNil, sRaise, sSetF, sApp, sAug, sAugL, sPar, sPar3, fLst, bNm, bTup, bCons, bNil, pNot, pIsi, isiT, tyN, pNeg, noX_ok, pLe_i, pLt_i, pGt_i, pGe_i, pAdd_i, pSub_i, pLen_l, pLen_t, pIx_t0, pIx_t1, pEq_i, pNe_i])
local macro_rules | `(tactic| walk_at "evx") => `(tactic| simp [szL, mBody, mBodyD, outP, outD, cVar, cC, cOp, cUn, cTest, cAndT, cOrT, cNotT, cAndV, cOrV, cIf, aNil, aCons, cTup, cLst, cSl, oNone, oSome, cCall, cCallF, cCallD, cMeth, noX', isL_list, isL_encP, tYesD, bnd_ok, bnd_exc, bnd_bad, lft_ok, lft_exc, lft_bad, isOk_ok, isOk_exc, isOk_bad, isD_int, isD_bool, isD_none, isD_str, isD_list, isD_tuple, isD_eP, isD_eT, isD_encP, isD_encT, allD, List.all_cons, List.all_nil, List.map_cons, List.map_nil, List.cons_append, List.nil_append, List.replicate_succ, List.replicate_zero, List.getElem?_cons_zero, List.getElem?_cons_succ, List.set_cons_zero, List.set_cons_succ, wipeD, sSeq, sSet, sAsg, sRet, sIf, sExpr, sNil, sRaise, sSetF, sApp, sAug, sAugL, sPar, sPar3, fLst, bNm, bTup, bCons, bNil, pNot, pIsi, isiT, tyN, pNeg, noX_ok, pLe_i, pLt_i, pGt_i, pGe_i, pAdd_i, pSub_i, pLen_l, pLen_t, pIx_t0, pIx_t1, pEq_i, pNe_i, *])
theorem Ch.sub {P Q : List Pt} {st : List Pt} (h : Ch P st) (h1 : ∀ q ∈ Q, q ∈ P) (h2 : ∀ b ∈ st, b ∈ Q) : Ch Q st := by
  induction h with
  | one h m => exact .one (fun q hq => h q (h1 q hq)) (h2 _ (by simp))
  | two c m u h ih => exact .two (ih fun x hx => h2 x (List.mem_cons_of_mem _ hx)) (h2 _ (by simp)) u (fun q hq => h q (h1 q hq))
  | more k m u h t ih => exact .more (ih fun x hx => h2 x (List.mem_cons_of_mem _ hx)) (h2 _ (by simp)) u (fun q hq => h q (h1 q hq)) t
/-- a chain of places -/
structure Chn (T : List Th) (ix : List Nat) : Prop where
  lt : ix.Pairwise (· < ·)
  hd : ix.head? = some 0
  lst : ix.getLast? = some (scs T).length
  cor : ∀ q ∈ crn (pts T), q ∈ ix.map (ptA T)
theorem Chn.le {T : List Th} {ix : List Nat} (h : Chn T ix) : ∀ i ∈ ix, i ≤ (scs T).length := fun i hi => by
  obtain ⟨x, hx⟩ : ∃ x, ix = x ++ [(scs T).length] := by
    rcases List.eq_nil_or_concat ix with z | ⟨x, l, z⟩
    · rw [z] at hi; cases hi
    · have := h.lst
      rw [z] at this
      simp at this
      exact ⟨x, by rw [z, this]; simp⟩
  have hp := h.lt
  rw [hx] at hi hp
  rw [List.pairwise_append] at hp
  rcases List.mem_append.mp hi with z | z
  · have := hp.2.2 i z (scs T).length (by simp); omega
  · simp at z; omega
theorem map_up {T : List Th} (g : GoodT T) {ix : List Nat} (h : ix.Pairwise (· < ·)) (hl : ∀ i ∈ ix, i ≤ (scs T).length) : (ix.map (ptA T)).Pairwise Up := by
  rw [List.pairwise_map]
  refine List.Pairwise.imp_of_mem (fun {a b} ha hb hab => ?_) h
  exact ptA_up g hab (hl b hb)
theorem ptA_inj {T : List Th} (g : GoodT T) {i j : Nat} (hi : i ≤ (scs T).length) (hj : j ≤ (scs T).length) (e : ptA T i = ptA T j) : i = j := by
  rcases Nat.lt_trichotomy i j with z | z | z
  · exact absurd e (ptA_up g z hj).2.2
  · exact z
  · exact absurd e.symm (ptA_up g z hi).2.2
theorem map_inj {T : List Th} (g : GoodT T) : ∀ {l m : List Nat}, (∀ i ∈ l, i ≤ (scs T).length) → (∀ i ∈ m, i ≤ (scs T).length) → l.map (ptA T) = m.map (ptA T) → l = m
  | [], [], _, _, _ => rfl
  | [], _ :: _, _, _, h => by simp at h
  | _ :: _, [], _, _, h => by simp at h
  | x :: l, y :: m, h1, h2, h => by
    rw [List.map_cons, List.map_cons] at h
    injection h with a b
    rw [ptA_inj g (h1 x (by simp)) (h2 y (by simp)) a, map_inj g (fun i hi => h1 i (List.mem_cons_of_mem _ hi)) (fun i hi => h2 i (List.mem_cons_of_mem _ hi)) b]
theorem ptA_last {T : List Th} (g : GoodT T) : ptA T (scs T).length = cnt T 0 := by
  have h := pts_last g
  have hl := pts_len T
  rw [List.getLast?_eq_getElem?, show (pts T).length - 1 = (scs T).length by omega, gt_get (by omega)] at h
  injection h
theorem ixF_chn {T : List Th} (g : GoodT T) : Chn T (ixF T) := by
  obtain ⟨h1, h2, h3⟩ := stI_inv T (scs T).length
  refine ⟨?_, ?_, ?_, fun q hq => by rw [ixF_map]; exact hq⟩
  · unfold ixF
    rw [List.pairwise_reverse]
    exact List.Pairwise.imp (fun {a b} h => h) h1
  · unfold ixF
    rw [List.head?_reverse]
    exact h3
  · unfold ixF
    rw [List.getLast?_reverse]
    exact h2
theorem all_chn {T : List Th} (g : GoodT T) : Chn T (List.range ((scs T).length + 1)) := by
  refine ⟨List.pairwise_lt_range, by rw [List.range_succ_eq_map]; rfl, by rw [List.range_succ]; simp, fun q hq => ?_⟩
  have hm := (pts_pok g).hull.mem hq
  have : pts T = (List.range ((scs T).length + 1)).map (ptA T) := by
    have := rng_gt (pts T)
    rw [pts_len] at this
    exact this.symm
  rw [← this]
  exact hm
theorem Chn.drop {T : List Th} (g : GoodT T) {x y : List Nat} {a b c : Nat} (h : Chn T (x ++ a :: b :: c :: y)) (t : 0 ≤ turn (ptA T a) (ptA T b) (ptA T c)) : Chn T (x ++ a :: c :: y) := by
  have hl := h.le
  have hp := h.lt
  rw [List.pairwise_append] at hp
  obtain ⟨p1, p2, p3⟩ := hp
  have q1 := List.pairwise_cons.mp p2
  have q2 := List.pairwise_cons.mp q1.2
  refine ⟨?_, ?_, ?_, fun q hq => ?_⟩
  · rw [List.pairwise_append]
    refine ⟨p1, List.pairwise_cons.mpr ⟨fun z hz => q1.1 z (List.mem_cons_of_mem _ hz), q2.2⟩, fun u hu v hv => p3 u hu v ?_⟩
    rcases List.mem_cons.mp hv with z | z
    · rw [z]; simp
    · exact List.mem_cons_of_mem _ (List.mem_cons_of_mem _ z)
  · have := h.hd
    cases x with
    | nil => exact this
    | cons d x => exact this
  · have := h.lst
    rw [List.getLast?_append] at this ⊢
    rw [List.getLast?_cons_cons, List.getLast?_cons_cons] at this
    rw [List.getLast?_cons_cons]
    exact this
  · have hm := h.cor q hq
    rw [List.map_append, List.mem_append] at hm ⊢
    rcases hm with z | z
    · exact .inl z
    · right
      rw [List.map_cons, List.map_cons] at z
      rw [List.map_cons]
      rcases List.mem_cons.mp z with z | z
      · rw [z]; simp
      · rcases List.mem_cons.mp z with z | z
        · exfalso
          have hab := q1.1 b (by simp)
          have hbc := q2.1 c (by simp)
          have lb := hl b (by simp)
          have lc := hl c (by simp)
          have := ((corner_iff (pts_up g) (pts_pok g).hull).mp hq).2 (ptA T a) (ptA_mem (by omega)) (ptA T c) (ptA_mem lc) (by rw [z]; exact ptA_up g hab lb) (by rw [z]; exact ptA_up g hbc lc)
          rw [z] at this
          omega
        · exact List.mem_cons_of_mem _ z
theorem crn_bent : ∀ (C : List Pt), (∀ x a b c y, C = x ++ a :: b :: c :: y → turn a b c < 0) → crn C = C := by
  have gen : ∀ (C : List Pt), (∀ x a b c y, C = x ++ a :: b :: c :: y → turn a b c < 0) → crn C = C := by
    intro C
    induction h : C.length generalizing C with
    | zero =>
      intro _
      rw [List.length_eq_zero_iff] at h
      subst h; rfl
    | succ n ih =>
      intro ht
      rcases List.eq_nil_or_concat C with z | ⟨D, p, z⟩
      · rw [z]; rfl
      · rw [List.concat_eq_append] at z
        subst z
        have hD : crn D = D := ih D (by simpa using h) fun x a b c y e => ht x a b c (y ++ [p]) (by rw [e]; simp)
        rw [crn_snoc, hD, pop_id, List.reverse_reverse]
        intro b a r e
        have e2 : D = r.reverse ++ [a, b] := by
          have := congrArg List.reverse e
          rw [List.reverse_reverse] at this
          rw [this]; simp
        exact ht r.reverse a b p [] (by rw [e2]; simp)
  exact gen
/-- no two neighbours left to be joined: these are the pools -/
theorem Chn.done {T : List Th} (g : GoodT T) {ix : List Nat} (h : Chn T ix) (ht : ∀ x a b c y, ix = x ++ a :: b :: c :: y → turn (ptA T a) (ptA T b) (ptA T c) < 0) : ix = ixF T := by
  have hl := h.le
  have hup := map_up g h.lt hl
  have hlf := (ixF_chn g).le
  refine map_inj g hl hlf ?_
  rw [ixF_map]
  have hbent : crn (ix.map (ptA T)) = ix.map (ptA T) := crn_bent _ fun x a b c y e => by
    obtain ⟨x', r, e1, e2, e3⟩ := List.map_eq_append_iff.mp e
    cases r with
    | nil => simp at e3
    | cons a' r =>
      cases r with
      | nil => simp at e3
      | cons b' r =>
        cases r with
        | nil => simp at e3
        | cons c' y' =>
          simp only [List.map_cons, List.cons.injEq] at e3
          obtain ⟨rfl, rfl, rfl, _⟩ := e3
          exact ht x' a' b' c' y' e1
  have hne : ix.map (ptA T) ≠ [] := fun z => by
    rw [List.map_eq_nil_iff] at z
    have := h.hd
    rw [z] at this; cases this
  have H1 : Hull (ix.map (ptA T)) (ix.map (ptA T)) := by
    have := crn_hull hup hne
    rwa [hbent] at this
  have HP := (pts_pok g).hull
  have hsub : ∀ q ∈ ix.map (ptA T), q ∈ pts T := fun q hq => by
    obtain ⟨i, hi, rfl⟩ := List.mem_map.mp hq
    exact ptA_mem (hl i hi)
  have H2 : Hull (ix.map (ptA T)) (crn (pts T)) := by
    refine ⟨HP.ch.sub hsub fun b hb => h.cor b (List.mem_reverse.mp hb), ?_, ?_⟩
    · rw [HP.hd, List.head?_map, h.hd]
      rfl
    · rw [HP.lst, List.getLast?_map, h.lst, pts_last g]
      show _ = some (ptA T _)
      rw [ptA_last g]
  exact up_ext hup HP.up fun p => (corner_iff hup H1).trans (corner_iff hup H2).symm
/-! ### the law's wrong places -/
theorem edg_get {a : Type} {C : List a} {k : Nat} {e : a × a} (h : (edg C)[k]? = some e) : ∃ x y, C = x ++ e.1 :: e.2 :: y ∧ x.length = k := by
  induction C generalizing k with
  | nil => simp [edg] at h
  | cons c C ih =>
    cases C with
    | nil => simp [edg] at h
    | cons d C =>
      rw [edg_cons] at h
      cases k with
      | zero =>
        rw [List.getElem?_cons_zero] at h
        injection h with h
        subst h
        exact ⟨[], C, rfl, rfl⟩
      | succ k =>
        rw [List.getElem?_cons_succ] at h
        obtain ⟨x, y, e1, e2⟩ := ih h
        exact ⟨c :: x, y, by rw [e1]; rfl, by rw [List.length_cons, e2]⟩
def lft4 (T : List Th) (ix : List Nat) : List Q4 := (edg ix).map (plv T)
def q0 : Q4 := (0, 0, 0, 0)
def wrg (L : List Q4) : List Int := ((List.range (L.length - 1)).filter fun k => !fall (L.getD k q0) (L.getD (k + 1) q0)).map fun (k : Nat) => (k : Int)
theorem m__law_wrong_eq {L : List Q4} (h : ∀ q ∈ L, Sq4 q) (hl : L.length ≤ 500) (h1 : 1 ≤ L.length) : m__law_wrong [.list (L.map e4)] = .ok (.list ((wrg L).map PyData.int)) := by
  refine mBody_of (ev_seq (s' := ()) (ρ' := [some (.list (L.map e4)), some (.list []), none, none, none]) rfl ?_)
  obtain ⟨ρ', s', e, i⟩ := sForGo_inv (d := Unit) (bd := bNm 2) (body := (sSeq (sPar 3 4 (aCons (cOp pIx (cVar 0) (cVar 2)) (aCons (cOp pIx (cVar 0) (cOp pAdd (cVar 2) (cC (.int 1)))) aNil)))
      (sIf (cTest (cOp pGe (cOp pMul (cOp pIx (cVar 4) (cC (.int 3))) (cOp pAdd (cOp pIx (cVar 3) (cC (.int 2))) (cOp pIx (cVar 3) (cC (.int 3))))) (cOp pMul (cOp pIx (cVar 3) (cC (.int 3))) (cOp pAdd (cOp pIx (cVar 4) (cC (.int 2))) (cOp pIx (cVar 4) (cC (.int 3)))))))
      (sApp 1 (cVar 2))
      sNil))) (fun (k : Nat) => PyData.int (k : Int)) (fun pre ρ _ => ∃ x2 x3 x4, ρ = [some (.list (L.map e4)), some (.list (((pre.filter fun k => !fall (L.getD k q0) (L.getD (k + 1) q0)).map fun (k : Nat) => (k : Int)).map PyData.int)), x2, x3, x4]) (List.range (L.length - 1)) [] [some (.list (L.map e4)), some (.list []), none, none, none] () ⟨none, none, none, rfl⟩ fun pre k q ρ s hpq hi => by
    obtain ⟨x2, x3, x4, rfl⟩ := hi
    obtain ⟨hk1, hk2⟩ := rng_pre hpq
    have g1 : L[k]? = some (L.getD k q0) := by
      rw [List.getD_eq_getElem?_getD, List.getElem?_eq_getElem (by omega)]; rfl
    have g2 : L[k + 1]? = some (L.getD (k + 1) q0) := by
      rw [List.getD_eq_getElem?_getD, List.getElem?_eq_getElem (by omega)]; rfl
    have s1 := h _ (List.mem_of_getElem? g1)
    have s2 := h _ (List.mem_of_getElem? g2)
    have i1 := pIx_nat e4 L k _ g1
    have i2 := pIx_nat e4 L (k + 1) _ g2
    rw [show ((k + 1 : Nat) : Int) = (k : Int) + 1 by omega] at i2
    generalize hp : L.getD k q0 = p at g1 s1 i1
    generalize hq : L.getD (k + 1) q0 = r at g2 s2 i2
    obtain ⟨a1, a2, a3, a4⟩ := s1
    obtain ⟨b1, b2, b3, b4⟩ := s2
    have hfl := List.length_filter_le (fun k => !fall (L.getD k q0) (L.getD (k + 1) q0)) pre
    have ht : ∀ f, cTest (cOp pGe (cOp pMul (cOp pIx (cVar 4) (cC (.int 3))) (cOp pAdd (cOp pIx (cVar 3) (cC (.int 2))) (cOp pIx (cVar 3) (cC (.int 3))))) (cOp pMul (cOp pIx (cVar 3) (cC (.int 3))) (cOp pAdd (cOp pIx (cVar 4) (cC (.int 2))) (cOp pIx (cVar 4) (cC (.int 3)))))) [some (.list (L.map e4)), f, some (.int (k : Int)), some (e4 p), some (e4 r)] () = .ok (!fall p r, ()) := fun f => by
      refine ev_test (ev_op (s1 := ()) (ev_op (s1 := ()) (ev_op rfl rfl (e4_3 _)) (ev_op (s1 := ()) (ev_op rfl rfl (e4_2 _)) (ev_op rfl rfl (e4_3 _)) (pAdd_i _ _)) (pMul_i (by omega))) (ev_op (s1 := ()) (ev_op rfl rfl (e4_3 _)) (ev_op (s1 := ()) (ev_op rfl rfl (e4_2 _)) (ev_op rfl rfl (e4_3 _)) (pAdd_i _ _)) (pMul_i (by omega))) ?_)
      rw [pGe_i]
      congr 2
      unfold fall
      by_cases z : r.2.2.2 * (p.2.2.1 + p.2.2.2) < p.2.2.2 * (r.2.2.1 + r.2.2.2)
      · rw [decide_eq_true z, decide_eq_false (by omega)]; rfl
      · rw [decide_eq_false z, decide_eq_true (by omega)]; rfl
    refine ⟨_, [some (.list (L.map e4)), some (.list ((((pre ++ [k]).filter fun k => !fall (L.getD k q0) (L.getD (k + 1) q0)).map fun (k : Nat) => (k : Int)).map PyData.int)), some (.int (k : Int)), some (e4 p), some (e4 r)], (), rfl, ?_, ⟨_, _, _, rfl⟩⟩
    refine ev_seq (s' := ()) (ρ' := [some (.list (L.map e4)), some (.list (((pre.filter fun k => !fall (L.getD k q0) (L.getD (k + 1) q0)).map fun (k : Nat) => (k : Int)).map PyData.int)), some (.int (k : Int)), some (e4 p), some (e4 r)]) ?_ ?_
    · unfold sPar
      rw [ev_aC (s1 := ()) (s2 := ()) (ev_op rfl rfl i1) (ev_a1 (ev_op rfl (ev_op rfl rfl (pAdd_i _ _)) i2)), bnd_ok]
      rfl
    · rw [List.filter_append, List.map_append, List.map_append]
      cases hf : fall p r with
      | true =>
        refine ev_if_f (s' := ()) (by rw [ht, hf]; rfl) ?_
        rw [List.filter_cons_of_neg (by rw [hp, hq, hf]; simp)]
        show R.ok (Fl.nx _, ()) = _
        simp
      | false =>
        refine ev_if_t (s' := ()) (by rw [ht, hf]; rfl) ((ev_app (i := 1) (s1 := ()) (x := .int (k : Int)) rfl rfl rfl (by rw [List.length_map, List.length_map]; omega)).trans ?_)
        rw [List.filter_cons_of_pos (by rw [hp, hq, hf]; rfl)]
        rfl
  obtain ⟨x2, x3, x4, rfl⟩ := i
  refine ev_seq (ev_for (s' := ()) (iRg1_n (n := L.length - 1) (ev_op (ev_call (ev_a1 rfl) (pLen_l _)) rfl (by rw [pSub_i, List.length_map]; congr 2; omega)) (by omega)) e) rfl
theorem lft_sq {T : List Th} (g : GoodT T) {ix : List Nat} (h : Chn T ix) : ∀ q ∈ lft4 T ix, Sq4 q := fun q hq => by
  obtain ⟨e, he, rfl⟩ := List.mem_map.mp hq
  obtain ⟨x, y, ec⟩ := edg_mem he
  have hp := h.lt
  rw [ec, List.pairwise_append] at hp
  have := (List.pairwise_cons.mp hp.2.1).1 e.2 (by simp)
  exact (plv_sq g this (h.le e.2 (by rw [ec]; simp))).1
theorem lft_len (T : List Th) (ix : List Nat) : (lft4 T ix).length = ix.length - 1 := by
  unfold lft4
  rw [List.length_map, edg_len]
/-- a wrong place: three neighbours -/
theorem wrg_mem {T : List Th} {ix : List Nat} {k : Int} (h : k ∈ wrg (lft4 T ix)) : ∃ x a b c y, ix = x ++ a :: b :: c :: y ∧ (x.length : Int) = k ∧ 0 ≤ turn (ptA T a) (ptA T b) (ptA T c) := by
  unfold wrg at h
  obtain ⟨k, hk, rfl⟩ := List.mem_map.mp h
  have hm := List.mem_filter.mp hk
  have hlt := List.mem_range.mp hm.1
  rw [lft_len] at hlt
  have l1 : k < (edg ix).length := by rw [edg_len]; omega
  have l2 : k + 1 < (edg ix).length := by rw [edg_len]; omega
  have g1 : (edg ix)[k]? = some ((edg ix)[k]) := List.getElem?_eq_getElem l1
  have g2 : (edg ix)[k + 1]? = some ((edg ix)[k + 1]) := List.getElem?_eq_getElem l2
  generalize (edg ix)[k] = e at g1
  generalize (edg ix)[k + 1] = f at g2
  have d1 : (lft4 T ix).getD k q0 = plv T e := by
    unfold lft4
    rw [List.getD_eq_getElem?_getD, List.getElem?_map, g1]; rfl
  have d2 : (lft4 T ix).getD (k + 1) q0 = plv T f := by
    unfold lft4
    rw [List.getD_eq_getElem?_getD, List.getElem?_map, g2]; rfl
  obtain ⟨x, y, e1, e2⟩ := edg_get g1
  obtain ⟨x', y', f1, f2⟩ := edg_get g2
  -- the two edges are neighbours
  have hxx : x' = x ++ [e.1] ∧ f.1 = e.2 ∧ f.2 :: y' = y := by
    have h1 : x ++ [e.1] ++ (e.2 :: y) = x' ++ (f.1 :: f.2 :: y') := by rw [← f1, e1]; simp
    have h2 := List.append_inj h1 (by simp [e2, f2])
    obtain ⟨h3, h4⟩ := h2
    injection h4 with h5 h6
    exact ⟨h3.symm, h5.symm, h6.symm⟩
  obtain ⟨rfl, hf1, rfl⟩ := hxx
  have hm2 := hm.2
  rw [d1, d2] at hm2
  obtain ⟨ea, eb⟩ := e
  obtain ⟨fa', fb⟩ := f
  dsimp only at hf1 e1
  subst hf1
  rw [fall_turn] at hm2
  refine ⟨x, ea, fa', fb, y', e1, by omega, ?_⟩
  simpa using hm2
theorem wrg_nil {T : List Th} {ix : List Nat} (h : wrg (lft4 T ix) = []) : ∀ x a b c y, ix = x ++ a :: b :: c :: y → turn (ptA T a) (ptA T b) (ptA T c) < 0 := fun x a b c y e => by
  unfold wrg at h
  rw [List.map_eq_nil_iff, List.filter_eq_nil_iff] at h
  have hl : (lft4 T ix).length - 1 = x.length + (y.length + 1) := by
    rw [lft_len, e]
    simp only [List.length_append, List.length_cons]
    omega
  have h1 := h x.length (List.mem_range.mpr (by omega))
  have he : edg ix = edg (x ++ [a]) ++ (a, b) :: (b, c) :: edg (c :: y) := by rw [e, edg_mid, edg_cons]
  have hxl : (edg (x ++ [a])).length = x.length := by rw [edg_len]; simp
  have d1 : (lft4 T ix).getD x.length q0 = plv T (a, b) := by
    unfold lft4
    rw [he, List.getD_eq_getElem?_getD, List.getElem?_map, List.getElem?_append_right (by omega), hxl]
    simp
  have d2 : (lft4 T ix).getD (x.length + 1) q0 = plv T (b, c) := by
    unfold lft4
    rw [he, List.getD_eq_getElem?_getD, List.getElem?_map, List.getElem?_append_right (by omega), hxl]
    simp
  rw [d1, d2, fall_turn] at h1
  simpa using h1
end DL

/-! NI: the pool of a score, shares, squared errors -/
namespace DL
open PySem PySem.Spec PyProof.Rows L2
local macro_rules | `(tactic| walk_at "ev") => `(tactic| simp only [szL, Nat.reduceLeDiff, mBody, mBodyD, outP, outD, cVar, cC, cOp, cUn, cTest, cAndT, cOrT, cNotT, cAndV, cOrV, cIf, aNil, aCons, cTup, cLst, cSl, oNone, oSome, cCall, cCallF, cCallD, cMeth, noX', isL_list, isL_encP, tYesD, bnd_ok, bnd_exc, bnd_bad, lft_ok, lft_exc, lft_bad, isOk_ok, isOk_exc, isOk_bad, isD_int, isD_bool, isD_none, isD_str, isD_list, isD_tuple, isD_eP, isD_eT, isD_encP, isD_encT, allD, List.all_cons, List.all_nil, Bool.and_self, Bool.and_true, Bool.true_and, if_true, if_false, Bool.false_eq_true, ite_true, ite_false, reduceIte, List.length_cons, List.length_nil, List.map_cons, List.map_nil, List.cons_append, List.nil_append, List.replicate_succ, List.replicate_zero, List.getElem?_cons_zero, List.getElem?_cons_succ, List.set_cons_zero, List.set_cons_succ, wipeD, sSeq, sSet, sAsg, sRet, sIf, sExpr, sNil, sRaise, sSetF, sApp, sAug, sAugL, sPar, sPar3, fLst, bNm, bTup, bCons, bNil, pNot, pIsi, isiT, tyN, pNeg, Nat.reduceAdd, decide_true, decide_false, Bool.not_true, Bool.not_false, noX_ok, pLe_i, pLt_i, pGt_i, pGe_i, pAdd_i, pSub_i, pLen_l, pLen_t, pIx_t0, pIx_t1, pEq_i, pNe_i])
local macro_rules | `(tactic| walk_at "evs") => `(tactic| simp [szL, mBody, mBodyD, outP, outD, cVar, cC, cOp, cUn, cTest, cAndT, cOrT, cNotT, cAndV, cOrV, cIf, aNil, aCons, cTup, cLst, cSl, oNone, oSome, cCall, cCallF, cCallD, cMeth, noX', isL_list, isL_encP, tYesD, bnd_ok, bnd_exc, bnd_bad, lft_ok, lft_exc, lft_bad, isOk_ok, isOk_exc, isOk_bad, isD_int, isD_bool, isD_none, isD_str, isD_list, isD_tuple, isD_eP, isD_eT, isD_encP, isD_encT, allD, List.all_cons, List.all_nil, List.map_cons, List.map_nil, List.cons_append, List.nil_append, List.replicate_succ, List.replicate_zero, List.getElem?_cons_zero, List.getElem?_cons_succ, List.set_cons_zero, List.set_cons_succ, wipeD, sSeq, sSet, sAsg, sRet, sIf, sExpr, sNil, sRaise, sSetF, sApp, sAug, sAugL, sPar, sPar3, fLst, bNm, bTup, bCons, bNil, pNot, pIsi, isiT, tyN, pNeg, noX_ok, pLe_i, pLt_i, pGt_i, pGe_i, pAdd_i, pSub_i, pLen_l, pLen_t, pIx_t0, pIx_t1, pEq_i, pNe_i])
local macro_rules | `(tactic| walk_at "evx") => `(tactic| simp [szL, mBody, mBodyD, outP, outD, cVar, cC, cOp, cUn, cTest, cAndT, cOrT, cNotT, cAndV, cOrV, cIf, aNil, aCons, cTup, cLst, cSl, oNone, oSome, cCall, cCallF, cCallD, cMeth, noX', isL_list, isL_encP, tYesD, bnd_ok, bnd_exc, bnd_bad, lft_ok, lft_exc, lft_bad, isOk_ok, isOk_exc, isOk_bad, isD_int, isD_bool, isD_none, isD_str, isD_list, isD_tuple, isD_eP, isD_eT, isD_encP, isD_encT, allD, List.all_cons, List.all_nil, List.map_cons, List.map_nil, List.cons_append, List.nil_append, List.replicate_succ, List.replicate_zero, List.getElem?_cons_zero, List.getElem?_cons_succ, List.set_cons_zero, List.set_cons_succ, wipeD, sSeq, sSet, sAsg, sRet, sIf, sExpr, sNil, sRaise, sSetF, sApp, sAug, sAugL, sPar, sPar3, fLst, bNm, bTup, bCons, bNil, pNot, pIsi, isiT, tyN, pNeg, noX_ok, pLe_i, pLt_i, pGt_i, pGe_i, pAdd_i, pSub_i, pLen_l, pLen_t, pIx_t0, pIx_t1, pEq_i, pNe_i, *])
theorem plv_sqe {T : List Th} (g : GoodT T) {e : Nat × Nat} (h : e.1 < e.2) (hj : e.2 ≤ (scs T).length) : Sq4 (plv T e) ∧ (0 < (plv T e).2.2.1 + (plv T e).2.2.2) ∧ (plv T e).2.2.1 + (plv T e).2.2.2 ≤ 12 := by
  obtain ⟨i, j⟩ := e
  exact plv_sq g h hj
theorem scA_dec {T : List Th} {i j : Nat} (h : i < j) (hj : j < (scs T).length) : scA T j < scA T i := by
  have h1 : i < (scs T).length := by omega
  have := List.pairwise_iff_getElem.mp (scs_gt T) i j h1 hj h
  have e1 := scs_get h1
  have e2 := scs_get hj
  rw [List.getElem?_eq_getElem h1] at e1
  rw [List.getElem?_eq_getElem hj] at e2
  injection e1 with e1
  injection e2 with e2
  rw [← e1, ← e2]
  exact this
theorem scA_mem {T : List Th} {s : Int} (h : s ∈ scs T) : ∃ i, i < (scs T).length ∧ scA T i = s := by
  obtain ⟨i, hi⟩ := List.mem_iff_getElem?.mp h
  have hl := (List.getElem?_eq_some_iff.mp hi).1
  rw [scs_get hl] at hi
  injection hi with hi
  exact ⟨i, hl, hi⟩
theorem scA_le {T : List Th} {i j : Nat} (hi : i < (scs T).length) (hj : j < (scs T).length) : scA T i ≤ scA T j ↔ j ≤ i := by
  rcases Nat.lt_trichotomy i j with z | z | z
  · have := scA_dec z hj
    constructor <;> intro h <;> omega
  · subst z; simp
  · have := scA_dec z hi
    constructor <;> intro h <;> omega
def inb (T : List Th) (s : Int) (e : Nat × Nat) : Bool := decide ((plv T e).1 ≤ s) && decide (s ≤ (plv T e).2.1)
theorem inb_iff {T : List Th} {i : Nat} (hi : i < (scs T).length) {e : Nat × Nat} (h1 : e.1 < e.2) (h2 : e.2 ≤ (scs T).length) : inb T (scA T i) e = true ↔ e.1 ≤ i ∧ i < e.2 := by
  unfold inb plv
  rw [Bool.and_eq_true, decide_eq_true_eq, decide_eq_true_eq]
  dsimp only
  rw [scA_le (by omega) hi, scA_le hi (by omega)]
  omega
theorem chn_edge {T : List Th} {ix : List Nat} (h : Chn T ix) {e : Nat × Nat} (he : e ∈ edg ix) : e.1 < e.2 ∧ e.2 ≤ (scs T).length := by
  obtain ⟨x, y, ec⟩ := edg_mem he
  have hp := h.lt
  rw [ec, List.pairwise_append] at hp
  exact ⟨(List.pairwise_cons.mp hp.2.1).1 e.2 (by simp), h.le e.2 (by rw [ec]; simp)⟩
theorem edg_cover : ∀ (ix : List Nat) (a l i : Nat), ix.head? = some a → ix.getLast? = some l → a ≤ i → i < l → ∃ e ∈ edg ix, e.1 ≤ i ∧ i < e.2
  | [], a, l, i, h, _, _, _ => by cases h
  | [x], a, l, i, h, h2, h3, h4 => by
    injection h with h
    have hl : x = l := by injection h2
    omega
  | x :: b :: r, a, l, i, h, h2, h3, h4 => by
    injection h with h
    subst h
    by_cases z : i < b
    · exact ⟨(x, b), by rw [edg_cons]; simp, h3, z⟩
    · obtain ⟨e, he, q⟩ := edg_cover (b :: r) b l i rfl (by rw [List.getLast?_cons_cons] at h2; exact h2) (by omega) h4
      exact ⟨e, by rw [edg_cons]; exact List.mem_cons_of_mem _ he, q⟩
theorem edg_apart : ∀ (ix : List Nat), ix.Pairwise (· < ·) → (edg ix).Pairwise fun e f => e.2 ≤ f.1
  | [], _ => by simp [edg]
  | [_], _ => by simp [edg]
  | x :: b :: r, h => by
    have h' := List.pairwise_cons.mp h
    rw [edg_cons]
    refine List.pairwise_cons.mpr ⟨fun f hf => ?_, edg_apart (b :: r) h'.2⟩
    obtain ⟨u, v, ec⟩ := edg_mem hf
    have h2 := List.pairwise_cons.mp h'.2
    have : f.1 ∈ b :: r := by rw [ec]; simp
    rcases List.mem_cons.mp this with z | z
    · show b ≤ f.1; omega
    · have := h2.1 _ z
      show b ≤ f.1; omega
/-- the pool of a score -/
def poolF (T : List Th) (s : Int) : Option (Nat × Nat) := (edg (ixF T)).find? (inb T s)
def poolOf (T : List Th) (s : Int) : Nat × Nat := (poolF T s).getD (0, 0)
theorem poolF_some {T : List Th} (g : GoodT T) {i : Nat} (hi : i < (scs T).length) : ∃ e, poolF T (scA T i) = some e ∧ e ∈ edg (ixF T) ∧ e.1 ≤ i ∧ i < e.2 := by
  have hc := ixF_chn g
  obtain ⟨e, he, h1, h2⟩ := edg_cover (ixF T) 0 (scs T).length i hc.hd hc.lst (Nat.zero_le _) hi
  cases hf : poolF T (scA T i) with
  | none =>
    have := List.find?_eq_none.mp hf e he
    exact absurd ((inb_iff hi (chn_edge hc he).1 (chn_edge hc he).2).mpr ⟨h1, h2⟩) this
  | some f =>
    have hm := List.mem_of_find?_eq_some hf
    have hp := List.find?_some hf
    exact ⟨f, rfl, hm, (inb_iff hi (chn_edge hc hm).1 (chn_edge hc hm).2).mp hp⟩
theorem pool_sc {T : List Th} (g : GoodT T) {s : Int} (h : s ∈ scs T) : poolF T s = some (poolOf T s) ∧ poolOf T s ∈ edg (ixF T) ∧ inb T s (poolOf T s) = true := by
  obtain ⟨i, hi, rfl⟩ := scA_mem h
  obtain ⟨e, h1, h2, _⟩ := poolF_some g hi
  have : poolOf T (scA T i) = e := by unfold poolOf; rw [h1]; rfl
  rw [this]
  exact ⟨h1, h2, List.find?_some h1⟩
def shq (T : List Th) (e : Nat × Nat) : Pt := lowQ (plv T e).2.2.2 ((plv T e).2.2.1 + (plv T e).2.2.2)
theorem m_share_of_yes {T : List Th} (g : GoodT T) {s : Int} (h : s ∈ scs T) : m_share_of [encT T, .int s] = .ok (eP (shq T (poolOf T s))) := by
  obtain ⟨p1, p2, p3⟩ := pool_sc g h
  obtain ⟨x, hx, rfl⟩ := mem_scs.mp h
  have hr := g.sc x hx
  have hc := ixF_chn g
  have hsl := scs_len T
  have hg := g.l2
  have hlen : (edg (ixF T)).length ≤ 1000 := by
    rw [edg_len]
    have gen : ∀ (l : List Nat) (m : Nat), l.Pairwise (· < ·) → (∀ x ∈ l, x ≤ m) → l.length ≤ m + 1 := fun l => by
      induction l with
      | nil => intro m _ _; exact Nat.zero_le _
      | cons y l ih =>
        intro m hp hm
        have hp' := List.pairwise_cons.mp hp
        cases l with
        | nil => simp
        | cons z l =>
          have hz := hp'.1 z (by simp)
          have hm1 := hm z (by simp)
          have hy := hm y (by simp)
          -- shift down by one
          have gen2 : ∀ (l : List Nat) (a m : Nat), l.Pairwise (· < ·) → (∀ x ∈ l, a < x ∧ x ≤ m) → l.length ≤ m - a := fun l => by
            induction l with
            | nil => intro a m _ _; exact Nat.zero_le _
            | cons u l ih2 =>
              intro a m hp hm
              have hp' := List.pairwise_cons.mp hp
              have := ih2 u m hp'.2 fun x hx => ⟨hp'.1 x hx, (hm x (List.mem_cons_of_mem _ hx)).2⟩
              have := hm u (by simp)
              rw [List.length_cons]; omega
          have := gen2 (z :: l) y m hp'.2 fun x hx => ⟨hp'.1 x hx, hm x (List.mem_cons_of_mem _ hx)⟩
          rw [List.length_cons]; omega
    have := gen (ixF T) _ hc.lt hc.le
    omega
  have sq := plv_sqe g (chn_edge hc p2).1 (chn_edge hc p2).2
  obtain ⟨⟨a1, a2, a3, a4⟩, a5, a6⟩ := sq
  have hl : cComp (iLst (cCallF 1 m_pooled (aCons (cVar 0) aNil))) (bNm 3) [3] (cTest (cChain pLe pLe (cOp pIx (cVar 3) (cC (.int 0))) (cVar 1) (cOp pIx (cVar 3) (cC (.int 1))))) (cVar 3) [some (encT T), some (.int x.1), none, none] () = .ok (.list (((edg (ixF T)).filter (inb T x.1)).map fun e => l4 (plv T e)), ()) :=
    cComp_pure (edg (ixF T)) (fun e => l4 (plv T e)) (inb T x.1) (fun e => l4 (plv T e)) (ev_iLst (ev_callF rfl (m_pooled_eq g))) (by omega) fun e _ => ⟨_, rfl, ev_test (chain_le (d := Unit) _ _ _ _ () _ _ _ (ev_op rfl rfl (l4_0 _)) rfl (ev_op rfl rfl (l4_1 _))), fun _ => ⟨rfl, rfl⟩⟩
  refine mBody_of (ev_check (ev_callF (s1 := ()) rfl (m_check_things_eq g)) (ev_guard (s1 := ()) (ev_or_f (s' := ()) (ev_not (b := true) (ev_test (ev_callF rfl (by rw [m_is_int_int, decide_eq_true hr.1, decide_eq_true hr.2]; rfl)))) (ev_test (ev_op (s1 := ()) rfl (ev_callF rfl (m_scores_of_eq g.l64)) ?_))) (ev_let (s1 := ()) (v := l4 (plv T (poolOf T x.1))) (ev_op (s1 := ()) hl rfl ?_) (ret_of (ev_callF (ev_aC (s1 := ()) (ev_op rfl rfl (l4_3 _)) (ev_a1 (ev_op (s1 := ()) (ev_op rfl rfl (l4_2 _)) (ev_op rfl rfl (l4_3 _)) (pAdd_i _ _)))) (m_lowest_eq (by omega) (by omega))) rfl))))
  · show (if SeqAt.shaped (.int x.1) && SeqAt.shaped (.list ((scs T).map PyData.int)) then _ else _) = _
    rw [shaped_int, shaped_ints, any_int, decide_eq_true h]
    rfl
  · have := pIx_head (fun e => l4 (plv T e)) ((edg (ixF T)).filter (inb T x.1)) (poolOf T x.1) (by rw [List.head?_filter]; exact p1)
    exact this
theorem m_share_of_no {T : List Th} (g : GoodT T) {s : Int} (h : s ∉ scs T) (h0 : 0 ≤ s ∧ s ≤ 99) : m_share_of [encT T, .int s] = .ok .none := by
  refine mBody_of (ev_check (ev_callF (s1 := ()) rfl (m_check_things_eq g)) (ev_seq_rt (ev_if_t (s' := ()) (ev_or_f (s' := ()) (ev_not (b := true) (ev_test (ev_callF rfl (by rw [m_is_int_int, decide_eq_true h0.1, decide_eq_true h0.2]; rfl)))) (ev_test (ev_op (s1 := ()) rfl (ev_callF rfl (m_scores_of_eq g.l64)) ?_))) rfl)))
  show (if SeqAt.shaped (.int s) && SeqAt.shaped (.list ((scs T).map PyData.int)) then _ else _) = _
  rw [shaped_int, shaped_ints, any_int, decide_eq_false h]
  rfl
theorem m_share_of_none {T : List Th} (g : GoodT T) : m_share_of [encT T, .none] = .ok .none :=
  mBody_of (ev_check (ev_callF (s1 := ()) rfl (m_check_things_eq g)) (ev_seq_rt (ev_if_t (s' := ()) (ev_or_T (s' := ()) rfl) rfl)))
theorem mem_sc {T : List Th} {x : Th} (h : x ∈ T) : x.1 ∈ scs T := mem_scs.mpr ⟨x, h, rfl⟩
theorem m_shares_eq {T : List Th} (g : GoodT T) : m_shares [encT T] = .ok (encP (T.map fun x => shq T (poolOf T x.1))) :=
  mBody_of (ev_check (ev_callF (s1 := ()) rfl (m_check_things_eq g)) (ret_of (cComp_mapP T eT (fun x => shq T (poolOf T x.1)) rfl (by have := g.l2; omega) fun x hx => ⟨_, rfl, ev_callF rfl (m_share_of_yes g (mem_sc hx))⟩) rfl))
theorem m_pools_eq {T : List Th} (g : GoodT T) (hl : (edg (ixF T)).length ≤ 1000) : m_pools [encT T] = .ok (.list ((lft4 T (ixF T)).map e4)) := by
  refine mBody_of (ev_check (ev_callF (s1 := ()) rfl (m_check_things_eq g)) (ret_of ?_ rfl))
  unfold lft4
  rw [List.map_map]
  exact cComp_map (edg (ixF T)) (fun e => l4 (plv T e)) (fun e => e4 (plv T e)) (ev_iLst (ev_callF rfl (m_pooled_eq g))) (by omega) fun e _ => ⟨_, rfl, ev_call (ev_a1 rfl) rfl, rfl⟩
theorem m_is_pooled_eq {T : List Th} (g : GoodT T) : m_is_pooled [encT T] = .ok (.bool (decide (((edg (ixF T)).length : Int) = ((scs T).length : Int)))) := by
  refine mBody_of (ev_check (ev_callF (s1 := ()) rfl (m_check_things_eq g)) (ret_of (ev_op (s1 := ()) (ev_call (ev_a1 (ev_callF rfl (m_pooled_eq g))) (pLen_l _)) (ev_call (ev_a1 (ev_callF rfl (m_scores_of_eq g.l64))) (pLen_l _)) ?_) rfl))
  rw [pEq_i, List.length_map, List.length_map]
theorem ixF_len {T : List Th} (g : GoodT T) : (ixF T).length ≤ 13 := by
  have h := congrArg List.length (ixF_map T)
  rw [List.length_map] at h
  have := crn_len (pts T)
  have := (pts_ok g).l13
  omega
theorem edgF_len {T : List Th} (g : GoodT T) : (edg (ixF T)).length ≤ 12 := by
  rw [edg_len]
  have := ixF_len g
  omega
/-! ### sums over pools -/
def plS (T : List Th) (e : Nat × Nat) : Int := (plv T e).2.2.1
def plF (T : List Th) (e : Nat × Nat) : Int := (plv T e).2.2.2
def plW (T : List Th) (e : Nat × Nat) : Int := plS T e + plF T e
theorem pl_bd {T : List Th} (g : GoodT T) {e : Nat × Nat} (he : e ∈ edg (ixF T)) : 0 ≤ plS T e ∧ 0 ≤ plF T e ∧ 1 ≤ plW T e ∧ plW T e ≤ 12 := by
  have hc := ixF_chn g
  obtain ⟨⟨a1, a2, a3, a4⟩, a5, a6⟩ := plv_sqe g (chn_edge hc he).1 (chn_edge hc he).2
  unfold plW plS plF
  omega
theorem cnt_above {T : List Th} (g : GoodT T) {a : Nat} (h : a < (scs T).length) : cnt T (scA T a + 1) = ptA T a := by
  cases a with
  | zero =>
    rw [ptA_0]
    have : ∀ x ∈ T, ¬ scA T 0 + 1 ≤ x.1 := fun x hx z => by
      obtain ⟨i, hi, e⟩ := scA_mem (mem_sc hx)
      have := (scA_le hi h).mpr (Nat.zero_le i)
      omega
    rw [cnt_gap (u := 100) fun x hx => ⟨fun z => absurd z (this x hx), fun z => by have := g.sc x hx; omega⟩, cnt_top g (Int.le_refl _)]
  | succ a =>
    rw [ptA_succ (by omega)]
    refine cnt_gap fun x hx => ?_
    obtain ⟨i, hi, e⟩ := scA_mem (mem_sc hx)
    have h1 := scA_le (T := T) (i := a) (j := i) (by omega) hi
    have h2 := scA_le (T := T) (i := i) (j := a + 1) hi h
    rw [← e]
    constructor
    · intro z
      rw [h1]
      have : ¬ (a + 1 ≤ i) := fun w => by have := h2.mpr w; omega
      omega
    · intro z
      have h3 := h1.mp z
      have : ¬ (scA T i ≤ scA T (a + 1)) := fun w => by have := h2.mp w; omega
      omega
theorem in_sum {T : List Th} (g : GoodT T) {e : Nat × Nat} (he : e ∈ edg (ixF T)) (A B : Int) : (T.map fun x => bI (inb T x.1 e) * (if x.2 = true then A else B)).sum = plF T e * A + plS T e * B := by
  have hc := ixF_chn g
  obtain ⟨h1, h2⟩ := chn_edge hc he
  have eb : ptA T e.2 = cnt T (scA T (e.2 - 1)) := by
    have := ptA_succ (T := T) (i := e.2 - 1) (by omega)
    rw [show e.2 - 1 + 1 = e.2 by omega] at this
    exact this
  have ea := cnt_above g (a := e.1) (by omega)
  have hle : scA T (e.2 - 1) ≤ scA T e.1 := (scA_le (by omega) (by omega)).mpr (by omega)
  have f1 : plF T e = (T.map fun x => bI (inb T x.1 e) * bI x.2).sum := by
    unfold plF plv
    dsimp only
    rw [eb, ← ea]
    show tr T (scA T (e.2 - 1)) - tr T (scA T e.1 + 1) = _
    rw [tr_sum, tr_sum]
    have : (T.map fun x => bI (inb T x.1 e) * bI x.2).sum + (T.map fun x => bI (decide (scA T e.1 + 1 ≤ x.1) && x.2)).sum = (T.map fun x => bI (decide (scA T (e.2 - 1) ≤ x.1) && x.2)).sum := by
      rw [← sum_map_add]
      refine sum_map_congr fun x _ => ?_
      unfold inb plv bI
      dsimp only
      cases x.2 <;> simp
      grind
    omega
  have f2 : plS T e = (T.map fun x => bI (inb T x.1 e) * bI (!x.2)).sum := by
    unfold plS plv
    dsimp only
    rw [eb, ← ea]
    show fa T (scA T (e.2 - 1)) - fa T (scA T e.1 + 1) = _
    rw [fa_sum, fa_sum]
    have : (T.map fun x => bI (inb T x.1 e) * bI (!x.2)).sum + (T.map fun x => bI (decide (scA T e.1 + 1 ≤ x.1) && !x.2)).sum = (T.map fun x => bI (decide (scA T (e.2 - 1) ≤ x.1) && !x.2)).sum := by
      rw [← sum_map_add]
      refine sum_map_congr fun x _ => ?_
      unfold inb plv bI
      dsimp only
      cases x.2 <;> simp
      grind
    omega
  rw [f1, f2, Int.mul_comm _ A, Int.mul_comm _ B, ← sum_map_mul, ← sum_map_mul, ← sum_map_add]
  refine sum_map_congr fun x _ => ?_
  unfold bI
  cases x.2 <;> simp [Int.mul_comm]
theorem sum_one {a : Type} (p : a → Bool) (h : a → Int) : ∀ (l : List a) (x : a), l.find? p = some x → l.Pairwise (fun e f => ¬ (p e = true ∧ p f = true)) → (l.map fun e => bI (p e) * h e).sum = h x
  | [], x, hf, _ => by cases hf
  | e :: l, x, hf, hp => by
    have hp' := List.pairwise_cons.mp hp
    rw [List.map_cons, List.sum_cons]
    cases hb : p e with
    | true =>
      rw [List.find?_cons_of_pos hb] at hf
      injection hf with hf
      subst hf
      have : (l.map fun e => bI (p e) * h e).sum = (l.map fun _ => (0 : Int)).sum := sum_map_congr fun f hf => by
        have : p f = false := by
          cases hz : p f with
          | false => rfl
          | true => exact absurd ⟨hb, hz⟩ (hp'.1 f hf)
        rw [this]
        simp [bI]
      rw [this, sum_map_zero]
      simp [bI]
    | false =>
      rw [List.find?_cons_of_neg (by simp [hb])] at hf
      rw [sum_one p h l x hf hp'.2]
      simp [bI]
def tau (T : List Th) (c : Nat × Nat → Int) (x : Th) : Int := (if x.2 = true then (plF T (poolOf T x.1) - plW T (poolOf T x.1)) * (plF T (poolOf T x.1) - plW T (poolOf T x.1)) else plF T (poolOf T x.1) * plF T (poolOf T x.1)) * (c (poolOf T x.1) * c (poolOf T x.1))
def rho (T : List Th) (c : Nat × Nat → Int) (e : Nat × Nat) : Int := plF T e * plS T e * plW T e * (c e * c e)
theorem tau_rho {T : List Th} (g : GoodT T) (c : Nat × Nat → Int) : (T.map (tau T c)).sum = ((edg (ixF T)).map (rho T c)).sum := by
  have hc := ixF_chn g
  have h1 : (T.map (tau T c)).sum = (T.map fun x => ((edg (ixF T)).map fun e => bI (inb T x.1 e) * (if x.2 = true then (plF T e - plW T e) * (plF T e - plW T e) * (c e * c e) else plF T e * plF T e * (c e * c e))).sum).sum := sum_map_congr fun x hx => by
    obtain ⟨i, hi, ei⟩ := scA_mem (mem_sc hx)
    have := sum_one (inb T x.1) (fun e => if x.2 = true then (plF T e - plW T e) * (plF T e - plW T e) * (c e * c e) else plF T e * plF T e * (c e * c e)) (edg (ixF T)) (poolOf T x.1) (pool_sc g (mem_sc hx)).1 (by
      refine List.Pairwise.imp_of_mem (fun {e f} he hf hef => ?_) (edg_apart (ixF T) hc.lt)
      rintro ⟨z1, z2⟩
      rw [← ei] at z1 z2
      have a1 := (inb_iff hi (chn_edge hc he).1 (chn_edge hc he).2).mp z1
      have a2 := (inb_iff hi (chn_edge hc hf).1 (chn_edge hc hf).2).mp z2
      omega)
    rw [this]
    unfold tau
    cases x.2 <;> simp
  rw [h1, sum_swap]
  refine sum_map_congr fun e he => ?_
  rw [in_sum g he]
  unfold rho plW
  grind
end DL

/-! NJ: squared errors as sums of fractions -/
namespace DL
open PySem PySem.Spec PyProof.Rows L2
local macro_rules | `(tactic| walk_at "ev") => `(tactic| simp only [szL, Nat.reduceLeDiff, mBody, mBodyD, outP, outD, cVar, cC, cOp, cUn, cTest, cAndT, cOrT, cNotT, cAndV, cOrV, cIf, aNil, aCons, cTup, cLst, cSl, oNone, oSome, cCall, cCallF, cCallD, cMeth, noX', isL_list, isL_encP, tYesD, bnd_ok, bnd_exc, bnd_bad, lft_ok, lft_exc, lft_bad, isOk_ok, isOk_exc, isOk_bad, isD_int, isD_bool, isD_none, isD_str, isD_list, isD_tuple, isD_eP, isD_eT, isD_encP, isD_encT, allD, List.all_cons, List.all_nil, Bool.and_self, Bool.and_true, Bool.true_and, if_true, if_false, Bool.false_eq_true, ite_true, ite_false, reduceIte, List.length_cons, List.length_nil, List.map_cons, List.map_nil, List.cons_append, List.nil_append, List.replicate_succ, List.replicate_zero, List.getElem?_cons_zero, List.getElem?_cons_succ, List.set_cons_zero, List.set_cons_succ, wipeD, sSeq, sSet, sAsg, sRet, sIf, sExpr, sNil, sRaise, sSetF, sApp, sAug, sAugL, sPar, sPar3, fLst, bNm, bTup, bCons, bNil, pNot, pIsi, isiT, tyN, pNeg, Nat.reduceAdd, decide_true, decide_false, Bool.not_true, Bool.not_false, noX_ok, pLe_i, pLt_i, pGt_i, pGe_i, pAdd_i, pSub_i, pLen_l, pLen_t, pIx_t0, pIx_t1, pEq_i, pNe_i])
local macro_rules | `(tactic| walk_at "evs") => `(tactic| simp [szL, mBody, mBodyD, outP, outD, cVar, cC, cOp, cUn, cTest, cAndT, cOrT, cNotT, cAndV, cOrV, cIf, aNil, aCons, cTup, cLst, cSl, oNone, oSome, cCall, cCallF, cCallD, cMeth, noX', isL_list, isL_encP, tYesD, bnd_ok, bnd_exc, bnd_bad, lft_ok, lft_exc, lft_bad, isOk_ok, isOk_exc, isOk_bad, isD_int, isD_bool, isD_none, isD_str, isD_list, isD_tuple, isD_eP, isD_eT, isD_encP, isD_encT, allD, List.all_cons, List.all_nil, List.map_cons, List.map_nil, List.cons_append, List.nil_append, List.replicate_succ, List.replicate_zero, List.getElem?_cons_zero, List.getElem?_cons_succ, List.set_cons_zero, List.set_cons_succ, wipeD, sSeq, sSet, sAsg, sRet, sIf, sExpr, sNil, sRaise, sSetF, sApp, sAug, sAugL, sPar, sPar3, fLst, bNm, bTup, bCons, bNil, pNot, pIsi, isiT, tyN, pNeg, noX_ok, pLe_i, pLt_i, pGt_i, pGe_i, pAdd_i, pSub_i, pLen_l, pLen_t, pIx_t0, pIx_t1, pEq_i, pNe_i])
local macro_rules | `(tactic| walk_at "evx") => `(tactic| simp [szL, mBody, mBodyD, outP, outD, cVar, cC, cOp, cUn, cTest, cAndT, cOrT, cNotT, cAndV, cOrV, cIf, aNil, aCons, cTup, cLst, cSl, oNone, oSome, cCall, cCallF, cCallD, cMeth, noX', isL_list, isL_encP, tYesD, bnd_ok, bnd_exc, bnd_bad, lft_ok, lft_exc, lft_bad, isOk_ok, isOk_exc, isOk_bad, isD_int, isD_bool, isD_none, isD_str, isD_list, isD_tuple, isD_eP, isD_eT, isD_encP, isD_encT, allD, List.all_cons, List.all_nil, List.map_cons, List.map_nil, List.cons_append, List.nil_append, List.replicate_succ, List.replicate_zero, List.getElem?_cons_zero, List.getElem?_cons_succ, List.set_cons_zero, List.set_cons_succ, wipeD, sSeq, sSet, sAsg, sRet, sIf, sExpr, sNil, sRaise, sSetF, sApp, sAug, sAugL, sPar, sPar3, fLst, bNm, bTup, bCons, bNil, pNot, pIsi, isiT, tyN, pNeg, noX_ok, pLe_i, pLt_i, pGt_i, pGe_i, pAdd_i, pSub_i, pLen_l, pLen_t, pIx_t0, pIx_t1, pEq_i, pNe_i, *])
theorem Val.scale {p : Pt} {n d k : Int} (h : Val p n d) (hk : 0 < k) : Val p (n * k) (d * k) := ⟨h.hp, Int.mul_pos h.hd hk, by
  have := h.he
  rw [← Int.mul_assoc, this]
  grind⟩
theorem Val.same {p q : Pt} {n m d : Int} (h : Val p n d) (k : Val q m d) : Val (lowQ (p.1 * q.2 + q.1 * p.2) (p.2 * q.2)) (n + m) d := by
  have hv := h.add k
  refine ⟨hv.hp, h.hd, ?_⟩
  have he := hv.he
  refine Int.eq_of_mul_eq_mul_right (Int.ne_of_gt h.hd) ?_
  generalize lowQ (p.1 * q.2 + q.1 * p.2) (p.2 * q.2) = r at he ⊢
  grind
theorem Val.sq {p : Pt} {n d : Int} (h : Val p n d) : Val (lowQ (p.1 * p.1) (p.2 * p.2)) (n * n) (d * d) := by
  have hv := Val.low (n := p.1 * p.1) (Int.mul_pos h.hp h.hp)
  refine ⟨hv.hp, Int.mul_pos h.hd h.hd, ?_⟩
  have h1 := h.he
  have h3 := hv.he
  refine Int.eq_of_mul_eq_mul_right (Int.ne_of_gt (Int.mul_pos h.hp h.hp)) ?_
  generalize lowQ (p.1 * p.1) (p.2 * p.2) = r at h3 ⊢
  have a1 : r.1 * (d * d) * (p.2 * p.2) = (r.1 * (p.2 * p.2)) * (d * d) := by grind
  have a2 : p.1 * p.1 * r.2 * (d * d) = (p.1 * d) * (p.1 * d) * r.2 := by grind
  rw [a1, h3, a2, h1]
  grind
theorem Val.den {p : Pt} {n d : Int} (h : Val p n d) (hl : IsLow p) : p.2 ≤ d := by
  have : p.2 ∣ p.1 * d := ⟨n, by rw [h.he, Int.mul_comm]⟩
  exact Int.le_of_dvd h.hd (dvd_cop this hl.2)
theorem Val.num {p : Pt} {n d K : Int} (h : Val p n d) (h0 : 0 ≤ n) (h1 : n ≤ K * d) : 0 ≤ p.1 ∧ p.1 ≤ K * p.2 := by
  have he := h.he
  constructor
  · rcases Int.lt_or_le p.1 0 with z | z
    · have := h.sign.mp z
      omega
    · exact z
  · refine Int.le_of_mul_le_mul_right ?_ h.hd
    rw [he]
    have := Int.mul_le_mul_of_nonneg_right h1 (Int.le_of_lt h.hp)
    grind
structure Acc (p : Pt) (N D : Int) : Prop where
  low : IsLow p
  val : Val p N D
theorem Acc.zero {D : Int} (h : 0 < D) : Acc (0, 1) 0 D := ⟨low1 0, Int.one_pos, h, by show (0 : Int) * D = 0 * 1; simp⟩
theorem Acc.step {p t : Pt} {N M D : Int} (h : Acc p N D) (k : Val t M D) : Acc (lowQ (p.1 * t.2 + t.1 * p.2) (p.2 * t.2)) (N + M) D := ⟨lowQ_low (Int.mul_pos h.val.hp k.hp), h.val.same k⟩
/-! ### the product of the pools' sizes -/
def prd : List Int → Int
  | [] => 1
  | w :: l => w * prd l
theorem prd_pos : ∀ {l : List Int}, (∀ w ∈ l, 1 ≤ w) → 1 ≤ prd l
  | [], _ => Int.le_refl _
  | w :: l, h => by
    have h1 := h w (by simp)
    have h2 := prd_pos (l := l) fun x hx => h x (List.mem_cons_of_mem _ hx)
    have := Int.mul_le_mul_of_nonneg_left h2 (show 0 ≤ w by omega)
    show 1 ≤ w * prd l
    omega
theorem prd_dvd {w : Int} : ∀ {l : List Int}, w ∈ l → w ∣ prd l
  | [], h => by cases h
  | x :: l, h => by
    rcases List.mem_cons.mp h with z | z
    · rw [z]; exact ⟨prd l, rfl⟩
    · obtain ⟨k, hk⟩ := prd_dvd z
      exact ⟨x * k, by show x * prd l = _; rw [hk]; grind⟩
theorem cube_le (w : Int) (h1 : 1 ≤ w) (h2 : w ≤ 12) : w * w * w ≤ 3 ^ w.toNat := by
  have : w = 1 ∨ w = 2 ∨ w = 3 ∨ w = 4 ∨ w = 5 ∨ w = 6 ∨ w = 7 ∨ w = 8 ∨ w = 9 ∨ w = 10 ∨ w = 11 ∨ w = 12 := by omega
  rcases this with rfl | rfl | rfl | rfl | rfl | rfl | rfl | rfl | rfl | rfl | rfl | rfl <;> decide
theorem prd_cube : ∀ {l : List Int}, (∀ w ∈ l, 1 ≤ w ∧ w ≤ 12) → prd l * prd l * prd l ≤ 3 ^ l.sum.toNat
  | [], _ => by decide
  | w :: l, h => by
    have h1 := h w (by simp)
    have hl := fun x hx => h x (List.mem_cons_of_mem w hx)
    have ih := prd_cube (l := l) hl
    have hp := prd_pos (l := l) fun x hx => (hl x hx).1
    have hc := cube_le w h1.1 h1.2
    have hs : 0 ≤ l.sum := by
      have : ∀ m : List Int, (∀ x ∈ m, 1 ≤ x ∧ x ≤ 12) → 0 ≤ m.sum := fun m => by
        induction m with
        | nil => intro _; exact Int.le_refl _
        | cons y m ih =>
          intro hm
          have := hm y (by simp)
          have := ih fun x hx => hm x (List.mem_cons_of_mem _ hx)
          rw [List.sum_cons]; omega
      exact this l hl
    have e : (w :: l).sum.toNat = w.toNat + l.sum.toNat := by rw [List.sum_cons]; omega
    rw [e, Int.pow_add]
    show w * prd l * (w * prd l) * (w * prd l) ≤ _
    have a : w * prd l * (w * prd l) * (w * prd l) = (w * w * w) * (prd l * prd l * prd l) := by grind
    rw [a]
    have n1 : 0 ≤ prd l * prd l * prd l := Int.mul_nonneg (Int.mul_nonneg (by omega) (by omega)) (by omega)
    have m1 := Int.mul_le_mul_of_nonneg_right hc n1
    have m2 := Int.mul_le_mul_of_nonneg_left ih (show (0 : Int) ≤ 3 ^ w.toNat from Int.le_of_lt (Int.pow_pos (by decide)))
    omega
theorem sum_tel (h : Nat → Int) : ∀ (r : List Nat) (a l : Nat), (a :: r).getLast? = some l → ((edg (a :: r)).map fun e => h e.2 - h e.1).sum = h l - h a
  | [], a, l, hl => by
    have : a = l := by injection hl
    subst this
    simp [edg]
  | b :: r, a, l, hl => by
    have ih := sum_tel h r b l (by rw [List.getLast?_cons_cons] at hl; exact hl)
    rw [edg_cons, List.map_cons, List.sum_cons, ih]
    show h b - h a + _ = _
    omega
def Wpd (T : List Th) : Int := prd ((edg (ixF T)).map (plW T))
theorem Wpd_sum {T : List Th} (g : GoodT T) : ((edg (ixF T)).map (plW T)).sum ≤ 12 := by
  have hc := ixF_chn g
  have hd := hc.hd
  have hl := hc.lst
  cases hi : ixF T with
  | nil => rw [hi] at hd; cases hd
  | cons a r =>
    rw [hi] at hd hl
    injection hd with hd
    subst hd
    have := sum_tel (fun i => (ptA T i).1 + (ptA T i).2) r 0 _ hl
    have e : ((edg (0 :: r)).map (plW T)).sum = ((edg (0 :: r)).map fun e => ((ptA T e.2).1 + (ptA T e.2).2) - ((ptA T e.1).1 + (ptA T e.1).2)).sum := sum_map_congr fun e _ => by
      unfold plW plS plF plv
      dsimp only
      omega
    rw [e, this, ptA_0, ptA_last g]
    have := cnt_rng g 0
    dsimp only
    omega
theorem Wpd_bd {T : List Th} (g : GoodT T) : 1 ≤ Wpd T ∧ Wpd T ≤ 81 := by
  have hb : ∀ w ∈ (edg (ixF T)).map (plW T), 1 ≤ w ∧ w ≤ 12 := fun w hw => by
    obtain ⟨e, he, rfl⟩ := List.mem_map.mp hw
    have := pl_bd g he
    omega
  have h1 : 1 ≤ Wpd T := prd_pos fun w hw => (hb w hw).1
  have h2 : Wpd T * Wpd T * Wpd T ≤ 3 ^ ((edg (ixF T)).map (plW T)).sum.toNat := prd_cube hb
  have h3 : (3 : Int) ^ ((edg (ixF T)).map (plW T)).sum.toNat ≤ 3 ^ 12 := by
    have : ((edg (ixF T)).map (plW T)).sum.toNat ≤ 12 := by have := Wpd_sum g; omega
    generalize ((edg (ixF T)).map (plW T)).sum.toNat = a at this
    obtain ⟨k, hk⟩ := Nat.exists_eq_add_of_le this
    rw [hk, Int.pow_add]
    have p1 : (0 : Int) < 3 ^ a := Int.pow_pos (by decide)
    have p2 : (0 : Int) < 3 ^ k := Int.pow_pos (by decide)
    have := Int.mul_le_mul_of_nonneg_left (show (1 : Int) ≤ 3 ^ k by omega) (Int.le_of_lt p1)
    omega
  refine ⟨h1, ?_⟩
  rcases Int.lt_or_le 81 (Wpd T) with z | z
  · exfalso
    have z' : 82 ≤ Wpd T := by omega
    have m1 := mul_bd (a := 82) (b := 82) (A := Wpd T) (B := Wpd T) (by decide) z' (by decide) z'
    have m2 := mul_bd (a := 82 * 82) (b := 82) (A := Wpd T * Wpd T) (B := Wpd T) (by decide) m1.2 (by decide) z'
    have e : (3 : Int) ^ 12 = 531441 := by decide
    rw [e] at h3
    omega
  · exact z
def cW (T : List Th) (e : Nat × Nat) : Int := Wpd T / plW T e
theorem cW_mul {T : List Th} (g : GoodT T) {e : Nat × Nat} (he : e ∈ edg (ixF T)) : cW T e * plW T e = Wpd T ∧ 1 ≤ cW T e := by
  have hd : plW T e ∣ Wpd T := prd_dvd (List.mem_map.mpr ⟨e, he, rfl⟩)
  have hb := pl_bd g he
  have hw := Wpd_bd g
  have h1 : cW T e * plW T e = Wpd T := Int.ediv_mul_cancel hd
  refine ⟨h1, ?_⟩
  rcases Int.lt_or_le (cW T e) 1 with z | z
  · have := Int.mul_nonpos_of_nonpos_of_nonneg (show cW T e ≤ 0 by omega) (show 0 ≤ plW T e by omega)
    omega
  · exact z
def D2 (T : List Th) : Int := Wpd T * Wpd T
theorem D2_bd {T : List Th} (g : GoodT T) : 1 ≤ D2 T ∧ D2 T ≤ 6561 := by
  have h := Wpd_bd g
  have m1 := mul_bd (a := Wpd T) (b := Wpd T) (A := 81) (B := 81) (by omega) h.2 (by omega) h.2
  have m2 := Int.mul_pos (show 0 < Wpd T by omega) (show 0 < Wpd T by omega)
  unfold D2
  omega
theorem D2_eq {T : List Th} (g : GoodT T) {e : Nat × Nat} (he : e ∈ edg (ixF T)) : D2 T = plW T e * plW T e * (cW T e * cW T e) := by
  have := (cW_mul g he).1
  unfold D2
  rw [← this]
  grind
/-- what a pool adds -/
theorem rho_val {T : List Th} (g : GoodT T) {e : Nat × Nat} (he : e ∈ edg (ixF T)) : Val (lowQ (plF T e * plS T e) (plS T e + plF T e)) (rho T (cW T) e) (D2 T) ∧ 0 ≤ rho T (cW T) e ∧ rho T (cW T) e ≤ 12 * D2 T := by
  have hb := pl_bd g he
  have hc := cW_mul g he
  have hd := D2_eq g he
  have hk : 0 < plW T e * (cW T e * cW T e) := Int.mul_pos (by omega) (Int.mul_pos (by omega) (by omega))
  have hv := (Val.low (n := plF T e * plS T e) (d := plS T e + plF T e) (by have := hb.2.2.1; unfold plW at this; omega)).scale hk
  refine ⟨?_, ?_, ?_⟩
  · rw [hd]
    have e1 : rho T (cW T) e = plF T e * plS T e * (plW T e * (cW T e * cW T e)) := by unfold rho; grind
    have e2 : plW T e * plW T e * (cW T e * cW T e) = (plS T e + plF T e) * (plW T e * (cW T e * cW T e)) := by
      rw [Int.mul_assoc]; rfl
    rw [e1, e2]
    exact hv
  · unfold rho
    exact Int.mul_nonneg (Int.mul_nonneg (Int.mul_nonneg hb.2.1 hb.1) (by omega)) (Int.mul_nonneg (by omega) (by omega))
  · rw [hd]
    have hf : plF T e ≤ plW T e := by unfold plW; omega
    have hs : plS T e ≤ plW T e := by unfold plW; omega
    have m1 := mul_bd hb.2.1 hf hb.1 hs
    have m2 := Int.mul_le_mul_of_nonneg_right m1.2 (show 0 ≤ plW T e * (cW T e * cW T e) by omega)
    have m3 := Int.mul_le_mul_of_nonneg_right hb.2.2.2 (show 0 ≤ plW T e * plW T e * (cW T e * cW T e) from Int.mul_nonneg (Int.mul_nonneg (by omega) (by omega)) (Int.mul_nonneg (by omega) (by omega)))
    have e1 : rho T (cW T) e = plF T e * plS T e * (plW T e * (cW T e * cW T e)) := by unfold rho; grind
    rw [e1]
    have e2 : plW T e * plW T e * (plW T e * (cW T e * cW T e)) = plW T e * (plW T e * plW T e * (cW T e * cW T e)) := by grind
    omega
def sqe (T : List Th) (E : List (Nat × Nat)) : Pt := E.foldl (fun p e => lowQ (p.1 * (lowQ (plF T e * plS T e) (plS T e + plF T e)).2 + (lowQ (plF T e * plS T e) (plS T e + plF T e)).1 * p.2) (p.2 * (lowQ (plF T e * plS T e) (plS T e + plF T e)).2)) (0, 1)
theorem sqe_snoc (T : List Th) (E : List (Nat × Nat)) (e : Nat × Nat) : sqe T (E ++ [e]) = lowQ ((sqe T E).1 * (lowQ (plF T e * plS T e) (plS T e + plF T e)).2 + (lowQ (plF T e * plS T e) (plS T e + plF T e)).1 * (sqe T E).2) ((sqe T E).2 * (lowQ (plF T e * plS T e) (plS T e + plF T e)).2) := by
  unfold sqe
  rw [List.foldl_append]
  rfl
theorem sum_nn {a : Type} {f : a → Int} {B : Int} : ∀ {l : List a}, (∀ x ∈ l, 0 ≤ f x ∧ f x ≤ B) → 0 ≤ (l.map f).sum ∧ (l.map f).sum ≤ (l.length : Int) * B
  | [], _ => by simp
  | x :: l, h => by
    have h1 := h x (by simp)
    have h2 := sum_nn (f := f) (B := B) (l := l) fun y hy => h y (List.mem_cons_of_mem _ hy)
    rw [List.map_cons, List.sum_cons, List.length_cons]
    rw [show (((l.length + 1 : Nat)) : Int) * B = (l.length : Int) * B + B by rw [show ((l.length + 1 : Nat) : Int) = (l.length : Int) + 1 by omega, Int.add_mul, Int.one_mul]]
    omega
theorem sqe_acc {T : List Th} (g : GoodT T) : ∀ (n : Nat) (E : List (Nat × Nat)), E.length = n → (∀ e ∈ E, e ∈ edg (ixF T)) → Acc (sqe T E) (E.map (rho T (cW T))).sum (D2 T)
  | 0, E, h, _ => by
    rw [List.length_eq_zero_iff] at h
    subst h
    exact Acc.zero (by have := D2_bd g; omega)
  | n + 1, E, h, hm => by
    rcases List.eq_nil_or_concat E with z | ⟨F, e, z⟩
    · rw [z] at h; cases h
    · rw [List.concat_eq_append] at z
      subst z
      have ih := sqe_acc g n F (by simpa using h) fun x hx => hm x (List.mem_append_left _ hx)
      rw [sqe_snoc, List.map_append, List.sum_append]
      have := ih.step (rho_val g (hm e (by simp))).1
      simpa using this
theorem acc_bd {T : List Th} (g : GoodT T) {p : Pt} {N K : Int} (h : Acc p N (D2 T)) (h0 : 0 ≤ N) (h1 : N ≤ K * D2 T) (hK : 0 ≤ K ∧ K ≤ 1000) : 0 ≤ p.1 ∧ p.1 ≤ 6561000 ∧ 1 ≤ p.2 ∧ p.2 ≤ 6561 := by
  have hd := h.val.den h.low
  have hn := h.val.num h0 h1
  have hD := D2_bd g
  have hp := h.val.hp
  have := mul_bd hK.1 hK.2 (Int.le_of_lt hp) (show p.2 ≤ 6561 by omega)
  omega
theorem m_squared_error_eq {T : List Th} (g : GoodT T) : m_squared_error [encT T] = .ok (eP (sqe T (edg (ixF T)))) := by
  have hel := edgF_len g
  refine mBody_of (ev_check (ev_callF (s1 := ()) rfl (m_check_things_eq g)) (ev_let (s1 := ()) (v := eP (0, 1)) rfl ?_))
  obtain ⟨ρ', s', e, i⟩ := sForGo_inv (d := Unit) (bd := bTup (bCons (bNm 2) (bCons (bNm 3) (bCons (bNm 4) (bCons (bNm 5) bNil))))) (body := (sSeq (sSet 6 (cCallF 2 m_lowest (aCons (cOp pMul (cVar 5) (cVar 4)) (aCons (cOp pAdd (cVar 4) (cVar 5)) aNil))))
      (sSet 1 (cCallF 2 m_lowest (aCons (cOp pAdd (cOp pMul (cOp pIx (cVar 1) (cC (.int 0))) (cOp pIx (cVar 6) (cC (.int 1)))) (cOp pMul (cOp pIx (cVar 6) (cC (.int 0))) (cOp pIx (cVar 1) (cC (.int 1))))) (aCons (cOp pMul (cOp pIx (cVar 1) (cC (.int 1))) (cOp pIx (cVar 6) (cC (.int 1)))) aNil)))))) (fun e => l4 (plv T e)) (fun pre ρ _ => ∃ x2 x3 x4 x5 x6, ρ = [some (encT T), some (eP (sqe T pre)), x2, x3, x4, x5, x6]) (edg (ixF T)) [] [some (encT T), some (eP (0, 1)), none, none, none, none, none] () ⟨none, none, none, none, none, rfl⟩ fun pre e q ρ s hpq hi => by
    obtain ⟨x2, x3, x4, x5, x6, rfl⟩ := hi
    rw [List.nil_append] at hpq
    have he : e ∈ edg (ixF T) := by rw [hpq]; simp
    have hpm : ∀ x ∈ pre, x ∈ edg (ixF T) := fun x hx => by rw [hpq]; exact List.mem_append_left _ hx
    have hb := pl_bd g he
    have hW := hb.2.2
    unfold plW at hW
    have hpl : pre.length ≤ 12 := by
      have := congrArg List.length hpq
      rw [List.length_append] at this
      omega
    have hacc := sqe_acc g pre.length pre rfl hpm
    have hsn := sum_nn (f := rho T (cW T)) (B := 12 * D2 T) (l := pre) fun x hx => (rho_val g (hpm x hx)).2
    have hD := D2_bd g
    have hN : (pre.map (rho T (cW T))).sum ≤ 144 * D2 T := by
      have := Int.mul_le_mul_of_nonneg_right (show (pre.length : Int) ≤ 12 by omega) (show 0 ≤ 12 * D2 T by omega)
      omega
    have hbd := acc_bd g hacc hsn.1 hN ⟨by decide, by decide⟩
    have m1 := mul12 (a := plF T e) (b := plS T e) ⟨hb.2.1, by omega⟩ ⟨hb.1, by omega⟩
    have hd : 0 < plS T e + plF T e := by omega
    have l1 := m_lowest_eq (n := plF T e * plS T e) (d := plS T e + plF T e) hd (by omega)
    have ln := lowQ_num (n := plF T e * plS T e) hd m1.1
    have ld := lowQ_den (n := plF T e * plS T e) hd
    have lp := (lowQ_low (n := plF T e * plS T e) hd).1
    refine ⟨[some (encT T), some (eP (sqe T pre)), some (.int (plv T e).1), some (.int (plv T e).2.1), some (.int (plS T e)), some (.int (plF T e)), x6], [some (encT T), some (eP (sqe T (pre ++ [e]))), some (.int (plv T e).1), some (.int (plv T e).2.1), some (.int (plS T e)), some (.int (plF T e)), some (eP (lowQ (plF T e * plS T e) (plS T e + plF T e)))], (), rfl, ?_, ⟨_, _, _, _, _, rfl⟩⟩
    rw [sqe_snoc]
    generalize lowQ (plF T e * plS T e) (plS T e + plF T e) = t at l1 ln ld lp ⊢
    generalize sqe T pre = p at hbd ⊢
    refine ev_let (s1 := ()) (ev_callF (ev_aC (s1 := ()) (ev_op rfl rfl (pMul_i (by omega))) (ev_a1 (ev_op rfl rfl (pAdd_i _ _)))) l1) ?_
    have md := mul_bd (a := p.2) (b := t.2) (A := 6561) (B := 12) (by omega) hbd.2.2.2 (by omega) (by omega)
    have mp := Int.mul_pos (show 0 < p.2 by omega) lp
    exact ev_set (ev_callF (ev_aC (s1 := ()) (ev_op (s1 := ()) (ev_op (s1 := ()) (ev_op rfl rfl (eP_0 _)) (ev_op rfl rfl (eP_1 _)) (pMul_i (by omega))) (ev_op (s1 := ()) (ev_op rfl rfl (eP_0 _)) (ev_op rfl rfl (eP_1 _)) (pMul_i (by omega))) (pAdd_i _ _)) (ev_a1 (ev_op (s1 := ()) (ev_op rfl rfl (eP_1 _)) (ev_op rfl rfl (eP_1 _)) (pMul_i (by omega))))) (m_lowest_eq mp (by omega)))
  obtain ⟨x2, x3, x4, x5, x6, rfl⟩ := i
  exact ev_seq (ev_for (s' := ()) (ev_iLst (ev_callF rfl (m_pooled_eq g))) e) rfl
end DL

namespace KK
open PySem PySem.Spec PyProof.Rows L2 DL
abbrev Env := DL.Env
local macro_rules | `(tactic| walk_at "ev") => `(tactic| simp only [szL, Nat.reduceLeDiff, mBody, mBodyD, outP, outD, cVar, cC, cOp, cUn, cTest, cAndT, cOrT, cNotT, cAndV, cOrV, cIf, aNil, aCons, cTup, cLst, cSl, oNone, oSome, cCall, cCallF, cCallD, cMeth, noX', isL_list, isL_encP, tYesD, bnd_ok, bnd_exc, bnd_bad, lft_ok, lft_exc, lft_bad, isOk_ok, isOk_exc, isOk_bad, isD_int, isD_bool, isD_none, isD_str, isD_list, isD_tuple, isD_eP, isD_eT, isD_encP, isD_encT, allD, List.all_cons, List.all_nil, Bool.and_self, Bool.and_true, Bool.true_and, if_true, if_false, Bool.false_eq_true, ite_true, ite_false, reduceIte, List.length_cons, List.length_nil, List.map_cons, List.map_nil, List.cons_append, List.nil_append, List.replicate_succ, List.replicate_zero, List.getElem?_cons_zero, List.getElem?_cons_succ, List.set_cons_zero, List.set_cons_succ, wipeD, sSeq, sSet, sAsg, sRet, sIf, sExpr, sNil, sRaise, sSetF, sApp, sAug, sAugL, sPar, sPar3, fLst, bNm, bTup, bCons, bNil, pNot, pIsi, isiT, tyN, pNeg, Nat.reduceAdd, decide_true, decide_false, Bool.not_true, Bool.not_false, noX_ok, pLe_i, pLt_i, pGt_i, pGe_i, pAdd_i, pSub_i, pLen_l, pLen_t, pIx_t0, pIx_t1, pEq_i, pNe_i])
local macro_rules | `(tactic| walk_at "evs") => `(tactic| simp [szL, mBody, mBodyD, outP, outD, cVar, cC, cOp, cUn, cTest, cAndT, cOrT, cNotT, cAndV, cOrV, cIf, aNil, aCons, cTup, cLst, cSl, oNone, oSome, cCall, cCallF, cCallD, cMeth, noX', isL_list, isL_encP, tYesD, bnd_ok, bnd_exc, bnd_bad, lft_ok, lft_exc, lft_bad, isOk_ok, isOk_exc, isOk_bad, isD_int, isD_bool, isD_none, isD_str, isD_list, isD_tuple, isD_eP, isD_eT, isD_encP, isD_encT, allD, List.all_cons, List.all_nil, List.map_cons, List.map_nil, List.cons_append, List.nil_append, List.replicate_succ, List.replicate_zero, List.getElem?_cons_zero, List.getElem?_cons_succ, List.set_cons_zero, List.set_cons_succ, wipeD, sSeq, sSet, sAsg, sRet, sIf, sExpr, sNil, sRaise, sSetF, sApp, sAug, sAugL, sPar, sPar3, fLst, bNm, bTup, bCons, bNil, pNot, pIsi, isiT, tyN, pNeg, noX_ok, pLe_i, pLt_i, pGt_i, pGe_i, pAdd_i, pSub_i, pLen_l, pLen_t, pIx_t0, pIx_t1, pEq_i, pNe_i])
local macro_rules | `(tactic| walk_at "evx") => `(tactic| simp [szL, mBody, mBodyD, outP, outD, cVar, cC, cOp, cUn, cTest, cAndT, cOrT, cNotT, cAndV, cOrV, cIf, aNil, aCons, cTup, cLst, cSl, oNone, oSome, cCall, cCallF, cCallD, cMeth, noX', isL_list, isL_encP, tYesD, bnd_ok, bnd_exc, bnd_bad, lft_ok, lft_exc, lft_bad, isOk_ok, isOk_exc, isOk_bad, isD_int, isD_bool, isD_none, isD_str, isD_list, isD_tuple, isD_eP, isD_eT, isD_encP, isD_encT, allD, List.all_cons, List.all_nil, List.map_cons, List.map_nil, List.cons_append, List.nil_append, List.replicate_succ, List.replicate_zero, List.getElem?_cons_zero, List.getElem?_cons_succ, List.set_cons_zero, List.set_cons_succ, wipeD, sSeq, sSet, sAsg, sRet, sIf, sExpr, sNil, sRaise, sSetF, sApp, sAug, sAugL, sPar, sPar3, fLst, bNm, bTup, bCons, bNil, pNot, pIsi, isiT, tyN, pNeg, noX_ok, pLe_i, pLt_i, pGt_i, pGe_i, pAdd_i, pSub_i, pLen_l, pLen_t, pIx_t0, pIx_t1, pEq_i, pNe_i, *])
def b_law : Env → Dr → R (Fl × Dr) :=
      (sSeq (sSet 2 (cCallD 2 m__law_things (aCons (cVar 1) (aCons (cC (.int 12)) aNil))))
      (sSeq (sSetF 3 (fLst aNil))
      (sSeq (sFor (iLst (cUn pRev (cUn pSortSet (cComp (iLst (cVar 2)) (bTup (bCons (bNm 4) (bCons (bNm 16) bNil))) [4, 16] tYesD (cVar 4))))) (bNm 4)
      (sSeq (sSet 11 (cComp (iLst (cVar 2)) (bTup (bCons (bNm 21) (bCons (bNm 16) bNil))) [21, 16] (cTest (cOp pEq (cVar 21) (cVar 4))) (cVar 16)))
      (sApp 3 (cTup (aCons (cVar 4) (aCons (cVar 4) (aCons (cMeth pCount (cVar 11) (cC (.bool false))) (aCons (cMeth pCount (cVar 11) (cC (.bool true))) aNil))))))))
      (sSeq (sSet 5 (cCallF 1 m__law_wrong (aCons (cVar 3) aNil)))
      (sSeq (sWhile (fuLen 3) (cTest (cOp pNe (cVar 5) (cLst aNil)))
      (sSeq (sSet 12 (cCallD 2 m__law_pick (aCons (cVar 1) (aCons (cVar 5) aNil))))
      (sSeq (sPar 21 10 (aCons (cOp pIx (cVar 3) (cVar 12)) (aCons (cOp pIx (cVar 3) (cOp pAdd (cVar 12) (cC (.int 1)))) aNil)))
      (sSeq (sSet 3 (cOp pAdd (cOp pAdd (cSl pSl (cVar 3) oNone (oSome (cVar 12))) (cLst (aCons (cTup (aCons (cOp pIx (cVar 10) (cC (.int 0))) (aCons (cOp pIx (cVar 21) (cC (.int 1))) (aCons (cOp pAdd (cOp pIx (cVar 21) (cC (.int 2))) (cOp pIx (cVar 10) (cC (.int 2)))) (aCons (cOp pAdd (cOp pIx (cVar 21) (cC (.int 3))) (cOp pIx (cVar 10) (cC (.int 3)))) aNil))))) aNil))) (cSl pSl (cVar 3) (oSome (cOp pAdd (cVar 12) (cC (.int 2)))) oNone)))
      (sSet 5 (cCallF 1 m__law_wrong (aCons (cVar 3) aNil)))))))
      (sSeq (sSet 6 (cCallF 1 m_pools (aCons (cVar 2) aNil)))
      (sSeq (sIf (cOrT (cTest (cOp pNe (cVar 6) (cVar 3))) (cNotT (cTest (cCallF 2 m__law_true (aCons (cCallF 1 m_is_pooled (aCons (cVar 2) aNil)) (aCons (cOp pEq (cCall pLen (aCons (cVar 3) aNil)) (cCall pLen (aCons (cCallF 1 m_unlike_scores (aCons (cVar 2) aNil)) aNil))) aNil))))))
      (sRet (cC (.bool false)))
      sNil)
      (sSeq (sSetF 7 (fLst (aCons (cTup (aCons (cC (.int 0)) (aCons (cC (.int 0)) aNil))) aNil)))
      (sSeq (sFor (iLst (cVar 6)) (bTup (bCons (bNm 13) (bCons (bNm 14) (bCons (bNm 15) (bCons (bNm 16) bNil)))))
      (sApp 7 (cTup (aCons (cOp pAdd (cOp pIx (cOp pIx (cVar 7) (cUn pNeg (cC (.int 1)))) (cC (.int 0))) (cVar 15)) (aCons (cOp pAdd (cOp pIx (cOp pIx (cVar 7) (cUn pNeg (cC (.int 1)))) (cC (.int 1))) (cVar 16)) aNil)))))
      (sSeq (sIf (cTest (cOp pNe (cVar 7) (cCallF 1 m_hull (aCons (cVar 2) aNil))))
      (sRet (cC (.bool false)))
      sNil)
      (sSeq (sSet 8 (cTup (aCons (cC (.int 0)) (aCons (cC (.int 1)) aNil))))
      (sSeq (sSetF 9 (fLst aNil))
      (sSeq (sFor (iLst (cVar 2)) (bTup (bCons (bNm 4) (bCons (bNm 17) bNil)))
      (sSeq (sSet 18 (cOp pIx (cComp (iLst (cVar 6)) (bNm 21) [21] (cTest (cChain pLe pLe (cOp pIx (cVar 21) (cC (.int 0))) (cVar 4) (cOp pIx (cVar 21) (cC (.int 1))))) (cVar 21)) (cC (.int 0))))
      (sSeq (sSet 19 (cCallF 2 m__law_low (aCons (cOp pIx (cVar 18) (cC (.int 3))) (aCons (cOp pAdd (cOp pIx (cVar 18) (cC (.int 2))) (cOp pIx (cVar 18) (cC (.int 3)))) aNil))))
      (sSeq (sApp 9 (cVar 19))
      (sSeq (sSet 20 (cCallF 2 m__law_add (aCons (cVar 19) (aCons (cTup (aCons (cIf (cTest (cVar 17)) (cOp pSub (cC (.int 0)) (cC (.int 1))) (cC (.int 0))) (aCons (cC (.int 1)) aNil))) aNil))))
      (sSeq (sSet 8 (cCallF 2 m__law_add (aCons (cVar 8) (aCons (cCallF 2 m__law_low (aCons (cOp pMul (cOp pIx (cVar 20) (cC (.int 0))) (cOp pIx (cVar 20) (cC (.int 0)))) (aCons (cOp pMul (cOp pIx (cVar 20) (cC (.int 1))) (cOp pIx (cVar 20) (cC (.int 1)))) aNil))) aNil))))
      (sIf (cTest (cOp pNe (cCallF 2 m_share_of (aCons (cVar 2) (aCons (cVar 4) aNil))) (cVar 19)))
      (sRet (cC (.bool false)))
      sNil)))))))
      (sSeq (sSet 10 (cCallD 2 m__law_draw (aCons (cVar 1) (aCons (cC (.int 100)) aNil))))
      (sSeq (sIf (cAndT (cTest (cOp pNotIn (cVar 10) (cComp (iLst (cVar 2)) (bTup (bCons (bNm 4) (bCons (bNm 17) bNil))) [4, 17] tYesD (cVar 4)))) (cTest (cOp pIsNot (cCallF 2 m_share_of (aCons (cVar 2) (aCons (cVar 10) aNil))) (cC .none))))
      (sRet (cC (.bool false)))
      sNil)
      (sRet (cAndV (cOp pEq (cCallF 1 m_shares (aCons (cVar 2) aNil)) (cVar 9)) (cAndV (cOp pEq (cCallF 1 m_squared_error (aCons (cVar 2) aNil)) (cVar 8)) (cOp pIs (cCallF 2 m_share_of (aCons (cVar 2) (aCons (cC .none) aNil))) (cC .none))))))))))))))))))))

theorem m__law_true_eq (a b : Bool) : m__law_true [.bool a, .bool b] = .ok (.bool (decide (a = b))) := by
  cases a <;> cases b <;> rfl
theorem cut_take {a : Type} (xs : List a) (k : Nat) : DL.cutD xs none (some (k : Int)) = xs.take k := by
  unfold DL.cutD
  rw [HT.sIx_none, HT.sIx_nat, List.drop_zero, Nat.sub_zero, ← List.take_eq_take_min]
theorem cut_drop {a : Type} (xs : List a) (k : Nat) : DL.cutD xs (some (k : Int)) none = xs.drop k := by
  unfold DL.cutD
  rw [HT.sIx_none, HT.sIx_nat]
  by_cases h : k ≤ xs.length
  · rw [Nat.min_eq_left h]
    exact List.take_of_length_le (by rw [List.length_drop]; omega)
  · rw [Nat.min_eq_right (by omega), List.drop_of_length_le (Nat.le_refl _), List.drop_of_length_le (by omega)]
    simp
theorem edg_range : ∀ n : Nat, edg (List.range (n + 1)) = (List.range n).map fun i => (i, i + 1)
  | 0 => rfl
  | n + 1 => by
    have ih := edg_range n
    rw [List.range_succ, List.range_succ, List.append_assoc]
    show edg (List.range n ++ n :: (n + 1) :: []) = _
    rw [edg_mid]
    have : List.range n ++ [n] = List.range (n + 1) := (List.range_succ).symm
    rw [this, ih, List.range_succ, List.map_append]
    rfl
theorem marks_ev {T : List Th} (hg : T.length ≤ 12) {ρ : Env} {s : Dr} {t : Int} (h : cVar 2 ρ s = .ok (encT T, s)) (hb : ∀ x : Th, ∃ ρ1, bTup (bCons (bNm 21) (bCons (bNm 16) bNil)) (eT x) (wipeD ρ [21, 16]) = some ρ1 ∧ cVar 21 ρ1 s = .ok (.int x.1, s) ∧ cVar 4 ρ1 s = .ok (.int t, s) ∧ cVar 16 ρ1 s = .ok (.bool x.2, s)) :
    cComp (iLst (cVar 2)) (bTup (bCons (bNm 21) (bCons (bNm 16) bNil))) [21, 16] (cTest (cOp pEq (cVar 21) (cVar 4))) (cVar 16) ρ s = .ok (.list ((T.filter fun x => decide (x.1 = t)).map fun x => .bool x.2), s) :=
  cComp_pure T eT (fun x => decide (x.1 = t)) (fun x => .bool x.2) (ev_iLst h) (by omega) fun x _ => by
    obtain ⟨ρ1, h1, h2, h3, h4⟩ := hb x
    exact ⟨ρ1, h1, ev_test (ev_op h2 h3 (pEq_i _ _)), fun _ => ⟨h4, rfl⟩⟩
theorem count_ev (T : List Th) (t : Int) (b : Bool) : pCount (.list ((T.filter fun x => decide (x.1 = t)).map fun x => .bool x.2)) (.bool b) = .ok (.int ((T.filter fun x => decide (x.1 = t) && (x.2 == b)).length : Nat)) := by
  have h2 : toBools ((T.filter fun x => decide (x.1 = t)).map fun x => PyData.bool x.2) = some ((T.filter fun x => decide (x.1 = t)).map (·.2)) := by
    have := toBools_map ((T.filter fun x => decide (x.1 = t)).map (·.2))
    rw [List.map_map] at this
    exact this
  have cf : ∀ T : List Th, ((T.filter fun x => decide (x.1 = t)).map (·.2)).count b = (T.filter fun x => decide (x.1 = t) && (x.2 == b)).length := by
    intro T
    induction T with
    | nil => rfl
    | cons x T ih =>
      by_cases h : x.1 = t
      · rw [List.filter_cons_of_pos (by simpa using h), List.map_cons, List.count_cons, ih]
        by_cases hb : x.2 = b
        · rw [List.filter_cons_of_pos (by simp [h, hb])]; simp [hb]
        · rw [List.filter_cons_of_neg (by simp [hb])]; simp [hb]
      · rw [List.filter_cons_of_neg (by simpa using h), List.filter_cons_of_neg (by simp [h]), ih]
  show (match toBools _ with | some bs => _ | none => _) = _
  rw [h2]
  show R.ok (PyData.int _) = _
  rw [cf]
theorem lev_eq {T : List Th} (g : GoodT T) {i : Nat} (hi : i < (scs T).length) : plv T (i, i + 1) = (scA T i, scA T i, ((T.filter fun x => decide (x.1 = scA T i) && (x.2 == false)).length : Int), ((T.filter fun x => decide (x.1 = scA T i) && (x.2 == true)).length : Int)) := by
  have e1 := cnt_above g hi
  have e2 := ptA_succ hi
  unfold plv
  dsimp only
  rw [e2, ← e1, Nat.add_sub_cancel]
  congr 2
  congr 1
  · show fa T (scA T i) - fa T (scA T i + 1) = _
    rw [fa_step, len_filter_sum]
    refine sum_map_congr fun x _ => ?_
    unfold bI
    cases x.2 <;> simp
  · show tr T (scA T i) - tr T (scA T i + 1) = _
    rw [tr_sum, tr_sum, len_filter_sum]
    have : (T.map fun x => bI (decide (x.1 = scA T i) && (x.2 == true))).sum + (T.map fun x => bI (decide (scA T i + 1 ≤ x.1) && x.2)).sum = (T.map fun x => bI (decide (scA T i ≤ x.1) && x.2)).sum := by
      rw [← DL.sum_map_add]
      refine sum_map_congr fun x _ => ?_
      unfold bI
      cases x.2 <;> simp
      grind
    omega
abbrev en (T : List Th) (L : List Q4) (x4 x5 x6 x7 x8 x9 x10 x11 x12 x13 x14 x15 x16 x17 x18 x19 x20 x21 : Option PD) : Env :=
  [none, some (tokD 0), some (encT T), some (.list (L.map e4)), x4, x5, x6, x7, x8, x9, x10, x11, x12, x13, x14, x15, x16, x17, x18, x19, x20, x21]
def wTest : Env → Dr → R (Bool × Dr) := (cTest (cOp pNe (cVar 5) (cLst aNil)))
def wBody : Env → Dr → R (Fl × Dr) := (sSeq (sSet 12 (cCallD 2 m__law_pick (aCons (cVar 1) (aCons (cVar 5) aNil))))
      (sSeq (sPar 21 10 (aCons (cOp pIx (cVar 3) (cVar 12)) (aCons (cOp pIx (cVar 3) (cOp pAdd (cVar 12) (cC (.int 1)))) aNil)))
      (sSeq (sSet 3 (cOp pAdd (cOp pAdd (cSl pSl (cVar 3) oNone (oSome (cVar 12))) (cLst (aCons (cTup (aCons (cOp pIx (cVar 10) (cC (.int 0))) (aCons (cOp pIx (cVar 21) (cC (.int 1))) (aCons (cOp pAdd (cOp pIx (cVar 21) (cC (.int 2))) (cOp pIx (cVar 10) (cC (.int 2)))) (aCons (cOp pAdd (cOp pIx (cVar 21) (cC (.int 3))) (cOp pIx (cVar 10) (cC (.int 3)))) aNil))))) aNil))) (cSl pSl (cVar 3) (oSome (cOp pAdd (cVar 12) (cC (.int 2)))) oNone)))
      (sSet 5 (cCallF 1 m__law_wrong (aCons (cVar 3) aNil))))))
theorem chn_len {T : List Th} (g : GoodT T) {ix : List Nat} (h : Chn T ix) : 2 ≤ ix.length ∧ ix.length ≤ 13 := by
  have hsl := scs_len T
  have hg := g.l2
  have hn : scs T ≠ [] := scs_ne g
  have hn' : 0 < (scs T).length := List.length_pos_iff.mpr hn
  have gen2 : ∀ (l : List Nat) (a m : Nat), l.Pairwise (· < ·) → (∀ x ∈ l, a < x ∧ x ≤ m) → l.length ≤ m - a := fun l => by
    induction l with
    | nil => intro a m _ _; exact Nat.zero_le _
    | cons u l ih2 =>
      intro a m hp hm
      have hp' := List.pairwise_cons.mp hp
      have := ih2 u m hp'.2 fun x hx => ⟨hp'.1 x hx, (hm x (List.mem_cons_of_mem _ hx)).2⟩
      have := hm u (by simp)
      rw [List.length_cons]; omega
  have hd := h.hd
  have hl := h.lst
  have hp := h.lt
  have hle := h.le
  cases ix with
  | nil => cases hd
  | cons a r =>
    injection hd with hd
    subst hd
    have hp' := List.pairwise_cons.mp hp
    have := gen2 r 0 (scs T).length hp'.2 fun x hx => ⟨hp'.1 x hx, hle x (List.mem_cons_of_mem _ hx)⟩
    cases r with
    | nil =>
      have : (0 : Nat) = (scs T).length := by injection hl
      omega
    | cons b r => simp only [List.length_cons] at this ⊢; omega
theorem wrg_ev {T : List Th} (g : GoodT T) {ix : List Nat} (h : Chn T ix) : m__law_wrong [.list ((lft4 T ix).map e4)] = .ok (.list ((wrg (lft4 T ix)).map PyData.int)) := by
  have := chn_len g h
  exact m__law_wrong_eq (lft_sq g h) (by rw [lft_len]; omega) (by rw [lft_len]; omega)
theorem wBody_ev {T : List Th} (g : GoodT T) {ix : List Nat} (h : Chn T ix) {s : Dr} (hs : Live s) (hw : wrg (lft4 T ix) ≠ []) (x4 x10 x11 x12 x21 : Option PD) :
    ∃ ix' s' y10 y12 y21, Chn T ix' ∧ ix'.length + 1 = ix.length ∧ Live s' ∧ wBody (en T (lft4 T ix) x4 (some (.list ((wrg (lft4 T ix)).map PyData.int))) none none none none x10 x11 x12 none none none none none none none none x21) s = .ok (.nx (en T (lft4 T ix') x4 (some (.list ((wrg (lft4 T ix')).map PyData.int))) none none none none y10 x11 y12 none none none none none none none none y21), s') := by
  have hcl := chn_len g h
  have hwl : (wrg (lft4 T ix)).length ≤ 12 := by
    unfold wrg
    rw [List.length_map]
    have h1 := List.length_filter_le (fun k => !fall ((lft4 T ix).getD k q0) ((lft4 T ix).getD (k + 1) q0)) (List.range ((lft4 T ix).length - 1))
    have h2 : (List.range ((lft4 T ix).length - 1)).length ≤ 12 := by
      rw [List.length_range, lft_len]; omega
    omega
  have hwp : 0 < (wrg (lft4 T ix)).length := List.length_pos_iff.mpr hw
  obtain ⟨c, s1, e1, m1, v1⟩ := pick_ev (cs := (wrg (lft4 T ix)).map PyData.int) (by rw [List.length_map]; exact hwp) (by rw [List.length_map]; omega) hs
  obtain ⟨k, hk, rfl⟩ := List.mem_map.mp m1
  obtain ⟨x, a, b, c, y, hix, rfl, ht⟩ := wrg_mem hk
  have hn : Chn T (x ++ a :: c :: y) := by rw [hix] at h; exact h.drop g ht
  have hnl := chn_len g hn
  have he : edg ix = edg (x ++ [a]) ++ (a, b) :: (b, c) :: edg (c :: y) := by rw [hix, edg_mid, edg_cons]
  have hxl : (edg (x ++ [a])).length = x.length := by rw [edg_len]; simp
  have hL : lft4 T ix = (edg (x ++ [a])).map (plv T) ++ plv T (a, b) :: plv T (b, c) :: (edg (c :: y)).map (plv T) := by
    unfold lft4
    rw [he, List.map_append]
    rfl
  have hL' : lft4 T (x ++ a :: c :: y) = (edg (x ++ [a])).map (plv T) ++ [put (plv T (a, b)) (plv T (b, c))] ++ (edg (c :: y)).map (plv T) := by
    unfold lft4
    rw [edg_mid, List.map_append, put_plv]
    simp
  have hml : ((edg (x ++ [a])).map (plv T)).length = x.length := by rw [List.length_map]; exact hxl
  have i1 : pIx (.list ((lft4 T ix).map e4)) (.int (x.length : Int)) = .ok (e4 (plv T (a, b))) := pIx_nat e4 _ x.length _ (by
    rw [hL, List.getElem?_append_right (by omega), hml]
    simp)
  have i2 : pIx (.list ((lft4 T ix).map e4)) (.int ((x.length : Int) + 1)) = .ok (e4 (plv T (b, c))) := by
    have := pIx_nat e4 (lft4 T ix) (x.length + 1) (plv T (b, c)) (by
      rw [hL, List.getElem?_append_right (by omega), hml]
      simp)
    rw [show ((x.length + 1 : Nat) : Int) = (x.length : Int) + 1 by omega] at this
    exact this
  have c1 : (lft4 T ix).take x.length = (edg (x ++ [a])).map (plv T) := by
    rw [hL, List.take_append_of_le_length (by omega), List.take_of_length_le (by omega)]
  have c2 : (lft4 T ix).drop (x.length + 2) = (edg (c :: y)).map (plv T) := by
    rw [hL, List.drop_append, hml, List.drop_of_length_le (by omega), List.nil_append, show x.length + 2 - x.length = 2 by omega]
    rfl
  refine ⟨x ++ a :: c :: y, s1, some (e4 (plv T (b, c))), some (.int (x.length : Int)), some (e4 (plv T (a, b))), hn, by rw [hix]; simp only [List.length_append, List.length_cons]; omega, v1, ?_⟩
  refine ev_let (s1 := s1) (ev_callD rfl e1) ?_
  refine ev_seq (s' := s1) (ρ' := en T (lft4 T ix) x4 (some (.list ((wrg (lft4 T ix)).map PyData.int))) none none none none (some (e4 (plv T (b, c)))) x11 (some (.int (x.length : Int))) none none none none none none none none (some (e4 (plv T (a, b))))) ?_ ?_
  · unfold sPar
    rw [ev_aC (s1 := s1) (s2 := s1) (ev_op rfl rfl i1) (ev_a1 (ev_op rfl (ev_op rfl rfl (pAdd_i _ _)) i2)), bnd_ok]
    rfl
  have hl1 : (lft4 T ix).length ≤ 12 := by rw [lft_len]; omega
  have hl2 : (lft4 T (x ++ a :: c :: y)).length ≤ 12 := by rw [lft_len]; omega
  rw [hL'] at hl2
  simp only [List.length_append, List.length_cons, List.length_nil, hml] at hl2
  refine ev_let (s1 := s1) (v := .list ((lft4 T (x ++ a :: c :: y)).map e4)) (ev_op (x := .list (((edg (x ++ [a])).map (plv T) ++ [put (plv T (a, b)) (plv T (b, c))]).map e4)) (y := .list (((edg (c :: y)).map (plv T)).map e4)) (ev_op (x := .list (((edg (x ++ [a])).map (plv T)).map e4)) (y := .list [e4 (put (plv T (a, b)) (plv T (b, c)))]) ?_ (ev_lst (ev_a1 (ev_tup (ev_aC (s1 := s1) (ev_op rfl rfl (e4_0 _)) (ev_aC (s1 := s1) (ev_op rfl rfl (e4_1 _)) (ev_aC (s1 := s1) (ev_op (ev_op rfl rfl (e4_2 _)) (ev_op rfl rfl (e4_2 _)) (pAdd_i _ _)) (ev_a1 (ev_op (ev_op rfl rfl (e4_3 _)) (ev_op rfl rfl (e4_3 _)) (pAdd_i _ _))))))))) ?_) ?_ ?_) ?_
  · unfold cSl
    show R.ok (PyData.list (DL.cutD ((lft4 T ix).map e4) none (some (x.length : Int))), s1) = _
    rw [cut_take, ← List.map_take, c1]
  · rw [pAdd_lists _ _ (by simp only [List.length_map, List.length_cons, List.length_nil]; omega), List.map_append]
    rfl
  · unfold cSl
    show R.ok (PyData.list (DL.cutD ((lft4 T ix).map e4) (some ((x.length : Int) + 2)) none), s1) = _
    rw [show (x.length : Int) + 2 = ((x.length + 2 : Nat) : Int) by omega, cut_drop, ← List.map_drop, c2]
  · rw [pAdd_lists _ _ (by simp only [List.length_map, List.length_append, List.length_cons, List.length_nil]; rw [List.length_map] at hml; rw [List.length_map] at hl2; omega), ← List.map_append, ← hL']
  · exact ev_set (ev_callF (s1 := s1) rfl (wrg_ev g hn))
theorem wLoop_ev {T : List Th} (g : GoodT T) (x4 x11 : Option PD) : ∀ (n : Nat) (ix : List Nat) (s : Dr) (x10 x12 x21 : Option PD), Chn T ix → Live s → ix.length + 1 ≤ n →
    ∃ s' y10 y12 y21, Live s' ∧ sWhGo wTest wBody n (en T (lft4 T ix) x4 (some (.list ((wrg (lft4 T ix)).map PyData.int))) none none none none x10 x11 x12 none none none none none none none none x21) s = .ok (.nx (en T (lft4 T (ixF T)) x4 (some (.list [])) none none none none y10 x11 y12 none none none none none none none none y21), s')
  | 0, ix, s, _, _, _, _, _, h => by omega
  | n + 1, ix, s, x10, x12, x21, hc, hs, h => by
    have ht : wTest (en T (lft4 T ix) x4 (some (.list ((wrg (lft4 T ix)).map PyData.int))) none none none none x10 x11 x12 none none none none none none none none x21) s = .ok (decide (wrg (lft4 T ix) ≠ []), s) := ev_test (ev_op (y := .list []) rfl rfl (ne_nil_ints _))
    by_cases hw : wrg (lft4 T ix) = []
    · have hix := hc.done g (wrg_nil hw)
      refine ⟨s, x10, x12, x21, hs, ?_⟩
      unfold sWhGo
      rw [ht, bnd_ok, if_neg (by simpa using hw), hw, hix]
      rfl
    · obtain ⟨ix', s1, y10, y12, y21, hc', hl, v1, e⟩ := wBody_ev g hc hs hw x4 x10 x11 x12 x21
      obtain ⟨s', z10, z12, z21, v2, e2⟩ := wLoop_ev g x4 x11 n ix' s1 y10 y12 y21 hc' v1 (by omega)
      refine ⟨s', z10, z12, z21, v2, ?_⟩
      unfold sWhGo
      rw [ht, bnd_ok, if_pos (by simpa using hw), e]
      exact e2
/-! ### the scores, one by one -/
theorem scores_it {T : List Th} (hg : T.length ≤ 12) {ρ : Env} {s : Dr} (h : cVar 2 ρ s = .ok (encT T, s)) (hb : ∀ x : Th, ∃ ρ1, bTup (bCons (bNm 4) (bCons (bNm 16) bNil)) (eT x) (wipeD ρ [4, 16]) = some ρ1 ∧ cVar 4 ρ1 s = .ok (.int x.1, s)) :
    iLst (cUn pRev (cUn pSortSet (cComp (iLst (cVar 2)) (bTup (bCons (bNm 4) (bCons (bNm 16) bNil))) [4, 16] tYesD (cVar 4)))) ρ s = .ok ((List.range (scs T).length).map fun i => PyData.int (scA T i), s) := by
  have h1 : cComp (iLst (cVar 2)) (bTup (bCons (bNm 4) (bCons (bNm 16) bNil))) [4, 16] tYesD (cVar 4) ρ s = .ok (.list (T.map fun x => .int x.1), s) :=
    cComp_map T eT (fun x => .int x.1) (ev_iLst h) (by omega) fun x _ => by
      obtain ⟨ρ1, a, b⟩ := hb x
      exact ⟨ρ1, a, b, rfl⟩
  have h2 : toInts (T.map fun x => PyData.int x.1) = some (T.map (·.1)) := by
    have := toInts_map (T.map (·.1))
    rw [List.map_map] at this
    exact this
  have h3 : pSortSet (.list (T.map fun x => PyData.int x.1)) = .ok (.list ((sortU (T.map (·.1))).map PyData.int)) := by
    show (match toInts (T.map fun x => PyData.int x.1) with | some ns => _ | none => _) = _
    rw [h2]
    show (if (T.map (·.1)).length < 64 then _ else _) = _
    rw [if_pos (by rw [List.length_map]; omega)]
  rw [← scs_map T PyData.int]
  refine ev_iLst (ev_un (ev_un h1 h3) ?_)
  show R.ok (PyData.list ((sortU (T.map (·.1))).map PyData.int).reverse) = _
  rw [← List.map_reverse]
  rfl
theorem first_ev {T : List Th} (g : GoodT T) (s : Dr) : ∃ x4 x11, sForGo (bNm 4) (sSeq (sSet 11 (cComp (iLst (cVar 2)) (bTup (bCons (bNm 21) (bCons (bNm 16) bNil))) [21, 16] (cTest (cOp pEq (cVar 21) (cVar 4))) (cVar 16))) (sApp 3 (cTup (aCons (cVar 4) (aCons (cVar 4) (aCons (cMeth pCount (cVar 11) (cC (.bool false))) (aCons (cMeth pCount (cVar 11) (cC (.bool true))) aNil))))))) ((List.range (scs T).length).map fun i => PyData.int (scA T i)) (en T [] none none none none none none none none none none none none none none none none none none) s = .ok (.nx (en T (lft4 T (List.range ((scs T).length + 1))) x4 none none none none none none x11 none none none none none none none none none none), s) := by
  have hg := g.l2
  have hsl := scs_len T
  obtain ⟨ρ', s', e, i⟩ := sForGo_inv (d := Dr) (bd := bNm 4) (body := (sSeq (sSet 11 (cComp (iLst (cVar 2)) (bTup (bCons (bNm 21) (bCons (bNm 16) bNil))) [21, 16] (cTest (cOp pEq (cVar 21) (cVar 4))) (cVar 16))) (sApp 3 (cTup (aCons (cVar 4) (aCons (cVar 4) (aCons (cMeth pCount (cVar 11) (cC (.bool false))) (aCons (cMeth pCount (cVar 11) (cC (.bool true))) aNil)))))))) (fun (i : Nat) => PyData.int (scA T i)) (fun pre ρ s' => s' = s ∧ ∃ x4 x11, ρ = en T (pre.map fun i => plv T (i, i + 1)) x4 none none none none none none x11 none none none none none none none none none none) (List.range (scs T).length) [] (en T [] none none none none none none none none none none none none none none none none none none) s ⟨rfl, none, none, rfl⟩ fun pre i q ρ s' hpq hi => by
    obtain ⟨rfl, x4, x11, rfl⟩ := hi
    obtain ⟨hi1, hi2⟩ := rng_pre hpq
    refine ⟨_, en T ((pre ++ [i]).map fun i => plv T (i, i + 1)) (some (.int (scA T i))) none none none none none none (some (.list ((T.filter fun x => decide (x.1 = scA T i)).map fun x => .bool x.2))) none none none none none none none none none none, s', rfl, ?_, ⟨rfl, _, _, rfl⟩⟩
    refine ev_let (s1 := s') (marks_ev hg rfl fun x => ⟨_, rfl, rfl, rfl, rfl⟩) ?_
    refine (ev_app (i := 3) (s1 := s') (ds := (pre.map fun i => plv T (i, i + 1)).map e4) (x := e4 (plv T (i, i + 1))) rfl ?_ rfl (by rw [List.length_map, List.length_map]; omega)).trans ?_
    · rw [lev_eq g hi1]
      exact ev_tup (ev_aC rfl (ev_aC rfl (ev_aC (ev_meth rfl rfl (count_ev T (scA T i) false)) (ev_a1 (ev_meth rfl rfl (count_ev T (scA T i) true))))))
    · have : ((pre ++ [i]).map fun i => plv T (i, i + 1)).map e4 = (pre.map fun i => plv T (i, i + 1)).map e4 ++ [e4 (plv T (i, i + 1))] := by
        rw [List.map_append, List.map_append]
        rfl
      unfold en
      rw [this]
      rfl
  obtain ⟨rfl, x4, x11, rfl⟩ := i
  refine ⟨x4, x11, ?_⟩
  rw [e, List.nil_append]
  unfold lft4
  rw [edg_range, List.map_map]
  rfl
theorem corners_ev {T : List Th} (g : GoodT T) (s : Dr) (x4 x5 x10 x11 x12 x21 : Option PD) : ∃ x13 x14 x15 x16, sForGo (bTup (bCons (bNm 13) (bCons (bNm 14) (bCons (bNm 15) (bCons (bNm 16) bNil))))) (sApp 7 (cTup (aCons (cOp pAdd (cOp pIx (cOp pIx (cVar 7) (cUn pNeg (cC (.int 1)))) (cC (.int 0))) (cVar 15)) (aCons (cOp pAdd (cOp pIx (cOp pIx (cVar 7) (cUn pNeg (cC (.int 1)))) (cC (.int 1))) (cVar 16)) aNil)))) ((edg (ixF T)).map fun e => e4 (plv T e)) (en T (lft4 T (ixF T)) x4 x5 (some (.list ((lft4 T (ixF T)).map e4))) (some (encP [(0, 0)])) none none x10 x11 x12 none none none none none none none none x21) s = .ok (.nx (en T (lft4 T (ixF T)) x4 x5 (some (.list ((lft4 T (ixF T)).map e4))) (some (encP (crn (pts T)))) none none x10 x11 x12 x13 x14 x15 x16 none none none none x21), s) := by
  have hcl := ixF_len g
  have hc := ixF_chn g
  have hlen := chn_len g hc
  obtain ⟨ρ', s', e, i⟩ := sForGo_inv (d := Dr) (bd := bTup (bCons (bNm 13) (bCons (bNm 14) (bCons (bNm 15) (bCons (bNm 16) bNil))))) (body := (sApp 7 (cTup (aCons (cOp pAdd (cOp pIx (cOp pIx (cVar 7) (cUn pNeg (cC (.int 1)))) (cC (.int 0))) (cVar 15)) (aCons (cOp pAdd (cOp pIx (cOp pIx (cVar 7) (cUn pNeg (cC (.int 1)))) (cC (.int 1))) (cVar 16)) aNil))))) (fun e => e4 (plv T e)) (fun pre ρ s' => s' = s ∧ ∃ x13 x14 x15 x16, ρ = en T (lft4 T (ixF T)) x4 x5 (some (.list ((lft4 T (ixF T)).map e4))) (some (encP (((ixF T).take (pre.length + 1)).map (ptA T)))) none none x10 x11 x12 x13 x14 x15 x16 none none none none x21) (edg (ixF T)) [] (en T (lft4 T (ixF T)) x4 x5 (some (.list ((lft4 T (ixF T)).map e4))) (some (encP [(0, 0)])) none none x10 x11 x12 none none none none none none none none x21) s ⟨rfl, none, none, none, none, by
      have hd := hc.hd
      cases hi : ixF T with
      | nil => rw [hi] at hd; cases hd
      | cons a r => rw [hi] at hd; injection hd with hd; subst hd; rfl⟩ fun pre e q ρ s' hpq hi => by
    obtain ⟨rfl, x13, x14, x15, x16, rfl⟩ := hi
    rw [List.nil_append] at hpq
    have hk : (edg (ixF T))[pre.length]? = some e := by
      rw [hpq, List.getElem?_append_right (Nat.le_refl _)]
      simp
    obtain ⟨x, y, ec, hx⟩ := edg_get hk
    have t1 : (ixF T).take (pre.length + 1) = x ++ [e.1] := by
      rw [ec, ← hx, List.take_append, List.take_of_length_le (by omega), show x.length + 1 - x.length = 1 by omega]
      rfl
    have t2 : (ixF T).take ((pre ++ [e]).length + 1) = x ++ [e.1, e.2] := by
      rw [ec, List.length_append, List.length_singleton, ← hx, List.take_append, List.take_of_length_le (by omega), show x.length + 1 + 1 - x.length = 2 by omega]
      rfl
    have hxl : x.length ≤ 13 := by
      have := congrArg List.length ec
      rw [List.length_append] at this
      omega
    have hla : pIx (encP (((ixF T).take (pre.length + 1)).map (ptA T))) (.int (-1)) = .ok (eP (ptA T e.1)) := pIx_last eP _ _ (by rw [t1]; simp)
    refine ⟨_, en T (lft4 T (ixF T)) x4 x5 (some (.list ((lft4 T (ixF T)).map e4))) (some (encP (((ixF T).take ((pre ++ [e]).length + 1)).map (ptA T)))) none none x10 x11 x12 (some (.int (plv T e).1)) (some (.int (plv T e).2.1)) (some (.int (plv T e).2.2.1)) (some (.int (plv T e).2.2.2)) none none none none x21, s', rfl, ?_, ⟨rfl, _, _, _, _, rfl⟩⟩
    refine (ev_app (i := 7) (s1 := s') (ds := (((ixF T).take (pre.length + 1)).map (ptA T)).map eP) (x := eP (ptA T e.2)) rfl ?_ rfl (by rw [List.length_map, List.length_map, List.length_take]; omega)).trans ?_
    · refine ev_tup (xs := [.int (ptA T e.2).1, .int (ptA T e.2).2]) (ev_aC (ev_op (ev_op (ev_op rfl rfl hla) rfl (eP_0 _)) rfl ?_) (ev_a1 (ev_op (ev_op (ev_op rfl rfl hla) rfl (eP_1 _)) rfl ?_)))
      · rw [pAdd_i]
        unfold plv
        dsimp only
        congr 2
        omega
      · rw [pAdd_i]
        unfold plv
        dsimp only
        congr 2
        omega
    · have : encP (((ixF T).take ((pre ++ [e]).length + 1)).map (ptA T)) = .list ((((ixF T).take (pre.length + 1)).map (ptA T)).map eP ++ [eP (ptA T e.2)]) := by
        rw [t2, t1]
        unfold encP
        simp
      unfold en
      rw [this]
      rfl
  obtain ⟨rfl, x13, x14, x15, x16, rfl⟩ := i
  refine ⟨x13, x14, x15, x16, ?_⟩
  rw [e, List.nil_append, edg_len, show (ixF T).length - 1 + 1 = (ixF T).length by omega, List.take_length, ixF_map]
theorem share_ev {T : List Th} (g : GoodT T) {x : Th} (hx : x ∈ T) {ρ : Env} {s : Dr} (h6 : cVar 6 ρ s = .ok (.list ((lft4 T (ixF T)).map e4), s)) (hb : ∀ q : Q4, ∃ ρ1, bNm 21 (e4 q) (wipeD ρ [21]) = some ρ1 ∧ cVar 21 ρ1 s = .ok (e4 q, s) ∧ cVar 4 ρ1 s = .ok (.int x.1, s)) :
    cOp pIx (cComp (iLst (cVar 6)) (bNm 21) [21] (cTest (cChain pLe pLe (cOp pIx (cVar 21) (cC (.int 0))) (cVar 4) (cOp pIx (cVar 21) (cC (.int 1))))) (cVar 21)) (cC (.int 0)) ρ s = .ok (e4 (plv T (poolOf T x.1)), s) := by
  have hel := edgF_len g
  have hl : cComp (iLst (cVar 6)) (bNm 21) [21] (cTest (cChain pLe pLe (cOp pIx (cVar 21) (cC (.int 0))) (cVar 4) (cOp pIx (cVar 21) (cC (.int 1))))) (cVar 21) ρ s = .ok (.list (((edg (ixF T)).filter (inb T x.1)).map fun e => e4 (plv T e)), s) := by
    refine cComp_pure (edg (ixF T)) (fun e => e4 (plv T e)) (inb T x.1) (fun e => e4 (plv T e)) ?_ (by omega) fun e _ => ?_
    · refine ev_iLst (h6.trans ?_)
      unfold lft4
      rw [List.map_map]
      rfl
    · obtain ⟨ρ1, a1, a2, a3⟩ := hb (plv T e)
      exact ⟨ρ1, a1, ev_test (chain_le (d := Dr) _ _ _ _ s _ _ _ (ev_op a2 rfl (e4_0 _)) a3 (ev_op a2 rfl (e4_1 _))), fun _ => ⟨a2, rfl⟩⟩
  refine ev_op hl rfl ?_
  exact pIx_head (fun e => e4 (plv T e)) ((edg (ixF T)).filter (inb T x.1)) (poolOf T x.1) (by rw [List.head?_filter]; exact (pool_sc g (mem_sc hx)).1)
theorem lowQ_abs {n d : Int} (h : 0 < d) {B : Int} (h1 : -B ≤ n) (h2 : n ≤ B) : -B ≤ (lowQ n d).1 ∧ (lowQ n d).1 ≤ B := by
  have hv := (lowQ_val (n := n) h).1
  have hg := gcd_pos' (n := n) h
  generalize (lowQ n d).1 = p at hv ⊢
  generalize (Int.gcd n d : Int) = g at hv hg
  rcases Int.lt_or_le p 0 with z | z
  · have := Int.mul_le_mul_of_nonpos_left (show p ≤ 0 by omega) (show 1 ≤ g by omega)
    rw [Int.mul_one, ← hv] at this
    omega
  · have := Int.mul_le_mul_of_nonneg_left (show 1 ≤ g by omega) z
    rw [Int.mul_one, ← hv] at this
    omega
theorem tau_bd {T : List Th} (g : GoodT T) {x : Th} (hx : x ∈ T) : 0 ≤ tau T (cW T) x ∧ tau T (cW T) x ≤ D2 T := by
  have he := (pool_sc g (mem_sc hx)).2.1
  have hb := pl_bd g he
  have hc := cW_mul g he
  rw [D2_eq g he]
  unfold tau
  generalize poolOf T x.1 = e at he hb hc ⊢
  have hcc : 0 ≤ cW T e * cW T e := Int.mul_nonneg (by omega) (by omega)
  have hf : plF T e ≤ plW T e := by unfold plW; omega
  have m : ∀ z : Int, -(plW T e) ≤ z → z ≤ plW T e → 0 ≤ z * z ∧ z * z ≤ plW T e * plW T e := fun z h1 h2 => by
    rcases Int.lt_or_le z 0 with w | w
    · have := mul_bd (a := -z) (b := -z) (A := plW T e) (B := plW T e) (by omega) (by omega) (by omega) (by omega)
      rw [Int.neg_mul_neg] at this
      exact this
    · exact mul_bd w h2 w h2
  split
  · have := m (plF T e - plW T e) (by omega) (by omega)
    exact ⟨Int.mul_nonneg this.1 hcc, Int.mul_le_mul_of_nonneg_right this.2 hcc⟩
  · have := m (plF T e) (by omega) (by omega)
    exact ⟨Int.mul_nonneg this.1 hcc, Int.mul_le_mul_of_nonneg_right this.2 hcc⟩
def tBody : Env → Dr → R (Fl × Dr) := (sSeq (sSet 18 (cOp pIx (cComp (iLst (cVar 6)) (bNm 21) [21] (cTest (cChain pLe pLe (cOp pIx (cVar 21) (cC (.int 0))) (cVar 4) (cOp pIx (cVar 21) (cC (.int 1))))) (cVar 21)) (cC (.int 0))))
      (sSeq (sSet 19 (cCallF 2 m__law_low (aCons (cOp pIx (cVar 18) (cC (.int 3))) (aCons (cOp pAdd (cOp pIx (cVar 18) (cC (.int 2))) (cOp pIx (cVar 18) (cC (.int 3)))) aNil))))
      (sSeq (sApp 9 (cVar 19))
      (sSeq (sSet 20 (cCallF 2 m__law_add (aCons (cVar 19) (aCons (cTup (aCons (cIf (cTest (cVar 17)) (cOp pSub (cC (.int 0)) (cC (.int 1))) (cC (.int 0))) (aCons (cC (.int 1)) aNil))) aNil))))
      (sSeq (sSet 8 (cCallF 2 m__law_add (aCons (cVar 8) (aCons (cCallF 2 m__law_low (aCons (cOp pMul (cOp pIx (cVar 20) (cC (.int 0))) (cOp pIx (cVar 20) (cC (.int 0)))) (aCons (cOp pMul (cOp pIx (cVar 20) (cC (.int 1))) (cOp pIx (cVar 20) (cC (.int 1)))) aNil))) aNil))))
      (sIf (cTest (cOp pNe (cCallF 2 m_share_of (aCons (cVar 2) (aCons (cVar 4) aNil))) (cVar 19)))
      (sRet (cC (.bool false)))
      sNil))))))
theorem tBody_ev {T : List Th} (g : GoodT T) {x : Th} (hx : x ∈ T) {p : Pt} {N : Int} (hp : Acc p N (D2 T)) (h0 : 0 ≤ N) (h1 : N ≤ 12 * D2 T) {due : List Pt} (hd : due.length < 1000) (s : Dr) (x5 x7 x10 x11 x12 x13 x14 x15 x16 x18 x19 x20 x21 : Option PD) :
    ∃ p' y18 y19 y20, Acc p' (N + tau T (cW T) x) (D2 T) ∧ tBody (en T (lft4 T (ixF T)) (some (.int x.1)) x5 (some (.list ((lft4 T (ixF T)).map e4))) x7 (some (eP p)) (some (encP due)) x10 x11 x12 x13 x14 x15 x16 (some (.bool x.2)) x18 x19 x20 x21) s = .ok (.nx (en T (lft4 T (ixF T)) (some (.int x.1)) x5 (some (.list ((lft4 T (ixF T)).map e4))) x7 (some (eP p')) (some (encP (due ++ [shq T (poolOf T x.1)]))) x10 x11 x12 x13 x14 x15 x16 (some (.bool x.2)) y18 y19 y20 x21), s) := by
  have he := (pool_sc g (mem_sc hx)).2.1
  have hsh := m_share_of_yes g (mem_sc hx)
  have hpool := fun x18 x19 x20 => share_ev g hx (s := s) (ρ := en T (lft4 T (ixF T)) (some (.int x.1)) x5 (some (.list ((lft4 T (ixF T)).map e4))) x7 (some (eP p)) (some (encP due)) x10 x11 x12 x13 x14 x15 x16 (some (.bool x.2)) x18 x19 x20 x21) rfl fun q => ⟨_, rfl, rfl, rfl⟩
  have htau : tau T (cW T) x = (if x.2 = true then (plF T (poolOf T x.1) - plW T (poolOf T x.1)) * (plF T (poolOf T x.1) - plW T (poolOf T x.1)) else plF T (poolOf T x.1) * plF T (poolOf T x.1)) * (cW T (poolOf T x.1) * cW T (poolOf T x.1)) := rfl
  rw [htau]
  generalize poolOf T x.1 = e at he hsh hpool ⊢
  have hb := pl_bd g he
  have hc := cW_mul g he
  have hD := D2_eq g he
  have hDb := D2_bd g
  have hW := hb.2.2
  have hw : 0 < plS T e + plF T e := by unfold plW at hW; omega
  have hbd := acc_bd g hp h0 h1 ⟨by decide, by decide⟩
  -- the share
  have lsh : m__law_low [.int (plF T e), .int (plS T e + plF T e)] = .ok (eP (shq T e)) := m__law_low_eq hw (by unfold plW at hW; omega)
  have v1 : Val (shq T e) (plF T e) (plW T e) := Val.low hw
  have n1 := lowQ_num (n := plF T e) hw hb.2.1
  have d1 := lowQ_den (n := plF T e) hw
  have hsq : shq T e = lowQ (plF T e) (plS T e + plF T e) := rfl
  rw [← hsq] at n1 d1
  have hFW : plF T e ≤ plW T e := by unfold plW; omega
  have hWe : plW T e = plS T e + plF T e := rfl
  -- the gap
  obtain ⟨m, hm, hmd⟩ : ∃ m : Int, m = (if x.2 = true then -1 else 0) ∧ (-1 ≤ m ∧ m ≤ 0) := ⟨_, rfl, by split <;> decide⟩
  have v2 : Val (m, 1) m 1 := ⟨Int.one_pos, Int.one_pos, by show m * 1 = m * 1; rfl⟩
  have v3 := v1.add v2
  have s1 : 0 < (shq T e).2 := v1.hp
  have lgap : m__law_add [eP (shq T e), eP (m, 1)] = .ok (eP (lowQ ((shq T e).1 * (m, (1 : Int)).2 + (m, (1 : Int)).1 * (shq T e).2) ((shq T e).2 * (m, (1 : Int)).2))) := m__law_add_eq ⟨by omega, by omega⟩ ⟨by dsimp only; omega, by dsimp only; omega⟩ s1 Int.one_pos (by show (shq T e).2 * 1 < _; omega) (by omega)
  have bm : -12 ≤ m * (shq T e).2 ∧ m * (shq T e).2 ≤ 0 := by
    rw [hm]
    split
    · omega
    · omega
  have gd : 0 < (shq T e).2 * (m, (1 : Int)).2 := by show 0 < (shq T e).2 * 1; omega
  have bg := lowQ_abs (n := (shq T e).1 * (m, (1 : Int)).2 + (m, (1 : Int)).1 * (shq T e).2) (d := (shq T e).2 * (m, (1 : Int)).2) gd (B := 12) (by show -12 ≤ (shq T e).1 * 1 + m * (shq T e).2; omega) (by show (shq T e).1 * 1 + m * (shq T e).2 ≤ 12; omega)
  have dg := lowQ_den (n := (shq T e).1 * (m, (1 : Int)).2 + (m, (1 : Int)).1 * (shq T e).2) gd
  have dg' : (lowQ ((shq T e).1 * (m, (1 : Int)).2 + (m, (1 : Int)).1 * (shq T e).2) ((shq T e).2 * (m, (1 : Int)).2)).2 ≤ 12 := by
    refine Int.le_trans dg ?_
    show (shq T e).2 * 1 ≤ 12
    omega
  generalize hgap : lowQ ((shq T e).1 * (m, (1 : Int)).2 + (m, (1 : Int)).1 * (shq T e).2) ((shq T e).2 * (m, (1 : Int)).2) = gp at v3 lgap bg dg'
  -- its square
  have v4 := v3.sq
  have hg2 := v3.hp
  have q1 : 0 ≤ gp.1 * gp.1 ∧ gp.1 * gp.1 ≤ 144 := by
    rcases Int.lt_or_le gp.1 0 with w | w
    · have := mul_bd (a := -gp.1) (b := -gp.1) (A := 12) (B := 12) (by omega) (by omega) (by omega) (by omega)
      rw [Int.neg_mul_neg] at this
      omega
    · have := mul_bd (a := gp.1) (b := gp.1) (A := 12) (B := 12) w (by omega) w (by omega)
      omega
  have q2 : 0 < gp.2 * gp.2 ∧ gp.2 * gp.2 ≤ 144 := by
    have h1 := Int.mul_pos hg2 hg2
    have h2 := mul_bd (a := gp.2) (b := gp.2) (A := 12) (B := 12) (by omega) dg' (by omega) dg'
    omega
  have lsq : m__law_low [.int (gp.1 * gp.1), .int (gp.2 * gp.2)] = .ok (eP (lowQ (gp.1 * gp.1) (gp.2 * gp.2))) := m__law_low_eq q2.1 (by omega)
  have nsq := lowQ_num (n := gp.1 * gp.1) q2.1 q1.1
  have dsq := lowQ_den (n := gp.1 * gp.1) q2.1
  generalize lowQ (gp.1 * gp.1) (gp.2 * gp.2) = sq at v4 lsq nsq dsq
  have v5 := v4.scale (k := cW T e * cW T e) (Int.mul_pos (by omega) (by omega))
  have e5 : (plF T e * 1 + m * plW T e) * (plF T e * 1 + m * plW T e) * (cW T e * cW T e) = (if x.2 = true then (plF T e - plW T e) * (plF T e - plW T e) else plF T e * plF T e) * (cW T e * cW T e) := by
    rw [hm]
    split
    · congr 2 <;> omega
    · rw [Int.mul_one, Int.zero_mul, Int.add_zero]
  have e6 : plW T e * 1 * (plW T e * 1) * (cW T e * cW T e) = D2 T := by rw [hD, Int.mul_one]
  rw [e5, e6] at v5
  have hacc := hp.step v5
  have md := mul_bd (a := p.2) (b := sq.2) (A := 6561) (B := 144) (by omega) hbd.2.2.2 (by have := v4.hp; omega) (by omega)
  have lw : m__law_add [eP p, eP sq] = .ok (eP (lowQ (p.1 * sq.2 + sq.1 * p.2) (p.2 * sq.2))) := m__law_add_eq ⟨by omega, by omega⟩ ⟨by omega, by omega⟩ (by omega) v4.hp (by omega) (by omega)
  refine ⟨_, some (e4 (plv T e)), some (eP (shq T e)), some (eP gp), hacc, ?_⟩
  refine ev_let (s1 := s) (hpool _ _ _) ?_
  refine ev_let (s1 := s) (v := eP (shq T e)) (ev_callF (xs := [.int (plF T e), .int (plS T e + plF T e)]) (ev_aC (ev_op rfl rfl (e4_3 _)) (ev_a1 (ev_op (ev_op rfl rfl (e4_2 _)) (ev_op rfl rfl (e4_3 _)) (pAdd_i _ _)))) lsh) ?_
  refine ev_seq (s' := s) (ρ' := en T (lft4 T (ixF T)) (some (.int x.1)) x5 (some (.list ((lft4 T (ixF T)).map e4))) x7 (some (eP p)) (some (encP (due ++ [shq T e]))) x10 x11 x12 x13 x14 x15 x16 (some (.bool x.2)) (some (e4 (plv T e))) (some (eP (shq T e))) x20 x21) ?_ ?_
  · refine (ev_app (i := 9) (s1 := s) (ds := due.map eP) (x := eP (shq T e)) rfl rfl rfl (by rw [List.length_map]; exact hd)).trans ?_
    unfold en encP
    rw [List.map_append]
    rfl
  refine ev_let (s1 := s) (v := eP gp) (ev_callF (xs := [eP (shq T e), eP (m, 1)]) (ev_aC rfl (ev_a1 (ev_tup (xs := [.int m, .int 1]) (ev_aC (s1 := s) ?_ (ev_a1 rfl))))) lgap) ?_
  · rw [hm]
    cases hx2 : x.2 with
    | true => exact cIf_t (s1 := s) (ev_test rfl) rfl
    | false => exact cIf_f (s1 := s) (ev_test rfl) rfl
  refine ev_let (s1 := s) (ev_callF (xs := [eP p, eP sq]) (ev_aC rfl (ev_a1 (ev_callF (xs := [.int (gp.1 * gp.1), .int (gp.2 * gp.2)]) (ev_aC (ev_op (ev_op rfl rfl (eP_0 _)) (ev_op rfl rfl (eP_0 _)) (pMul_i (by omega))) (ev_a1 (ev_op (ev_op rfl rfl (eP_1 _)) (ev_op rfl rfl (eP_1 _)) (pMul_i (by omega))))) lsq))) lw) ?_
  exact ev_if_f (s' := s) (ev_test (ev_op (ev_callF rfl hsh) rfl (pNe_eP_self _))) rfl
theorem acc_eq {p q : Pt} {N D : Int} (h : Acc p N D) (k : Acc q N D) : p = q := by
  refine low_unique h.low k.low ?_
  have h1 := h.val.he
  have h2 := k.val.he
  show p.1 * q.2 = q.1 * p.2
  refine Int.eq_of_mul_eq_mul_right (Int.ne_of_gt h.val.hd) ?_
  have a1 : p.1 * q.2 * D = (p.1 * D) * q.2 := by grind
  have a2 : q.1 * p.2 * D = (q.1 * D) * p.2 := by grind
  rw [a1, a2, h1, h2]
  grind
theorem law_true : ∀ ns : List Int, 0 < ns.length → ∃ s', b_law (none :: some (tokD 0) :: List.replicate 20 none) (ns, 0) = .ok (.rt (.bool true), s') := fun ns hns => by
  have hs : Live (ns, 0) := hns
  obtain ⟨T, s1, e1, g, hT, v1⟩ := things_ev (most := 12) (by decide) (by decide) hs
  have hg := g.l2
  have hel := edgF_len g
  obtain ⟨x4, x11, f1⟩ := first_ev g s1
  have hc0 := all_chn g
  have hw0 := wrg_ev g hc0
  obtain ⟨s2, y10, y12, y21, v2, w1⟩ := wLoop_ev g x4 x11 ((lft4 T (List.range ((scs T).length + 1))).length + 2) (List.range ((scs T).length + 1)) s1 none none none hc0 v1 (by rw [lft_len, List.length_range]; omega)
  obtain ⟨x13, x14, x15, x16, c1⟩ := corners_ev g s2 x4 (some (.list [])) y10 x11 y12 y21
  -- things
  obtain ⟨ρt, st, t1, it⟩ := sForGo_inv (d := Dr) (bd := bTup (bCons (bNm 4) (bCons (bNm 17) bNil))) (body := tBody) eT (fun pre ρ s' => s' = s2 ∧ ∃ p z4 z17 z18 z19 z20, Acc p (pre.map (tau T (cW T))).sum (D2 T) ∧ ρ = en T (lft4 T (ixF T)) z4 (some (.list [])) (some (.list ((lft4 T (ixF T)).map e4))) (some (encP (crn (pts T)))) (some (eP p)) (some (encP (pre.map fun x => shq T (poolOf T x.1)))) y10 x11 y12 x13 x14 x15 x16 z17 z18 z19 z20 y21) T []
    (en T (lft4 T (ixF T)) x4 (some (.list [])) (some (.list ((lft4 T (ixF T)).map e4))) (some (encP (crn (pts T)))) (some (eP (0, 1))) (some (encP [])) y10 x11 y12 x13 x14 x15 x16 none none none none y21) s2 ⟨rfl, (0, 1), x4, none, none, none, none, Acc.zero (by have := D2_bd g; omega), rfl⟩ fun pre x q ρ s' hpq hi => by
      obtain ⟨rfl, p, z4, z17, z18, z19, z20, hacc, rfl⟩ := hi
      rw [List.nil_append] at hpq
      have hx : x ∈ T := by rw [hpq]; simp
      have hpl : pre.length < 12 := by
        have := congrArg List.length hpq
        rw [List.length_append, List.length_cons] at this
        omega
      have hsn := sum_nn (f := tau T (cW T)) (B := D2 T) (l := pre) fun y hy => tau_bd g (by rw [hpq]; exact List.mem_append_left _ hy)
      have hD := D2_bd g
      have hN : (pre.map (tau T (cW T))).sum ≤ 12 * D2 T := by
        have := Int.mul_le_mul_of_nonneg_right (show (pre.length : Int) ≤ 12 by omega) (show 0 ≤ D2 T by omega)
        omega
      obtain ⟨p', a18, a19, a20, hacc', e⟩ := tBody_ev g hx hacc hsn.1 hN (due := pre.map fun x => shq T (poolOf T x.1)) (by rw [List.length_map]; omega) s' (some (.list [])) (some (encP (crn (pts T)))) y10 x11 y12 x13 x14 x15 x16 z18 z19 z20 y21
      refine ⟨_, _, s', rfl, e, ⟨rfl, p', some (.int x.1), some (.bool x.2), a18, a19, a20, ?_, ?_⟩⟩
      · rw [List.map_append, List.sum_append]
        simpa using hacc'
      · rw [List.map_append]
        rfl
  obtain ⟨rfl, p, z4, z17, z18, z19, z20, hacc, rfl⟩ := it
  rw [List.nil_append] at hacc t1
  obtain ⟨o, s3, e3', o1, o2, v3⟩ := draw_ev (lim := 100) (by decide) (by decide) v2
  refine ⟨s3, ?_⟩
  unfold b_law
  refine ev_let (ev_callD rfl e1) ?_
  refine ev_seq (s' := s1) (ρ' := en T [] none none none none none none none none none none none none none none none none none none) rfl ?_
  refine ev_seq (ev_for (s' := s1) (scores_it hg rfl fun x => ⟨_, rfl, rfl⟩) f1) ?_
  refine ev_let (s1 := s1) (ev_callF rfl hw0) ?_
  refine ev_seq (s' := st) (ρ' := en T (lft4 T (ixF T)) x4 (some (.list [])) none none none none y10 x11 y12 none none none none none none none none y21) ?_ ?_
  · show sWhile (fuLen 3) KK.wTest KK.wBody (en T (lft4 T (List.range ((scs T).length + 1))) x4 (some (.list ((wrg (lft4 T (List.range ((scs T).length + 1)))).map PyData.int))) none none none none none x11 none none none none none none none none none none) s1 = _
    unfold sWhile
    rw [show fuLen 3 (en T (lft4 T (List.range ((scs T).length + 1))) x4 (some (.list ((wrg (lft4 T (List.range ((scs T).length + 1)))).map PyData.int))) none none none none none x11 none none none none none none none none none none) = (lft4 T (List.range ((scs T).length + 1))).length + 2 by
      show ((lft4 T (List.range ((scs T).length + 1))).map e4).length + 2 = _
      rw [List.length_map]]
    exact w1
  refine ev_let (s1 := st) (ev_callF rfl (m_pools_eq g (by omega))) ?_
  have hself : pNe (.list ((lft4 T (ixF T)).map e4)) (.list ((lft4 T (ixF T)).map e4)) = .ok (.bool false) := by
    have hsh : SeqAt.shaped (.list ((lft4 T (ixF T)).map e4)) = true := Sh.ok (n := 2) (Sh.list (n := 1) fun x hx => by
      obtain ⟨q, _, rfl⟩ := List.mem_map.mp hx
      exact Sh.tuple (n := 0) fun y hy => by
        simp only [List.mem_cons, List.not_mem_nil, or_false] at hy
        rcases hy with rfl | rfl | rfl | rfl <;> exact Sh.int _) (by decide)
    rw [pNe_ok hsh hsh]
    have : PyData.eqv (.list ((lft4 T (ixF T)).map e4)) (.list ((lft4 T (ixF T)).map e4)) = true := by
      have gen : ∀ l : List Q4, PyData.eqvAll (l.map e4) (l.map e4) = true := fun l => by
        induction l with
        | nil => rfl
        | cons q l ih =>
          show (PyData.eqv (e4 q) (e4 q) && PyData.eqvAll (l.map e4) (l.map e4)) = true
          rw [ih, Bool.and_true]
          show (PyData.eqv (.int q.1) (.int q.1) && (PyData.eqv (.int q.2.1) (.int q.2.1) && (PyData.eqv (.int q.2.2.1) (.int q.2.2.1) && (PyData.eqv (.int q.2.2.2) (.int q.2.2.2) && true)))) = true
          simp [eqv_int]
      exact gen _
    rw [this]
    rfl
  refine ev_guard (s1 := st) (ev_or_f (s' := st) (ev_test (ev_op rfl rfl hself)) (ev_not (b := true) (ev_test (ev_callF (xs := [.bool (decide (((edg (ixF T)).length : Int) = ((scs T).length : Int))), .bool (decide (((edg (ixF T)).length : Int) = ((scs T).length : Int)))]) (ev_aC (ev_callF rfl (m_is_pooled_eq g)) (ev_a1 (ev_op (x := .int ((edg (ixF T)).length : Int)) (y := .int ((scs T).length : Int)) (ev_call (ev_a1 rfl) (by rw [pLen_l, List.length_map]; unfold lft4; rw [List.length_map])) (ev_call (ev_a1 (ev_callF rfl (m_unlike_scores_eq g))) (by rw [pLen_l, List.length_map])) (pEq_i _ _)))) (by rw [m__law_true_eq, decide_eq_true rfl]))))) ?_
  refine ev_seq (s' := st) (ρ' := en T (lft4 T (ixF T)) x4 (some (.list [])) (some (.list ((lft4 T (ixF T)).map e4))) (some (encP [(0, 0)])) none none y10 x11 y12 none none none none none none none none y21) rfl ?_
  refine ev_seq (ev_for (s' := st) (xs := (edg (ixF T)).map fun e => e4 (plv T e)) ?_ c1) ?_
  · refine (ev_iLst (xs := (lft4 T (ixF T)).map e4) rfl).trans ?_
    unfold lft4
    rw [List.map_map]
    rfl
  refine ev_guard (s1 := st) (ev_test (ev_op rfl (ev_callF rfl (m_hull_eq g)) (pNe_encP_self _))) ?_
  refine ev_let (s1 := st) (v := eP (0, 1)) rfl ?_
  refine ev_seq (s' := st) (ρ' := en T (lft4 T (ixF T)) x4 (some (.list [])) (some (.list ((lft4 T (ixF T)).map e4))) (some (encP (crn (pts T)))) (some (eP (0, 1))) (some (encP [])) y10 x11 y12 x13 x14 x15 x16 none none none none y21) rfl ?_
  refine ev_seq (ev_for (s' := st) rfl t1) ?_
  refine ev_let (s1 := s3) (ev_callD rfl e3') ?_
  show sSeq _ _ (en T (lft4 T (ixF T)) z4 (some (.list [])) (some (.list ((lft4 T (ixF T)).map e4))) (some (encP (crn (pts T)))) (some (eP p)) (some (encP (T.map fun x => shq T (poolOf T x.1)))) (some (.int o)) x11 y12 x13 x14 x15 x16 z17 z18 z19 z20 y21) s3 = _
  refine ev_guard (s1 := s3) ?_ ?_
  · have hcs : cComp (iLst (cVar 2)) (bTup (bCons (bNm 4) (bCons (bNm 17) bNil))) [4, 17] tYesD (cVar 4) (en T (lft4 T (ixF T)) z4 (some (.list [])) (some (.list ((lft4 T (ixF T)).map e4))) (some (encP (crn (pts T)))) (some (eP p)) (some (encP (T.map fun x => shq T (poolOf T x.1)))) (some (.int o)) x11 y12 x13 x14 x15 x16 z17 z18 z19 z20 y21) s3 = .ok (.list ((T.map (·.1)).map PyData.int), s3) :=
      cComp_mapI T eT (·.1) rfl (by omega) fun x _ => ⟨_, rfl, rfl⟩
    have hni : pNotIn (.int o) (.list ((T.map (·.1)).map PyData.int)) = .ok (.bool (!decide (o ∈ T.map (·.1)))) := by
      show (if SeqAt.shaped (.int o) && SeqAt.shaped (.list ((T.map (·.1)).map PyData.int)) then _ else _) = _
      rw [shaped_int, shaped_ints, any_int]
      rfl
    unfold cAndT
    rw [ev_test (b := !decide (o ∈ T.map (·.1))) (s' := s3) (ev_op rfl hcs hni), bnd_ok]
    by_cases ho : o ∈ T.map (·.1)
    · rw [decide_eq_true ho]; rfl
    · rw [decide_eq_false ho]
      have ho' : o ∉ scs T := fun z => by
        obtain ⟨x, hx, e⟩ := mem_scs.mp z
        exact ho (List.mem_map.mpr ⟨x, hx, e⟩)
      exact ev_test (ev_op (x := .none) (y := .none) (ev_callF rfl (m_share_of_no g ho' ⟨o1, by omega⟩)) rfl rfl)
  have hp : p = sqe T (edg (ixF T)) := by
    have h2 := sqe_acc g _ (edg (ixF T)) rfl fun _ h => h
    rw [← tau_rho g] at h2
    exact acc_eq hacc h2
  refine ret_of (ev_and (s1 := s3) (ev_op (ev_callF rfl (m_shares_eq g)) rfl (by rw [pEq_encP, decide_eq_true rfl])) (ev_and (s1 := s3) (ev_op (ev_callF rfl (m_squared_error_eq g)) rfl (by rw [← hp, pEq_eP, decide_eq_true rfl])) (ev_op (x := .none) (y := .none) (ev_callF rfl (m_share_of_none g)) rfl rfl))) rfl

def top (i : Nat) : Stmt := PySem.Challenge.pw_alarmcurves_k07_whole_pools.main.body.getD i (.Pass ⟨0, 0, 0, 0⟩)
theorem sc_is_int : FnScope ["value", "low", "high"] ["value", "low", "high"] (defScope (top 5)) := ⟨rfl, rfl, rfl, by decide +kernel, rfl, by decide +kernel, by decide +kernel⟩
theorem ok_is_int {P : Program} {w : World} {K : PySem.W.Frag} {mg : Str → Option Value} {base : Heap} {f : Addr} {fd : FuncData} {cls : Nat → Addr} (F : FunD K "is_int" "is_int" (defArgs (top 5)) (defBody (top 5)) (defScope (top 5)) [] [] f fd) (hm : mg "is_int" = some (.ref f)) (g : Free mg) :
    FnP P w K mg base cls 1 "is_int" 3 m_is_int :=
  fn_pure (k := 0) F sc_is_int hm rfl (F.bindsN fun _ _ _ _ _ _ us hl => match us, hl with | [_, _, _], _ => rfl) fun cdv A outer s H E _ G hr => by
    have tk := takesE_of (P := P) (w := w) (K := K) (mg := mg) (base := base) (N := ["value", "low", "high"]) (qual := "is_int") (scope := defScope (top 5)) (f := f) (cd := cdv) (A := A) (outer := outer) (s := s) (H := H) (E := E)
    have hx := passesE_of tk
    have hp := passesO_of (CX := L2.CX P w) (P := P) (w := w) (K := K) (mg := mg) (base := base) (N := ["value", "low", "high"]) (qual := "is_int") (scope := defScope (top 5)) (f := f) (cd := cdv) (A := A) (outer := outer) (s := s) (H := H) (E := E)
    exact (dss_one (ds_ret (de_and (de_isi tyOk_int g.isinstance_ g.int_ (de_var 0)) (de_and (de_not (de_isi tyOk_bool g.isinstance_ g.bool_ (de_var 0))) (de_one (de_chain dop_le dop_le (de_var 1) (de_var 0) (de_var 2)))))))
theorem sc_common : FnScope ["one", "other"] ["one", "other"] (defScope (top 10)) := ⟨rfl, rfl, rfl, by decide +kernel, rfl, by decide +kernel, by decide +kernel⟩
theorem ok_common {P : Program} {w : World} {K : PySem.W.Frag} {mg : Str → Option Value} {base : Heap} {f : Addr} {fd : FuncData} {cls : Nat → Addr} (F : FunD K "common" "common" (defArgs (top 10)) (defBody (top 10)) (defScope (top 10)) [] [] f fd) (hm : mg "common" = some (.ref f)) (g : Free mg) :
    FnP P w K mg base cls 1 "common" 2 m_common :=
  fn_pure (k := 0) F sc_common hm rfl (F.bindsN fun _ _ _ _ _ _ us hl => match us, hl with | [_, _], _ => rfl) fun cdv A outer s H E _ G hr => by
    have tk := takesE_of (P := P) (w := w) (K := K) (mg := mg) (base := base) (N := ["one", "other"]) (qual := "common") (scope := defScope (top 10)) (f := f) (cd := cdv) (A := A) (outer := outer) (s := s) (H := H) (E := E)
    have hx := passesE_of tk
    have hp := passesO_of (CX := L2.CX P w) (P := P) (w := w) (K := K) (mg := mg) (base := base) (N := ["one", "other"]) (qual := "common") (scope := defScope (top 10)) (f := f) (cd := cdv) (A := A) (outer := outer) (s := s) (H := H) (E := E)
    exact (dss_cons (O1 := []) (ds_par 0 1 sc_common.nd (da_cons (de_callB dc_abs g.abs_ (da_cons (de_var 0) da_nil)) (da_cons (de_callB dc_abs g.abs_ (da_cons (de_var 1) da_nil)) da_nil)))
      (dss_cons (O1 := []) (ds_while (n := (fuInt 1)) hp (dt_cmp (dop_ne hr.units) (de_var 1) de_int)
      (dss_one (ds_par 0 1 sc_common.nd (da_cons (de_var 1) (da_cons (de_op dop_mod (de_var 0) (de_var 1)) da_nil)))))
      (dss_one (ds_ret (de_var 0)))))
theorem sc_counts : FnScope ["things", "threshold", "false", "score", "faulty"] ["things", "threshold"] (defScope (top 13)) := ⟨rfl, rfl, rfl, by decide +kernel, rfl, by decide +kernel, by decide +kernel⟩
theorem ok_counts {P : Program} {w : World} {K : PySem.W.Frag} {mg : Str → Option Value} {base : Heap} {f : Addr} {fd : FuncData} {cls : Nat → Addr} (F : FunD K "counts" "counts" (defArgs (top 13)) (defBody (top 13)) (defScope (top 13)) [] [] f fd) (hm : mg "counts" = some (.ref f)) (g : Free mg) :
    FnP P w K mg base cls 1 "counts" 2 m_counts :=
  fn_pure (k := 0) F sc_counts hm rfl (F.bindsN fun _ _ _ _ _ _ us hl => match us, hl with | [_, _], _ => rfl) fun cdv A outer s H E _ G hr => by
    have tk := takesE_of (P := P) (w := w) (K := K) (mg := mg) (base := base) (N := ["things", "threshold", "false", "score", "faulty"]) (qual := "counts") (scope := defScope (top 13)) (f := f) (cd := cdv) (A := A) (outer := outer) (s := s) (H := H) (E := E)
    have hx := passesE_of tk
    have hp := passesO_of (CX := L2.CX P w) (P := P) (w := w) (K := K) (mg := mg) (base := base) (N := ["things", "threshold", "false", "score", "faulty"]) (qual := "counts") (scope := defScope (top 13)) (f := f) (cd := cdv) (A := A) (outer := outer) (s := s) (H := H) (E := E)
    exact (dss_cons (O1 := []) (ds_set 2 sc_counts.nd (de_callB dc_len g.len_ (da_cons (de_lc [("score", 3), ("faulty", 4)] sc_counts.nd (di_list (de_var 0)) (by rfl) (fun _ _ _ _ _ => (dg_tup (bLen_cons (bLen_cons bLen_nil)) (dgs_cons (dg_name 3 sc_counts.nd) (dgs_cons (dg_name 4 sc_counts.nd) dgs_nil)))) (fun _ _ _ _ _ => (dts_one (dt_bool (dw_and (dt_cmp dop_ge (de_var 3) (de_var 1)) (dw_and1 (dt_not (dt_val (de_var 4)))))))) (fun _ _ _ _ _ => de_int)) da_nil)))
      (dss_one (ds_ret (de_tup (da_cons (de_var 2) (da_cons (de_callB dc_len g.len_ (da_cons (de_lc [("score", 3), ("faulty", 4)] sc_counts.nd (di_list (de_var 0)) (by rfl) (fun _ _ _ _ _ => (dg_tup (bLen_cons (bLen_cons bLen_nil)) (dgs_cons (dg_name 3 sc_counts.nd) (dgs_cons (dg_name 4 sc_counts.nd) dgs_nil)))) (fun _ _ _ _ _ => (dts_one (dt_bool (dw_and (dt_cmp dop_ge (de_var 3) (de_var 1)) (dw_and1 (dt_val (de_var 4))))))) (fun _ _ _ _ _ => de_int)) da_nil)) da_nil))))))
theorem sc_scores_of : FnScope ["things", "score", "faulty"] ["things"] (defScope (top 15)) := ⟨rfl, rfl, rfl, by decide +kernel, rfl, by decide +kernel, by decide +kernel⟩
theorem ok_scores_of {P : Program} {w : World} {K : PySem.W.Frag} {mg : Str → Option Value} {base : Heap} {f : Addr} {fd : FuncData} {cls : Nat → Addr} (F : FunD K "scores_of" "scores_of" (defArgs (top 15)) (defBody (top 15)) (defScope (top 15)) [] [] f fd) (hm : mg "scores_of" = some (.ref f)) (g : Free mg) :
    FnP P w K mg base cls 1 "scores_of" 1 m_scores_of :=
  fn_pure (k := 0) F sc_scores_of hm rfl (F.bindsN fun _ _ _ _ _ _ us hl => match us, hl with | [_], _ => rfl) fun cdv A outer s H E _ G hr => by
    have tk := takesE_of (P := P) (w := w) (K := K) (mg := mg) (base := base) (N := ["things", "score", "faulty"]) (qual := "scores_of") (scope := defScope (top 15)) (f := f) (cd := cdv) (A := A) (outer := outer) (s := s) (H := H) (E := E)
    have hx := passesE_of tk
    have hp := passesO_of (CX := L2.CX P w) (P := P) (w := w) (K := K) (mg := mg) (base := base) (N := ["things", "score", "faulty"]) (qual := "scores_of") (scope := defScope (top 15)) (f := f) (cd := cdv) (A := A) (outer := outer) (s := s) (H := H) (E := E)
    exact (dss_one (ds_ret (de_rev (de_sortSet g.sorted_ g.set_ (de_lc [("score", 1), ("faulty", 2)] sc_scores_of.nd (di_list (de_var 0)) (by rfl) (fun _ _ _ _ _ => (dg_tup (bLen_cons (bLen_cons bLen_nil)) (dgs_cons (dg_name 1 sc_scores_of.nd) (dgs_cons (dg_name 2 sc_scores_of.nd) dgs_nil)))) (fun _ _ _ _ _ => dts_nil) (fun _ _ _ _ _ => (de_var 1)))))))
theorem sc_falls : FnScope ["one", "other"] ["one", "other"] (defScope (top 19)) := ⟨rfl, rfl, rfl, by decide +kernel, rfl, by decide +kernel, by decide +kernel⟩
theorem ok_falls {P : Program} {w : World} {K : PySem.W.Frag} {mg : Str → Option Value} {base : Heap} {f : Addr} {fd : FuncData} {cls : Nat → Addr} (F : FunD K "falls" "falls" (defArgs (top 19)) (defBody (top 19)) (defScope (top 19)) [] [] f fd) (hm : mg "falls" = some (.ref f)) (g : Free mg) :
    FnP P w K mg base cls 1 "falls" 2 m_falls :=
  fn_pure (k := 0) F sc_falls hm rfl (F.bindsN fun _ _ _ _ _ _ us hl => match us, hl with | [_, _], _ => rfl) fun cdv A outer s H E _ G hr => by
    have tk := takesE_of (P := P) (w := w) (K := K) (mg := mg) (base := base) (N := ["one", "other"]) (qual := "falls") (scope := defScope (top 19)) (f := f) (cd := cdv) (A := A) (outer := outer) (s := s) (H := H) (E := E)
    have hx := passesE_of tk
    have hp := passesO_of (CX := L2.CX P w) (P := P) (w := w) (K := K) (mg := mg) (base := base) (N := ["one", "other"]) (qual := "falls") (scope := defScope (top 19)) (f := f) (cd := cdv) (A := A) (outer := outer) (s := s) (H := H) (E := E)
    exact (dss_one (ds_ret (de_cmp dop_lt (de_op dop_mul (de_ix (de_var 1) de_int) (de_op dop_add (de_ix (de_var 0) de_int) (de_ix (de_var 0) de_int))) (de_op dop_mul (de_ix (de_var 0) de_int) (de_op dop_add (de_ix (de_var 1) de_int) (de_ix (de_var 1) de_int))))))
theorem sc_put_together : FnScope ["one", "other"] ["one", "other"] (defScope (top 20)) := ⟨rfl, rfl, rfl, by decide +kernel, rfl, by decide +kernel, by decide +kernel⟩
theorem ok_put_together {P : Program} {w : World} {K : PySem.W.Frag} {mg : Str → Option Value} {base : Heap} {f : Addr} {fd : FuncData} {cls : Nat → Addr} (F : FunD K "put_together" "put_together" (defArgs (top 20)) (defBody (top 20)) (defScope (top 20)) [] [] f fd) (hm : mg "put_together" = some (.ref f)) (g : Free mg) :
    FnP P w K mg base cls 1 "put_together" 2 m_put_together :=
  fn_pure (k := 0) F sc_put_together hm rfl (F.bindsN fun _ _ _ _ _ _ us hl => match us, hl with | [_, _], _ => rfl) fun cdv A outer s H E _ G hr => by
    have tk := takesE_of (P := P) (w := w) (K := K) (mg := mg) (base := base) (N := ["one", "other"]) (qual := "put_together") (scope := defScope (top 20)) (f := f) (cd := cdv) (A := A) (outer := outer) (s := s) (H := H) (E := E)
    have hx := passesE_of tk
    have hp := passesO_of (CX := L2.CX P w) (P := P) (w := w) (K := K) (mg := mg) (base := base) (N := ["one", "other"]) (qual := "put_together") (scope := defScope (top 20)) (f := f) (cd := cdv) (A := A) (outer := outer) (s := s) (H := H) (E := E)
    exact (dss_one (ds_ret (de_lst (da_cons (de_ix (de_var 1) de_int) (da_cons (de_ix (de_var 0) de_int) (da_cons (de_op dop_add (de_ix (de_var 0) de_int) (de_ix (de_var 1) de_int)) (da_cons (de_op dop_add (de_ix (de_var 0) de_int) (de_ix (de_var 1) de_int)) da_nil)))))))
theorem sc_way_turn : FnScope ["one", "middle", "other", "wide", "high"] ["one", "middle", "other"] (defScope (top 28)) := ⟨rfl, rfl, rfl, by decide +kernel, rfl, by decide +kernel, by decide +kernel⟩
theorem ok_way_turn {P : Program} {w : World} {K : PySem.W.Frag} {mg : Str → Option Value} {base : Heap} {f : Addr} {fd : FuncData} {cls : Nat → Addr} (F : FunD K "way_turn" "way_turn" (defArgs (top 28)) (defBody (top 28)) (defScope (top 28)) [] [] f fd) (hm : mg "way_turn" = some (.ref f)) (g : Free mg) :
    FnP P w K mg base cls 1 "way_turn" 3 m_way_turn :=
  fn_pure (k := 0) F sc_way_turn hm rfl (F.bindsN fun _ _ _ _ _ _ us hl => match us, hl with | [_, _, _], _ => rfl) fun cdv A outer s H E _ G hr => by
    have tk := takesE_of (P := P) (w := w) (K := K) (mg := mg) (base := base) (N := ["one", "middle", "other", "wide", "high"]) (qual := "way_turn") (scope := defScope (top 28)) (f := f) (cd := cdv) (A := A) (outer := outer) (s := s) (H := H) (E := E)
    have hx := passesE_of tk
    have hp := passesO_of (CX := L2.CX P w) (P := P) (w := w) (K := K) (mg := mg) (base := base) (N := ["one", "middle", "other", "wide", "high"]) (qual := "way_turn") (scope := defScope (top 28)) (f := f) (cd := cdv) (A := A) (outer := outer) (s := s) (H := H) (E := E)
    exact (dss_cons (O1 := []) (ds_par 3 4 sc_way_turn.nd (da_cons (de_op dop_sub (de_ix (de_var 1) de_int) (de_ix (de_var 0) de_int)) (da_cons (de_op dop_sub (de_ix (de_var 1) de_int) (de_ix (de_var 0) de_int)) da_nil)))
      (dss_one (ds_ret (de_op dop_sub (de_op dop_mul (de_var 3) (de_op dop_sub (de_ix (de_var 2) de_int) (de_ix (de_var 0) de_int))) (de_op dop_mul (de_var 4) (de_op dop_sub (de_ix (de_var 2) de_int) (de_ix (de_var 0) de_int)))))))
theorem sc__law_true : FnScope ["value", "expected"] ["value", "expected"] (defScope (top 35)) := ⟨rfl, rfl, rfl, by decide +kernel, rfl, by decide +kernel, by decide +kernel⟩
theorem ok__law_true {P : Program} {w : World} {K : PySem.W.Frag} {mg : Str → Option Value} {base : Heap} {f : Addr} {fd : FuncData} {cls : Nat → Addr} (F : FunD K "_law_true" "_law_true" (defArgs (top 35)) (defBody (top 35)) (defScope (top 35)) [] [] f fd) (hm : mg "_law_true" = some (.ref f)) (g : Free mg) :
    FnP P w K mg base cls 1 "_law_true" 2 m__law_true :=
  fn_pure (k := 0) F sc__law_true hm rfl (F.bindsN fun _ _ _ _ _ _ us hl => match us, hl with | [_, _], _ => rfl) fun cdv A outer s H E _ G hr => by
    have tk := takesE_of (P := P) (w := w) (K := K) (mg := mg) (base := base) (N := ["value", "expected"]) (qual := "_law_true") (scope := defScope (top 35)) (f := f) (cd := cdv) (A := A) (outer := outer) (s := s) (H := H) (E := E)
    have hx := passesE_of tk
    have hp := passesO_of (CX := L2.CX P w) (P := P) (w := w) (K := K) (mg := mg) (base := base) (N := ["value", "expected"]) (qual := "_law_true") (scope := defScope (top 35)) (f := f) (cd := cdv) (A := A) (outer := outer) (s := s) (H := H) (E := E)
    exact (dss_one (ds_ret (de_and (de_isi tyOk_bool g.isinstance_ g.bool_ (de_var 0)) (de_one (de_cmp (dop_eq hr.units) (de_var 0) (de_var 1))))))
theorem sc__law_low : FnScope ["top", "under", "one", "other"] ["top", "under"] (defScope (top 37)) := ⟨rfl, rfl, rfl, by decide +kernel, rfl, by decide +kernel, by decide +kernel⟩
theorem ok__law_low {P : Program} {w : World} {K : PySem.W.Frag} {mg : Str → Option Value} {base : Heap} {f : Addr} {fd : FuncData} {cls : Nat → Addr} (F : FunD K "_law_low" "_law_low" (defArgs (top 37)) (defBody (top 37)) (defScope (top 37)) [] [] f fd) (hm : mg "_law_low" = some (.ref f)) (g : Free mg) :
    FnP P w K mg base cls 1 "_law_low" 2 m__law_low :=
  fn_pure (k := 0) F sc__law_low hm rfl (F.bindsN fun _ _ _ _ _ _ us hl => match us, hl with | [_, _], _ => rfl) fun cdv A outer s H E _ G hr => by
    have tk := takesE_of (P := P) (w := w) (K := K) (mg := mg) (base := base) (N := ["top", "under", "one", "other"]) (qual := "_law_low") (scope := defScope (top 37)) (f := f) (cd := cdv) (A := A) (outer := outer) (s := s) (H := H) (E := E)
    have hx := passesE_of tk
    have hp := passesO_of (CX := L2.CX P w) (P := P) (w := w) (K := K) (mg := mg) (base := base) (N := ["top", "under", "one", "other"]) (qual := "_law_low") (scope := defScope (top 37)) (f := f) (cd := cdv) (A := A) (outer := outer) (s := s) (H := H) (E := E)
    exact (dss_cons (O1 := []) (ds_par 2 3 sc__law_low.nd (da_cons (de_callB dc_abs g.abs_ (da_cons (de_var 0) da_nil)) (da_cons (de_var 1) da_nil)))
      (dss_cons (O1 := []) (ds_while (n := (fuInt 3)) hp (dt_cmp (dop_ne hr.units) (de_var 3) de_int)
      (dss_one (ds_par 2 3 sc__law_low.nd (da_cons (de_var 3) (da_cons (de_op dop_mod (de_var 2) (de_var 3)) da_nil)))))
      (dss_one (ds_ret (de_tup (da_cons (de_op dop_div (de_var 0) (de_var 2)) (da_cons (de_op dop_div (de_var 1) (de_var 2)) da_nil)))))))
theorem sc__law_wrong : FnScope ["left", "found", "k", "one", "other"] ["left"] (defScope (top 39)) := ⟨rfl, rfl, rfl, by decide +kernel, rfl, by decide +kernel, by decide +kernel⟩
theorem ok__law_wrong {P : Program} {w : World} {K : PySem.W.Frag} {mg : Str → Option Value} {base : Heap} {f : Addr} {fd : FuncData} {cls : Nat → Addr} (F : FunD K "_law_wrong" "_law_wrong" (defArgs (top 39)) (defBody (top 39)) (defScope (top 39)) [] [] f fd) (hm : mg "_law_wrong" = some (.ref f)) (g : Free mg) :
    FnP P w K mg base cls 1 "_law_wrong" 1 m__law_wrong :=
  fn_pure (k := 0) F sc__law_wrong hm rfl (F.bindsN fun _ _ _ _ _ _ us hl => match us, hl with | [_], _ => rfl) fun cdv A outer s H E _ G hr => by
    have tk := takesE_of (P := P) (w := w) (K := K) (mg := mg) (base := base) (N := ["left", "found", "k", "one", "other"]) (qual := "_law_wrong") (scope := defScope (top 39)) (f := f) (cd := cdv) (A := A) (outer := outer) (s := s) (H := H) (E := E)
    have hx := passesE_of tk
    have hp := passesO_of (CX := L2.CX P w) (P := P) (w := w) (K := K) (mg := mg) (base := base) (N := ["left", "found", "k", "one", "other"]) (qual := "_law_wrong") (scope := defScope (top 39)) (f := f) (cd := cdv) (A := A) (outer := outer) (s := s) (H := H) (E := E)
    exact (dss_cons (O1 := [1]) (ds_setF (O' := [1]) 1 sc__law_wrong.nd (df_lst da_nil))
      (dss_cons (O1 := [1]) (ds_for hp (di_range1 g.range_ (da_cons (de_op dop_sub (de_callB dc_len g.len_ (da_cons (de_var 0) da_nil)) de_int) da_nil)) (dg_name 2 sc__law_wrong.nd) (fun _ =>
      (dss_cons (O1 := [1]) (ds_par 3 4 sc__law_wrong.nd (da_cons (de_ix (de_var 0) (de_var 2)) (da_cons (de_ix (de_var 0) (de_op dop_add (de_var 2) de_int)) da_nil)))
      (dss_one (ds_if (dt_cmp dop_ge (de_op dop_mul (de_ix (de_var 4) de_int) (de_op dop_add (de_ix (de_var 3) de_int) (de_ix (de_var 3) de_int))) (de_op dop_mul (de_ix (de_var 3) de_int) (de_op dop_add (de_ix (de_var 4) de_int) (de_ix (de_var 4) de_int))))
      (dss_one (ds_append 1 (de_var 2)))
      dss_nil)))))
      (dss_less (O1 := []) (by decide) (dss_one (ds_ret (de_var 1))))))
theorem sc_is_thing : FnScope ["value"] ["value"] (defScope (top 6)) := ⟨rfl, rfl, rfl, by decide +kernel, rfl, by decide +kernel, by decide +kernel⟩
theorem ok_is_thing {P : Program} {w : World} {K : PySem.W.Frag} {mg : Str → Option Value} {base : Heap} {f : Addr} {fd : FuncData} {cls : Nat → Addr} (F : FunD K "is_thing" "is_thing" (defArgs (top 6)) (defBody (top 6)) (defScope (top 6)) [] [] f fd) (hm : mg "is_thing" = some (.ref f)) (g : Free mg) (f_is_int : FnP P w K mg base cls 1 "is_int" 3 m_is_int) {t_MOST_SCORE : Tok} (c_MOST_SCORE : mg "MOST_SCORE" = some (.int 99 t_MOST_SCORE)) :
    FnP P w K mg base cls 2 "is_thing" 1 m_is_thing :=
  fn_pure (k := 1) F sc_is_thing hm rfl (F.bindsN fun _ _ _ _ _ _ us hl => match us, hl with | [_], _ => rfl) fun cdv A outer s H E _ G hr => by
    have tk := takesE_of (P := P) (w := w) (K := K) (mg := mg) (base := base) (N := ["value"]) (qual := "is_thing") (scope := defScope (top 6)) (f := f) (cd := cdv) (A := A) (outer := outer) (s := s) (H := H) (E := E)
    have hx := passesE_of tk
    have hp := passesO_of (CX := L2.CX P w) (P := P) (w := w) (K := K) (mg := mg) (base := base) (N := ["value"]) (qual := "is_thing") (scope := defScope (top 6)) (f := f) (cd := cdv) (A := A) (outer := outer) (s := s) (H := H) (E := E)
    exact (dss_cons (O1 := []) (ds_if (dt_bool (dw_or (dt_not (dt_val (de_isi tyOk_tuple g.isinstance_ g.tuple_ (de_var 0)))) (dw_or1 (dt_cmp (dop_ne hr.units) (de_callB dc_len g.len_ (da_cons (de_var 0) da_nil)) de_int))))
      (dss_one (ds_ret de_bl))
      dss_nil)
      (dss_one (ds_ret (de_and (de_call f_is_int (hr.mono (by decide)) hx (da_cons (de_ix (de_var 0) de_int) (da_cons de_int (da_cons (de_gint c_MOST_SCORE) da_nil)))) (de_one (de_isi tyOk_bool g.isinstance_ g.bool_ (de_ix (de_var 0) de_int)))))))
theorem sc_lowest : FnScope ["top", "below", "divisor"] ["top", "below"] (defScope (top 11)) := ⟨rfl, rfl, rfl, by decide +kernel, rfl, by decide +kernel, by decide +kernel⟩
theorem ok_lowest {P : Program} {w : World} {K : PySem.W.Frag} {mg : Str → Option Value} {base : Heap} {f : Addr} {fd : FuncData} {cls : Nat → Addr} (F : FunD K "lowest" "lowest" (defArgs (top 11)) (defBody (top 11)) (defScope (top 11)) [] [] f fd) (hm : mg "lowest" = some (.ref f)) (g : Free mg) (f_common : FnP P w K mg base cls 1 "common" 2 m_common) :
    FnP P w K mg base cls 2 "lowest" 2 m_lowest :=
  fn_pure (k := 1) F sc_lowest hm rfl (F.bindsN fun _ _ _ _ _ _ us hl => match us, hl with | [_, _], _ => rfl) fun cdv A outer s H E _ G hr => by
    have tk := takesE_of (P := P) (w := w) (K := K) (mg := mg) (base := base) (N := ["top", "below", "divisor"]) (qual := "lowest") (scope := defScope (top 11)) (f := f) (cd := cdv) (A := A) (outer := outer) (s := s) (H := H) (E := E)
    have hx := passesE_of tk
    have hp := passesO_of (CX := L2.CX P w) (P := P) (w := w) (K := K) (mg := mg) (base := base) (N := ["top", "below", "divisor"]) (qual := "lowest") (scope := defScope (top 11)) (f := f) (cd := cdv) (A := A) (outer := outer) (s := s) (H := H) (E := E)
    exact (dss_cons (O1 := []) (ds_if (dt_cmp dop_lt (de_var 1) de_int)
      (dss_one (ds_par 0 1 sc_lowest.nd (da_cons (de_un dun_neg (de_var 0)) (da_cons (de_un dun_neg (de_var 1)) da_nil))))
      dss_nil)
      (dss_cons (O1 := []) (ds_set 2 sc_lowest.nd (de_call f_common (hr.mono (by decide)) hx (da_cons (de_var 0) (da_cons (de_var 1) da_nil))))
      (dss_one (ds_ret (de_tup (da_cons (de_op dop_div (de_var 0) (de_var 2)) (da_cons (de_op dop_div (de_var 1) (de_var 2)) da_nil)))))))
theorem sc_points_of : FnScope ["things", "score"] ["things"] (defScope (top 16)) := ⟨rfl, rfl, rfl, by decide +kernel, rfl, by decide +kernel, by decide +kernel⟩
theorem ok_points_of {P : Program} {w : World} {K : PySem.W.Frag} {mg : Str → Option Value} {base : Heap} {f : Addr} {fd : FuncData} {cls : Nat → Addr} (F : FunD K "points_of" "points_of" (defArgs (top 16)) (defBody (top 16)) (defScope (top 16)) [] [] f fd) (hm : mg "points_of" = some (.ref f)) (g : Free mg) (f_counts : FnP P w K mg base cls 1 "counts" 2 m_counts) (f_scores_of : FnP P w K mg base cls 1 "scores_of" 1 m_scores_of) :
    FnP P w K mg base cls 2 "points_of" 1 m_points_of :=
  fn_pure (k := 1) F sc_points_of hm rfl (F.bindsN fun _ _ _ _ _ _ us hl => match us, hl with | [_], _ => rfl) fun cdv A outer s H E _ G hr => by
    have tk := takesE_of (P := P) (w := w) (K := K) (mg := mg) (base := base) (N := ["things", "score"]) (qual := "points_of") (scope := defScope (top 16)) (f := f) (cd := cdv) (A := A) (outer := outer) (s := s) (H := H) (E := E)
    have hx := passesE_of tk
    have hp := passesO_of (CX := L2.CX P w) (P := P) (w := w) (K := K) (mg := mg) (base := base) (N := ["things", "score"]) (qual := "points_of") (scope := defScope (top 16)) (f := f) (cd := cdv) (A := A) (outer := outer) (s := s) (H := H) (E := E)
    exact (dss_one (ds_ret (de_op dop_add (de_lst (da_cons (de_tup (da_cons de_int (da_cons de_int da_nil))) da_nil)) (de_lc [("score", 1)] sc_points_of.nd (di_list (de_call f_scores_of (hr.mono (by decide)) hx (da_cons (de_var 0) da_nil))) (by rfl) (fun _ _ _ _ _ => (dg_name 1 sc_points_of.nd)) (fun _ _ _ _ _ => dts_nil) (fun _ _ _ _ _ => (de_call f_counts (hr.mono (by decide)) passL (da_cons (de_var 0) (da_cons (de_var 1) da_nil))))))))
theorem sc_levels : FnScope ["things", "found", "before", "score", "now"] ["things"] (defScope (top 18)) := ⟨rfl, rfl, rfl, by decide +kernel, rfl, by decide +kernel, by decide +kernel⟩
theorem ok_levels {P : Program} {w : World} {K : PySem.W.Frag} {mg : Str → Option Value} {base : Heap} {f : Addr} {fd : FuncData} {cls : Nat → Addr} (F : FunD K "levels" "levels" (defArgs (top 18)) (defBody (top 18)) (defScope (top 18)) [] [] f fd) (hm : mg "levels" = some (.ref f)) (g : Free mg) (f_scores_of : FnP P w K mg base cls 1 "scores_of" 1 m_scores_of) (f_counts : FnP P w K mg base cls 1 "counts" 2 m_counts) :
    FnP P w K mg base cls 2 "levels" 1 m_levels :=
  fn_pure (k := 1) F sc_levels hm rfl (F.bindsN fun _ _ _ _ _ _ us hl => match us, hl with | [_], _ => rfl) fun cdv A outer s H E _ G hr => by
    have tk := takesE_of (P := P) (w := w) (K := K) (mg := mg) (base := base) (N := ["things", "found", "before", "score", "now"]) (qual := "levels") (scope := defScope (top 18)) (f := f) (cd := cdv) (A := A) (outer := outer) (s := s) (H := H) (E := E)
    have hx := passesE_of tk
    have hp := passesO_of (CX := L2.CX P w) (P := P) (w := w) (K := K) (mg := mg) (base := base) (N := ["things", "found", "before", "score", "now"]) (qual := "levels") (scope := defScope (top 18)) (f := f) (cd := cdv) (A := A) (outer := outer) (s := s) (H := H) (E := E)
    exact (dss_cons (O1 := [1]) (ds_setF (O' := [1]) 1 sc_levels.nd (df_lst da_nil))
      (dss_cons (O1 := [1]) (ds_set 2 sc_levels.nd (de_tup (da_cons de_int (da_cons de_int da_nil))))
      (dss_cons (O1 := [1]) (ds_for hp (di_list (de_call f_scores_of (hr.mono (by decide)) hx (da_cons (de_var 0) da_nil))) (dg_name 3 sc_levels.nd) (fun _ =>
      (dss_cons (O1 := [1]) (ds_set 4 sc_levels.nd (de_call f_counts (hr.mono (by decide)) hx (da_cons (de_var 0) (da_cons (de_var 3) da_nil))))
      (dss_cons (O1 := [1]) (ds_append 1 (de_lst (da_cons (de_var 3) (da_cons (de_var 3) (da_cons (de_op dop_sub (de_ix (de_var 4) de_int) (de_ix (de_var 2) de_int)) (da_cons (de_op dop_sub (de_ix (de_var 4) de_int) (de_ix (de_var 2) de_int)) da_nil))))))
      (dss_one (ds_set 2 sc_levels.nd (de_var 4)))))))
      (dss_less (O1 := []) (by decide) (dss_one (ds_ret (de_var 1)))))))
theorem sc_corners_of : FnScope ["points", "found", "point"] ["points"] (defScope (top 29)) := ⟨rfl, rfl, rfl, by decide +kernel, rfl, by decide +kernel, by decide +kernel⟩
theorem ok_corners_of {P : Program} {w : World} {K : PySem.W.Frag} {mg : Str → Option Value} {base : Heap} {f : Addr} {fd : FuncData} {cls : Nat → Addr} (F : FunD K "corners_of" "corners_of" (defArgs (top 29)) (defBody (top 29)) (defScope (top 29)) [] [] f fd) (hm : mg "corners_of" = some (.ref f)) (g : Free mg) (f_way_turn : FnP P w K mg base cls 1 "way_turn" 3 m_way_turn) :
    FnP P w K mg base cls 2 "corners_of" 1 m_corners_of :=
  fn_pure (k := 1) F sc_corners_of hm rfl (F.bindsN fun _ _ _ _ _ _ us hl => match us, hl with | [_], _ => rfl) fun cdv A outer s H E _ G hr => by
    have tk := takesE_of (P := P) (w := w) (K := K) (mg := mg) (base := base) (N := ["points", "found", "point"]) (qual := "corners_of") (scope := defScope (top 29)) (f := f) (cd := cdv) (A := A) (outer := outer) (s := s) (H := H) (E := E)
    have hx := passesE_of tk
    have hp := passesO_of (CX := L2.CX P w) (P := P) (w := w) (K := K) (mg := mg) (base := base) (N := ["points", "found", "point"]) (qual := "corners_of") (scope := defScope (top 29)) (f := f) (cd := cdv) (A := A) (outer := outer) (s := s) (H := H) (E := E)
    exact (dss_cons (O1 := [1]) (ds_setF (O' := [1]) 1 sc_corners_of.nd (df_lst da_nil))
      (dss_cons (O1 := [1]) (ds_for hp (di_list (de_var 0)) (dg_name 2 sc_corners_of.nd) (fun _ =>
      (dss_cons (O1 := [1]) (ds_while (n := (fuLen 1)) hp (dt_bool (dw_and (dt_cmp dop_ge (de_lenO 1 g.len_) de_int) (dw_and1 (dt_cmp dop_ge (de_call f_way_turn (hr.mono (by decide)) hx (da_cons (de_ixO 1 (de_un dun_neg de_int)) (da_cons (de_ixO 1 (de_un dun_neg de_int)) (da_cons (de_var 2) da_nil)))) de_int))))
      (dss_one (ds_setF (O' := [1]) 1 sc_corners_of.nd (df_sliceO 1 do_none (do_some (de_un dun_neg de_int))))))
      (dss_one (ds_append 1 (de_var 2))))))
      (dss_less (O1 := []) (by decide) (dss_one (ds_ret (de_var 1))))))
theorem sc__law_pick : FnScope ["draws", "choices"] ["draws", "choices"] (defScope (top 34)) := ⟨rfl, rfl, rfl, by decide +kernel, rfl, by decide +kernel, by decide +kernel⟩
theorem ok__law_pick {P : Program} {w : World} {K : PySem.W.Frag} {mg : Str → Option Value} {base : Heap} {f : Addr} {fd : FuncData} {cls : Nat → Addr} (F : FunD K "_law_pick" "_law_pick" (defArgs (top 34)) (defBody (top 34)) (defScope (top 34)) [] [] f fd) (hm : mg "_law_pick" = some (.ref f)) (g : Free mg) (d__law_draw : FnD P w K mg base cls 1 "_law_draw" 2 m__law_draw) :
    FnD P w K mg base cls 2 "_law_pick" 2 m__law_pick :=
  fn_draw (k := 1) F sc__law_pick hm rfl (F.bindsN fun _ _ _ _ _ _ us hl => match us, hl with | [_, _], _ => rfl) fun cdv A outer s H E da db G hr => by
    have hp := passesO_of (CX := L2.CX P w) (P := P) (w := w) (K := K) (mg := mg) (base := base) (N := ["draws", "choices"]) (qual := "_law_pick") (scope := defScope (top 34)) (f := f) (cd := cdv) (A := A) (outer := outer) (s := s) (H := H) (E := E)
    exact (dss_one (ds_ret (de_ix (de_var 1) (de_callD d__law_draw (hr.mono (by decide)) (da_cons (de_var 0) (da_cons (de_callB dc_len g.len_ (da_cons (de_var 1) da_nil)) da_nil))))))
theorem sc__law_add : FnScope ["one", "other"] ["one", "other"] (defScope (top 38)) := ⟨rfl, rfl, rfl, by decide +kernel, rfl, by decide +kernel, by decide +kernel⟩
theorem ok__law_add {P : Program} {w : World} {K : PySem.W.Frag} {mg : Str → Option Value} {base : Heap} {f : Addr} {fd : FuncData} {cls : Nat → Addr} (F : FunD K "_law_add" "_law_add" (defArgs (top 38)) (defBody (top 38)) (defScope (top 38)) [] [] f fd) (hm : mg "_law_add" = some (.ref f)) (g : Free mg) (f__law_low : FnP P w K mg base cls 1 "_law_low" 2 m__law_low) :
    FnP P w K mg base cls 2 "_law_add" 2 m__law_add :=
  fn_pure (k := 1) F sc__law_add hm rfl (F.bindsN fun _ _ _ _ _ _ us hl => match us, hl with | [_, _], _ => rfl) fun cdv A outer s H E _ G hr => by
    have tk := takesE_of (P := P) (w := w) (K := K) (mg := mg) (base := base) (N := ["one", "other"]) (qual := "_law_add") (scope := defScope (top 38)) (f := f) (cd := cdv) (A := A) (outer := outer) (s := s) (H := H) (E := E)
    have hx := passesE_of tk
    have hp := passesO_of (CX := L2.CX P w) (P := P) (w := w) (K := K) (mg := mg) (base := base) (N := ["one", "other"]) (qual := "_law_add") (scope := defScope (top 38)) (f := f) (cd := cdv) (A := A) (outer := outer) (s := s) (H := H) (E := E)
    exact (dss_one (ds_ret (de_call f__law_low (hr.mono (by decide)) hx (da_cons (de_op dop_add (de_op dop_mul (de_ix (de_var 0) de_int) (de_ix (de_var 1) de_int)) (de_op dop_mul (de_ix (de_var 1) de_int) (de_ix (de_var 0) de_int))) (da_cons (de_op dop_mul (de_ix (de_var 0) de_int) (de_ix (de_var 1) de_int)) da_nil)))))
theorem sc_is_things : FnScope ["value", "thing"] ["value"] (defScope (top 7)) := ⟨rfl, rfl, rfl, by decide +kernel, rfl, by decide +kernel, by decide +kernel⟩
theorem ok_is_things {P : Program} {w : World} {K : PySem.W.Frag} {mg : Str → Option Value} {base : Heap} {f : Addr} {fd : FuncData} {cls : Nat → Addr} (F : FunD K "is_things" "is_things" (defArgs (top 7)) (defBody (top 7)) (defScope (top 7)) [] [] f fd) (hm : mg "is_things" = some (.ref f)) (g : Free mg) (f_is_thing : FnP P w K mg base cls 2 "is_thing" 1 m_is_thing) {t_MOST_THINGS : Tok} (c_MOST_THINGS : mg "MOST_THINGS" = some (.int 12 t_MOST_THINGS)) :
    FnP P w K mg base cls 3 "is_things" 1 m_is_things :=
  fn_pure (k := 2) F sc_is_things hm rfl (F.bindsN fun _ _ _ _ _ _ us hl => match us, hl with | [_], _ => rfl) fun cdv A outer s H E _ G hr => by
    have tk := takesE_of (P := P) (w := w) (K := K) (mg := mg) (base := base) (N := ["value", "thing"]) (qual := "is_things") (scope := defScope (top 7)) (f := f) (cd := cdv) (A := A) (outer := outer) (s := s) (H := H) (E := E)
    have hx := passesE_of tk
    have hp := passesO_of (CX := L2.CX P w) (P := P) (w := w) (K := K) (mg := mg) (base := base) (N := ["value", "thing"]) (qual := "is_things") (scope := defScope (top 7)) (f := f) (cd := cdv) (A := A) (outer := outer) (s := s) (H := H) (E := E)
    exact (dss_cons (O1 := []) (ds_if (dt_bool (dw_or (dt_not (dt_val (de_isi tyOk_list g.isinstance_ g.list_ (de_var 0)))) (dw_or1 (dt_not (dt_chain dop_le dop_le de_int (de_callB dc_len g.len_ (da_cons (de_var 0) da_nil)) (de_gint c_MOST_THINGS))))))
      (dss_one (ds_ret de_bl))
      dss_nil)
      (dss_one (ds_ret (de_callB (dc_all rfl) g.all_ (da_cons (de_lc [("thing", 1)] sc_is_things.nd (di_list (de_var 0)) (by rfl) (fun _ _ _ _ _ => (dg_name 1 sc_is_things.nd)) (fun _ _ _ _ _ => dts_nil) (fun _ _ _ _ _ => (de_call f_is_thing (hr.mono (by decide)) passL (da_cons (de_var 1) da_nil)))) da_nil)))))
theorem sc_pooled : FnScope ["things", "found", "level"] ["things"] (defScope (top 21)) := ⟨rfl, rfl, rfl, by decide +kernel, rfl, by decide +kernel, by decide +kernel⟩
theorem ok_pooled {P : Program} {w : World} {K : PySem.W.Frag} {mg : Str → Option Value} {base : Heap} {f : Addr} {fd : FuncData} {cls : Nat → Addr} (F : FunD K "pooled" "pooled" (defArgs (top 21)) (defBody (top 21)) (defScope (top 21)) [] [] f fd) (hm : mg "pooled" = some (.ref f)) (g : Free mg) (f_levels : FnP P w K mg base cls 2 "levels" 1 m_levels) (f_falls : FnP P w K mg base cls 1 "falls" 2 m_falls) (f_put_together : FnP P w K mg base cls 1 "put_together" 2 m_put_together) :
    FnP P w K mg base cls 3 "pooled" 1 m_pooled :=
  fn_pure (k := 2) F sc_pooled hm rfl (F.bindsN fun _ _ _ _ _ _ us hl => match us, hl with | [_], _ => rfl) fun cdv A outer s H E _ G hr => by
    have tk := takesE_of (P := P) (w := w) (K := K) (mg := mg) (base := base) (N := ["things", "found", "level"]) (qual := "pooled") (scope := defScope (top 21)) (f := f) (cd := cdv) (A := A) (outer := outer) (s := s) (H := H) (E := E)
    have hx := passesE_of tk
    have hp := passesO_of (CX := L2.CX P w) (P := P) (w := w) (K := K) (mg := mg) (base := base) (N := ["things", "found", "level"]) (qual := "pooled") (scope := defScope (top 21)) (f := f) (cd := cdv) (A := A) (outer := outer) (s := s) (H := H) (E := E)
    exact (dss_cons (O1 := [1]) (ds_setF (O' := [1]) 1 sc_pooled.nd (df_lst da_nil))
      (dss_cons (O1 := [1]) (ds_for hp (di_list (de_call f_levels (hr.mono (by decide)) hx (da_cons (de_var 0) da_nil))) (dg_name 2 sc_pooled.nd) (fun _ =>
      (dss_cons (O1 := [1]) (ds_append 1 (de_var 2))
      (dss_one (ds_while (n := (fuLen 1)) hp (dt_bool (dw_and (dt_cmp dop_ge (de_lenO 1 g.len_) de_int) (dw_and1 (dt_not (dt_val (de_call f_falls (hr.mono (by decide)) hx (da_cons (de_ixO 1 (de_un dun_neg de_int)) (da_cons (de_ixO 1 (de_un dun_neg de_int)) da_nil))))))))
      (dss_one (ds_setF (O' := [1]) 1 sc_pooled.nd (df_cat (de_sliceO 1 do_none (do_some (de_un dun_neg de_int))) (de_lst (da_cons (de_call f_put_together (hr.mono (by decide)) hx (da_cons (de_ixO 1 (de_un dun_neg de_int)) (da_cons (de_ixO 1 (de_un dun_neg de_int)) da_nil))) da_nil))))))))))
      (dss_less (O1 := []) (by decide) (dss_one (ds_ret (de_var 1))))))
theorem sc__law_things : FnScope ["draws", "most", "wide", "k"] ["draws", "most"] (defScope (top 36)) := ⟨rfl, rfl, rfl, by decide +kernel, rfl, by decide +kernel, by decide +kernel⟩
theorem ok__law_things {P : Program} {w : World} {K : PySem.W.Frag} {mg : Str → Option Value} {base : Heap} {f : Addr} {fd : FuncData} {cls : Nat → Addr} (F : FunD K "_law_things" "_law_things" (defArgs (top 36)) (defBody (top 36)) (defScope (top 36)) [] [] f fd) (hm : mg "_law_things" = some (.ref f)) (g : Free mg) (d__law_pick : FnD P w K mg base cls 2 "_law_pick" 2 m__law_pick) (d__law_draw : FnD P w K mg base cls 1 "_law_draw" 2 m__law_draw) :
    FnD P w K mg base cls 3 "_law_things" 2 m__law_things :=
  fn_draw (k := 2) F sc__law_things hm rfl (F.bindsN fun _ _ _ _ _ _ us hl => match us, hl with | [_, _], _ => rfl) fun cdv A outer s H E da db G hr => by
    have hp := passesO_of (CX := L2.CX P w) (P := P) (w := w) (K := K) (mg := mg) (base := base) (N := ["draws", "most", "wide", "k"]) (qual := "_law_things") (scope := defScope (top 36)) (f := f) (cd := cdv) (A := A) (outer := outer) (s := s) (H := H) (E := E)
    exact (dss_cons (O1 := []) (ds_set 2 sc__law_things.nd (de_callD d__law_pick (hr.mono (by decide)) (da_cons (de_var 0) (da_cons (de_lst (da_cons de_int (da_cons de_int (da_cons de_int (da_cons de_int da_nil))))) da_nil))))
      (dss_one (ds_ret (de_lc [("k", 3)] sc__law_things.nd (di_range1 g.range_ (da_cons (de_op dop_add de_int (de_callD d__law_draw (hr.mono (by decide)) (da_cons (de_var 0) (da_cons (de_var 1) da_nil)))) da_nil)) (by rfl) (fun _ _ _ _ _ => (dg_name 3 sc__law_things.nd)) (fun _ _ _ _ _ => dts_nil) (fun _ _ _ _ _ => (de_tup (da_cons (de_callD d__law_draw (hr.mono (by decide)) (da_cons (de_var 0) (da_cons (de_var 2) da_nil))) (da_cons (de_cmp (dop_eq hr.units) (de_callD d__law_draw (hr.mono (by decide)) (da_cons (de_var 0) (da_cons de_int da_nil))) de_int) da_nil))))))))
theorem sc_check_things : FnScope ["value"] ["value"] (defScope (top 8)) := ⟨rfl, rfl, rfl, by decide +kernel, rfl, by decide +kernel, by decide +kernel⟩
theorem ok_check_things {P : Program} {w : World} {K : PySem.W.Frag} {mg : Str → Option Value} {base : Heap} {f : Addr} {fd : FuncData} {cls : Nat → Addr} (F : FunD K "check_things" "check_things" (defArgs (top 8)) (defBody (top 8)) (defScope (top 8)) [] [] f fd) (hm : mg "check_things" = some (.ref f)) (g : Free mg) (f_is_things : FnP P w K mg base cls 3 "is_things" 1 m_is_things) (x_BadThings : ExcF K mg cls 0 "BadThings") :
    FnP P w K mg base cls 4 "check_things" 1 m_check_things :=
  fn_pure (k := 3) F sc_check_things hm rfl (F.bindsN fun _ _ _ _ _ _ us hl => match us, hl with | [_], _ => rfl) fun cdv A outer s H E _ G hr => by
    have tk := takesE_of (P := P) (w := w) (K := K) (mg := mg) (base := base) (N := ["value"]) (qual := "check_things") (scope := defScope (top 8)) (f := f) (cd := cdv) (A := A) (outer := outer) (s := s) (H := H) (E := E)
    have hx := passesE_of tk
    have hp := passesO_of (CX := L2.CX P w) (P := P) (w := w) (K := K) (mg := mg) (base := base) (N := ["value"]) (qual := "check_things") (scope := defScope (top 8)) (f := f) (cd := cdv) (A := A) (outer := outer) (s := s) (H := H) (E := E)
    exact (dss_one (ds_if (dt_not (dt_val (de_call f_is_things (hr.mono (by decide)) hx (da_cons (de_var 0) da_nil))))
      (dss_one (ds_raise tk (x_BadThings.c)))
      dss_nil))
theorem sc_unlike_scores : FnScope ["things"] ["things"] (defScope (top 14)) := ⟨rfl, rfl, rfl, by decide +kernel, rfl, by decide +kernel, by decide +kernel⟩
theorem ok_unlike_scores {P : Program} {w : World} {K : PySem.W.Frag} {mg : Str → Option Value} {base : Heap} {f : Addr} {fd : FuncData} {cls : Nat → Addr} (F : FunD K "unlike_scores" "unlike_scores" (defArgs (top 14)) (defBody (top 14)) (defScope (top 14)) [] [] f fd) (hm : mg "unlike_scores" = some (.ref f)) (g : Free mg) (f_check_things : FnP P w K mg base cls 4 "check_things" 1 m_check_things) (f_scores_of : FnP P w K mg base cls 1 "scores_of" 1 m_scores_of) :
    FnP P w K mg base cls 5 "unlike_scores" 1 m_unlike_scores :=
  fn_pure (k := 4) F sc_unlike_scores hm rfl (F.bindsN fun _ _ _ _ _ _ us hl => match us, hl with | [_], _ => rfl) fun cdv A outer s H E _ G hr => by
    have tk := takesE_of (P := P) (w := w) (K := K) (mg := mg) (base := base) (N := ["things"]) (qual := "unlike_scores") (scope := defScope (top 14)) (f := f) (cd := cdv) (A := A) (outer := outer) (s := s) (H := H) (E := E)
    have hx := passesE_of tk
    have hp := passesO_of (CX := L2.CX P w) (P := P) (w := w) (K := K) (mg := mg) (base := base) (N := ["things"]) (qual := "unlike_scores") (scope := defScope (top 14)) (f := f) (cd := cdv) (A := A) (outer := outer) (s := s) (H := H) (E := E)
    exact (dss_cons (O1 := []) (ds_expr (de_call f_check_things (hr.mono (by decide)) hx (da_cons (de_var 0) da_nil)))
      (dss_one (ds_ret (de_call f_scores_of (hr.mono (by decide)) hx (da_cons (de_var 0) da_nil)))))
theorem sc_pools : FnScope ["things", "pool"] ["things"] (defScope (top 22)) := ⟨rfl, rfl, rfl, by decide +kernel, rfl, by decide +kernel, by decide +kernel⟩
theorem ok_pools {P : Program} {w : World} {K : PySem.W.Frag} {mg : Str → Option Value} {base : Heap} {f : Addr} {fd : FuncData} {cls : Nat → Addr} (F : FunD K "pools" "pools" (defArgs (top 22)) (defBody (top 22)) (defScope (top 22)) [] [] f fd) (hm : mg "pools" = some (.ref f)) (g : Free mg) (f_check_things : FnP P w K mg base cls 4 "check_things" 1 m_check_things) (f_pooled : FnP P w K mg base cls 3 "pooled" 1 m_pooled) :
    FnP P w K mg base cls 5 "pools" 1 m_pools :=
  fn_pure (k := 4) F sc_pools hm rfl (F.bindsN fun _ _ _ _ _ _ us hl => match us, hl with | [_], _ => rfl) fun cdv A outer s H E _ G hr => by
    have tk := takesE_of (P := P) (w := w) (K := K) (mg := mg) (base := base) (N := ["things", "pool"]) (qual := "pools") (scope := defScope (top 22)) (f := f) (cd := cdv) (A := A) (outer := outer) (s := s) (H := H) (E := E)
    have hx := passesE_of tk
    have hp := passesO_of (CX := L2.CX P w) (P := P) (w := w) (K := K) (mg := mg) (base := base) (N := ["things", "pool"]) (qual := "pools") (scope := defScope (top 22)) (f := f) (cd := cdv) (A := A) (outer := outer) (s := s) (H := H) (E := E)
    exact (dss_cons (O1 := []) (ds_expr (de_call f_check_things (hr.mono (by decide)) hx (da_cons (de_var 0) da_nil)))
      (dss_one (ds_ret (de_lc [("pool", 1)] sc_pools.nd (di_list (de_call f_pooled (hr.mono (by decide)) hx (da_cons (de_var 0) da_nil))) (by rfl) (fun _ _ _ _ _ => (dg_name 1 sc_pools.nd)) (fun _ _ _ _ _ => dts_nil) (fun _ _ _ _ _ => (de_callTy dc_tuple g.tuple_ (da_cons (de_var 1) da_nil)))))))
theorem sc_share_of : FnScope ["things", "score", "pool", "one"] ["things", "score"] (defScope (top 23)) := ⟨rfl, rfl, rfl, by decide +kernel, rfl, by decide +kernel, by decide +kernel⟩
theorem ok_share_of {P : Program} {w : World} {K : PySem.W.Frag} {mg : Str → Option Value} {base : Heap} {f : Addr} {fd : FuncData} {cls : Nat → Addr} (F : FunD K "share_of" "share_of" (defArgs (top 23)) (defBody (top 23)) (defScope (top 23)) [] [] f fd) (hm : mg "share_of" = some (.ref f)) (g : Free mg) (f_check_things : FnP P w K mg base cls 4 "check_things" 1 m_check_things) (f_lowest : FnP P w K mg base cls 2 "lowest" 2 m_lowest) (f_is_int : FnP P w K mg base cls 1 "is_int" 3 m_is_int) (f_scores_of : FnP P w K mg base cls 1 "scores_of" 1 m_scores_of) (f_pooled : FnP P w K mg base cls 3 "pooled" 1 m_pooled) :
    FnP P w K mg base cls 5 "share_of" 2 m_share_of :=
  fn_pure (k := 4) F sc_share_of hm rfl (F.bindsN fun _ _ _ _ _ _ us hl => match us, hl with | [_, _], _ => rfl) fun cdv A outer s H E _ G hr => by
    have tk := takesE_of (P := P) (w := w) (K := K) (mg := mg) (base := base) (N := ["things", "score", "pool", "one"]) (qual := "share_of") (scope := defScope (top 23)) (f := f) (cd := cdv) (A := A) (outer := outer) (s := s) (H := H) (E := E)
    have hx := passesE_of tk
    have hp := passesO_of (CX := L2.CX P w) (P := P) (w := w) (K := K) (mg := mg) (base := base) (N := ["things", "score", "pool", "one"]) (qual := "share_of") (scope := defScope (top 23)) (f := f) (cd := cdv) (A := A) (outer := outer) (s := s) (H := H) (E := E)
    exact (dss_cons (O1 := []) (ds_expr (de_call f_check_things (hr.mono (by decide)) hx (da_cons (de_var 0) da_nil)))
      (dss_cons (O1 := []) (ds_if (dt_bool (dw_or (dt_not (dt_val (de_call f_is_int (hr.mono (by decide)) hx (da_cons (de_var 1) (da_cons de_int (da_cons de_int da_nil)))))) (dw_or1 (dt_cmp (dop_notIn (room65 hr)) (de_var 1) (de_call f_scores_of (hr.mono (by decide)) hx (da_cons (de_var 0) da_nil))))))
      (dss_one (ds_ret de_non))
      dss_nil)
      (dss_cons (O1 := []) (ds_set 2 sc_share_of.nd (de_ix (de_lc [("one", 3)] sc_share_of.nd (di_list (de_call f_pooled (hr.mono (by decide)) hx (da_cons (de_var 0) da_nil))) (by rfl) (fun _ _ _ _ _ => (dg_name 3 sc_share_of.nd)) (fun _ _ _ _ _ => (dts_one (dt_chain dop_le dop_le (de_ix (de_var 3) de_int) (de_var 1) (de_ix (de_var 3) de_int)))) (fun _ _ _ _ _ => (de_var 3))) de_int))
      (dss_one (ds_ret (de_call f_lowest (hr.mono (by decide)) hx (da_cons (de_ix (de_var 2) de_int) (da_cons (de_op dop_add (de_ix (de_var 2) de_int) (de_ix (de_var 2) de_int)) da_nil))))))))
theorem sc_squared_error : FnScope ["things", "found", "low", "high", "sound", "faulty", "whole"] ["things"] (defScope (top 25)) := ⟨rfl, rfl, rfl, by decide +kernel, rfl, by decide +kernel, by decide +kernel⟩
theorem ok_squared_error {P : Program} {w : World} {K : PySem.W.Frag} {mg : Str → Option Value} {base : Heap} {f : Addr} {fd : FuncData} {cls : Nat → Addr} (F : FunD K "squared_error" "squared_error" (defArgs (top 25)) (defBody (top 25)) (defScope (top 25)) [] [] f fd) (hm : mg "squared_error" = some (.ref f)) (g : Free mg) (f_check_things : FnP P w K mg base cls 4 "check_things" 1 m_check_things) (f_pooled : FnP P w K mg base cls 3 "pooled" 1 m_pooled) (f_lowest : FnP P w K mg base cls 2 "lowest" 2 m_lowest) :
    FnP P w K mg base cls 5 "squared_error" 1 m_squared_error :=
  fn_pure (k := 4) F sc_squared_error hm rfl (F.bindsN fun _ _ _ _ _ _ us hl => match us, hl with | [_], _ => rfl) fun cdv A outer s H E _ G hr => by
    have tk := takesE_of (P := P) (w := w) (K := K) (mg := mg) (base := base) (N := ["things", "found", "low", "high", "sound", "faulty", "whole"]) (qual := "squared_error") (scope := defScope (top 25)) (f := f) (cd := cdv) (A := A) (outer := outer) (s := s) (H := H) (E := E)
    have hx := passesE_of tk
    have hp := passesO_of (CX := L2.CX P w) (P := P) (w := w) (K := K) (mg := mg) (base := base) (N := ["things", "found", "low", "high", "sound", "faulty", "whole"]) (qual := "squared_error") (scope := defScope (top 25)) (f := f) (cd := cdv) (A := A) (outer := outer) (s := s) (H := H) (E := E)
    exact (dss_cons (O1 := []) (ds_expr (de_call f_check_things (hr.mono (by decide)) hx (da_cons (de_var 0) da_nil)))
      (dss_cons (O1 := []) (ds_set 1 sc_squared_error.nd (de_tup (da_cons de_int (da_cons de_int da_nil))))
      (dss_cons (O1 := []) (ds_for hp (di_list (de_call f_pooled (hr.mono (by decide)) hx (da_cons (de_var 0) da_nil))) (dg_tup (bLen_cons (bLen_cons (bLen_cons (bLen_cons bLen_nil)))) (dgs_cons (dg_name 2 sc_squared_error.nd) (dgs_cons (dg_name 3 sc_squared_error.nd) (dgs_cons (dg_name 4 sc_squared_error.nd) (dgs_cons (dg_name 5 sc_squared_error.nd) dgs_nil))))) (fun _ =>
      (dss_cons (O1 := []) (ds_set 6 sc_squared_error.nd (de_call f_lowest (hr.mono (by decide)) hx (da_cons (de_op dop_mul (de_var 5) (de_var 4)) (da_cons (de_op dop_add (de_var 4) (de_var 5)) da_nil))))
      (dss_one (ds_set 1 sc_squared_error.nd (de_call f_lowest (hr.mono (by decide)) hx (da_cons (de_op dop_add (de_op dop_mul (de_ix (de_var 1) de_int) (de_ix (de_var 6) de_int)) (de_op dop_mul (de_ix (de_var 6) de_int) (de_ix (de_var 1) de_int))) (da_cons (de_op dop_mul (de_ix (de_var 1) de_int) (de_ix (de_var 6) de_int)) da_nil))))))))
      (dss_one (ds_ret (de_var 1))))))
theorem sc_is_pooled : FnScope ["things"] ["things"] (defScope (top 26)) := ⟨rfl, rfl, rfl, by decide +kernel, rfl, by decide +kernel, by decide +kernel⟩
theorem ok_is_pooled {P : Program} {w : World} {K : PySem.W.Frag} {mg : Str → Option Value} {base : Heap} {f : Addr} {fd : FuncData} {cls : Nat → Addr} (F : FunD K "is_pooled" "is_pooled" (defArgs (top 26)) (defBody (top 26)) (defScope (top 26)) [] [] f fd) (hm : mg "is_pooled" = some (.ref f)) (g : Free mg) (f_check_things : FnP P w K mg base cls 4 "check_things" 1 m_check_things) (f_pooled : FnP P w K mg base cls 3 "pooled" 1 m_pooled) (f_scores_of : FnP P w K mg base cls 1 "scores_of" 1 m_scores_of) :
    FnP P w K mg base cls 5 "is_pooled" 1 m_is_pooled :=
  fn_pure (k := 4) F sc_is_pooled hm rfl (F.bindsN fun _ _ _ _ _ _ us hl => match us, hl with | [_], _ => rfl) fun cdv A outer s H E _ G hr => by
    have tk := takesE_of (P := P) (w := w) (K := K) (mg := mg) (base := base) (N := ["things"]) (qual := "is_pooled") (scope := defScope (top 26)) (f := f) (cd := cdv) (A := A) (outer := outer) (s := s) (H := H) (E := E)
    have hx := passesE_of tk
    have hp := passesO_of (CX := L2.CX P w) (P := P) (w := w) (K := K) (mg := mg) (base := base) (N := ["things"]) (qual := "is_pooled") (scope := defScope (top 26)) (f := f) (cd := cdv) (A := A) (outer := outer) (s := s) (H := H) (E := E)
    exact (dss_cons (O1 := []) (ds_expr (de_call f_check_things (hr.mono (by decide)) hx (da_cons (de_var 0) da_nil)))
      (dss_one (ds_ret (de_cmp (dop_eq hr.units) (de_callB dc_len g.len_ (da_cons (de_call f_pooled (hr.mono (by decide)) hx (da_cons (de_var 0) da_nil)) da_nil)) (de_callB dc_len g.len_ (da_cons (de_call f_scores_of (hr.mono (by decide)) hx (da_cons (de_var 0) da_nil)) da_nil))))))
theorem sc_hull : FnScope ["things"] ["things"] (defScope (top 30)) := ⟨rfl, rfl, rfl, by decide +kernel, rfl, by decide +kernel, by decide +kernel⟩
theorem ok_hull {P : Program} {w : World} {K : PySem.W.Frag} {mg : Str → Option Value} {base : Heap} {f : Addr} {fd : FuncData} {cls : Nat → Addr} (F : FunD K "hull" "hull" (defArgs (top 30)) (defBody (top 30)) (defScope (top 30)) [] [] f fd) (hm : mg "hull" = some (.ref f)) (g : Free mg) (f_check_things : FnP P w K mg base cls 4 "check_things" 1 m_check_things) (f_corners_of : FnP P w K mg base cls 2 "corners_of" 1 m_corners_of) (f_points_of : FnP P w K mg base cls 2 "points_of" 1 m_points_of) :
    FnP P w K mg base cls 5 "hull" 1 m_hull :=
  fn_pure (k := 4) F sc_hull hm rfl (F.bindsN fun _ _ _ _ _ _ us hl => match us, hl with | [_], _ => rfl) fun cdv A outer s H E _ G hr => by
    have tk := takesE_of (P := P) (w := w) (K := K) (mg := mg) (base := base) (N := ["things"]) (qual := "hull") (scope := defScope (top 30)) (f := f) (cd := cdv) (A := A) (outer := outer) (s := s) (H := H) (E := E)
    have hx := passesE_of tk
    have hp := passesO_of (CX := L2.CX P w) (P := P) (w := w) (K := K) (mg := mg) (base := base) (N := ["things"]) (qual := "hull") (scope := defScope (top 30)) (f := f) (cd := cdv) (A := A) (outer := outer) (s := s) (H := H) (E := E)
    exact (dss_cons (O1 := []) (ds_expr (de_call f_check_things (hr.mono (by decide)) hx (da_cons (de_var 0) da_nil)))
      (dss_one (ds_ret (de_call f_corners_of (hr.mono (by decide)) hx (da_cons (de_call f_points_of (hr.mono (by decide)) hx (da_cons (de_var 0) da_nil)) da_nil)))))
theorem sc_shares : FnScope ["things", "score", "faulty"] ["things"] (defScope (top 24)) := ⟨rfl, rfl, rfl, by decide +kernel, rfl, by decide +kernel, by decide +kernel⟩
theorem ok_shares {P : Program} {w : World} {K : PySem.W.Frag} {mg : Str → Option Value} {base : Heap} {f : Addr} {fd : FuncData} {cls : Nat → Addr} (F : FunD K "shares" "shares" (defArgs (top 24)) (defBody (top 24)) (defScope (top 24)) [] [] f fd) (hm : mg "shares" = some (.ref f)) (g : Free mg) (f_check_things : FnP P w K mg base cls 4 "check_things" 1 m_check_things) (f_share_of : FnP P w K mg base cls 5 "share_of" 2 m_share_of) :
    FnP P w K mg base cls 6 "shares" 1 m_shares :=
  fn_pure (k := 5) F sc_shares hm rfl (F.bindsN fun _ _ _ _ _ _ us hl => match us, hl with | [_], _ => rfl) fun cdv A outer s H E _ G hr => by
    have tk := takesE_of (P := P) (w := w) (K := K) (mg := mg) (base := base) (N := ["things", "score", "faulty"]) (qual := "shares") (scope := defScope (top 24)) (f := f) (cd := cdv) (A := A) (outer := outer) (s := s) (H := H) (E := E)
    have hx := passesE_of tk
    have hp := passesO_of (CX := L2.CX P w) (P := P) (w := w) (K := K) (mg := mg) (base := base) (N := ["things", "score", "faulty"]) (qual := "shares") (scope := defScope (top 24)) (f := f) (cd := cdv) (A := A) (outer := outer) (s := s) (H := H) (E := E)
    exact (dss_cons (O1 := []) (ds_expr (de_call f_check_things (hr.mono (by decide)) hx (da_cons (de_var 0) da_nil)))
      (dss_one (ds_ret (de_lc [("score", 1), ("faulty", 2)] sc_shares.nd (di_list (de_var 0)) (by rfl) (fun _ _ _ _ _ => (dg_tup (bLen_cons (bLen_cons bLen_nil)) (dgs_cons (dg_name 1 sc_shares.nd) (dgs_cons (dg_name 2 sc_shares.nd) dgs_nil)))) (fun _ _ _ _ _ => dts_nil) (fun _ _ _ _ _ => (de_call f_share_of (hr.mono (by decide)) passL (da_cons (de_var 0) (da_cons (de_var 1) da_nil))))))))

theorem sc__law_draw : FnScope ["draws", "limit", "numbers", "at", "cell", "mixed"] ["draws", "limit"] (defScope (top 33)) := ⟨rfl, rfl, rfl, by decide +kernel, rfl, by decide +kernel, by decide +kernel⟩
theorem ok__law_draw {P : Program} {w : World} {K : PySem.W.Frag} {mg : Str → Option Value} {base : Heap} {f : Addr} {fd : FuncData} {cls : Nat → Addr} (F : FunD K "_law_draw" "_law_draw" (defArgs (top 33)) (defBody (top 33)) (defScope (top 33)) [] [] f fd) (hm : mg "_law_draw" = some (.ref f)) (g : Free mg) :
    FnD P w K mg base cls 1 "_law_draw" 2 m__law_draw := by
  refine ⟨f, fd, ["draws", "limit"], F.ok sc__law_draw (fun vs H Q E h => ?_) (fun cdv A outer s H vs Q E hr h => ?_), hm, F.kp, F.bindsN fun _ _ _ _ _ _ us hl => match us, hl with | [_, _], _ => rfl⟩
  · obtain ⟨da, db, G, ds, s, _, r, hl, _⟩ := h
    rw [r.len, hl]; rfl
  · obtain ⟨da, db, G, ds, st, S, r, hl, p⟩ := h
    unfold m__law_draw at p
    split at p
    · rename_i x lim
      split at p
      · rename_i hc
        obtain ⟨h0, h30, hn⟩ := hc
        cases r with
        | cons r1 r2 =>
          cases r2 with
          | cons r2 r3 =>
            cases r3
            obtain ⟨n, rfl⟩ := pd_tok r1
            obtain rfl := (r2.dg (isD_tok rfl)).of_int
            obtain ⟨ns, c⟩ := st
            obtain ⟨nd, hda, hdb⟩ := S.rep
            simp only at hda hdb hn
            have nd' : db ≠ da := Ne.symm nd
            refine ⟨_, pss_cons (ps_set (i := 2) sc__law_draw.nd rfl (.inl rfl) (pe_ix ix_list (pv 0) pe_int (fun _ _ => rfl)))
              (pss_cons (ps_asg (pe_op op_add (pe_ix ix_list (pv 0) pe_int (fun _ _ => rfl)) pe_int) (pg_sub (pv 0) pe_int set_list))
              (pss_cons (ps_set (i := 3) sc__law_draw.nd rfl (.inl rfl) (pe_op op_mod (pe_ix ix_list (pv 0) pe_int (fun _ _ => rfl)) (pe_callB call_len_seq (by rfl) g.len_ PySem.boot_len (pa_cons (pv 2) pa_nil))))
              (pss_cons (ps_set (i := 4) sc__law_draw.nd rfl (.inl rfl) (pe_ix ix_list (pv 2) (pv 3) (fun _ _ => rfl)))
              (pss_cons (ps_if (pt_cmpR op_ge (pv 4) pe_int (nomark _)) (pss_cons (ps_asg (pe_op op_fdiv (pv 4) (pv 1)) (pg_sub (pv 2) (pv 3) set_list)) (pss_one (ps_ret (pe_op op_mod (pv 4) (pv 1))))) pss_nil)
              (pss_cons (ps_set (i := 5) sc__law_draw.nd rfl (.inl rfl) (pe_op op_mod (pe_op op_add (pv 4) (pe_op op_mul pe_int (pe_ix ix_list (pv 0) pe_int (fun _ _ => rfl)))) pe_int))
              (pss_cons (ps_set (i := 5) sc__law_draw.nd rfl (.inl rfl) (pe_op op_mod (pe_op op_pow (pv 5) pe_int) pe_int))
              (pss_one (ps_ret (pe_op op_mod (pe_op op_fdiv (pe_op op_mod (pe_op op_add (pe_op op_mul (pe_op op_fdiv (pv 5) pe_int) pe_int) (pv 5)) pe_int) pe_int) (pv 1)))))))))), ?_⟩
            have hda1 : (upd H da (.lst [.ref db, .int (c + 1)])) da = some (.lst [.ref db, .int (c + 1)]) := upd_same
            have hdb1 : (upd H da (.lst [.ref db, .int (c + 1)])) db = some (.lst (ns.map V.int)) := by rw [upd_ne nd']; exact hdb
            have hix : (ns.map V.int).length = ns.length := List.length_map ..
            have hmp : 0 < (ns.map V.int).length := by rw [hix]; exact hn
            have hpos : (0 : Int) < ((ns.map V.int).length : Int) := by omega
            generalize hi : (c + 1) % ((ns.map V.int).length : Int) = ix at *
            have hat : ixN (ns.map V.int).length ix = some ix.toNat := by rw [← hi]; exact ixN_emod hmp
            have hlt : ix.toNat < ns.length := by
              have h1 : 0 ≤ ix := by rw [← hi]; exact Int.emod_nonneg _ (by omega)
              have h2 : ix < ((ns.map V.int).length : Int) := by rw [← hi]; exact Int.emod_lt_of_pos _ hpos
              omega
            have hgv : ns[ix.toNat]? = some (ns.getD ix.toNat 0) := by rw [List.getD_eq_getElem?_getD, List.getElem?_eq_getElem hlt]; rfl
            generalize hcell : ns.getD ix.toNat 0 = cell at *
            have hget : L2.atI (ns.map V.int) ix = some (.int cell) := by
              unfold L2.atI
              rw [hat]
              show (ns.map V.int)[ix.toNat]? = _
              rw [List.getElem?_map, hgv]
              rfl
            have hdm : drawM lim (ns, c) = if 1000000000000000000 ≤ cell then (cell % lim, (ns.set ix.toNat (cell / lim), c + 1)) else (hashD cell (c + 1) lim, (ns, c + 1)) := by
              unfold drawM
              dsimp only
              rw [← hix, hi, hcell]
            rw [hdm] at p
            -- numbers = draws[0]
            refine ⟨.ref da, rfl, da, _, 0, .ref db, rfl, rfl, SqL.of hda, rfl, ?_⟩
            -- draws[1] = draws[1] + 1
            refine ⟨.ref da, rfl, da, _, 1, .int c, rfl, rfl, SqL.of hda, rfl, c, 1, rfl, rfl, .ref da, rfl, da, _, 1, 1, rfl, rfl, hda, rfl, ?_⟩
            -- at
            refine ⟨.ref da, rfl, da, _, 1, .int (c + 1), rfl, rfl, SqL.of hda1, rfl, .ref db, rfl, db, _, rfl, .inl (SqL.of hdb1), c + 1, _, rfl, rfl, hpos, ?_⟩
            simp only [hi]
            -- cell
            refine ⟨.ref db, rfl, .int ix, rfl, db, _, ix, .int cell, rfl, rfl, SqL.of hdb1, hget, ?_⟩
            refine ⟨.int cell, rfl, cell, _, rfl, rfl, _, rfl, ite2 (fun e => ?_) (fun e => ?_)⟩
            · rw [if_pos (of_decide_eq_true e)] at p
              refine ⟨.int cell, rfl, .int lim, rfl, cell, lim, rfl, rfl, ⟨h0, h30⟩, .ref db, rfl, .int ix, rfl, db, _, ix, ix.toNat, rfl, rfl, hdb1, hat, ?_⟩
              refine ⟨.int cell, rfl, .int lim, rfl, cell, lim, rfl, rfl, h0, ?_⟩
              refine draw_post S (fun a n1 n2 => ?_) ?_ ?_ p (.int _)
              · rw [upd_ne n2, upd_ne n1]
              · rw [upd_ne nd]; exact hda1
              · rw [upd_same, List.map_set]
            · rw [if_neg fun z => e (decide_eq_true z)] at p
              have k0 : ∀ x : Int, 0 ≤ x % 4294967291 ∧ x % 4294967291 < 4294967291 := fun x => ⟨Int.emod_nonneg _ (by decide), Int.emod_lt_of_pos _ (by decide)⟩
              refine ⟨.int cell, rfl, .ref da, rfl, da, _, 1, .int (c + 1), rfl, rfl, SqL.of hda1, rfl, 104729, c + 1, rfl, rfl, .inl ⟨by decide, by decide⟩, cell, _, rfl, rfl, _, _, rfl, rfl, (show (0 : Int) < 4294967291 by decide), ?_⟩
              refine ⟨_, rfl, _, 5, rfl, rfl, ⟨by decide, by decide, ?_⟩, _, _, rfl, rfl, (show (0 : Int) < 4294967279 by decide), ?_⟩
              · have z := k0 (cell + 104729 * (c + 1))
                omega
              · refine ⟨_, rfl, _, _, rfl, rfl, ⟨by decide, by decide⟩, _, _, rfl, rfl, .inr ⟨by decide, by decide⟩, _, rfl, _, _, rfl, rfl, _, _, rfl, rfl, (show (0 : Int) < 4294967231 by decide), _, _, rfl, rfl, ⟨by decide, by decide⟩, .int lim, rfl, _, lim, rfl, rfl, h0, ?_⟩
                refine draw_post S (fun a n1 n2 => ?_) ?_ ?_ p (.int _)
                · exact upd_ne n1
                · exact hda1
                · exact hdb1
      · exact p.elim
    · exact p.elim
theorem sc__law_start : FnScope ["script"] ["script"] (defScope (top 32)) := ⟨rfl, rfl, rfl, by decide +kernel, rfl, by decide +kernel, by decide +kernel⟩
theorem ok__law_start {P : Program} {w : World} {K : PySem.W.Frag} {mg : Str → Option Value} {base : Heap} {f : Addr} {fd : FuncData} (F : FunD K "_law_start" "_law_start" (defArgs (top 32)) (defBody (top 32)) (defScope (top 32)) [] [] f fd) (g : Free mg) :
    FnOk P w K mg base (L2.CX P w) 1 f fd ["script"] (spStart K) := by
  refine F.ok sc__law_start (fun vs H Q E h => ?_) (fun cdv A outer s H vs Q E hr h => ?_)
  · obtain ⟨a, ns, rfl, _⟩ := h
    rfl
  · obtain ⟨a, ns, rfl, hS, q⟩ := h
    refine ⟨_, pss_one (ps_ret (pe_lst (pa_cons (pe_ifExp (pt_cmpR (op_neD hr.units) (pv 0) (pe_lst pa_nil) (nomark _)) (pe_callTy call_list_of (by rfl) g.list_ (by decide +kernel) (pa_cons (pv 0) pa_nil)) (pe_lst (pa_cons pe_int pa_nil))) (pa_cons pe_int pa_nil)))), ?_⟩
    refine ⟨.ref a, rfl, Nat.zero_le _, fun e ne => ?_⟩
    have s1 : Same H (upd H e (.lst [])) := fun b o hb => sub_upd ne b o hb
    have all : ∀ ms : List Int, DpAll K (upd H e (.lst [])) (ms.map V.int) (ms.map PyData.int) := fun ms => by
      induction ms with
      | nil => exact .nil
      | cons m ms ih => exact .cons (.int m) ih
    have shp : SeqAt.shaped (.list (ns.map PyData.int)) = true := shaped_ints ns
    refine ⟨.list (ns.map PyData.int), .list [], .lst (s1.seq hS) (all ns), .lst (SqL.of upd_same) .nil, shp, rfl, _, rfl, ?_⟩
    have fin : ∀ (db : Addr) (H1 : Hp), Same H H1 → H db = none → H1 db = some (.lst ((startN ns).map V.int)) → tCons (tC (.int 0)) tNil (L2.start ["script"] [V.ref a]) H1 (fun xs H2 => (V.ref db :: xs).length ≤ sizeLine ∧ ∀ p, H2 p = none → Q (.ref p) (upd H2 p (.lst (V.ref db :: xs)))) := fun db H1 sm nb hb => by
      refine ⟨(show 2 ≤ sizeLine by decide), fun da hda => ?_⟩
      have nd : da ≠ db := fun z => by rw [z, hb] at hda; cases hda
      refine q da db _ (fun b o h => ?_) (sm.free hda) nb nd upd_same ?_
      · have z : b ≠ da := fun z => by rw [z, sm.free hda] at h; cases h
        rw [upd_ne z]; exact sm b o h
      · rw [upd_ne (Ne.symm nd)]; exact hb
    cases ns with
    | nil =>
      refine ⟨by decide, fun db nb => ?_⟩
      exact fin db _ (fun b o h => by
        have h1 := s1 b o h
        rw [upd_ne (ne_of_none h1 nb)]; exact h1) (s1.free nb) upd_same
    | cons n ms =>
      refine ⟨.ref a, rfl, a, _, rfl, .inl (s1.seq hS), fun db nb => ?_⟩
      exact fin db _ (fun b o h => by
        have h1 := s1 b o h
        rw [upd_ne (ne_of_none h1 nb)]; exact h1) (s1.free nb) upd_same

theorem sc_law : FnScope ["script", "draws", "things", "left", "score", "wrong", "told", "corners", "whole", "due", "other", "marks", "k", "low", "high", "sound", "faulty", "mark", "pool", "share", "gap", "one"] ["script"] (defScope (top 40)) := ⟨rfl, rfl, rfl, by decide +kernel, rfl, by decide +kernel, by decide +kernel⟩
def law0 : Stmt := (defBody (top 40)).headD (.Pass ⟨0, 0, 0, 0⟩)
def lawR : List Stmt := (defBody (top 40)).tail
theorem ok_law {P : Program} {w : World} {K : PySem.W.Frag} {mg : Str → Option Value} {base : Heap} {f fs : Addr} {fd fds : FuncData} {cls : Nat → Addr} (F : FunD K "law" "law" (defArgs (top 40)) (defBody (top 40)) (defScope (top 40)) [] [] f fd) (FS : FunD K "_law_start" "_law_start" (defArgs (top 32)) (defBody (top 32)) (defScope (top 32)) [] [] fs fds) (hs : mg "_law_start" = some (.ref fs)) (g : Free mg) (d__law_things : FnD P w K mg base cls 3 "_law_things" 2 m__law_things) (f__law_wrong : FnP P w K mg base cls 1 "_law_wrong" 1 m__law_wrong) (f_pools : FnP P w K mg base cls 5 "pools" 1 m_pools) (d__law_draw : FnD P w K mg base cls 1 "_law_draw" 2 m__law_draw) (d__law_pick : FnD P w K mg base cls 2 "_law_pick" 2 m__law_pick) (f_hull : FnP P w K mg base cls 5 "hull" 1 m_hull) (f__law_low : FnP P w K mg base cls 1 "_law_low" 2 m__law_low) (f__law_add : FnP P w K mg base cls 2 "_law_add" 2 m__law_add) (f__law_true : FnP P w K mg base cls 1 "_law_true" 2 m__law_true) (f_share_of : FnP P w K mg base cls 5 "share_of" 2 m_share_of) (f_shares : FnP P w K mg base cls 6 "shares" 1 m_shares) (f_squared_error : FnP P w K mg base cls 5 "squared_error" 1 m_squared_error) (f_is_pooled : FnP P w K mg base cls 5 "is_pooled" 1 m_is_pooled) (f_unlike_scores : FnP P w K mg base cls 5 "unlike_scores" 1 m_unlike_scores)
    (hlaw : ∀ ns : List Int, 0 < ns.length → ∃ s', b_law (none :: some (tokD 0) :: List.replicate 20 none) (ns, 0) = .ok (.rt (.bool true), s')) : FnOk P w K mg base (L2.CX P w) 7 f fd ["script"] (spLaw K) := by
  refine fn_law (cls := cls) (k := 6) (s0 := law0) (rest := lawR) F sc_law rfl (by decide) (fun cdv A outer s H E hr => ?_) (fun cdv A outer s H E da db G H0 hr => ?_) hlaw
  · exact ps_set (i := 1) sc_law.nd rfl (by first | exact Or.inl rfl | exact Or.inr rfl) (pe_call (ok__law_start FS g) (hr.mono (by decide)) (by rfl) hs FS.kp (FS.bindsN fun _ _ _ _ _ _ us hl => match us, hl with | [_], _ => rfl) .nil passL (pa_cons (pv 0) pa_nil))
  · have hp := passesO_of (CX := L2.CX P w) (P := P) (w := w) (K := K) (mg := mg) (base := base) (N := ["script", "draws", "things", "left", "score", "wrong", "told", "corners", "whole", "due", "other", "marks", "k", "low", "high", "sound", "faulty", "mark", "pool", "share", "gap", "one"]) (qual := "law") (scope := defScope (top 40)) (f := f) (cd := cdv) (A := A) (outer := outer) (s := s) (H := H) (E := E)
    exact (dss_cons (O1 := []) (ds_set 2 sc_law.nd (de_callD d__law_things (hr.mono (by decide)) (da_cons (de_var 1) (da_cons de_int da_nil))))
      (dss_cons (O1 := [3]) (ds_setF (O' := [3]) 3 sc_law.nd (df_lst da_nil))
      (dss_cons (O1 := [3]) (ds_for hp (di_list (de_rev (de_sortSet g.sorted_ g.set_ (de_lc [("score", 4), ("faulty", 16)] sc_law.nd (di_list (de_var 2)) (by rfl) (fun _ _ _ _ _ => (dg_tup (bLen_cons (bLen_cons bLen_nil)) (dgs_cons (dg_name 4 sc_law.nd) (dgs_cons (dg_name 16 sc_law.nd) dgs_nil)))) (fun _ _ _ _ _ => dts_nil) (fun _ _ _ _ _ => (de_var 4)))))) (dg_name 4 sc_law.nd) (fun _ =>
      (dss_cons (O1 := [3]) (ds_setLc 11 [("one", 21), ("faulty", 16)] sc_law.nd (sw_true rfl rfl rfl (by decide +kernel)) (di_list (de_var 2)) (by rfl) (fun _ _ _ _ _ => (dg_tup (bLen_cons (bLen_cons bLen_nil)) (dgs_cons (dg_name 21 sc_law.nd) (dgs_cons (dg_name 16 sc_law.nd) dgs_nil)))) (fun _ _ _ _ _ => (dts_one (dt_cmp (dop_eq hr.units) (de_var 21) (de_var 4)))) (fun _ _ _ _ _ => (de_var 16)))
      (dss_one (ds_append 3 (de_tup (da_cons (de_var 4) (da_cons (de_var 4) (da_cons (de_meth PySem.F.slot_list_count PySem.F.type_list_count dm_count (de_var 11) de_bl) (da_cons (de_meth PySem.F.slot_list_count PySem.F.type_list_count dm_count (de_var 11) de_bl) da_nil))))))))))
      (dss_less (O1 := []) (by decide) (dss_cons (O1 := []) (ds_set 5 sc_law.nd (de_call f__law_wrong (hr.mono (by decide)) passL (da_cons (de_var 3) da_nil)))
      (dss_cons (O1 := []) (ds_while (n := (fuLen 3)) hp (dt_cmp (dop_ne hr.units) (de_var 5) (de_lst da_nil))
      (dss_cons (O1 := []) (ds_set 12 sc_law.nd (de_callD d__law_pick (hr.mono (by decide)) (da_cons (de_var 1) (da_cons (de_var 5) da_nil))))
      (dss_cons (O1 := []) (ds_par 21 10 sc_law.nd (da_cons (de_ix (de_var 3) (de_var 12)) (da_cons (de_ix (de_var 3) (de_op dop_add (de_var 12) de_int)) da_nil)))
      (dss_cons (O1 := []) (ds_set 3 sc_law.nd (de_op dop_add (de_op dop_add (de_slice (de_var 3) do_none (do_some (de_var 12))) (de_lst (da_cons (de_tup (da_cons (de_ix (de_var 10) de_int) (da_cons (de_ix (de_var 21) de_int) (da_cons (de_op dop_add (de_ix (de_var 21) de_int) (de_ix (de_var 10) de_int)) (da_cons (de_op dop_add (de_ix (de_var 21) de_int) (de_ix (de_var 10) de_int)) da_nil))))) da_nil))) (de_slice (de_var 3) (do_some (de_op dop_add (de_var 12) de_int)) do_none)))
      (dss_one (ds_set 5 sc_law.nd (de_call f__law_wrong (hr.mono (by decide)) passL (da_cons (de_var 3) da_nil))))))))
      (dss_cons (O1 := []) (ds_set 6 sc_law.nd (de_call f_pools (hr.mono (by decide)) passL (da_cons (de_var 2) da_nil)))
      (dss_cons (O1 := []) (ds_if (dt_bool (dw_or (dt_cmp (dop_ne hr.units) (de_var 6) (de_var 3)) (dw_or1 (dt_not (dt_val (de_call f__law_true (hr.mono (by decide)) passL (da_cons (de_call f_is_pooled (hr.mono (by decide)) passL (da_cons (de_var 2) da_nil)) (da_cons (de_cmp (dop_eq hr.units) (de_callB dc_len g.len_ (da_cons (de_var 3) da_nil)) (de_callB dc_len g.len_ (da_cons (de_call f_unlike_scores (hr.mono (by decide)) passL (da_cons (de_var 2) da_nil)) da_nil))) da_nil))))))))
      (dss_one (ds_ret de_bl))
      dss_nil)
      (dss_cons (O1 := [7]) (ds_setF (O' := [7]) 7 sc_law.nd (df_lst (da_cons (de_tup (da_cons de_int (da_cons de_int da_nil))) da_nil)))
      (dss_cons (O1 := [7]) (ds_for hp (di_list (de_var 6)) (dg_tup (bLen_cons (bLen_cons (bLen_cons (bLen_cons bLen_nil)))) (dgs_cons (dg_name 13 sc_law.nd) (dgs_cons (dg_name 14 sc_law.nd) (dgs_cons (dg_name 15 sc_law.nd) (dgs_cons (dg_name 16 sc_law.nd) dgs_nil))))) (fun _ =>
      (dss_one (ds_append 7 (de_tup (da_cons (de_op dop_add (de_ix (de_ixO 7 (de_un dun_neg de_int)) de_int) (de_var 15)) (da_cons (de_op dop_add (de_ix (de_ixO 7 (de_un dun_neg de_int)) de_int) (de_var 16)) da_nil)))))))
      (dss_less (O1 := []) (by decide) (dss_cons (O1 := []) (ds_if (dt_cmp (dop_ne hr.units) (de_var 7) (de_call f_hull (hr.mono (by decide)) passL (da_cons (de_var 2) da_nil)))
      (dss_one (ds_ret de_bl))
      dss_nil)
      (dss_cons (O1 := []) (ds_set 8 sc_law.nd (de_tup (da_cons de_int (da_cons de_int da_nil))))
      (dss_cons (O1 := [9]) (ds_setF (O' := [9]) 9 sc_law.nd (df_lst da_nil))
      (dss_cons (O1 := [9]) (ds_for hp (di_list (de_var 2)) (dg_tup (bLen_cons (bLen_cons bLen_nil)) (dgs_cons (dg_name 4 sc_law.nd) (dgs_cons (dg_name 17 sc_law.nd) dgs_nil))) (fun _ =>
      (dss_cons (O1 := [9]) (ds_set 18 sc_law.nd (de_ix (de_lc [("one", 21)] sc_law.nd (di_list (de_var 6)) (by rfl) (fun _ _ _ _ _ => (dg_name 21 sc_law.nd)) (fun _ _ _ _ _ => (dts_one (dt_chain dop_le dop_le (de_ix (de_var 21) de_int) (de_var 4) (de_ix (de_var 21) de_int)))) (fun _ _ _ _ _ => (de_var 21))) de_int))
      (dss_cons (O1 := [9]) (ds_set 19 sc_law.nd (de_call f__law_low (hr.mono (by decide)) passL (da_cons (de_ix (de_var 18) de_int) (da_cons (de_op dop_add (de_ix (de_var 18) de_int) (de_ix (de_var 18) de_int)) da_nil))))
      (dss_cons (O1 := [9]) (ds_append 9 (de_var 19))
      (dss_cons (O1 := [9]) (ds_set 20 sc_law.nd (de_call f__law_add (hr.mono (by decide)) passL (da_cons (de_var 19) (da_cons (de_tup (da_cons (de_if (dt_val (de_var 17)) (de_op dop_sub de_int de_int) de_int) (da_cons de_int da_nil))) da_nil))))
      (dss_cons (O1 := [9]) (ds_set 8 sc_law.nd (de_call f__law_add (hr.mono (by decide)) passL (da_cons (de_var 8) (da_cons (de_call f__law_low (hr.mono (by decide)) passL (da_cons (de_op dop_mul (de_ix (de_var 20) de_int) (de_ix (de_var 20) de_int)) (da_cons (de_op dop_mul (de_ix (de_var 20) de_int) (de_ix (de_var 20) de_int)) da_nil))) da_nil))))
      (dss_one (ds_if (dt_cmp (dop_ne hr.units) (de_call f_share_of (hr.mono (by decide)) passL (da_cons (de_var 2) (da_cons (de_var 4) da_nil))) (de_var 19))
      (dss_one (ds_ret de_bl))
      dss_nil)))))))))
      (dss_cons (O1 := [9]) (ds_set 10 sc_law.nd (de_callD d__law_draw (hr.mono (by decide)) (da_cons (de_var 1) (da_cons de_int da_nil))))
      (dss_cons (O1 := [9]) (ds_if (dt_bool (dw_and (dt_cmp (dop_notIn (room65 hr)) (de_var 10) (de_lc [("score", 4), ("mark", 17)] sc_law.nd (di_list (de_var 2)) (by rfl) (fun _ _ _ _ _ => (dg_tup (bLen_cons (bLen_cons bLen_nil)) (dgs_cons (dg_name 4 sc_law.nd) (dgs_cons (dg_name 17 sc_law.nd) dgs_nil)))) (fun _ _ _ _ _ => dts_nil) (fun _ _ _ _ _ => (de_var 4)))) (dw_and1 (dt_cmp dop_isNot (de_call f_share_of (hr.mono (by decide)) passL (da_cons (de_var 2) (da_cons (de_var 10) da_nil))) de_non))))
      (dss_one (ds_ret de_bl))
      dss_nil)
      (dss_less (O1 := []) (by decide) (dss_one (ds_ret (de_and (de_cmp (dop_eq hr.units) (de_call f_shares (hr.mono (by decide)) passL (da_cons (de_var 2) da_nil)) (de_var 9)) (de_and (de_cmp (dop_eq hr.units) (de_call f_squared_error (hr.mono (by decide)) passL (da_cons (de_var 2) da_nil)) (de_var 8)) (de_one (de_cmp dop_is (de_call f_share_of (hr.mono (by decide)) passL (da_cons (de_var 2) (da_cons de_non da_nil))) de_non))))))))))))))))))))))))

def fnL : List He.DefD := [⟨("is_int", none), "is_int", "is_int", defArgs (top 5), defBody (top 5), defScope (top 5), [], []⟩,
  ⟨("is_thing", none), "is_thing", "is_thing", defArgs (top 6), defBody (top 6), defScope (top 6), [], []⟩,
  ⟨("is_things", none), "is_things", "is_things", defArgs (top 7), defBody (top 7), defScope (top 7), [], []⟩,
  ⟨("check_things", none), "check_things", "check_things", defArgs (top 8), defBody (top 8), defScope (top 8), [], []⟩,
  ⟨("common", none), "common", "common", defArgs (top 10), defBody (top 10), defScope (top 10), [], []⟩,
  ⟨("lowest", none), "lowest", "lowest", defArgs (top 11), defBody (top 11), defScope (top 11), [], []⟩,
  ⟨("counts", none), "counts", "counts", defArgs (top 13), defBody (top 13), defScope (top 13), [], []⟩,
  ⟨("unlike_scores", none), "unlike_scores", "unlike_scores", defArgs (top 14), defBody (top 14), defScope (top 14), [], []⟩,
  ⟨("scores_of", none), "scores_of", "scores_of", defArgs (top 15), defBody (top 15), defScope (top 15), [], []⟩,
  ⟨("points_of", none), "points_of", "points_of", defArgs (top 16), defBody (top 16), defScope (top 16), [], []⟩,
  ⟨("levels", none), "levels", "levels", defArgs (top 18), defBody (top 18), defScope (top 18), [], []⟩,
  ⟨("falls", none), "falls", "falls", defArgs (top 19), defBody (top 19), defScope (top 19), [], []⟩,
  ⟨("put_together", none), "put_together", "put_together", defArgs (top 20), defBody (top 20), defScope (top 20), [], []⟩,
  ⟨("pooled", none), "pooled", "pooled", defArgs (top 21), defBody (top 21), defScope (top 21), [], []⟩,
  ⟨("pools", none), "pools", "pools", defArgs (top 22), defBody (top 22), defScope (top 22), [], []⟩,
  ⟨("share_of", none), "share_of", "share_of", defArgs (top 23), defBody (top 23), defScope (top 23), [], []⟩,
  ⟨("shares", none), "shares", "shares", defArgs (top 24), defBody (top 24), defScope (top 24), [], []⟩,
  ⟨("squared_error", none), "squared_error", "squared_error", defArgs (top 25), defBody (top 25), defScope (top 25), [], []⟩,
  ⟨("is_pooled", none), "is_pooled", "is_pooled", defArgs (top 26), defBody (top 26), defScope (top 26), [], []⟩,
  ⟨("way_turn", none), "way_turn", "way_turn", defArgs (top 28), defBody (top 28), defScope (top 28), [], []⟩,
  ⟨("corners_of", none), "corners_of", "corners_of", defArgs (top 29), defBody (top 29), defScope (top 29), [], []⟩,
  ⟨("hull", none), "hull", "hull", defArgs (top 30), defBody (top 30), defScope (top 30), [], []⟩,
  ⟨("_law_start", none), "_law_start", "_law_start", defArgs (top 32), defBody (top 32), defScope (top 32), [], []⟩,
  ⟨("_law_draw", none), "_law_draw", "_law_draw", defArgs (top 33), defBody (top 33), defScope (top 33), [], []⟩,
  ⟨("_law_pick", none), "_law_pick", "_law_pick", defArgs (top 34), defBody (top 34), defScope (top 34), [], []⟩,
  ⟨("_law_true", none), "_law_true", "_law_true", defArgs (top 35), defBody (top 35), defScope (top 35), [], []⟩,
  ⟨("_law_things", none), "_law_things", "_law_things", defArgs (top 36), defBody (top 36), defScope (top 36), [], []⟩,
  ⟨("_law_low", none), "_law_low", "_law_low", defArgs (top 37), defBody (top 37), defScope (top 37), [], []⟩,
  ⟨("_law_add", none), "_law_add", "_law_add", defArgs (top 38), defBody (top 38), defScope (top 38), [], []⟩,
  ⟨("_law_wrong", none), "_law_wrong", "_law_wrong", defArgs (top 39), defBody (top 39), defScope (top 39), [], []⟩,
  ⟨("law", none), "law", "law", defArgs (top 40), defBody (top 40), defScope (top 40), [], []⟩]
def faL : List He.Fa := [.glo "is_int", .glo "is_thing", .glo "is_things", .glo "check_things", .glo "common", .glo "lowest", .glo "counts", .glo "unlike_scores", .glo "scores_of", .glo "points_of", .glo "levels", .glo "falls", .glo "put_together", .glo "pooled", .glo "pools", .glo "share_of", .glo "shares", .glo "squared_error", .glo "is_pooled", .glo "way_turn", .glo "corners_of", .glo "hull", .glo "_law_start", .glo "_law_draw", .glo "_law_pick", .glo "_law_true", .glo "_law_things", .glo "_law_low", .glo "_law_add", .glo "_law_wrong", .glo "law", .glo "BadThings", .exc "BadThings", .int "MOST_THINGS" 12, .int "MOST_SCORE" 99] ++ freeFa
abbrev RwK : PySem.W.OpenRow := PySem.W.OpenLaw.row PySem.Challenge.rw_alarmcurves_k07_whole_pools
abbrev hkK : PySem.W.Hook := He.hookD 4 faL fnL
def obK (s : PySem.W.SharedT) : He.AlD := He.obsDG 4 faL fnL (HandSHeadRun.getT s)
theorem obK_eq (s : PySem.W.SharedT) : obK s = hkK.obs s.abs := He.obsDG_eq (HandSHeadRun.getT_eq s)
def looseK : List PySem.Str := [("AlarmError" : PySem.Str), ("BadThings" : PySem.Str), ("MOST_THINGS" : PySem.Str), ("MOST_SCORE" : PySem.Str), ("is_int" : PySem.Str), ("is_thing" : PySem.Str), ("is_things" : PySem.Str), ("check_things" : PySem.Str), ("common" : PySem.Str), ("lowest" : PySem.Str), ("counts" : PySem.Str), ("unlike_scores" : PySem.Str), ("scores_of" : PySem.Str), ("points_of" : PySem.Str), ("levels" : PySem.Str), ("falls" : PySem.Str), ("put_together" : PySem.Str), ("pooled" : PySem.Str), ("pools" : PySem.Str), ("share_of" : PySem.Str), ("shares" : PySem.Str), ("squared_error" : PySem.Str), ("is_pooled" : PySem.Str), ("way_turn" : PySem.Str), ("corners_of" : PySem.Str), ("hull" : PySem.Str), ("_law_start" : PySem.Str), ("_law_draw" : PySem.Str), ("_law_pick" : PySem.Str), ("_law_true" : PySem.Str), ("_law_things" : PySem.Str), ("_law_low" : PySem.Str), ("_law_add" : PySem.Str), ("_law_wrong" : PySem.Str)]
theorem runK (w : World) : HandSHeadRun.RunEq RwK (PySem.W.view RwK.prog [40]) hkK obK 8000 looseK w := by
  intro os
  kernel_rfl
theorem factsK {P : Program} {w : World} {K : PySem.W.Frag} {h : Heap} {mg : Str → Option Value} {f : Addr} (X : K.In h) (G : h.Ns mainGlobals mg) (hfa : mg ("law" : Str) = some (.ref f)) (c : He.SaysD faL fnL K)
    (hlaw : ∀ ns : List Int, 0 < ns.length → ∃ s', b_law (none :: some (tokD 0) :: List.replicate 20 none) (ns, 0) = .ok (.rt (.bool true), s')) :
    ∃ fd : FuncData, (∀ (s : Shared) (v : Value), BindsTo s fd ⟨[v], []⟩ [("script", v)]) ∧ ∀ base : Heap, K.In base → base.Ns mainGlobals mg → FnOk P w K mg base (L2.CX P w) 7 f fd ["script"] (spLaw K) := by
  obtain ⟨fd_is_int, F_is_int⟩ := c.def_ 0 (d := ⟨("is_int", none), "is_int", "is_int", defArgs (top 5), defBody (top 5), defScope (top 5), [], []⟩) rfl
  have g_is_int := He.glo_ok X G (c.fact 0 (f := .glo "is_int") rfl)
  obtain ⟨fd_is_thing, F_is_thing⟩ := c.def_ 1 (d := ⟨("is_thing", none), "is_thing", "is_thing", defArgs (top 6), defBody (top 6), defScope (top 6), [], []⟩) rfl
  have g_is_thing := He.glo_ok X G (c.fact 1 (f := .glo "is_thing") rfl)
  obtain ⟨fd_is_things, F_is_things⟩ := c.def_ 2 (d := ⟨("is_things", none), "is_things", "is_things", defArgs (top 7), defBody (top 7), defScope (top 7), [], []⟩) rfl
  have g_is_things := He.glo_ok X G (c.fact 2 (f := .glo "is_things") rfl)
  obtain ⟨fd_check_things, F_check_things⟩ := c.def_ 3 (d := ⟨("check_things", none), "check_things", "check_things", defArgs (top 8), defBody (top 8), defScope (top 8), [], []⟩) rfl
  have g_check_things := He.glo_ok X G (c.fact 3 (f := .glo "check_things") rfl)
  obtain ⟨fd_common, F_common⟩ := c.def_ 4 (d := ⟨("common", none), "common", "common", defArgs (top 10), defBody (top 10), defScope (top 10), [], []⟩) rfl
  have g_common := He.glo_ok X G (c.fact 4 (f := .glo "common") rfl)
  obtain ⟨fd_lowest, F_lowest⟩ := c.def_ 5 (d := ⟨("lowest", none), "lowest", "lowest", defArgs (top 11), defBody (top 11), defScope (top 11), [], []⟩) rfl
  have g_lowest := He.glo_ok X G (c.fact 5 (f := .glo "lowest") rfl)
  obtain ⟨fd_counts, F_counts⟩ := c.def_ 6 (d := ⟨("counts", none), "counts", "counts", defArgs (top 13), defBody (top 13), defScope (top 13), [], []⟩) rfl
  have g_counts := He.glo_ok X G (c.fact 6 (f := .glo "counts") rfl)
  obtain ⟨fd_unlike_scores, F_unlike_scores⟩ := c.def_ 7 (d := ⟨("unlike_scores", none), "unlike_scores", "unlike_scores", defArgs (top 14), defBody (top 14), defScope (top 14), [], []⟩) rfl
  have g_unlike_scores := He.glo_ok X G (c.fact 7 (f := .glo "unlike_scores") rfl)
  obtain ⟨fd_scores_of, F_scores_of⟩ := c.def_ 8 (d := ⟨("scores_of", none), "scores_of", "scores_of", defArgs (top 15), defBody (top 15), defScope (top 15), [], []⟩) rfl
  have g_scores_of := He.glo_ok X G (c.fact 8 (f := .glo "scores_of") rfl)
  obtain ⟨fd_points_of, F_points_of⟩ := c.def_ 9 (d := ⟨("points_of", none), "points_of", "points_of", defArgs (top 16), defBody (top 16), defScope (top 16), [], []⟩) rfl
  have g_points_of := He.glo_ok X G (c.fact 9 (f := .glo "points_of") rfl)
  obtain ⟨fd_levels, F_levels⟩ := c.def_ 10 (d := ⟨("levels", none), "levels", "levels", defArgs (top 18), defBody (top 18), defScope (top 18), [], []⟩) rfl
  have g_levels := He.glo_ok X G (c.fact 10 (f := .glo "levels") rfl)
  obtain ⟨fd_falls, F_falls⟩ := c.def_ 11 (d := ⟨("falls", none), "falls", "falls", defArgs (top 19), defBody (top 19), defScope (top 19), [], []⟩) rfl
  have g_falls := He.glo_ok X G (c.fact 11 (f := .glo "falls") rfl)
  obtain ⟨fd_put_together, F_put_together⟩ := c.def_ 12 (d := ⟨("put_together", none), "put_together", "put_together", defArgs (top 20), defBody (top 20), defScope (top 20), [], []⟩) rfl
  have g_put_together := He.glo_ok X G (c.fact 12 (f := .glo "put_together") rfl)
  obtain ⟨fd_pooled, F_pooled⟩ := c.def_ 13 (d := ⟨("pooled", none), "pooled", "pooled", defArgs (top 21), defBody (top 21), defScope (top 21), [], []⟩) rfl
  have g_pooled := He.glo_ok X G (c.fact 13 (f := .glo "pooled") rfl)
  obtain ⟨fd_pools, F_pools⟩ := c.def_ 14 (d := ⟨("pools", none), "pools", "pools", defArgs (top 22), defBody (top 22), defScope (top 22), [], []⟩) rfl
  have g_pools := He.glo_ok X G (c.fact 14 (f := .glo "pools") rfl)
  obtain ⟨fd_share_of, F_share_of⟩ := c.def_ 15 (d := ⟨("share_of", none), "share_of", "share_of", defArgs (top 23), defBody (top 23), defScope (top 23), [], []⟩) rfl
  have g_share_of := He.glo_ok X G (c.fact 15 (f := .glo "share_of") rfl)
  obtain ⟨fd_shares, F_shares⟩ := c.def_ 16 (d := ⟨("shares", none), "shares", "shares", defArgs (top 24), defBody (top 24), defScope (top 24), [], []⟩) rfl
  have g_shares := He.glo_ok X G (c.fact 16 (f := .glo "shares") rfl)
  obtain ⟨fd_squared_error, F_squared_error⟩ := c.def_ 17 (d := ⟨("squared_error", none), "squared_error", "squared_error", defArgs (top 25), defBody (top 25), defScope (top 25), [], []⟩) rfl
  have g_squared_error := He.glo_ok X G (c.fact 17 (f := .glo "squared_error") rfl)
  obtain ⟨fd_is_pooled, F_is_pooled⟩ := c.def_ 18 (d := ⟨("is_pooled", none), "is_pooled", "is_pooled", defArgs (top 26), defBody (top 26), defScope (top 26), [], []⟩) rfl
  have g_is_pooled := He.glo_ok X G (c.fact 18 (f := .glo "is_pooled") rfl)
  obtain ⟨fd_way_turn, F_way_turn⟩ := c.def_ 19 (d := ⟨("way_turn", none), "way_turn", "way_turn", defArgs (top 28), defBody (top 28), defScope (top 28), [], []⟩) rfl
  have g_way_turn := He.glo_ok X G (c.fact 19 (f := .glo "way_turn") rfl)
  obtain ⟨fd_corners_of, F_corners_of⟩ := c.def_ 20 (d := ⟨("corners_of", none), "corners_of", "corners_of", defArgs (top 29), defBody (top 29), defScope (top 29), [], []⟩) rfl
  have g_corners_of := He.glo_ok X G (c.fact 20 (f := .glo "corners_of") rfl)
  obtain ⟨fd_hull, F_hull⟩ := c.def_ 21 (d := ⟨("hull", none), "hull", "hull", defArgs (top 30), defBody (top 30), defScope (top 30), [], []⟩) rfl
  have g_hull := He.glo_ok X G (c.fact 21 (f := .glo "hull") rfl)
  obtain ⟨fd__law_start, F__law_start⟩ := c.def_ 22 (d := ⟨("_law_start", none), "_law_start", "_law_start", defArgs (top 32), defBody (top 32), defScope (top 32), [], []⟩) rfl
  have g__law_start := He.glo_ok X G (c.fact 22 (f := .glo "_law_start") rfl)
  obtain ⟨fd__law_draw, F__law_draw⟩ := c.def_ 23 (d := ⟨("_law_draw", none), "_law_draw", "_law_draw", defArgs (top 33), defBody (top 33), defScope (top 33), [], []⟩) rfl
  have g__law_draw := He.glo_ok X G (c.fact 23 (f := .glo "_law_draw") rfl)
  obtain ⟨fd__law_pick, F__law_pick⟩ := c.def_ 24 (d := ⟨("_law_pick", none), "_law_pick", "_law_pick", defArgs (top 34), defBody (top 34), defScope (top 34), [], []⟩) rfl
  have g__law_pick := He.glo_ok X G (c.fact 24 (f := .glo "_law_pick") rfl)
  obtain ⟨fd__law_true, F__law_true⟩ := c.def_ 25 (d := ⟨("_law_true", none), "_law_true", "_law_true", defArgs (top 35), defBody (top 35), defScope (top 35), [], []⟩) rfl
  have g__law_true := He.glo_ok X G (c.fact 25 (f := .glo "_law_true") rfl)
  obtain ⟨fd__law_things, F__law_things⟩ := c.def_ 26 (d := ⟨("_law_things", none), "_law_things", "_law_things", defArgs (top 36), defBody (top 36), defScope (top 36), [], []⟩) rfl
  have g__law_things := He.glo_ok X G (c.fact 26 (f := .glo "_law_things") rfl)
  obtain ⟨fd__law_low, F__law_low⟩ := c.def_ 27 (d := ⟨("_law_low", none), "_law_low", "_law_low", defArgs (top 37), defBody (top 37), defScope (top 37), [], []⟩) rfl
  have g__law_low := He.glo_ok X G (c.fact 27 (f := .glo "_law_low") rfl)
  obtain ⟨fd__law_add, F__law_add⟩ := c.def_ 28 (d := ⟨("_law_add", none), "_law_add", "_law_add", defArgs (top 38), defBody (top 38), defScope (top 38), [], []⟩) rfl
  have g__law_add := He.glo_ok X G (c.fact 28 (f := .glo "_law_add") rfl)
  obtain ⟨fd__law_wrong, F__law_wrong⟩ := c.def_ 29 (d := ⟨("_law_wrong", none), "_law_wrong", "_law_wrong", defArgs (top 39), defBody (top 39), defScope (top 39), [], []⟩) rfl
  have g__law_wrong := He.glo_ok X G (c.fact 29 (f := .glo "_law_wrong") rfl)
  obtain ⟨fd_law, F_law⟩ := c.def_ 30 (d := ⟨("law", none), "law", "law", defArgs (top 40), defBody (top 40), defScope (top 40), [], []⟩) rfl
  have g_law := He.glo_ok X G (c.fact 30 (f := .glo "law") rfl)
  have x_BadThings : ExcF K mg (clsK K) 0 "BadThings" := exc_mk X G rfl (c.fact 31 (f := .glo "BadThings") rfl) (c.fact 32 (f := .exc "BadThings") rfl)
  obtain ⟨t_MOST_THINGS, c_MOST_THINGS⟩ := int_mk X G (c.fact 33 (f := .int "MOST_THINGS" 12) rfl)
  obtain ⟨t_MOST_SCORE, c_MOST_SCORE⟩ := int_mk X G (c.fact 34 (f := .int "MOST_SCORE" 99) rfl)
  have g : Free mg := free_mk X G fun f hf => by
    obtain ⟨i, hi, e⟩ := List.getElem_of_mem hf
    exact c.fact (35 + i) (by
      unfold faL
      rw [List.getElem?_append_right (by simp), show 35 + i - _ = i from by simp]
      rw [← e]
      exact List.getElem?_eq_getElem hi)
  have e := hfa.symm.trans g_law
  cases e
  have bl := FunD.bindsA (ps := ["script"]) F_law fun _ _ _ _ _ _ us hl => match us, hl with | [_], _ => rfl
  refine ⟨fd_law, fun s v => bl s [v] rfl, fun base _ _ => ?_⟩
  have f_is_int : FnP P w K mg base (clsK K) 1 "is_int" 3 m_is_int := ok_is_int F_is_int g_is_int g
  have f_common : FnP P w K mg base (clsK K) 1 "common" 2 m_common := ok_common F_common g_common g
  have f_counts : FnP P w K mg base (clsK K) 1 "counts" 2 m_counts := ok_counts F_counts g_counts g
  have f_scores_of : FnP P w K mg base (clsK K) 1 "scores_of" 1 m_scores_of := ok_scores_of F_scores_of g_scores_of g
  have f_falls : FnP P w K mg base (clsK K) 1 "falls" 2 m_falls := ok_falls F_falls g_falls g
  have f_put_together : FnP P w K mg base (clsK K) 1 "put_together" 2 m_put_together := ok_put_together F_put_together g_put_together g
  have f_way_turn : FnP P w K mg base (clsK K) 1 "way_turn" 3 m_way_turn := ok_way_turn F_way_turn g_way_turn g
  have d__law_draw : FnD P w K mg base (clsK K) 1 "_law_draw" 2 m__law_draw := ok__law_draw F__law_draw g__law_draw g
  have f__law_true : FnP P w K mg base (clsK K) 1 "_law_true" 2 m__law_true := ok__law_true F__law_true g__law_true g
  have f__law_low : FnP P w K mg base (clsK K) 1 "_law_low" 2 m__law_low := ok__law_low F__law_low g__law_low g
  have f__law_wrong : FnP P w K mg base (clsK K) 1 "_law_wrong" 1 m__law_wrong := ok__law_wrong F__law_wrong g__law_wrong g
  have f_is_thing : FnP P w K mg base (clsK K) 2 "is_thing" 1 m_is_thing := ok_is_thing F_is_thing g_is_thing g f_is_int c_MOST_SCORE
  have f_lowest : FnP P w K mg base (clsK K) 2 "lowest" 2 m_lowest := ok_lowest F_lowest g_lowest g f_common
  have f_points_of : FnP P w K mg base (clsK K) 2 "points_of" 1 m_points_of := ok_points_of F_points_of g_points_of g f_counts f_scores_of
  have f_levels : FnP P w K mg base (clsK K) 2 "levels" 1 m_levels := ok_levels F_levels g_levels g f_scores_of f_counts
  have f_corners_of : FnP P w K mg base (clsK K) 2 "corners_of" 1 m_corners_of := ok_corners_of F_corners_of g_corners_of g f_way_turn
  have d__law_pick : FnD P w K mg base (clsK K) 2 "_law_pick" 2 m__law_pick := ok__law_pick F__law_pick g__law_pick g d__law_draw
  have f__law_add : FnP P w K mg base (clsK K) 2 "_law_add" 2 m__law_add := ok__law_add F__law_add g__law_add g f__law_low
  have f_is_things : FnP P w K mg base (clsK K) 3 "is_things" 1 m_is_things := ok_is_things F_is_things g_is_things g f_is_thing c_MOST_THINGS
  have f_pooled : FnP P w K mg base (clsK K) 3 "pooled" 1 m_pooled := ok_pooled F_pooled g_pooled g f_levels f_falls f_put_together
  have d__law_things : FnD P w K mg base (clsK K) 3 "_law_things" 2 m__law_things := ok__law_things F__law_things g__law_things g d__law_pick d__law_draw
  have f_check_things : FnP P w K mg base (clsK K) 4 "check_things" 1 m_check_things := ok_check_things F_check_things g_check_things g f_is_things x_BadThings
  have f_unlike_scores : FnP P w K mg base (clsK K) 5 "unlike_scores" 1 m_unlike_scores := ok_unlike_scores F_unlike_scores g_unlike_scores g f_check_things f_scores_of
  have f_pools : FnP P w K mg base (clsK K) 5 "pools" 1 m_pools := ok_pools F_pools g_pools g f_check_things f_pooled
  have f_share_of : FnP P w K mg base (clsK K) 5 "share_of" 2 m_share_of := ok_share_of F_share_of g_share_of g f_check_things f_lowest f_is_int f_scores_of f_pooled
  have f_squared_error : FnP P w K mg base (clsK K) 5 "squared_error" 1 m_squared_error := ok_squared_error F_squared_error g_squared_error g f_check_things f_pooled f_lowest
  have f_is_pooled : FnP P w K mg base (clsK K) 5 "is_pooled" 1 m_is_pooled := ok_is_pooled F_is_pooled g_is_pooled g f_check_things f_pooled f_scores_of
  have f_hull : FnP P w K mg base (clsK K) 5 "hull" 1 m_hull := ok_hull F_hull g_hull g f_check_things f_corners_of f_points_of
  have f_shares : FnP P w K mg base (clsK K) 6 "shares" 1 m_shares := ok_shares F_shares g_shares g f_check_things f_share_of
  exact ok_law F_law F__law_start g__law_start g d__law_things f__law_wrong f_pools d__law_draw d__law_pick f_hull f__law_low f__law_add f__law_true f_share_of f_shares f_squared_error f_is_pooled f_unlike_scores hlaw

end KK
set_option maxHeartbeats 0
open PySem PySem.W PySem.Calls PyProof.Rows
theorem PySem.Challenge.cw_alarmcurves_k07_whole_pools_holds : PySem.Challenge.rw_alarmcurves_k07_whole_pools.Holds := by
  w_on; o_law
  refine HandSHeadRun.head_any (r := OpenLaw.row PySem.Challenge.rw_alarmcurves_k07_whole_pools) (q := view (OpenLaw.row PySem.Challenge.rw_alarmcurves_k07_whole_pools).prog [40]) (H := KK.hkK) (ob := KK.obK) (M := 8000) (loose := KK.looseK) (d := HandSHeadRun.topDef (OpenLaw.row PySem.Challenge.rw_alarmcurves_k07_whole_pools).prog 40) (kwd := []) KK.obK_eq
    (by kernel_rfl) (fun s => by kernel_rfl) KK.runK (by kernel_rfl) (by kernel_rfl) (by kernel_rfl) (by rfl) (by first | assumption | decide +kernel) (by decide +kernel) ⟨rfl, rfl, rfl, rfl, rfl, by decide +kernel⟩ ?hw ?hc
  case hw => w_witness2
  case hc =>
    refine L2.walk_ofE (l := PySem.Challenge.rw_alarmcurves_k07_whole_pools) (n := 63) (k := 7) (x := "script") (CX := L2.CX0) rfl (by decide) (by kernel_rfl) ⟨rfl, by decide, by decide⟩ ?F (fun _ _ _ _ z => z)
    intro w mg fa h Y G hmg0
    obtain ⟨K, KX, c⟩ := Y
    have hmg : mg ("law" : PySem.Str) = some (.ref fa) := by
      have e : (HandSHeadRun.topDef (OpenLaw.row PySem.Challenge.rw_alarmcurves_k07_whole_pools).prog 40).name = ("law" : PySem.Str) := by kernel_rfl
      rw [← e]
      exact hmg0
    obtain ⟨fd, hb, hF⟩ := KK.factsK (P := (PySem.Challenge.rw_alarmcurves_k07_whole_pools).prog) (w := w) KX G hmg c KK.law_true
    exact ⟨K, fd, DL.spLaw K, KX, hb, fun H a ns hl _ hS => ⟨a, ns, rfl, hS, hl, fun _ => rfl⟩, fun base k1 k2 => DL.law_noX (hF base k1 k2)⟩

